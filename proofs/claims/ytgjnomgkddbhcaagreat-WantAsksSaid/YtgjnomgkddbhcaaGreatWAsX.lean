/- headwaterlaw24.WantAsks returns true at every input, and all that it reads reads behind the call as before. Conditions: none beyond the given statement's own. -/
import Derived.WalkKit
import Derived.Orders
import Derived.Deep.LoopGhost
import Derived.IntWalk
import Derived.Laws.StructEq
import Derived.Test.YtgjnomgkddbhcaaGreatRows
import Derived.KernelRfl
import Derived.ArgAppend
import Derived.Deep.AppendSrc
import Derived.Lib.Bytealg
import Derived.Lib.BytesEntry
import Derived.Laws.IdiomStrings
import Derived.WideKeyArr2
import Derived.ProofKit
import Derived.OpenShut
import Derived.Deep.Slices
import Derived.Laws.Pointers
import Derived.Laws.Cover3
import Derived.LaidEqlPtr
import Derived.LoopN
import Derived.RangeFuncLeaves
import Derived.RangeFuncSeq
import Derived.OrdersIn
import Derived.Maps.Keyed
import Derived.Maps.RangeRun
import Derived.DeepKeys4
import Derived.Below
import Derived.Laws.Externs
import Derived.Defers
import Derived.Laws.MathBits
import Derived.Shelf.SlSortCmp.WholeK
import Derived.Shelf.SlGeneric
import Derived.Test.YtgjnomgkddbhcaaGreatProg
import Derived.Shelf.SlSortCmp.NoneTotal
import Derived.Deep.QuietTactic
import Derived.BigQuiet
import Derived.ScopeJumps
import Derived.DeepKeys3
import Derived.ChangeOld
import Derived.JoinedOf
import Derived.Test.YtgjnomgkddbhcaaGreatWAsX6
set_option maxRecDepth 100000
set_option maxHeartbeats 8000000
set_option linter.unusedVariables false
set_option linter.unusedSimpArgs false
set_option linter.unusedSectionVars false
set_option linter.unnecessarySimpa false
section
namespace Go.Proofs.YtgjnomgkddbhcaaGreat
open Go Hw _root_.Go.Proofs.Tryz
def leD(X:PD)(a b:List UInt8):Bool:=decide (X.dp a<X.dp b)||(decide (X.dp a=X.dp b)&&decide (Ce a b≤0))
variable{L R hs k l ws:List (List UInt8)}{X:PD}{i j:Nat}{n v:List UInt8}{x:DD}
theorem leD_iff{a b:List UInt8}:leD X a b=true↔LeD X a b:=by unfold leD LeD;simp
def isortD(X:PD)(l:List (List UInt8)):List (List UInt8):=l.mergeSort (leD X)
theorem isortD_perm(X:PD)(l:List (List UInt8)):(isortD X l).Perm l:=List.mergeSort_perm l _
theorem isortD_sort(X:PD)(l:List (List UInt8)):SortD X (isortD X l):=by
  have h:=List.pairwise_mergeSort (le:=leD X) (fun a b c h1 h2=>by
    rw[leD_iff]at*;have:=cmpB_trans a b c;unfold LeD at*;omega) (fun a b=>by
    rw[Lc6,leD_iff,leD_iff];have:=cmpB_neg a b;unfold LeD;omega) l
  exact h.imp fun h=>leD_iff.1 h
theorem isortD_eq{a l:List (List UInt8)}(hp:a.Perm l)(hs:SortD X a):a=isortD X l:=sortD_unique (hp.trans (isortD_perm X l).symm) hs (isortD_sort X l)
theorem lent_pre{C:Cx}{hp bl keep L:List Blk}{w:World}(h:HRep C hp w)(hp1:hp.Perm (bl++keep))(hL:∀b∈L,b∈keep):Lent bl w∧Lies L w∧∀b∈L,∀b2∈bl,b.n≠b2.n:=by
  have h1:=h.perm hp1;refine⟨Lent.of h hp1,fun b hb=>h1.cells b (Lau _ (hL b hb)),fun b hb b2 hb2 e=>?_⟩;have h2:=h1.nodup;rw[Laf,Lb2]at h2;exact h2.2.2 _ (La6.2 ⟨b2,hb2,rfl⟩) _ (La6.2 ⟨b,hL b hb,rfl⟩) e.symm
theorem setP_len:∀(l:List (List UInt8)) (fs:List (List UInt8×Unit)),(l.foldl (fun fs n=>Be fs n ()) fs).length≤fs.length+l.length∧((l.foldl (fun fs n=>Be fs n ()) fs).length=fs.length+l.length↔l.Nodup∧∀n∈l,n∉fs.map (·.1))
  | [],fs=>⟨Lad _,⟨fun _=>⟨Lcp,fun n hn=>by cases hn⟩,fun _=>rfl⟩⟩
  | a ::l,fs=>by
    obtain⟨h1,h2⟩:=setP_len l (Be fs a ());rw[Ldl,Lb0,Lb6];cases hm:An fs a with
    | none=>
      have hl:(Be fs a ()).length=fs.length+1:=by rw[mput_app hm];simp
      have hk:=keysP_put hm;refine⟨by omega,⟨fun h=>?_,fun h=>?_⟩⟩
      · obtain⟨h3,h4⟩:=h2.1 oM
        refine⟨⟨fun ha=>h4 a ha (by rw[hk];exact Lau _ La9),h3⟩,fun n hn=>?_⟩;rcases Laj.1 hn with rfl|hn
        ·exact not_key hm
        ·exact fun hf=>h4 n hn (by rw[hk];exact Lao _ hf)
      · have h5:=h2.2 ⟨h.1.2,fun n hn hf=>by
          rw[hk]at hf;rcases Laa.1 hf with h6|h6
          ·exact h.2 n (Lae _ hn) h6
          ·rw[La1.1 h6]at hn;exact h.1.1 hn⟩
        omega
    | some u=>
      have ha:a∈fs.map (·.1):=La6.2 ⟨(a,u),Bn hm,rfl⟩;have hl:(Be fs a ()).length=fs.length:=by
        unfold Be;cases hi:midx fs a with
        | none=>
          exfalso;unfold midx at hi;rw[Ldc]at hi;have h9:=hi _ (Bn hm);simp at h9
        |some j=>simp only[Lbs]
      exact⟨by omega,⟨fun h=>by omega,fun h=>absurd ha (h.2 a La9)⟩⟩
theorem setP_full(ls:List (List UInt8)):(setP ls).length=ls.length↔ls.Nodup:=by
  have h:=(setP_len ls []).2;rw[Lev,Lb4]at h;exact⟨fun h1=>(h.1 h1).1,fun h1=>h.2 ⟨h1,fun n _ hn=>by cases hn⟩⟩
def SortR(X:PD)(ls:List (List UInt8))(v:Value)(out:List Blk):Prop:=
  ((∃n∈ls,X.has n=false)∧v= .tuple #[.slice none 0 0,i64 6]∧out=[])
  ∨ (∀n∈ls,X.has n=true)∧(¬ls.Nodup∧v= .tuple #[.slice none 0 0,i64 2]∧out=[]
    ∨ls.Nodup∧∃s:Sl,v= .tuple #[s.v,i64 0]∧Hw.Acc s out (Ap (isortD X ls)) 31 ls.length 32)
theorem lin_sort(x:DD)(hx:x.ok)(hI:x.pl.Inv)(hO:x.pl.Ord)(p:Nat)(s:Sl)(ls:List (List UInt8))(hls:ls.length≤90000):Meets prog 110 [ptr p 0,s.v] [] (fun W=>Lies (x.blks p) W∧RowsAt W s 32 ls) (SortR x.pl ls):=by
 intro W hW;have h32k:True:=trivial;obtain⟨hlies,hrh⟩:=id hW;have hck:∀q∈x.P,q.2.check=0:=hI.ck;have h16:∀q∈x.P,q.2.ls.length≤16:=fun q hq=>(ck_small (hck q hq)).1;have hlen:=hrh.len;have hrow:=hrh.row;refine Ad func110 J 35 ntmps110 J (G10 ?_);refine .cV J J J J Body148 (lin_none x hx h16 p) (fun w h=>Bm hlies h) (G2 ?_);refine .cond_f J J (G11 ?_);refine .loop (ι:=Nat) (fun k=>⟨[(0,ptr p 0),(1,s.v),(4, .slice none 0 0),(5,i64 0),(10,s.v),(11,i64 (s.n:Int)),(12,i64 (k:Int))],[]⟩) (fun k=>k≤s.n∧∀j,j<k→x.pl.has (ls.getD j [])=true) (fun k=>s.n-k) (0) ?_ ?_ ?_
 ·exact⟨Lan _,fun j hj=>absurd hj (Ldt _)⟩
 ·exact Af wN Ae
 rintro k ⟨hk,hg⟩;refine G6 ?_;refine .condP J (fun hc1=>?_) (fun hc1=>?_)
 ·
  have hk2:k<s.n:=by omega
  obtain⟨b,o,hbp,hbs⟩:=hrh.see.at (by rw[A1 hrow];omega);have h32k:(ls.getD k []).length=32:=Cd hrow oM;refine G6 ?_;refine .idxSlP 32 J J J hbp J Y32.h Sz31 k J oM (.loadEN (Aa (ls.getD k [])) J J J Y31.h J Sz31 sP (by rw[Aa,La0];exact h32k) (Bs hrow hbs oM) ?_);refine .alloc (cs:=(Aa (List.replicate 32 0))) J B1 J ?_;intro n7 hn7 hf7;refine .sA J J J J zE Sz31 (by(rw[Aa,La0];assumption)) Z0 sP zU ?_;refine G5 ?_;refine .lA J J J Y31.h J Sz31 Z0 (by(rw[Aa,La0];assumption)) ?_;refine .cV J J J J Body66 (dag_hasP x hx p (ls.getD k []) h32k) (fun w h=>Bm hlies h) (G3 ?_);refine .cond J (fun hc2=>?_) (fun hc2=>?_)
  ·
   refine G6 ?_;refine G7 ?_;refine Au (out:=[]) (Cf J J J) Ae ?_;exact .inl ⟨⟨_,Cc (show k<ls.length by omega),by simpa using hc2⟩,rfl,rfl⟩
  refine G8 ?_;exact⟨k+1,⟨by omega,fun j hj=>by rcases Lca.1 hj with h|rfl;exact hg j h;simpa using hc2⟩,by omega,Af (wk1 rfl (wk1 rfl (wk1 rfl (wk1 rfl (wk1 rfl (wk1 rfl (wk1 (by rw[Lcu];rfl) wk0))))))) Ae⟩
 obtain rfl:k=s.n:=by omega
 have hall:∀n∈ls,x.pl.has n=true:=fun n hn=>by
  obtain⟨j,hj,e⟩:=Lbm hn;have h9:=hg j oM;rw[La5,La4 hj]at h9;rw[←e];exact h9
 refine G9 ?_;refine .call4 J J J J J Body149 (lin_set s ls) (fun w h=>rows_ext h J hrh) ?_;rintro v22 out22 ⟨m22,rfl,rfl⟩;refine .lenMap underlying178 J J J Z0 ?_;refine G5 ?_;refine .condNP J (fun hc3=>?_) (fun hc3=>?_)
 ·
  have hnd:¬ls.Nodup:=fun h9=>by have h8:=(setP_full ls).2 h9;omega
  refine G6 ?_;refine G3 ?_;refine Au (out:=[]) (Cf J J J) Ae ?_;exact .inr ⟨hall, .inl ⟨hnd,rfl,rfl⟩⟩
 have hnd:ls.Nodup:=(setP_full ls).1 oM;refine G5 ?_;refine .call4 J J J J J Body53 (cl_digs s ls oM) (fun w h=>rows_ext h J hrh) ?_;rintro v28 out28 ⟨s28,rfl,hac28⟩;rw[←hlen]at hac28;refine G8 ?_;refine .call4 J J J J J Body151 (lin_depths x hx hI hO p s28 ls) (fun w h=>⟨Bm hlies h,C9 hac28 (Lies.of h (by repeat(exact Aw))) hrow J oM⟩) ?_;rintro v32 out32 ⟨aD,bD,cD,mD,fsD,ksD,⟨rfl,rfl,hfsD⟩,hksD⟩;have hdep:∀n∈ls,An fsD n=some (x.pl.dp n):=fun n hn=>hfsD.all n (hksD n hn (has_names hI (hall n hn)));simp only[Lak,Lag,La8];refine .callL (L:=out28) J J J J J Body150 (lin_order x.pl s28 out28 ls hrow oM hac28 aD bD cD mD fsD hdep) sG (lent_ok J) (fun w h=>by have h9:=lent_pre (bl:=out28) (L:=[⟨aD,[.map (some mD)],58,1⟩,A3 mD (Aj 32 evI) fsD]) h sG (by intro b hb;simp only[Laj,Lbu,or_false]at hb;rcases hb with rfl|rfl;exact Z2;exact Z0);exact h9) ?_;rintro v33 out33 ⟨rfl,ks2,hp2,hs2,hac33⟩;refine G9 ?_;refine G2 ?_;refine Au (out:=(out33++[])) (Cf J J J) (Ac sG Ae) ?_;exact .inr ⟨hall, .inr ⟨hnd,s28,rfl,by rw[←isortD_eq hp2 hs2];simpa using hac33⟩⟩
noncomputable def gvL(X:PD)(ws hs:List (List UInt8)):List (List UInt8):=isortD X (X.names.filter fun n=>rB X (-1) (ws.filter fun n=>X.has n) n&& !rB X (-1) (hs.filter fun n=>X.has n) n)
theorem setP_mem(ls:List (List UInt8))(n:List UInt8):n∈(setP ls).map (·.1)↔n∈ls:=by
  refine⟨?_,fun h=>(setP_keys ls).2 n h⟩;have key:∀(l:List (List UInt8)) (fs:List (List UInt8×Unit)),n∈(l.foldl (fun fs n=>Be fs n ()) fs).map (·.1)→n∈l∨n∈fs.map (·.1):=by
    intro l
    induction l with
    |nil=>intro fs h;exact .inr h
    | cons a l ih=>
      intro fs h;rcases ih _ h with h1|h1
      ·exact .inl (Lae _ h1)
      · obtain⟨p,hp,rfl⟩:=La6.1 h1
        rcases mput_mem hp with h2|rfl
        ·exact .inr (La6.2 ⟨p,h2,rfl⟩)
        ·exact .inl La9
  intro h;rcases key ls [] h with h1|h1
  ·exact h1
  ·cases h1
theorem setP_none(ls:List (List UInt8))(n:List UInt8):(An (setP ls) n).isNone=decide (n∉ls):=by
  cases h:An (setP ls) n with
  | none=>
    have h1:n∉ls:=fun hn=>not_key h ((setP_mem ls n).2 hn);simp[h1]
  | some u=>
    have h1:n∈ls:=(setP_mem ls n).1 (La6.2 ⟨(n,u),Bn h,rfl⟩);simp[h1]
theorem gv_perm(hI:X.Inv){ws hs al th:List (List UInt8)}(hnd:al.Nodup)(ha:∀n,n∈al↔X.Reach (-1) (ws.filter fun n=>X.has n) n)(ht:∀n,n∈th↔X.Reach (-1) (hs.filter fun n=>X.has n) n):
    isortD X (al.filter fun n=>(An (setP th) n).isNone)=gvL X ws hs:=by
  refine isortD_eq ((isortD_perm X _).trans ?_) (isortD_sort X _);refine(Lfl (hnd.filter _) ((hI.nn▸hI.nd:X.names.Nodup).filter _)).2 fun n=>?_;rw[Lav,Lav,setP_none,Lal,rB_iff,Lck,←Bool.not_eq_true,rB_iff,ha,decide_eq_true_iff,ht,names_mem hI];exact⟨fun h=>⟨reach_P h.1,h⟩,fun h=>h.2⟩
theorem gv_has(hI:X.Inv):∀n∈gvL X ws hs,X.has n=true:=fun n hn=>by
  obtain⟨D,hD⟩:=(names_mem hI n).1 (Lav.1 ((isortD_perm X _).mem_iff.1 hn)).1;unfold PD.has;rw[hD];rfl
theorem want_none(x:DD)(hx:x.ok)(hI:x.pl.Inv)(p:Nat):Mv 70 [ptr p 0] (fun W=>Lies (x.blks p) W) (.bool false):=by
 intro W hW;have hck:∀q∈x.P,q.2.check=0:=hI.ck;refine Ad func70 J 13 ntmps70 J (G8 ?_);refine .build (cs:=Aa (List.replicate 32 0)) J J J (fun w=>by kernel_rfl) ?_;refine .call4 J J J J J Body13 (dag_get x hx hck p (List.replicate 32 0) J) (fun w h=>Bm hW h) ?_;rintro v8 out8 (⟨_,rfl,rfl⟩|⟨D,B,hD,hB,rfl,hbi⟩)
 ·
  skip;refine G3 ?_;refine .alloc (cs:=Block.zero.cells) J Block.zr J ?_;intro n3 hn3 hf3;refine G7 ?_;refine .eqi J J J J (decide_eq_false dE) (G3 ?_);refine G2 ?_;refine Au (out:=[]) (Ag J J) Ae ?_;exact⟨rfl,rfl⟩
 skip;refine G3 ?_;refine .alloc (cs:=Block.zero.cells) J Block.zr J ?_;intro n3 hn3 hf3;refine .sA J J J J (Block.isCell (by exact hB.ok)) Sz37 (Block.length (by exact hB.ok)) Z0 (Block.length (by exact Block.zero_ok)) zU ?_;refine G6 ?_;refine .eqi J J J J (decide_eq_false dE) (G3 ?_);refine G2 ?_;refine Au (out:=[]) (Ag J J) Ae ?_;exact⟨rfl,rfl⟩
theorem compact_short(s:Sl)(h1:s.n<2):Mv 107 [s.v] (fun _=>True) s.v:=by
 intro W hW;refine Ad func107 J 61 ntmps107 J (G10 ?_);refine .lss J J J J (decide_eq_true oM) (G2 ?_);refine .cond_t J J (G6 ?_);refine G3 ?_;refine⟨_,[],Ag J J,sP,sP,?_,rfl⟩;rfl
theorem take_drop_flat(L:List (List UInt8))(i:Nat):Ap L=Ap (L.take i)++Ap (L.drop i):=by rw[←Br,Lbo]
theorem flat_take_len(h32:∀l∈L,l.length=32)(hi:i≤L.length):(Ap (L.take i)).length=i*32:=by rw[A1 (fun l hl=>h32 l (Lbb hl)),Lab,Lc5 hi]
theorem upd_set:∀ {L:List (List UInt8)} {i:Nat} {v:List UInt8},(∀l∈L,l.length=32)→v.length=32→i<L.length→upd (Ap L) (0+i*32) (Aa v)=Ap (L.set i v):=fun {L i v} h hv hi=>by
  have e1:L=L.take i++L[i]::L.drop (i+1):=by rw[←Lbt hi,Lbo]
  have e2:L.set i v=L.take i++v::L.drop (i+1):=by rw[Leh,if_pos hi]
  have l1:(Ap (L.take i)).length=i*32:=flat_take_len h oM;have l2:(Aa L[i]).length=32:=by rw[Aa,La0];exact h _ (Lc8 hi)
  have l3:(Aa v).length=32:=by rw[Aa,La0];exact hv
  have f:∀(a:List (List UInt8)) (b:List UInt8) (d:List (List UInt8)),Ap (a++b::d)=Ap a++(Aa b++Ap d):=fun a b d=>by simp[Ap]
  have e3:Ap L=Ap (L.take i)++(Aa L[i]++Ap (L.drop (i+1))):=by rw[←f,←e1]
  rw[e2,f,e3,Lb4,←l1,upd];rw[List.take_left,l3,←List.drop_drop,List.drop_left,←l2,List.drop_left,La8]
theorem getD_at(h:i<l.length):l.getD i []=l[i]:=by rw[La5,La4 h];rfl
def onceL(l:List (List UInt8)):List (List UInt8):=isort (ddp l)
theorem once_mem:n∈onceL l↔n∈l:=by unfold onceL;rw[(Ck _).mem_iff,mem_ddp]
theorem once_nd(l:List (List UInt8)):(onceL l).Nodup:=(Ck _).nodup_iff.2 (ddp_nodup l)
theorem once_sort(l:List (List UInt8)):SortB (onceL l):=isort_sort _
theorem once_eq(hs:SortB k)(hnd:k.Nodup)(hm:∀n,n∈k↔n∈l):k=onceL l:=
  isort_eq ((Lfl hnd (ddp_nodup l)).2 fun n=>by rw[mem_ddp,hm]) hs
theorem once_self(hs:SortB k)(hnd:k.Nodup):onceL k=k:=(once_eq hs hnd fun _=>Iff.rfl).symm
theorem ddp_len:∀l:List (List UInt8),(ddp l).length≤l.length
  | []=>Lad _
  | b::l=>by
    have:=ddp_len l;show(if b∈ddp l then ddp l else b::ddp l).length≤_;split
    ·rw[Lb0];omega
    ·rw[Lb0,Lb0];omega
theorem once_len(l:List (List UInt8)):(onceL l).length≤l.length:=by unfold onceL;rw[(Ck _).length_eq];exact ddp_len l
noncomputable def askF(X:PD)(hs:List (List UInt8)):List (List UInt8):=onceL (hs.filter fun n=> !X.has n&&decide (n∉X.orphans))
noncomputable def askR(X:PD)(hs:List (List UInt8)):List (List UInt8):=X.missing.filter fun n=>decide (n∉askF X hs)
noncomputable def askL(X:PD)(hs:List (List UInt8)):List (List UInt8):=(askF X hs++askR X hs).take 32
theorem miss_lacks(h:n∈X.missing):X.lacks n=true:=by
  have h1:=(Ck _).mem_iff.1 h;rw[mem_ddp]at h1;exact(Lav.1 h1).2
theorem orp_mem:n∈X.orphans↔n∈X.orp.map (·.1):=(Ck _).mem_iff
theorem lacks_not(h:X.lacks n=true):X.has n=false∧n∉X.orphans:=by
  unfold PD.lacks at h;rw[Lal,Lck,Lck]at h;refine⟨h.2,fun hm=>?_⟩;obtain⟨v,hv⟩:=Cs (orp_mem.1 hm);rw[hv]at h;exact absurd h.1 sP
theorem miss_nd(X:PD):X.missing.Nodup:=once_nd _
theorem miss_sort(X:PD):SortB X.missing:=once_sort _
theorem askF_mem:n∈askF X hs↔n∈hs∧X.has n=false∧n∉X.orphans:=by
  unfold askF;rw[once_mem,Lav,Lal,Lck,decide_eq_true_iff]
theorem askR_mem:n∈askR X hs↔n∈X.missing∧n∉hs:=by
  unfold askR;rw[Lav,decide_eq_true_iff,askF_mem];refine⟨fun⟨h1,h2⟩=>⟨h1,fun h3=>h2 ⟨h3,lacks_not (miss_lacks h1)⟩⟩,fun⟨h1,h2⟩=>⟨h1,fun h3=>h2 h3.1⟩⟩
theorem askA_nd(X:PD)(hs:List (List UInt8)):(askF X hs++askR X hs).Nodup:=Lb2.2 ⟨once_nd _,(miss_nd X).filter _,fun a ha b hb e=>by
  subst e;exact(askR_mem.1 hb).2 (askF_mem.1 ha).1⟩
theorem ask_nd(X:PD)(hs:List (List UInt8)):(askL X hs).Nodup:=(askA_nd X hs).sublist (List.take_sublist _ _)
theorem ask_len(X:PD)(hs:List (List UInt8)):(askL X hs).length≤32:=by unfold askL;rw[Lab];omega
theorem ask_of(h:n∈askL X hs):X.has n=false∧n∉X.orphans∧(n∈hs∨n∈X.missing):=by
  rcases Laa.1 (Lbb h)with h1|h1
  · have h2:=askF_mem.1 h1
    exact⟨h2.2.1,h2.2.2, .inl h2.1⟩
  · have h2:=askR_mem.1 h1
    exact⟨(lacks_not (miss_lacks h2.1)).1,(lacks_not (miss_lacks h2.1)).2, .inr h2.1⟩
theorem ask_all(hl:(askL X hs).length<32)(h:n∈hs∧X.has n=false∧n∉X.orphans∨n∈X.missing):n∈askL X hs:=by
  have e:askL X hs=askF X hs++askR X hs:=by
    unfold askL at hl ⊢;rw[Lab]at hl;exact La3 oM
  rw[e,Laa,askF_mem,askR_mem];rcases h with h|h
  ·exact .inl h
  · by_cases h2:n∈hs
    ·exact .inl ⟨h2,lacks_not (miss_lacks h)⟩
    ·exact .inr ⟨h,h2⟩
theorem sorted_lt(hs:SortB l)(hnd:l.Nodup)(hij:i<j)(hj:j<l.length):Ce l[i] l[j]<0:=by
  have h1:Ce l[i] l[j]≤0:=Lcl.1 hs i j oM hj hij;have h2:l[i]≠l[j]:=Lcl.1 hnd i j oM hj hij;have h3:Ce l[i] l[j]≠0:=fun h=>h2 ((cmpB_zero _ _).1 h);omega
theorem ask_ord(h0:0<i)(hi:i<(askL X hs).length):
    ((askL X hs).getD i []∈hs→(askL X hs).getD (i-1) []∈hs)∧(((askL X hs).getD i []∈hs↔(askL X hs).getD (i-1) []∈hs)→Ce ((askL X hs).getD (i-1) []) ((askL X hs).getD i [])<0):=by
  have hgd:∀j (h:j<(askL X hs).length),(askL X hs).getD j []=(askF X hs++askR X hs)[j]'(by unfold askL at h;rw[Lab]at h;omega):=fun j h=>by
    rw[La5,La4 h];unfold askL;exact Lew
  have hl:i<(askF X hs++askR X hs).length:=by unfold askL at hi;rw[Lab]at hi;omega
  rw[hgd i hi,hgd (i-1) oM];have inF:∀j (h:j<(askF X hs).length) (h2:j<(askF X hs++askR X hs).length),(askF X hs++askR X hs)[j]∈hs:=fun j h h2=>by
    rw[Lg1 h];exact(askF_mem.1 (Lc8 h)).1
  have inR:∀j (h:(askF X hs).length≤j) (h2:j<(askF X hs++askR X hs).length),(askF X hs++askR X hs)[j]∉hs:=fun j h h2=>by
    rw[Lfp h];exact(askR_mem.1 (Lc8 _)).2
  by_cases h1:i<(askF X hs).length
  · refine⟨fun _=>inF _ oM _,fun _=>?_⟩
    rw[Lg1 oM,Lg1 h1];exact sorted_lt (once_sort _) (once_nd _) oM h1
  · refine⟨fun h=>absurd h (inR _ oM _),fun h=>?_⟩
    by_cases h2:i-1<(askF X hs).length
    ·exact absurd (h.2 (inF _ h2 _)) (inR _ oM _)
    · have hsR:SortB (askR X hs):=(miss_sort X).filter _
      have hnR:(askR X hs).Nodup:=(miss_nd X).filter _;rw[Lfp oM,Lfp oM];exact sorted_lt hsR hnR oM (by rw[La2]at hl;omega)
def cpF(L:List (List UInt8)):Nat→List (List UInt8)
  |0=>[]
  |i+1=>if i=0∨L.getD i []≠L.getD (i-1) []then cpF L i++[L.getD i []]else cpF L i
theorem take_snocD(h:i<L.length):L.take (i+1)=L.take i++[L.getD i []]:=by
  rw[getD_at h,Lar h]
theorem cp_yes(h:i=0∨L.getD i []≠L.getD (i-1) []):cpF L (i+1)=cpF L i++[L.getD i []]:=if_pos h
theorem cp_no(h0:0<i)(h:L.getD i []=L.getD (i-1) []):cpF L (i+1)=cpF L i:=if_neg fun h9=>by
  rcases h9 with h9|h9
  ·omega
  ·exact h9 h
theorem cp_mem{L:List (List UInt8)}{n:List UInt8}:∀i,i≤L.length→(n∈cpF L i↔n∈L.take i)
  |0,_=>by simp[cpF]
  | i +1,hi=>by
    have ih:=cp_mem (L:=L) (n:=n) i oM;rw[take_snocD (show i<L.length by omega),Laa,La1];by_cases h:i=0∨L.getD i []≠L.getD (i-1) []
    ·rw[cp_yes h,Laa,La1,ih]
    · have h0:0<i:=by omega
      have he:L.getD i []=L.getD (i-1) []:=Classical.byContradiction fun h9=>h (.inr h9);rw[cp_no h0 he,ih];refine⟨.inl,fun h9=>h9.elim id fun e=>?_⟩;rw[e,he,getD_at (show i-1<L.length by omega)];exact Lgj.2 ⟨i-1,by rw[Lab];omega,Lew⟩
theorem cp_len{L:List (List UInt8)}:∀i,(cpF L i).length≤i
  |0=>Lad _
  | i+1=>by
    have ih:=cp_len (L:=L) i;rw[cpF];split
    ·rw[La2,Las];omega
    ·omega
theorem cp_lt{L:List (List UInt8)}{k:Nat}(h0:0<k)(h:L.getD k []=L.getD (k-1) []):∀i,k<i→(cpF L i).length<i
  |0,hi=>by omega
  | i +1,hi=>by
    by_cases hk:k=i
    · subst hk
      have:=cp_len (L:=L) k;rw[cp_no h0 h];omega
    · have ih:=cp_lt h0 h i oM
      rw[cpF];split
      ·rw[La2,Las];omega
      ·omega
theorem cp_all{L:List (List UInt8)}:∀k,k≤L.length→(∀j,1≤j→j<k→L.getD j []≠L.getD (j-1) [])→cpF L k=L.take k
  |0,_,_=>by simp[cpF]
  | k+1,hk,h=>by
    have ih:=cp_all k oM fun j h1 h2=>h j h1 oM;rw[cp_yes (by by_cases h0:k=0;exact .inl h0;exact .inr (h k oM oM)),ih,take_snocD oM]
theorem cp_sort{L:List (List UInt8)}(hs:SortB L):∀i,i≤L.length→(cpF L i).Pairwise fun a b=>Ce a b<0
  |0,_=>List.Pairwise.nil
  | i + 1,hi=>by
    have ih:=cp_sort hs i oM;by_cases h:i=0∨L.getD i []≠L.getD (i-1) []
    · rw[cp_yes h,Leq]
      refine⟨ih,by simp,fun a ha b hb=>?_⟩;rw[La1.1 hb];have h1:=(cp_mem i oM).1 ha;obtain⟨j,hj,e⟩:=Lbm h1;rw[Lab]at hj;rw[Lew]at e;have hle:∀x y (hx:x≤y) (hy:y<L.length),Ce (L.getD x []) (L.getD y [])≤0:=fun x y hx hy=>by
        rcases Lg3 hx with h2|rfl
        ·rw[getD_at oM,getD_at hy];exact Lcl.1 hs x y oM hy h2
        ·rw[(cmpB_zero _ _).2 rfl];exact Lh2 0
      have ej:a=L.getD j []:=by rw[getD_at oM,e]
      have h2:=hle j i oM oM;rw[ej];have h3:Ce (L.getD j []) (L.getD i [])≠0:=fun hz=>by
        have e2:=(cmpB_zero _ _).1 hz;have h4:=hle j (i-1) oM oM;have h5:=hle (i-1) i oM oM;rw[e2]at h4;have h6:=cmpB_neg (L.getD (i-1) []) (L.getD i []);have h7:L.getD (i-1) []=L.getD i []:=(cmpB_zero _ _).1 oM;rcases h with h|h
        ·omega
        ·exact h h7.symm
      omega
    · have he:L.getD i []=L.getD (i-1) []:=Classical.byContradiction fun h9=>h (.inr h9)
      rw[cp_no oM he];exact ih
theorem cp_once(hs:SortB L):cpF L L.length=onceL L:=by
  have h:=cp_sort hs L.length (Lad _);refine once_eq (h.imp fun h=>Int.le_of_lt h) (h.imp fun {a b} h1 e=>?_) fun n=>?_
  ·subst e;rw[(cmpB_zero _ _).2 rfl]at h1;omega
  ·rw[cp_mem L.length (Lad _),Ld1]
theorem once_isort(l:List (List UInt8)):onceL (isort l)=onceL l:=once_eq (once_sort _) (once_nd _) fun n=>by rw[once_mem,(Ck l).mem_iff]
structure CptI(L R:List (List UInt8))(i:Nat):Prop where
  len:R.length=L.length
  pre:R.take (cpF L i).length=cpF L i
  post:∀j,i-1≤j→R.getD j []=L.getD j []
theorem CptI.start{k:Nat}(h0:0<k)(hk:k<L.length)(hall:cpF L k=L.take k)(h:L.getD k []=L.getD (k-1) []):CptI L L (k+1)∧(cpF L (k+1)).length=k:=by
  have e:cpF L (k+1)=L.take k:=by rw[cp_no h0 h,hall]
  have el:(cpF L (k+1)).length=k:=by rw[e,Lab];omega
  exact⟨⟨rfl,by rw[el,e],fun j _=>rfl⟩,el⟩
theorem getD_set{k j:Nat}(hk:k<R.length):(R.set k v).getD j []=if k=j then v else R.getD j []:=by
  rw[La5,La5,Lcw];split
  ·rfl
  ·rfl
theorem CptI.put(h:CptI L R i)(hi:i<L.length)(hlt:(cpF L i).length<i)(h2:L.getD i []≠L.getD (i-1) []):CptI L (R.set (cpF L i).length (R.getD i [])) (i+1) where
  len:=by rw[Lbs];exact h.len
  pre:=by
    have hl:=h.len;rw[cp_yes (.inr h2),La2,Las,take_snocD (by rw[Lbs];omega),getD_set oM,if_pos rfl,h.post i oM,List.take_set_of_le (Lad _),h.pre]
  post:=fun j hj=>by
    have hl:=h.len;rw[getD_set oM,if_neg oM];exact h.post j oM
theorem CptI.skip(h:CptI L R i)(h0:0<i)(h2:L.getD i []=L.getD (i-1) []):CptI L R (i+1) where
  len:=h.len
  pre:=by rw[cp_no h0 h2];exact h.pre
  post:=fun j hj=>h.post j oM
theorem set_32{k:Nat}(h:∀l∈L,l.length=32)(hv:v.length=32):∀l∈L.set k v,l.length=32:=fun l hl=>by
  rcases Len hl with h1|rfl
  ·exact h l h1
  ·exact hv
theorem compact_digs(q n c:Nat)(L:List (List UInt8))(h32:∀l∈L,l.length=32)(hn:L.length=n)(hnc:n≤c)(h2:2≤n)(hbig:n≤1000000):Meets prog 107 [.slice (some ⟨q,0,none⟩) n c] [q] (fun W=>Lent [⟨q,Ap L,31,c*32⟩] W) (fun v out=>v= .slice (some ⟨q,0,none⟩) (cpF L n).length c∧out=[⟨q,Ap (cpF L n),31,c*32⟩]):=by
 intro W hW;have h32aa:True:=trivial;have h32bb:True:=trivial;have hcl:=cp_len (L:=L) n;refine calls_of (hp0:=[⟨q,Ap L,31,c*32⟩]) func107 J 61 ntmps107 J hW.rep (G10 ?_);refine .lss J J J J (decide_eq_false oM) (G2 ?_);refine .cond_f J J (G9 ?_);refine .loop (ι:=Nat) (fun k=>⟨[(0, .slice (some ⟨q,0,none⟩) n c),(3,i64 (k:Int))],[⟨q,Ap L,31,c*32⟩]⟩) (fun k=>1≤k∧k≤n∧∀j,1≤j→j<k→L.getD j []≠L.getD (j-1) []) (fun k=>n-k) (1) ?_ ?_ ?_
 ·exact⟨Lad 1,by omega,fun j h1 h2=>by omega⟩
 ·exact Af wN (Ab rM Ae)
 rintro k ⟨hk1,hkn,hg⟩;refine G9 ?_;refine .condP J (fun hc1=>?_) (fun hc1=>?_)
 ·
  have hk2:k<n:=by omega
  obtain⟨aa,haa⟩:∃a,a=L.getD k []:=⟨_,rfl⟩;obtain⟨bb,hbb⟩:∃a,a=L.getD (k-1) []:=⟨_,rfl⟩;have h32aa:aa.length=32:=by rw[haa];exact h32 _ (Cc oM)
  have h32bb:bb.length=32:=by rw[hbb];exact h32 _ (Cc oM)
  refine G5 ?_;refine .draw (oPq [0,1,2,103,4,5,6,7,108,9]) Ar zK (G2 ?_);refine .idxSlP 32 J J J J J Y32.h Sz31 k J oM (.loadSN (n:=32) (Aa aa) J J J Y31.h J Sz31 (by rw[Aa,La0];exact h32aa) (fun w h=>by rw[haa];exact Bs h32 (Ao h Z0) oM) ?_);refine G3 ?_;refine .idxSlP 32 J J J J J Y32.h Sz31 (k-1) oM oM (.loadSN (n:=32) (Aa bb) J J J Y31.h J Sz31 (by rw[Aa,La0];exact h32bb) (fun w h=>by rw[hbb];exact Bs h32 (Ao h Z0) oM) ?_);refine .eql_bytes J J J J eqGuardType31 Y31.h Y5.h Sz5 (by(simp[h32aa];done)) (by(simp[h32bb];done)) J ?_;refine G2 ?_;refine .condP J (fun hc2=>?_) (fun hc2=>?_)
  ·
   have heq:L.getD k []=L.getD (k-1) []:=by rw[←haa,←hbb];exact hc2
   have hst:=CptI.start (L:=L) oM oM (cp_all k oM hg) heq;clear h32aa h32bb;have h32aa:True:=trivial;have h32bb:True:=trivial;refine G4 ?_;refine .sliceLoN k J J J J J oM hnc Y32.h Sz31 ?_;rw[if_neg (show ¬c=k by omega)];refine G10 ?_;refine .loop (ι:=Nat×List (List UInt8)) (fun r=>⟨[(0, .slice (some ⟨q,0,none⟩) n c),(3,i64 ((cpF L (k+r.1)).length:Int)),(4, .slice (some ⟨q,0+k*32,none⟩) (n-k) (c-k)),(5,i64 (r.1:Int))],[⟨q,Ap r.2,31,c*32⟩]⟩) (fun r=>1≤r.1∧k+r.1≤n∧CptI L r.2 (k+r.1)∧∀l∈r.2,l.length=32) (fun r=>n-r.1) ((1,L)) ?_ ?_ ?_
   ·exact⟨Lad 1,by simp only;omega,hst.1,h32⟩
   ·exact Af (wk1 rfl (wk1 (congrArg (fun z:Nat=>some (i64 (z:Int))) hst.2.symm) wN)) (Ab rM Ae)
   rintro⟨j,R⟩ ⟨hj1,hjn,hC,hR32⟩;simp only at hj1 hjn hC hR32 ⊢;have hRl:=hC.len;have hcj:=cp_lt (L:=L) oM heq (k+j) oM;refine G9 ?_;refine .condP J (fun hc3=>?_) (fun hc3=>?_)
   ·
    have hj2:k+j<n:=by omega
    obtain⟨aa,haa⟩:∃a,a=R.getD (k+j) []:=⟨_,rfl⟩;obtain⟨bb,hbb⟩:∃a,a=R.getD (k+j-1) []:=⟨_,rfl⟩;have h32aa:aa.length=32:=by rw[haa];exact hR32 _ (Cc oM)
    have h32bb:bb.length=32:=by rw[hbb];exact hR32 _ (Cc oM)
    have hpa:=hC.post (k+j) oM;have hpb:=hC.post (k+j-1) oM;refine G5 ?_;refine .draw (oPq [0,1,2,103,4,5,6,7,108,9]) Ar zK (G2 ?_);refine .idxSlP 32 J J J J J Y32.h Sz31 j J oM (.loadSN (n:=32) (Aa aa) J J J Y31.h J Sz31 (by rw[Aa,La0];exact h32aa) (fun w h=>by rw[haa,show 0+k*32+j*32=0+(k+j)*32 by omega];exact Bs hR32 (Ao h Z0) oM) ?_);refine G3 ?_;refine .idxSlP 32 J J J J J Y32.h Sz31 (j-1) oM oM (.loadSN (n:=32) (Aa bb) J J J Y31.h J Sz31 (by rw[Aa,La0];exact h32bb) (fun w h=>by rw[hbb,show 0+k*32+(j-1)*32=0+(k+j-1)*32 by omega];exact Bs hR32 (Ao h Z0) oM) ?_);refine .neq_bytes J J J J eqGuardType31 Y31.h Y5.h Sz5 (by(simp[h32aa];done)) (by(simp[h32bb];done)) J ?_;refine G2 ?_;refine .condNP J (fun hc4=>?_) (fun hc4=>?_)
    ·
     have hne:L.getD (k+j) []≠L.getD (k+j-1) []:=by rw[←hpa,←hpb,←haa,←hbb];exact hc4
     have hcn:(cpF L (k+(j+1))).length=(cpF L (k+j)).length+1:=by rw[←Lcd,cp_yes (.inr hne),La2];rfl
     refine G6 ?_;refine .idxSlP 32 J J J J J Y32.h Sz31 j J oM (.loadSN (n:=32) (Aa aa) J J J Y31.h J Sz31 (by rw[Aa,La0];exact h32aa) (fun w h=>by rw[haa,show 0+k*32+j*32=0+(k+j)*32 by omega];exact Bs hR32 (Ao h Z0) oM) ?_);refine .idxSlP 32 J J J J J Y32.h Sz31 (cpF L (k+j)).length J oM (.storeN (Aa aa) (cs':=Ap (R.set (cpF L (k+j)).length aa)) J J J J J (Ax _) Sz31 (by rw[Aa,La0];exact h32aa) Z0 (by rw[A1 hR32,Aa,La0,h32aa];omega) (upd_set hR32 h32aa oM) zU ?_);refine G15 ?_;refine⟨(j+1,R.set (cpF L (k+j)).length aa),⟨by simp only;omega,by simp only;omega,?_,set_32 hR32 h32aa⟩,by simp only;omega,Af (wk1 J (wk1 (by show Hw.look _ _=some (i64 (((cpF L (k+(j+1))).length:Nat):Int));rw[hcn];rfl) wN)) (Ab rM Ae)⟩;simp only;rw[show aa=R.getD (k+j) []from haa,←Lcd];exact hC.put oM hcj hne
    have heq2:L.getD (k+j) []=L.getD (k+j-1) []:=by rw[←hpa,←hpb,←haa,←hbb];simpa using hc4
    have hcn:(cpF L (k+(j+1))).length=(cpF L (k+j)).length:=by rw[←Lcd,cp_no oM heq2]
    refine G9 ?_;exact⟨(j+1,R),⟨by simp only;omega,by simp only;omega,hC.skip oM heq2,hR32⟩,by simp only;omega,Af (wk1 rfl (wk1 (by show Hw.look _ _=some (i64 (((cpF L (k+(j+1))).length:Nat):Int));rw[hcn];rfl) wN)) (Ab rM Ae)⟩
   have hje:k+j=n:=by omega
   rw[hje]at hC hcj ⊢;refine G6 ?_;rw[take_drop_flat R (cpF L n).length];refine .trunc (q:=q) rM ?_;refine G3 ?_;refine .sliceLoN (cpF L n).length J J J J J oM hnc Y32.h Sz31 ?_;rw[if_neg (show ¬c=(cpF L n).length by omega)];refine .clearB (size:=32) (z:=agg (Aa (List.replicate 32 0))) J J J Y32.h B1 J dE rM (by rw[flat_take_len hR32 oM];omega) oM ?_;refine G6 ?_;refine .sliceHiA ⟨some ⟨q,0,none⟩,n,c⟩ (cpF L n).length J J J J J (by show(cpF L n).length≤c;omega) Y32.h Sz31 ?_;dsimp only[Sl.v];refine G3 ?_;refine G7 ?_;refine Au (out:=(⟨q,Ap (R.take (cpF L n).length),31,c*32⟩::[])) (Ag J J) (Ab rM Ae) ?_;rw[hC.pre];exact⟨rfl,rfl⟩
  refine G9 ?_;exact⟨k+1,⟨by omega,by omega,fun j h1 h2=>by rcases Lca.1 h2 with h|rfl;exact hg j h1 h;rw[←haa,←hbb];exact hc2⟩,by omega,Af wN (Ab rM Ae)⟩
 obtain rfl:k=n:=by omega
 have hall:=cp_all k oM hg;refine G11 ?_;refine G2 ?_;refine Au (out:=(⟨q,Ap L,31,c*32⟩::[])) (Ag J J) (Ab rM Ae) ?_;rw[hall,La3 oM,hn];exact⟨rfl,rfl⟩
theorem compact_acc(s:Sl)(bl:List Blk)(ks:List (List UInt8))(h32:∀l∈ks,l.length=32)(hbig:ks.length≤1000000)(hac:Hw.Acc s bl (Ap ks) 31 ks.length 32):
    Meets prog 107 [s.v] (bl.map (·.n)) (fun W=>Lent bl W) (fun v out=>∃s2:Sl,v=s2.v∧Hw.Acc s2 out (Ap (cpF ks ks.length)) 31 (cpF ks ks.length).length 32):=fun W h1=>by
  rcases hac with ⟨rfl,rfl,hz,hn⟩|⟨q,c,rfl,hnc,hfl,rfl⟩
  · obtain rfl:=Lah hn
    exact(compact_short Sl.nil (by show 0<2;omega) W trivial).mono fun e W' ⟨v,out,he,⟨hv,ho⟩,hr⟩=>⟨v,out,he,⟨Sl.nil,hv,by subst ho;exact Acc.none⟩,hr⟩
  · by_cases h0:ks.length<2
    · have e9:cpF ks ks.length=ks:=by
        rw[cp_all ks.length (Lad _) (fun j h1 h2=>by omega),Ld1]
      rw[e9];have hb:BlkOk W ⟨q,Ap ks,31,c*32⟩:=h1.1 _ (La1.2 rfl);refine(compact_short ⟨some ⟨q,0,none⟩,ks.length,c⟩ h0 W trivial).mono fun e W' ⟨v,out,he,⟨hv,ho⟩,hr⟩=>⟨v,[⟨q,Ap ks,31,c*32⟩],he,⟨⟨some ⟨q,0,none⟩,ks.length,c⟩,hv, .inr ⟨q,c,rfl,hnc,hfl,rfl⟩⟩,⟨hr.keeps.mono sP,fun b hb2=>?_,by simp,fun b hb2=>?_⟩⟩
      · rw[La1.1 hb2]
        exact hb.of_heap (hr.keeps.block q hb.lt sP)
      ·rw[La1.1 hb2];exact .inr sP
    · refine(compact_digs q ks.length c ks h32 rfl hnc oM hbig W h1).mono fun e W' ⟨v,out,he,⟨hv,ho⟩,hr⟩=>⟨v,out,he,⟨⟨some ⟨q,0,none⟩,(cpF ks ks.length).length,c⟩,hv,?_⟩,hr⟩
      have h9:=cp_len (L:=ks) ks.length;exact .inr ⟨q,c,rfl,by omega,A1 (fun l hl=>h32 l (by have:=(cp_mem ks.length (Lad _)).1 hl;rwa[Ld1]at this)),ho⟩
theorem once_32(h:∀k∈l,k.length=32):∀k∈onceL l,k.length=32:=fun k hk=>h k (once_mem.1 hk)
theorem reach_once{a:Int}{f:List UInt8→Bool}:X.Reach a ((onceL ws).filter f) n↔X.Reach a (ws.filter f) n:=
  ⟨reach_mono fun m hm=>by rw[Lav,once_mem]at hm;exact Lav.2 hm,reach_mono fun m hm=>by rw[Lav]at hm;exact Lav.2 ⟨once_mem.2 hm.1,hm.2⟩⟩
theorem orph_32(hx:x.ok):∀l∈x.pl.orphans,l.length=32:=fun l hl=>by
  have h1:=orp_mem.1 hl;rw[orp_keys]at h1;obtain⟨q,hq,rfl⟩:=La6.1 h1;exact(hx.orp q hq).1
theorem miss_32(hx:x.ok){p:Nat}{W:World}(hl:Lies (x.blks p) W):∀l∈x.pl.missing,l.length=32:=fun l hm=>by
  have h1:=(Ck _).mem_iff.1 hm;rw[mem_ddp]at h1;obtain⟨m,hm2,h2⟩:=Lft.1 (Lav.1 h1).1;obtain⟨q,hq,rfl⟩:=La6.1 hm2;obtain⟨q0,hq0,rfl⟩:=La6.1 (show q∈x.orp.map fun p=>(p.1,p.2.2)from hq);have h3:=(hx.orp q0 hq0).2.1.2 W (fun b hb=>hl b (x.mcb p b hb));exact parL_row h3.dok l h2
theorem sum_le{α:Type}(f:α→List (List UInt8))(k:Nat):∀(L:List α),(∀a∈L,(f a).length≤k)→(L.map f).flatten.length≤k*L.length
  | [],_=>Lan _
  | a::L,h=>by
    have h1:=sum_le f k L fun b hb=>h b (Lae _ hb);have h2:=h a La9;rw[Laq,Lco,La2,Lb0,Nat.mul_succ];omega
theorem miss_len(hx:x.ok):x.pl.missing.length≤1088:=by
  unfold PD.missing;rw[(Ck _).length_eq];refine Lba (ddp_len _) (Lba (Lcf _ _) ?_);have h1:=sum_le (fun q:List UInt8×DB=>Bk q.2) 17 x.pl.orp fun q hq=>by
    obtain⟨q0,hq0,rfl⟩:=La6.1 (show q∈x.orp.map fun p=>(p.1,p.2.2)from hq);have h2:=(hx.orp q0 hq0).2.2;have h3:=parL_len q0.2.2;simp only at h3 ⊢;omega
  have h4:x.pl.orp.length=x.orp.length:=La0 _;have h5:=hx.orpn;omega
theorem ask_filt:(hs.filter fun n=>(An (setP (hs.filter fun n=>X.has n)) n).isNone&&(An (setP X.orphans) n).isNone)=hs.filter fun n=> !X.has n&&decide (n∉X.orphans):=by
  refine Lgv fun n hn=>?_;rw[setP_none,setP_none];congr 1;rw[Led,decide_eq_true_iff,Lav,Lck];cases X.has n<;>simp[hn]
theorem ask_rest:(X.missing.filter fun n=>(An (setP (askF X hs)) n).isNone)=askR X hs:=by
  unfold askR;exact Lgv fun n _=>setP_none _ n
theorem want_onceG(s:Sl)(ls:List (List UInt8))(h1:ls.length≤90000):Meets prog 73 [s.v] [] (fun W=>RowsAt W s 32 ls) (RowA (onceL ls)):=by
 intro W hW;have hlen:=hW.len;have hrow:=hW.row;refine Ad func73 J 9 ntmps73 J (G8 ?_);refine .call4 J J J J J Body53 (cl_digs s ls oM) (fun w h=>rows_ext h J hW) ?_;rintro v4 out4 ⟨s4,rfl,hac4⟩;rw[←hlen]at hac4;refine G6 ?_;refine .callL (L:=out4) J J J J J Body54 (sort_acc s4 out4 ls hrow oM hac4) sG (lent_ok J) (fun w h=>Lies.of h (by repeat(exact Aw))) ?_;rintro v6 out6 ⟨rfl,ks,hkp,hks,hac6⟩;rw[←hkp.length_eq]at hac6;have hkl:=hkp.length_eq;refine G5 ?_;refine .callL (L:=out6) J J J J J Body107 (compact_acc s4 out6 ks (fun l hl=>hrow l (hkp.mem_iff.1 hl)) oM hac6) sG (lent_ok J) (fun w h=>Lent.of h sG) ?_;rintro v8 out8 ⟨s8,rfl,hac8⟩;refine G3 ?_;refine G2 ?_;refine Au (out:=(out8++[])) (Ag J J) (Ac sG Ae) ?_;have e9:cpF ks ks.length=onceL ls:=by rw[cp_once hks,isort_eq hkp hks,once_isort]
 rw[e9]at hac8;exact⟨s8,rfl,by simpa using hac8⟩
theorem want_givenG(x:DD)(hx:x.ok)(hI:x.pl.Inv)(hO:x.pl.Ord)(p:Nat)(sw sh:Sl)(ws hs:List (List UInt8))(hw1:ws.length≤90000)(hh1:hs.length≤90000):Meets prog 77 [ptr p 0,sw.v,sh.v] [] (fun W=>Lies (x.blks p) W∧RowsAt W sw 32 ws∧RowsAt W sh 32 hs) (RowA (gvL x.pl ws hs)):=by
 intro W hW;obtain⟨hlies,hrw,hrh⟩:=id hW;have hck:∀q∈x.P,q.2.check=0:=hI.ck;have h16:∀q∈x.P,q.2.ls.length≤16:=fun q hq=>(ck_small (hck q hq)).1;have hbig:=hx.big;have hnm:x.pl.names.length=x.names.length:=rfl;have hw32:=hrw.row;have hh32:=hrh.row;refine Ad func77 J 44 ntmps77 J (G9 ?_);refine .call4 J J J J J Body73 (want_onceG sw ws hw1) (fun w h=>rows_ext h J hrw) ?_;rintro v16 out16 ⟨s16,rfl,hac16⟩;have hol16:=once_len ws;refine G2 ?_;refine .call4 J J J J J Body72 (filter_has s16 (onceL ws) x hx p oM) (fun w h=>⟨C9 hac16 (Lies.of h (by repeat(exact Aw))) (once_32 hw32) J oM,Bm hlies h⟩) ?_;rintro v19 out19 ⟨s19,rfl,hac19⟩;have hn19:=hac19.num;have hf19:=Lcf (fun n=>x.pl.has n) (onceL ws);refine .call4 J J J J J Body109 (dag_closure x hx h16 p s19 ((onceL ws).filter fun n=>x.pl.has n) oM) (fun w h=>⟨Bm hlies h,C9 hac19 (Lies.of h (by repeat(exact Aw))) (fun l hl=>once_32 hw32 l (Lav.1 hl).1) J oM⟩) ?_;rintro v20 out20 (⟨⟨n9,hn9,h09⟩,_⟩|⟨_,s20,al,rfl,hac20,hso20,hnd20,hx20⟩)
 ·exfalso;have h8:x.pl.has n9=true:=(Lav.1 hn9).2;unfold PD.has at h8;rw[h09]at h8;cases h8
 have hb20:al.length≤400000:=by have h9:=reach_len hI hnd20 hx20;have h8:x.pl.names.length=x.names.length:=rfl;omega
 have h3220:∀l∈al,l.length=32:=fun l hl=>P32 hx (reach_P ((hx20 l).1 hl));replace hx20:=fun n=>(hx20 n).trans (reach_once (f:=fun n=>x.pl.has n) (ws:=ws));refine G11 ?_;refine .call4 J J J J J Body73 (want_onceG sh hs hh1) (fun w h=>rows_ext h J hrh) ?_;rintro v26 out26 ⟨s26,rfl,hac26⟩;have hol26:=once_len hs;refine G2 ?_;refine .call4 J J J J J Body72 (filter_has s26 (onceL hs) x hx p oM) (fun w h=>⟨C9 hac26 (Lies.of h (by repeat(exact Aw))) (once_32 hh32) J oM,Bm hlies h⟩) ?_;rintro v29 out29 ⟨s29,rfl,hac29⟩;have hn29:=hac29.num;have hf29:=Lcf (fun n=>x.pl.has n) (onceL hs);refine .call4 J J J J J Body109 (dag_closure x hx h16 p s29 ((onceL hs).filter fun n=>x.pl.has n) oM) (fun w h=>⟨Bm hlies h,C9 hac29 (Lies.of h (by repeat(exact Aw))) (fun l hl=>once_32 hh32 l (Lav.1 hl).1) J oM⟩) ?_;rintro v30 out30 (⟨⟨n9,hn9,h09⟩,_⟩|⟨_,s30,th,rfl,hac30,hso30,hnd30,hx30⟩)
 ·exfalso;have h8:x.pl.has n9=true:=(Lav.1 hn9).2;unfold PD.has at h8;rw[h09]at h8;cases h8
 have hb30:th.length≤400000:=by have h9:=reach_len hI hnd30 hx30;have h8:x.pl.names.length=x.names.length:=rfl;omega
 have h3230:∀l∈th,l.length=32:=fun l hl=>P32 hx (reach_P ((hx30 l).1 hl));replace hx30:=fun n=>(hx30 n).trans (reach_once (f:=fun n=>x.pl.has n) (ws:=hs));refine G12 ?_;refine .call4 J J J J J Body71 (want_set s30 th) (fun w h=>C9 hac30 (Lies.of h (by repeat(exact Aw))) h3230 J oM) ?_;rintro v37 out37 ⟨m37,rfl,rfl⟩;refine .call4 J J J J J Body74 (want_outside (some m37) none) tV ?_;rintro v38 out38 ⟨qa,qb,rfl,rfl⟩;simp only[Lak,Lag,La8];refine .call4 J J J J J Body72 (filter_out1 s20 al qa qb m37 (setP th) oM) (fun w h=>⟨C9 hac20 (Lies.of h (by repeat(first|exact Aw|refine A2 ?_|refine Bl ?_))) h3220 J oM,(B8 (B:=⟨qa,[.map (some m37)],114,1⟩) h Z0).cell (o:=0) J,(B8 (B:=⟨qb,[.map none],114,1⟩) h Z1).cell (o:=0) J,B8 h Z2⟩) ?_;rintro v39 out39 ⟨s39,rfl,hac39⟩;have hn39:=hac39.num;have hf39:=Lcf (fun n=>(An (setP th) n).isNone) al;have h3239:∀l∈al.filter fun n=>(An (setP th) n).isNone,l.length=32:=fun l hl=>h3220 l (Lav.1 hl).1;have hall:al.length≤x.names.length:=by rw[←hnm];exact nd_len hnd20 fun n hn=>(names_mem hI n).2 (reach_P ((hx20 n).1 hn))
 refine .call4 J J J J J Body110 (lin_sort x hx hI hO p s39 (al.filter fun n=>(An (setP th) n).isNone) oM) (fun w h=>⟨Bm hlies h,C9 hac39 (Lies.of h (by repeat(exact Aw))) h3239 J oM⟩) ?_;rintro v40 out40 (⟨⟨n9,hn9,h09⟩,_⟩|⟨_,⟨hd9,_⟩|⟨_,s40,rfl,hac40⟩⟩)
 ·exfalso;obtain⟨D9,hD9⟩:=reach_P ((hx20 n9).1 (Lav.1 hn9).1);unfold PD.has at h09;rw[hD9]at h09;cases h09
 ·exact absurd (hnd20.filter _) hd9
 have hgv:=gv_perm hI (ws:=ws) (hs:=hs) hnd20 hx20 hx30;rw[←(isortD_perm x.pl _).length_eq,hgv]at hac40;refine G13 ?_;refine G2 ?_;refine Au (out:=(out40++[])) (Ag J J) (Ac sG Ae) ?_;exact⟨s40,rfl,by simpa using hac40⟩
theorem want_askG(x:DD)(hx:x.ok)(hI:x.pl.Inv)(p:Nat)(sh:Sl)(hs:List (List UInt8))(hh1:hs.length≤90000):Meets prog 27 [ptr p 0,sh.v] [] (fun W=>Lies (x.blks p) W∧RowsAt W sh 32 hs) (RowA (askL x.pl hs)):=by
 intro W hW;obtain⟨hlies,hrh⟩:=id hW;have hh32:=hrh.row;have hbig:=hx.big;have hno:=hx.orpn;have hso:x.pl.orphans.length≤64:=by unfold PD.orphans;rw[(Ck _).length_eq,orp_keys,La0];exact hno
 have ho32:=orph_32 hx;have hm32:=miss_32 hx hlies;have hml:=miss_len hx;refine Ad func27 J 41 ntmps27 J (G9 ?_);refine .cV J J J J Body70 (want_none x hx hI p) (fun w h=>Bm hlies h) (G2 ?_);refine .cond_f J J (G7 ?_);refine .call4 J J J J J Body72 (filter_has sh hs x hx p oM) (fun w h=>⟨rows_ext h J hrh,Bm hlies h⟩) ?_;rintro v14 out14 ⟨s14,rfl,hac14⟩;have hf14:=Lcf (fun n=>x.pl.has n) hs;refine .call4 J J J J J Body71 (want_set s14 (hs.filter fun n=>x.pl.has n)) (fun w h=>C9 hac14 (Lies.of h (by repeat(exact Aw))) (fun l hl=>hh32 l (Lav.1 hl).1) J oM) ?_;rintro v15 out15 ⟨m15,rfl,rfl⟩;refine G8 ?_;refine .call4 J J J J J Body17 (dag_orphans x hx p) (fun w h=>Bm hlies h) ?_;rintro v19 out19 ⟨s19,rfl,hac19⟩;refine .call4 J J J J J Body71 (want_set s19 x.pl.orphans) (fun w h=>C9 hac19 (Lies.of h (by repeat(exact Aw))) ho32 J oM) ?_;rintro v20 out20 ⟨m20,rfl,rfl⟩;refine .call4 J J J J J Body74 (want_outside (some m15) (some m20)) tV ?_;rintro v21 out21 ⟨q21a,q21b,rfl,rfl⟩;simp only[Lak,Lag,La8];refine .call4 J J J J J Body72 (filter_out2 sh hs q21a q21b m15 m20 (setP (hs.filter fun n=>x.pl.has n)) (setP x.pl.orphans) oM) (fun w h=>⟨rows_ext h J hrh,(B8 (B:=⟨q21a,[.map (some m15)],114,1⟩) h Z0).cell (o:=0) J,(B8 (B:=⟨q21b,[.map (some m20)],114,1⟩) h Z1).cell (o:=0) J,B8 h mR,B8 h Z2⟩) ?_;rintro v22 out22 ⟨s22,rfl,hac22⟩;rw[ask_filt]at hac22;have hn22:=hac22.num;have hf22:=Lcf (fun n=> !x.pl.has n&&decide (n∉x.pl.orphans)) hs;refine .call4 J J J J J Body73 (want_onceG s22 (hs.filter fun n=> !x.pl.has n&&decide (n∉x.pl.orphans)) oM) (fun w h=>C9 hac22 (Lies.of h (by repeat(exact Aw))) (fun l hl=>hh32 l (Lav.1 hl).1) J oM) ?_;rintro v23 out23 ⟨s23,rfl,hac23⟩;change Hw.Acc s23 out23 (Ap (askF x.pl hs)) 31 (askF x.pl hs).length 32 at hac23;have hn23:=hac23.num;have hF32:∀l∈askF x.pl hs,l.length=32:=fun l hl=>hh32 l (askF_mem.1 hl).1;have hFl:(askF x.pl hs).length≤hs.length:=Lba (once_len _) hf22;refine G6 ?_;refine .call4 J J J J J Body19 (dag_missing x hx p) (fun w h=>Bm hlies h) ?_;rintro v25 out25 ⟨s25,rfl,hac25⟩;refine .call4 J J J J J Body73 (want_onceG s25 x.pl.missing oM) (fun w h=>C9 hac25 (Lies.of h (by repeat(exact Aw))) hm32 J oM) ?_;rintro v26 out26 ⟨s26,rfl,hac26⟩;rw[once_self (miss_sort x.pl) (miss_nd x.pl)]at hac26;refine G1 ?_;refine .call4 J J J J J Body71 (want_set s23 (askF x.pl hs)) (fun w h=>C9 hac23 (Lies.of h (by repeat(first|exact Aw|refine Bl ?_))) hF32 J oM) ?_;rintro v28 out28 ⟨m28,rfl,rfl⟩;refine .call4 J J J J J Body74 (want_outside (some m28) none) tV ?_;rintro v29 out29 ⟨q29a,q29b,rfl,rfl⟩;simp only[Lak,Lag,La8]
 refine .call4 J J J J J Body72 (filter_out1 s26 x.pl.missing q29a q29b m28 (setP (askF x.pl hs)) oM) (fun w h=>⟨C9 hac26 (Lies.of h (by repeat(first|exact Aw|refine A2 ?_))) hm32 J oM,(B8 (B:=⟨q29a,[.map (some m28)],114,1⟩) h Z0).cell (o:=0) J,(B8 (B:=⟨q29b,[.map none],114,1⟩) h Z1).cell (o:=0) J,B8 h Z2⟩) ?_;rintro v30 out30 ⟨s30,rfl,hac30⟩;rw[ask_rest]at hac30;have hn30:=hac30.num;have hR32:∀l∈askR x.pl hs,l.length=32:=fun l hl=>hm32 l (askR_mem.1 hl).1;have hRl:(askR x.pl hs).length≤x.pl.missing.length:=Lcf _ _;refine G7 ?_;refine .appendAcc (n:=(askF x.pl hs).length) (z:=agg (Aa (List.replicate 32 0))) (by':=32) (Ap (askR x.pl hs)) J J J J J Y32.h Y32.h Sz31 B1 (by unfold By;kernel_rfl) J hac23 sG (fun w h=>hac30.see (Lies.of h (by repeat(exact Aw)))) (fun e=>by have:=hac30.nil e;omega) (flatB_cell _) oM oM (by rw[A1 hR32,hn30]) ?_;intro s33 bl33 hac33';have hac33:Hw.Acc s33 bl33 (Ap (askF x.pl hs++askR x.pl hs)) 31 (askF x.pl hs++askR x.pl hs).length 32:=by rw[Br,La2,←hn30];exact hac33'
 clear hac33';have hn33:=hac33.num;have hc33:=hac33.cap;have hA32:∀l∈askF x.pl hs++askR x.pl hs,l.length=32:=fun l hl=>by rcases Laa.1 hl with h|h;exact hF32 l h;exact hR32 l h
 refine G3 ?_;refine .join (ι:=Sl×List Blk) (fun z=>⟨[(8,z.1.v)],(z.2++[])⟩) (fun z=>Hw.Acc z.1 z.2 (Ap (askL x.pl hs)) 31 (askL x.pl hs).length 32) ?_ ?_
 ·
  refine G7 ?_;refine .condP J (fun hc1=>?_) (fun hc1=>?_)
  ·
   refine G2 ?_;refine .sliceHiA s33 32 J J J J J oM Y32.h Sz31 (.call4 J J J J J Body53 (cl_digs ⟨s33.p,32,s33.c⟩ ((askF x.pl hs++askR x.pl hs).take 32) (by show 32≤90000;omega)) (fun w h=>⟨by rw[Lab];show min 32 _=32;omega,fun l hl=>hA32 l (Lbb hl),by show 32≤s33.c;omega,rows_take (hac33.see (Lies.of h (by repeat(exact Aw)))) hA32,by show 32≤maxLen;unfold maxLen;omega,hac33.nilc⟩) ?_);rintro v39 out39 ⟨s39,rfl,hac39⟩;refine G3 ?_;exact⟨(s39,out39),(by simp only;unfold askL;rw[Lab,Lc5 oM];exact hac39),Af (wk1 rfl wk0) (Ac sG Ae)⟩
  refine G2 ?_;exact⟨(s33,bl33),(by simp only;unfold askL;rw[La3 oM];exact hac33),Af (wk1 rfl wk0) (Ac sG Ae)⟩
 intro z hj;skip;refine G6 ?_;refine G2 ?_;refine Au (out:=(z.2++[])) (Ag J J) (Ac sG Ae) ?_;exact⟨z.1,rfl,by simpa using hj⟩
def PD.blk(X:PD)(n:List UInt8):DB:=(An X.P n).getD DB.zero
def GiveB(ds:List DB)(v:Value)(out:List Blk):Prop:=∃(sl:Sl) (bl bl2:List Blk) (rs:List Block),v=sl.v∧out=bl++bl2∧OwnSeq Block.cells 131 BlockIs 37 sl bl bl2 rs ds ds.length
theorem want_each(x:DD)(hx:x.ok)(hI:x.pl.Inv)(p:Nat)(s:Sl)(ns:List (List UInt8))(hn:ns.length≤1000)(hall:∀n∈ns,x.pl.has n=true):Meets prog 78 [s.v, .func (.func 13) #[ptr p 0] #[]] [] (fun W=>Lies (x.blks p) W∧RowsAt W s 32 ns) (GiveB (ns.map x.pl.blk)):=by
 intro W hW;have h32k:True:=trivial;have hlen:=hW.2.len;have hrow:=hW.2.row;have hck:∀q∈x.P,q.2.check=0:=hI.ck;refine Ad func78 J 30 ntmps78 J (G19 ?_);refine .loop (ι:=Nat×Sl×List Blk×List Blk×List Block) (fun q=>⟨[(1, .func (.func 13) #[ptr p 0] #[]),(5,q.2.1.v),(10,s.v),(11,i64 (s.n:Int)),(12,i64 (q.1:Int))],(q.2.2.1++(q.2.2.2.1++[]))⟩) (fun q=>q.1≤s.n∧OwnSeq Block.cells 131 BlockIs 37 q.2.1 q.2.2.1 q.2.2.2.1 q.2.2.2.2 ((ns.take q.1).map x.pl.blk) q.1) (fun q=>s.n-q.1) ((0,Sl.nil,[],[],[])) ?_ ?_ ?_
 ·exact⟨Lan _,OwnSeq.none⟩
 ·exact Af wN (Ac (by repeat(exact C6)) (Ac (by repeat(exact C6)) Ae))
 rintro⟨k,s5,bl5,bo5,rs⟩ ⟨hk,hos⟩;simp only at hk hos ⊢;refine G6 ?_;refine .condP J (fun hc0=>?_) (fun hc0=>?_)
 ·
  have hk2:k<s.n:=by omega
  obtain⟨b,o,hbp,hbs⟩:=hW.2.see.at (by rw[A1 hrow];omega);obtain⟨kk,hkk⟩:∃q,q=ns.getD k []:=⟨_,rfl⟩;have h32k:kk.length=32:=by rw[hkk];exact Cd hrow oM
  obtain⟨Dk,hDk⟩:=Ldy.1 (hall kk (by rw[hkk];exact Cc oM));refine G6 ?_;refine .idxSlP 32 J J J hbp J Y32.h Sz31 k J oM (.loadEN (Aa kk) J J J Y31.h J Sz31 sP (by rw[Aa,La0];exact h32k) (by rw[hkk];exact Bs hrow hbs oM) ?_);refine .alloc (cs:=(Aa (List.replicate 32 0))) J B1 J ?_;intro n7 hn7 hf7;refine .sA J J J J zE Sz31 (by(simp[h32k];done)) Z0 sP zU ?_;refine G5 ?_;refine .lA J J J Y31.h J Sz31 Z0 (by(simp[h32k];done)) ?_;refine .call4C J J J J J J Body13 (dag_get x hx hck p kk h32k) (fun w h=>Bm hW.1 h) ?_;rintro v19 out19 (⟨h0,_⟩|⟨D,B,hD,hB,rfl,hbi⟩)
  ·exfalso;rw[h0]at hDk;cases hDk
  refine G3 ?_;refine .alloc (cs:=Block.zero.cells) J Block.zr J ?_;intro n8 hn8 hf8;refine .sA J J J J (Block.isCell (by exact hB.ok)) Sz37 (Block.length (by exact hB.ok)) Z0 (Block.length (by exact Block.zero_ok)) zU ?_;refine G6 ?_;refine .eqi J J J J (decide_eq_true (dE)) (G2 ?_);refine .cond_t J J (G2 ?_);refine .lA J J J Y37.h J Sz37 Z0 (Block.length (by exact hB.ok)) ?_;refine .mkRow (z:=agg Block.zero.cells) [agg B.cells] B.cells J J J Y22.h Sz37 Block.zr J J (by intro v hv;rw[La1.1 hv];exact Block.length hB.ok) dE (by simp[Value.cells]) ?_;intro q26;refine .appendAcc (n:=k) (z:=agg Block.zero.cells) (by':=184) (B.cells) J J J J J Y22.h Y22.h Sz37 Block.zr (by unfold By;kernel_rfl) J hos.acc sG (fun w h=>SeesP.of (Ao h Z0)) (fun e=>by cases e) (Block.isCell hB.ok) oM oM (by rw[Block.length hB.ok]) ?_;intro s27 bl27 hac27;refine G9 ?_;refine⟨(k+1,s27,bl27,out19++bo5,rs++[B]),⟨by simp only;omega,?_⟩,by simp only;omega,Af wN (Ac sG (pm_two (Ac sG (Ac sG Ae))))⟩;simp only;rw[Cg oM,Laf,List.map_singleton,←hkk,show x.pl.blk kk=D by unfold PD.blk;rw[hD];rfl];exact hos.snoc hac27 (Block.length hB.ok) (fun W2 hl=>hbi W2 hl)
 have hke:k=s.n:=by omega
 refine G11 ?_;refine G2 ?_;refine Au (out:=(bl5++(bo5++[]))) (Ag J J) (Ac sG (Ac sG Ae)) ?_;refine⟨s5,bl5,bo5,rs,rfl,by simp,?_⟩;rw[La0,hlen,←hke];have e9:ns.take k=ns:=La3 oM;rw[e9]at hos;exact hos
theorem want_giveG(x:DD)(hx:x.ok)(hI:x.pl.Inv)(hO:x.pl.Ord)(p:Nat)(sw sh:Sl)(ws hs:List (List UInt8))(hw1:ws.length≤90000)(hh1:hs.length≤90000)(most:Int)(hm:1≤most):Meets prog 33 [ptr p 0,sw.v,sh.v,i64 most] [] (fun W=>Lies (x.blks p) W∧RowsAt W sw 32 ws∧RowsAt W sh 32 hs) (fun v out=>∃v0,v= .tuple #[v0,i64 0]∧GiveB (((gvL x.pl ws hs).take (min (min (gvL x.pl ws hs).length most.toNat) 8)).map x.pl.blk) v0 out):=by
 intro W hW;refine Ad func33 J 28 ntmps33 J (G10 ?_);refine .cV J J J J Body70 (want_none x hx hI p) (fun w h=>Bm hW.1 h) (G2 ?_);refine .cond_f J J (G6 ?_);refine .lss J J J J (decide_eq_false oM) (G2 ?_);refine .cond_f J J (G7 ?_);refine .call4 J J J J J Body77 (want_givenG x hx hI hO p sw sh ws hs hw1 hh1) (fun w h=>⟨Bm hW.1 h,rows_ext h J hW.2.1,rows_ext h J hW.2.2⟩) ?_;rintro v18 out18 ⟨s18,rfl,hac18⟩;have hn18:=hac18.num;have hc18:=hac18.cap;obtain⟨mn,hmn⟩:∃mn,mn=min (min (gvL x.pl ws hs).length most.toNat) 8:=⟨_,rfl⟩;have h32g:∀l∈gvL x.pl ws hs,l.length=32:=fun l hl=>P32 hx (Ldy.1 (gv_has hI l hl));refine G9 ?_;refine .min3 J J J J J (show _=i64 (mn:Int)from congrArg (Value.int .i64) (show(if(8:Int)<(if most<(s18.n:Int)then most else(s18.n:Int))then(8:Int)else(if most<(s18.n:Int)then most else(s18.n:Int)))=(mn:Int) by rw[hmn];repeat(omega))) ?_;refine .sliceHiA s18 mn J J J J J oM Y32.h Sz31 (G2 ?_);refine .call4 J J J J J Body78 (want_each x hx hI p ⟨s18.p,mn,s18.c⟩ ((gvL x.pl ws hs).take mn) (by rw[Lab];omega) (fun n hn=>gv_has hI n (Lbb hn))) (fun w h=>⟨Bm hW.1 h,⟨by rw[Lab];show min mn _=mn;omega,fun l hl=>h32g l (Lbb hl),by show mn≤s18.c;omega,rows_take (hac18.see (Lies.of h (by repeat(exact Aw)))) h32g,by show mn≤maxLen;unfold maxLen;omega,hac18.nilc⟩⟩) ?_;rintro v27 out27 ⟨s27,bl27,bo27,rs27,rfl,rfl,hos27⟩;simp only[La8];refine G4 ?_;refine G2 ?_;refine Au (out:=(bl27++(bo27++[]))) (Cf J J J) (Ac sG (Ac sG Ae)) ?_;rw[←hmn];exact⟨s27.v,rfl,s27,bl27,bo27,rs27,rfl,by simp,hos27⟩
end Go.Proofs.YtgjnomgkddbhcaaGreat
namespace Go.Proofs.YtgjnomgkddbhcaaGreat
open Go Hw Ed
def mC0:DB:={ DB.zero with seq:=2,prev:=mBN }
def mCR:Nat×Nat×Nat×Nat:=(4918219388157574454008950300951600336261496714867819213746146962254068804302,12066615373167398837812297369869085678792139161754506735642922152132469909793,2391075413008516104747883083306106368920068902258276330310763233931621502074,86861518318388596130886399270894904004484937538936997900655612364818747309780)
def mCN:List UInt8:=leb 32 mCR.2.2.2
def mCD:DB:=blkD s1K mC0 mCR.2.1 mCR.2.2.1
theorem mC_ok:blkOk s1H s1K 38748270507491543869280182973643753799655646515636239770492563660028217171792 mC0 mCR.1 mCR.2.1 mCR.2.2.1 mCR.2.2.2=true:=by kernel_rfl
theorem mC_len:mCN.length=32:=Am 32 _
theorem mC_f:BlkF s1B s1K mC0 mCR.2.1 mCR.2.2.1 mCR.2.2.2:=blk_facts (H:=s1H) rfl s1_h s1_n s1_k dE dE ⟨rfl,by rfl,rfl,fun l hl=>(by first|(cases hl;done)|(rw[La1.1 hl];rfl))⟩ mC_ok
end Go.Proofs.YtgjnomgkddbhcaaGreat
namespace Go.Proofs.YtgjnomgkddbhcaaGreat
open Go Hw _root_.Go.Proofs.Tryz
open Ed
variable{D Da Db Dc:DB}{L:List (List UInt8)}{T:TypeId}{X:PD}{a b c:Block}{m q:Nat}{n:List UInt8}{w:World}
theorem law24_signed(n:Int)(seed:List UInt8)(h32:seed.length=32)(B:Block)(hB:B.ok)(D D1:DB)(hD1:D1.ok)(cSeed:Mv 117 [i64 n] (fun _=>True) (agg (Aa seed)))(cS:∀B:Block,B.ok→Meets prog 116 [agg (Aa seed),agg B.cells] [] (fun W=>BlockIs W B D) (BlkR 0 D1)):Meets prog 82 [i64 n,agg B.cells] [] (fun W=>BlockIs W B D) (BlkV D1):=by
 intro W hW;refine Ad func82 J 15 ntmps82 J (G3 ?_);intro n3 hn3 hf3;refine .alloc (cs:=Block.zero.cells) J Block.zr J ?_;intro n4 hn4 hf4;refine G3 ?_;refine .draw (oPq [0,102,301,303,4,5,6,207,408,9]) Ar zK (G1 ?_);refine .lA J J J Y37.h J Sz37 Z1 (Block.length (by exact hB)) ?_;refine .cV J J J J Body117 (cSeed) tV (.call J J J J Body116 (cS B hB) (BlkR.loose 0 D1 hD1) (fun w h=>hW.ext h J) ?_);rintro v11 out11 ⟨B11,h11,rfl,ho11⟩;refine G3 ?_;refine .alloc (cs:=Block.zero.cells) J Block.zr J ?_;intro n5 hn5 hf5;refine .sA J J J J (Block.isCell (by exact h11.ok)) Sz37 (Block.length (by exact h11.ok)) Z0 (Block.length (by exact Block.zero_ok)) zU ?_;refine G5 ?_;refine .lA J J J Y37.h J Sz37 Z0 (Block.length (by exact h11.ok)) ?_;refine .sA J J J J (Block.isCell (by exact h11.ok)) Sz37 (Block.length (by exact h11.ok)) mR (Block.length (by exact Block.zero_ok)) uU ?_;refine G2 ?_;refine G2 ?_;refine Au (out:=(out11++[])) (Av J J Y37.h J Sz37 mR (by exact Block.length (by exact h11.ok))) (Ac sG Ae) ?_;exact⟨B11,h11,rfl,by simpa using ho11⟩
theorem law24_filled(s:Sl)(ds:List DB)(hn:s.n≤1000)(hsm:∀d∈ds,d.ls.length≤500000∧d.ds.length≤500000):Meets prog 23 [s.v] [] (fun W=>BlocksAt W s ds) (fun v out=>∃(p:Nat) (x:DD),v=ptr p 0∧out=x.blks p∧x.ok∧x.pl=fillP PD.new ds∧x.names.length+x.orp.length≤ds.length):=by
 intro W hW;obtain⟨rs,hs⟩:=hW;have hnd:=hs.nd;refine Ad func23 J 20 ntmps23 J (G7 ?_);refine .call4 J J J J J Body49 (dag_new2) tV ?_;rintro v5 out5 ⟨p,x0,rfl,rfl,hx0,hplx0,hnx0⟩;refine G10 ?_;refine .loop (ι:=Nat×DD) (fun r=>⟨[(0,s.v),(3,ptr p 0),(4,i64 (r.1:Int))],(r.2.blks p++[])⟩) (fun r=>r.1≤s.n∧r.2.ok∧r.2.pl=fillP PD.new (ds.take r.1)∧r.2.names.length+r.2.orp.length≤r.1) (fun r=>s.n-r.1) ((0,x0)) ?_ ?_ ?_
 ·exact⟨Lan _,hx0,hplx0,Ld5 hnx0⟩
 ·exact Af wN (Ac sG Ae)
 rintro⟨k,x⟩ ⟨hk,hx,hplx,hnx⟩;simp only at hk hx hplx hnx ⊢;refine G9 ?_;refine .condP J (fun hc0=>?_) (fun hc0=>?_)
 ·
  have hk2:k<s.n:=by omega
  obtain⟨b,o,r,d,hsp,hr,hd,his,hlen,hsee⟩:=hs.at dE hk2;refine G8 ?_;refine .idxSlP 131 J J J hsp J Y22.h Sz37 k J oM (.loadEN r.cells J J J Y37.h J Sz37 sP hlen hsee (.call4 J J J J J Body51 (db_own r d (hsm d (Lb1 hd)).1 (hsm d (Lb1 hd)).2) (fun w h=>his.ext h J) ?_));rintro v17 out17 ⟨B17,h17,rfl,hb17⟩;refine .callL (L:=(x.blks p++out17)) J J J J J Body50 (dag_add x hx p B17 d out17 ⟨h17,hb17⟩ oM) (sg_two (by repeat(first|exact Cr|apply C2)) sG) (lent_ok J) (fun w h=>Lent.of h (sg_two (by repeat(first|exact Cr|apply C2)) sG)) ?_;rintro v18 out18 ⟨x1,⟨p18,n18,c18⟩,bl18,rfl,rfl,hx1,hac18,h3218,hplx1,hnx1⟩;simp only[La8];refine G9 ?_;exact⟨(k+1,x1),⟨by simp only;omega,hx1,by show x1.pl=_;rw[hplx1,hplx,take_snoc hd,fillP_snoc],by simp only;omega⟩,by simp only;omega,Af wN (Ac sG Ae)⟩
 have hke:k=s.n:=by omega
 refine G11 ?_;refine G2 ?_;refine Au (out:=(x.blks p++[])) (Ag J J) (Ac sG Ae) ?_;refine⟨p,x,rfl,by simp,hx,?_,by omega⟩;rw[hke,La3 oM]at hplx;exact hplx
theorem law24_chain(Da Db Dc:DB)(na nb:List UInt8)(hDa:Da.ok)(hDb:Db.ok)(hDc:Dc.ok)(lna:na.length=32)(lnb:nb.length=32)(hna:A4 Da=na)(hnb:A4 Db=nb)(cSa:∀B:Block,B.ok→Meets prog 116 [agg (Aa s1B),agg B.cells] [] (fun W=>BlockIs W B DB.zero) (BlkR 0 Da))(cSb:∀B:Block,B.ok→Meets prog 116 [agg (Aa s1B),agg B.cells] [] (fun W=>BlockIs W B { DB.zero with seq:=1,prev:=na }) (BlkR 0 Db))(cSc:∀B:Block,B.ok→Meets prog 116 [agg (Aa s1B),agg B.cells] [] (fun W=>BlockIs W B { DB.zero with seq:=2,prev:=nb }) (BlkR 0 Dc)):Meets prog 40 [] [] (fun _=>True) (ChainS Da Db Dc):=by
 intro W hW;refine Ad func40 J 16 ntmps40 J (G7 ?_);refine .build (cs:=Block.zero.cells) J J J (fun w=>by kernel_rfl) ?_;refine .call4 J J J J J Body82 (law24_signed 1 s1B J Block.zero Block.zero_ok DB.zero Da hDa kitS1 cSa) (fun w h=>zero_is w) ?_;rintro v4 out4 ⟨Ba,ha,rfl,hoa⟩;have cNa:=r15_Name Ba Da ha.ok;rw[hna]at cNa;refine .alloc (cs:=Block.zero.cells) J Block.zr J ?_;intro n1 hn1 hf1;refine .sA J J J J (Block.isCell (by exact ha.ok)) Sz37 (Block.length (by exact ha.ok)) Z0 (Block.length (by exact Block.zero_ok)) zU ?_;refine G4 ?_;refine .lA J J J Y37.h J Sz37 Z0 (Block.length (by exact ha.ok)) ?_;refine .cV J J J J Body37 (cNa) (fun w h=>hoa w (Lies.of h (by repeat(first|exact Aw|refine A2 ?_)))) ?_;refine .build (cs:=({ Block.zero with fSeq:=1,fPrev:=na }:Block).cells) J J J (fun w=>build_sp 1 na lna w) (.call4 J J J J J Body82 (law24_signed 1 s1B J _ (sp_ok 1 lna) _ Db hDb kitS1 cSb) (fun w h=>sp_is w 1 lna) ?_);rintro v8 out8 ⟨Bb,hb,rfl,hob⟩;have cNb:=r15_Name Bb Db hb.ok;rw[hnb]at cNb;refine .alloc (cs:=Block.zero.cells) J Block.zr J ?_;intro n2 hn2 hf2;refine .sA J J J J (Block.isCell (by exact hb.ok)) Sz37 (Block.length (by exact hb.ok)) Z0 (Block.length (by exact Block.zero_ok)) zU ?_;refine G3 ?_;refine .drawZ (oPq [100,101,102,303,4,305,206,7]) Ar zK (.lA J J J Y37.h J Sz37 mR (Block.length (by exact ha.ok)) ?_);refine .lA J J J Y37.h J Sz37 Z0 (Block.length (by exact hb.ok)) ?_;refine .lA J J J Y37.h J Sz37 Z0 (Block.length (by exact hb.ok)) ?_;refine .cV J J J J Body37 (cNb) (fun w h=>hob w (Lies.of h (by repeat(first|exact Aw|refine A2 ?_)))) ?_;refine .build (cs:=({ Block.zero with fSeq:=2,fPrev:=nb }:Block).cells) J J J (fun w=>build_sp 2 nb lnb w) (.call J J J J Body82 (law24_signed 1 s1B J _ (sp_ok 2 lnb) _ Dc hDc kitS1 cSc) (BlkV.loose Dc hDc) (fun w h=>sp_is w 2 lnb) ?_);rintro v14 out14 ⟨Bc,hc,rfl,hoc⟩;refine .mkRow2 (z:=agg Block.zero.cells) [agg Ba.cells,agg Bb.cells,agg Bc.cells] (tri Ba Bb Bc) J J Y22.h Sz37 Block.zr J J (by intro v hv;simp only[Laj,Lbu,or_false]at hv;rcases hv with rfl|rfl|rfl;exact Block.length ha.ok;exact Block.length hb.ok;exact Block.length hc.ok) dE (by simp[Value.cells,agg,tri]) ?_;intro q15;refine G3 ?_;refine G2 ?_;refine Au (out:=(⟨q15,tri Ba Bb Bc,37,(tri Ba Bb Bc).length⟩::(out14++(out8++(out4++[]))))) (Ag J J) (Ab rM (Ac sG (Ac sG (Ac sG Ae)))) ?_;exact⟨q15,Ba,Bb,Bc,_,ha,hb,hc,rfl,rfl,fun W2 hl=>⟨hoa W2 (hl.sub (by repeat(first|exact Aw|refine Bl ?_))),hob W2 (hl.sub (by repeat(first|exact Aw|refine Bl ?_))),hoc W2 (hl.sub (by repeat(exact Aw)))⟩⟩
theorem mC_g:dgood mCD=0:=mC_f.2.2.1
theorem mC_nm:A4 mCD=mCN:=mC_f.2.1
def wX3:PD:=cX2.adm mCN mCD
theorem w_add3:cX2.add mCD=(wX3,[mCN],0):=by
  have h:=add_fits (X:=cX2) mC_g (by rw[mC_nm];kernel_rfl) zK;rw[mC_nm]at h;have e:PD.settle (cX2.adm mCN mCD).orp.length (cX2.adm mCN mCD)=(wX3,[]):=by kernel_rfl
  rw[h,e]
theorem w_fill:fillP PD.new [mAD,mBD,mCD]=wX3:=by
  simp only[fillP,Ldl,Lfq,c_add1,c_add2,w_add3]
theorem w_fill1:fillP PD.new [mAD]=cX1:=by
  simp only[fillP,Ldl,Lfq,c_add1]
theorem w_inv:wX3.Inv:=by rw[←w_fill];exact PD.Inv.fill _ PD.Inv.new
theorem w_perm:wX3.names.Perm [mAN,mBN,mCN]:=of_decide_eq_true zK
theorem w_hA:An wX3.P mAN=some mAD:=by kernel_rfl
theorem w_hB:An wX3.P mBN=some mBD:=by kernel_rfl
theorem w_hC:An wX3.P mCN=some mCD:=by kernel_rfl
theorem w_pC:Bk mCD=[mBN]:=by kernel_rfl
theorem w_pB:Bk mBD=[mAN]:=by kernel_rfl
theorem w_pA:Bk mAD=[]:=by kernel_rfl
theorem w_has(h:An X.P n=some D):X.has n=true:=by unfold PD.has;rw[h];rfl
theorem w_sub{a:Int}{L S:List (List UInt8)}(hL:∀n∈L,n∈S)(hp:∀n∈S,∀D,An X.P n=some D→∀m∈Bk D,m∈S)(h:X.Reach a L n):n∈S:=by
  induction h with
  |base h1 _ _=>exact hL _ h1
  |step _ hP hn _ _ ih=>exact hp _ ih _ hP _ hn
theorem w_rCC:rB wX3 (-1) [mCN] mCN=true:=rB_iff.2 (reach_in w_inv La9 w_hC)
theorem w_rCB:rB wX3 (-1) [mCN] mBN=true:=rB_iff.2 (.step (rB_iff.1 w_rCC) w_hC (by rw[w_pC];exact La9) w_hB (by have:=w_inv.d0 _ _ w_hB;omega))
theorem w_rCA:rB wX3 (-1) [mCN] mAN=true:=rB_iff.2 (.step (rB_iff.1 w_rCB) w_hB (by rw[w_pB];exact La9) w_hA (by have:=w_inv.d0 _ _ w_hA;omega))
theorem w_rAA:rB wX3 (-1) [mAN] mAN=true:=rB_iff.2 (reach_in w_inv La9 w_hA)
theorem w_only(h:n≠mAN):rB wX3 (-1) [mAN] n=false:=by
  cases h9:rB wX3 (-1) [mAN] n with
  |false=>rfl
  |true=>exact absurd (La1.1 (w_sub (S:=[mAN]) (fun m hm=>hm) (fun m hm D hD k hk=>by
      rw[La1.1 hm,w_hA]at hD;cases hD;rw[w_pA]at hk;cases hk) (rB_iff.1 h9))) h
theorem w_gv:gvL wX3 [mCN] [mAN]=[mBN,mCN]:=by
  unfold gvL;refine(isortD_eq ?_ ?_).symm
  · refine List.Perm.trans ?_ (w_perm.filter _).symm
    rw[List.filter_cons_of_neg,Lf5,Lf5,List.filter_nil]
    all_goals
      rw[show([mCN].filter fun n=>wX3.has n)=[mCN] by rw[Lf5 (w_has w_hC)];rfl,show([mAN].filter fun n=>wX3.has n)=[mAN] by rw[Lf5 (w_has w_hA)];rfl]
    ·rw[w_rCC,w_only (of_decide_eq_true zK)];rfl
    ·rw[w_rCB,w_only (of_decide_eq_true zK)];rfl
    ·rw[w_rCA,w_rAA];decide
  · unfold SortD LeD
    simp only[Ld6,Laj,Lbu,or_false,forall_eq,show wX3.dp mBN=1 from by kernel_rfl,show wX3.dp mCN=2 from by kernel_rfl];exact⟨.inl dE,fun a ha=>(by cases ha),List.Pairwise.nil⟩
theorem w_blk(h:An X.P n=some D):X.blk n=D:=by unfold PD.blk;rw[h];rfl
theorem w_give1:((gvL wX3 [mCN] [mAN]).take (min (min (gvL wX3 [mCN] [mAN]).length (Int.toNat 1)) 8)).map wX3.blk=[mBD]:=by
  rw[w_gv];show[wX3.blk mBN]=_;rw[w_blk w_hB]
theorem w_give8:((gvL wX3 [mCN] [mAN]).take (min (min (gvL wX3 [mCN] [mAN]).length (Int.toNat 8)) 8)).map wX3.blk=[mBD,mCD]:=by
  rw[w_gv];show[wX3.blk mBN,wX3.blk mCN]=_;rw[w_blk w_hB,w_blk w_hC]
theorem w_ask:askL cX1 [mCN]=[mCN]:=by kernel_rfl
theorem chain24_facts:∃(Da Db Dc:DB) (na nb nc:List UInt8) (X1 X3:PD),(Da.ok∧Db.ok∧Dc.ok)∧(na.length=32∧nb.length=32∧nc.length=32)∧(A4 Da=na∧A4 Db=nb∧A4 Dc=nc)
    ∧(∀B:Block,B.ok→Meets prog 116 [agg (Aa s1B),agg B.cells] [] (fun W=>BlockIs W B DB.zero) (BlkR 0 Da))∧(∀B:Block,B.ok→Meets prog 116 [agg (Aa s1B),agg B.cells] [] (fun W=>BlockIs W B { DB.zero with seq:=1,prev:=na }) (BlkR 0 Db))∧(∀B:Block,B.ok→Meets prog 116 [agg (Aa s1B),agg B.cells] [] (fun W=>BlockIs W B { DB.zero with seq:=2,prev:=nb }) (BlkR 0 Dc))∧(∀d∈ [Da,Db,Dc],d.ls.length≤500000∧d.ds.length≤500000)
    ∧(fillP PD.new [Da]=X1∧fillP PD.new [Da,Db,Dc]=X3)∧((gvL X3 [nc] [na]).take (min (min (gvL X3 [nc] [na]).length (Int.toNat 1)) 8)).map X3.blk=[Db]∧((gvL X3 [nc] [na]).take (min (min (gvL X3 [nc] [na]).length (Int.toNat 8)) 8)).map X3.blk=[Db,Dc]∧askL X1 [nc]=[nc]:=
  ⟨mAD,mBD,mCD,mAN,mBN,mCN,cX1,wX3,⟨mA_f.1,mB_f.1,mC_f.1⟩,⟨mA_len,mB_len,mC_len⟩,⟨mA_nm,mB_nm,mC_nm⟩,mA_f.2.2.2,mB_f.2.2.2,mC_f.2.2.2,
    (fun d hd=>by simp only[Laj,Lbu,or_false]at hd;rcases hd with rfl|rfl|rfl<;>exact of_decide_eq_true zK),⟨w_fill1,w_fill⟩,w_give1,w_give8,w_ask⟩
theorem sameB_self{W:World}{A B:Block}{d:DB}(h1:BlockIs W A d)(h2:BlockIs W B d):sameB A B d.ls d.ls d.ds d.ds=true:=by
  simp[sameB,h1.w,h2.w,h1.seq,h2.seq,h1.prev,h2.prev,h1.sg,h2.sg]
theorem kit_blockS(A B:Block)(d:DB)(hn:d.ls.length≤1000000):Mv 79 [agg A.cells,agg B.cells] (fun W=>BlockIs W A d∧BlockIs W B d) (.bool true):=fun W hW=>by
  rw[←sameB_self hW.1 hW.2];exact kit_block A B hW.1.ok hW.2.ok d.ls d.ls d.ds d.ds (by rw[←hW.1.ls.len];exact hn) W ⟨⟨hW.1.ls,hW.1.ds⟩,⟨hW.2.ls,hW.2.ds⟩⟩
theorem kit_blocksS(s u:Sl)(xs:List DB)(hsm:∀d∈xs,d.ls.length≤1000000):Mv 35 [s.v,u.v] (fun W=>BlocksAt W s xs∧BlocksAt W u xs) (.bool true):=by
 intro W hW;obtain⟨⟨rs,hs⟩,⟨ru,hu⟩⟩:=id hW;have hnd:=hs.nd;have hnu:=hu.nd;have hmax:=hs.max;simp only[maxLen]at hmax;refine Ad func35 J 27 ntmps35 J (G12 ?_);refine .nei J J J J (show(!decide _)=false from congrArg not (decide_eq_true oM)) (G2 ?_);refine .cond_f J J (G9 ?_);refine .loop (ι:=Nat) (fun k=>⟨[(0,s.v),(1,u.v),(5,i64 (k:Int))],[]⟩) (fun k=>k≤s.n) (fun k=>s.n-k) (0) ?_ ?_ ?_
 ·exact Lan _
 ·exact Ah wN wh0 nD
 rintro k hk;refine G9 ?_;refine .condP J (fun hc1=>?_) (fun hc1=>?_)
 ·
  have hk2:k<s.n:=by omega
  obtain⟨b,o,r,d,hsp,hr,hd,his,hlen,hsee⟩:=hs.at dE hk2;obtain⟨b2,o2,r2,d2,hspu,hru,hdu,hiu,hlenu,hseeu⟩:=hu.at dE (show k<u.n by omega);obtain rfl:d=d2:=by rw[hd]at hdu;cases hdu;rfl
  refine G5 ?_;refine .draw (oPq [0,1,2,103,4,5,6,107,308,9]) Ar zK (G2 ?_);refine .idxSlP 131 J J J hsp J Y22.h Sz37 k J oM (.loadEN r.cells J J J Y37.h J Sz37 sP hlen hsee (G2 ?_));refine .idxSlP 131 J J J hspu J Y22.h Sz37 k J oM (.loadEN r2.cells J J J Y37.h J Sz37 sP hlenu hseeu (.cV J J J J Body79 (kit_blockS r r2 d (hsm d (Lb1 hd))) (fun w h=>⟨his.ext h J,hiu.ext h J⟩) (G3 ?_)));refine .cond_f J J (G9 ?_);exact⟨k+1,by omega,by omega,Ah wN wh0 nD⟩
 obtain rfl:k=s.n:=by omega
 refine G10 ?_;refine G2 ?_;refine⟨_,[],Ag J J,sP,sP,?_,rfl⟩;rfl
def DagAt(W:World)(p:Nat)(X:PD):Prop:=∃x:DD,x.ok∧x.pl=X∧Lies (x.blks p) W
def FilL(ds:List DB)(v:Value)(out:List Blk):Prop:=∃p:Nat,v=ptr p 0∧∀W2,Lies out W2→DagAt W2 p (fillP PD.new ds)
theorem FilL.loose(ds:List DB):Loose (FilL ds):=fun l hl=>by
  obtain⟨n,_,hn⟩:=fresh_is 0 l;exact⟨_,[⟨n,[undef],0,0⟩],⟨0,rfl,fun W2 h=>(lie_none h).elim⟩,none_nodup hl hn _⟩
theorem law24_filledL(s:Sl)(ds:List DB)(hn:s.n≤1000)(hsm:∀d∈ds,d.ls.length≤500000∧d.ds.length≤500000):Meets prog 23 [s.v] [] (fun W=>BlocksAt W s ds) (FilL ds):=
  (law24_filled s ds hn hsm).imp (fun w h=>h) fun v out ⟨p,x,h1,h2,h3,h4,_⟩=>⟨p,h1,fun W2 h=>⟨x,h3,h4,h2▸h⟩⟩
def GiveF(L:List DB)(v:Value)(out:List Blk):Prop:=∃s:Sl,v= .tuple #[s.v,i64 0]∧s.n=L.length∧∀W,Lies out W→BlocksAt W s L
theorem want_giveF(X:PD)(hI:X.Inv)(hO:X.Ord)(p:Nat)(sw sh:Sl)(ws hs:List (List UInt8))(hw1:ws.length≤90000)(hh1:hs.length≤90000)(most:Int)(hm:1≤most){L:List DB}(h:((gvL X ws hs).take (min (min (gvL X ws hs).length most.toNat) 8)).map X.blk=L):
    Meets prog 33 [ptr p 0,sw.v,sh.v,i64 most] [] (fun W=>DagAt W p X∧RowsAt W sw 32 ws∧RowsAt W sh 32 hs) (GiveF L):=by
  rintro W ⟨⟨x,hx,rfl,hl⟩,h2,h3⟩;refine(want_giveG x hx hI hO p sw sh ws hs hw1 hh1 most hm W ⟨hl,h2,h3⟩).mono fun e W' ⟨v,out,he,⟨v0,hv,sl,bl,bl2,rs,hv0,ho,hos⟩,hr⟩=>⟨v,out,he,?_,hr⟩;have h8:L.length≤8:=by rw[←h,La0,Lab];omega
  rw[h]at hos;subst ho;exact⟨sl,by rw[hv,hv0],hos.acc.num,fun W hl=>⟨rs,hos.seq (hl.sub fun b hb=>Lao _ hb) (hl.sub fun b hb=>Lau _ hb) oM⟩⟩
theorem want_askF(X:PD)(hI:X.Inv)(p:Nat)(sh:Sl)(hs:List (List UInt8))(hh1:hs.length≤90000)(h:askL X hs=L):
    Meets prog 27 [ptr p 0,sh.v] [] (fun W=>DagAt W p X∧RowsAt W sh 32 hs) (RowsR L):=by
  rintro W ⟨⟨x,hx,rfl,hl⟩,h2⟩;rw[←h];exact(want_askG x hx hI p sh hs hh1 W ⟨hl,h2⟩).mono fun e W' ⟨v,out,he,⟨s,hv,hac⟩,hr⟩=>⟨v,out,he,⟨s,hv,hac.num,fun W2 h2=>hac.see h2⟩,hr⟩
theorem tri_cut(hw:BlkOk w ⟨q,tri a b c,T,m⟩)(o:Nat){l:List Value}(e:((tri a b c).drop o).take l.length=l):Dd w q o l:=sees_kok hw fun j v hj=>by
  rw[←e]at hj;have h1:=(Lac.1 hj).1;rw[Lex (by rw[Lab]at h1;omega),Lb8]at hj;exact hj
theorem tri_some{q o n c0:Nat}{rs:List Block}{ds:List DB}(hw:BlkOk w ⟨q,tri a b c,T,m⟩)(hr:rs.length=n)(hd:ds.length=n)(hi:∀(i:Nat) (r:Block) (d:DB),rs[i]? =some r→ds[i]? =some d→BlockIs w r d)(ho:∀r∈rs,r.ok)(hn:n≤c0)(hc:c0≤1000)(e:((tri a b c).drop o).take (rs.map Block.cells).flatten.length=(rs.map Block.cells).flatten):
    BlocksAt w ⟨some ⟨q,o,none⟩,n,c0⟩ ds:=
  ⟨rs,hr,hd,hi,fun r h=>Block.length (ho r h),hn,SeesP.of (tri_cut hw o e),(by show n≤maxLen;unfold maxLen;omega),fun e=>by cases e⟩
theorem tri_first(h:BlkOk w ⟨q,tri a b c,T,m⟩)(hi:BlockIs w a Da∧BlockIs w b Db∧BlockIs w c Dc):BlocksAt w ⟨some ⟨q,0,none⟩,1,3⟩ [Da]:=
  tri_some (rs:=[a]) h rfl rfl (fun i r d hr hd=>by rcases i with _|i;cases hr;cases hd;exact hi.1;cases hr) (fun r hr=>by rw[La1.1 hr];exact hi.1.ok) dE dE
    (by have h1:=Block.length hi.1.ok;simp[tri,h1])
theorem tri_mid(h:BlkOk w ⟨q,tri a b c,T,m⟩)(hi:BlockIs w a Da∧BlockIs w b Db∧BlockIs w c Dc):BlocksAt w ⟨some ⟨q,131,none⟩,1,2⟩ [Db]:=
  tri_some (rs:=[b]) h rfl rfl (fun i r d hr hd=>by rcases i with _|i;cases hr;cases hd;exact hi.2.1;cases hr) (fun r hr=>by rw[La1.1 hr];exact hi.2.1.ok) dE dE
    (by have h1:=Block.length hi.1.ok;have h2:=Block.length hi.2.1.ok;simp[tri,h2,Lbc,h1])
theorem tri_rest(h:BlkOk w ⟨q,tri a b c,T,m⟩)(hi:BlockIs w a Da∧BlockIs w b Db∧BlockIs w c Dc):BlocksAt w ⟨some ⟨q,131,none⟩,2,2⟩ [Db,Dc]:=
  tri_some (rs:=[b,c]) h rfl rfl (fun i r d hr hd=>by rcases i with _|_|i;cases hr;cases hd;exact hi.2.1;cases hr;cases hd;exact hi.2.2;cases hr) (fun r hr=>by simp only[Laj,Lbu,or_false]at hr;rcases hr with rfl|rfl;exact hi.2.1.ok;exact hi.2.2.ok) dE dE
    (by have h1:=Block.length hi.1.ok;have h2:=Block.length hi.2.1.ok;have h3:=Block.length hi.2.2.ok;simp[tri,h2,h3,Lbc,h1];exact La3 (by simp[h2,h3]))
theorem law24_lives  :Mv 21 [] (fun _=>True) (.bool true):=by
 intro W hW;obtain⟨Da,Db,Dc,na,nb,nc,X1,X3,⟨hDa,hDb,hDc⟩,⟨lna,lnb,lnc⟩,⟨hna,hnb,hnc⟩,cSa,cSb,cSc,hsm,⟨hfil1,hfil3⟩,hg1,hg8,hask⟩:=chain24_facts;have hI1:X1.Inv:=by rw[←hfil1];exact PD.Inv.fill _ PD.Inv.new
 have hI3:X3.Inv:=by rw[←hfil3];exact PD.Inv.fill _ PD.Inv.new
 have hO3:X3.Ord:=by rw[←hfil3];exact PD.Ord.fill _ PD.Inv.new PD.Ord.new
 have hsm1:∀d∈ [Da],d.ls.length≤500000∧d.ds.length≤500000:=fun d hd=>hsm d (by rw[La1.1 hd];exact La9);refine Ad func21 J 66 ntmps21 J (G7 ?_);refine .call4 J J J J J Body40 (law24_chain Da Db Dc na nb hDa hDb hDc lna lnb hna hnb cSa cSb cSc) tV ?_;rintro v8 out8 ⟨q,Ba,Bb,Bc,bl,ha,hb,hc,rfl,rfl,hch⟩;have cNa:=r15_Name Ba Da ha.ok;have cNc:=r15_Name Bc Dc hc.ok;rw[hna]at cNa;rw[hnc]at cNc;refine G4 ?_
 try simp only[Lak,Lag,La8]
 refine .withK (sp_k (sp_x sp_n)) J (.draw (oPq [0,1,2,4,5,6,303,307,208,209,410,411]) Ar zK (G1 ?_));refine .idxSlP 131 J J J J J Y22.h Sz37 0 J dE (.kloadSN (n:=131) Ba.cells J J J Y37.h J Sz37 (Block.length ha.ok) (fun w h=>(tri_sees ha.ok hb.ok hc.ok (h ⟨q,tri Ba Bb Bc,37,(tri Ba Bb Bc).length⟩ (by simp[Cx.with]))).1) ?_);refine G1 ?_;refine .idxSlP 131 J J J J J Y22.h Sz37 2 J dE (.kloadSN (n:=131) Bc.cells J J J Y37.h J Sz37 (Block.length hc.ok) (fun w h=>(tri_sees ha.ok hb.ok hc.ok (h ⟨q,tri Ba Bb Bc,37,(tri Ba Bb Bc).length⟩ (by simp[Cx.with]))).2.2) ?_);refine .cV J J J J Body37 (cNa) (fun w h=>(hch w (Lies.of h (by repeat(exact Aw)))).1) ?_;refine .cV J J J J Body37 (cNc) (fun w h=>(hch w (Lies.of h (by repeat(exact Aw)))).2.2) ?_;refine .alloc (cs:=(Aa (List.replicate 32 0))) J B1 J ?_;intro n2 hn2 hf2;refine .alloc (cs:=(Aa (List.replicate 32 0))) J B1 J ?_;intro n3 hn3 hf3;refine .sA J J J J zE Sz31 (by(simp[lna];done)) Z1 sP zV ?_;refine .sA J J J J zE Sz31 (by(simp[lnc];done)) Z0 sP zU ?_;refine G3 ?_
 try simp only[Lak,Lag,La8]
 refine .withK (sp_k (sp_k (sp_x (sp_v sp_n)))) J (.draw (oPq [0,2,4,301,203,205,406,7,8,9,10,11]) Ar zK ?_)
 try simp only[Lak,Lag,La8]
 refine G1 ?_;refine .kloadAll J J J Y31.h J Sz31 Z0 (by(simp[lnc];done)) ?_;refine .kloadAll J J J Y31.h J Sz31 Z1 (by(simp[lna];done)) ?_;refine .call J J J J Body23 (law24_filledL ⟨some ⟨q,0,none⟩,3,3⟩ [Da,Db,Dc] sP hsm) (FilL.loose _) (fun w h=>(tri_blocks (B8 (B:=⟨q,tri Ba Bb Bc,37,(tri Ba Bb Bc).length⟩) h mR) (hch w (Lies.of h (by repeat(exact Aw)))))) ?_;rintro v19 out19 ⟨p19,rfl,hd19⟩;rw[hfil3]at hd19;refine .mkRow2 (z:=agg (Aa (List.replicate 32 0))) [agg (Aa nc)] (Ap [nc]) J J Y32.h Sz31 B1 J J (by intro v hv;simp only[Laj,Lbu,or_false]at hv;rcases hv with rfl<;>simp[Value.cells,Aa,lnc]) dE (by simp[Value.cells,agg,Ap]) ?_;intro q21;refine .mkRow2 (z:=agg (Aa (List.replicate 32 0))) [agg (Aa na)] (Ap [na]) J J Y32.h Sz31 B1 J J (by intro v hv;simp only[Laj,Lbu,or_false]at hv;rcases hv with rfl<;>simp[Value.cells,Aa,lna]) dE (by simp[Value.cells,agg,Ap]) ?_;intro q23;refine .call4 J J J J J Body33 (want_giveF X3 hI3 hO3 p19 ⟨some ⟨q21,0,none⟩,1,1⟩ ⟨some ⟨q23,0,none⟩,1,1⟩ [nc] [na] sP sP 1 dE hg1) (fun w h=>⟨hd19 w (Lies.of h (by repeat(first|exact Aw|refine A2 ?_))),row_one lnc (by have h9:=Ao (b:=q21) (cs:=Ap [nc]) h Z1;simpa[Ap]using h9),row_one lna (by have h9:=Ao (b:=q23) (cs:=Ap [na]) h Z0;simpa[Ap]using h9)⟩) ?_;rintro v24 out24 ⟨s24,rfl,hn24,hb24⟩;refine G8 ?_
 try simp only[Lak,Lag,La8]
 refine .withK (sp_x (sp_v (sp_v (sp_x (sp_x (sp_v (sp_k (sp_k sp_n)))))))) J (.draw (oPq [0,2,4,301,203,205,406,7,8,9,10,11]) Ar zK ?_)
 try simp only[Lak,Lag,La8]
 refine G1 ?_;refine .kloadAll J J J Y31.h J Sz31 Z0 (by(simp[lnc];done)) ?_;refine .kloadAll J J J Y31.h J Sz31 Z1 (by(simp[lna];done)) ?_;refine .call J J J J Body23 (law24_filledL ⟨some ⟨q,0,none⟩,3,3⟩ [Da,Db,Dc] sP hsm) (FilL.loose _) (fun w h=>(tri_blocks (B8 (B:=⟨q,tri Ba Bb Bc,37,(tri Ba Bb Bc).length⟩) h mR) (hch w (Lies.of h (by repeat(first|exact Aw|refine A2 ?_|refine Bl ?_)))))) ?_;rintro v29 out29 ⟨p29,rfl,hd29⟩;rw[hfil3]at hd29;refine .mkRow2 (z:=agg (Aa (List.replicate 32 0))) [agg (Aa nc)] (Ap [nc]) J J Y32.h Sz31 B1 J J (by intro v hv;simp only[Laj,Lbu,or_false]at hv;rcases hv with rfl<;>simp[Value.cells,Aa,lnc]) dE (by simp[Value.cells,agg,Ap]) ?_;intro q31;refine .mkRow2 (z:=agg (Aa (List.replicate 32 0))) [agg (Aa na)] (Ap [na]) J J Y32.h Sz31 B1 J J (by intro v hv;simp only[Laj,Lbu,or_false]at hv;rcases hv with rfl<;>simp[Value.cells,Aa,lna]) dE (by simp[Value.cells,agg,Ap]) ?_;intro q33;refine .call4 J J J J J Body33 (want_giveF X3 hI3 hO3 p29 ⟨some ⟨q31,0,none⟩,1,1⟩ ⟨some ⟨q33,0,none⟩,1,1⟩ [nc] [na] sP sP 8 dE hg8) (fun w h=>⟨hd29 w (Lies.of h (by repeat(first|exact Aw|refine A2 ?_))),row_one lnc (by have h9:=Ao (b:=q31) (cs:=Ap [nc]) h Z1;simpa[Ap]using h9),row_one lna (by have h9:=Ao (b:=q33) (cs:=Ap [na]) h Z0;simpa[Ap]using h9)⟩) ?_;rintro v34 out34 ⟨s34,rfl,hn34,hb34⟩;refine G8 ?_
 try simp only[Lak,Lag,La8]
 refine .withK (sp_x (sp_v (sp_v (sp_x (sp_x (sp_v (sp_v (sp_x (sp_x (sp_v (sp_k (sp_k sp_n)))))))))))) J (.draw (oPq [0,1,2,3,4,5,6,7,8,10,13,309,211,312,214,315,16,17,18,19,20,321,22,23,24,25,26,327,28,29]) Ar zK ?_)
 try simp only[Lak,Lag,La8]
 refine G1 ?_;refine .eqi J J J J (decide_eq_true (rfl)) (G2 ?_);refine .eqi J J J J (decide_eq_true (rfl)) (G3 ?_);refine .sliceHiA ⟨some ⟨q,0,none⟩,3,3⟩ 1 J J J J J (by show 1≤3;decide) Y22.h Sz37 ?_;refine .kloadAll J J J Y31.h J Sz31 Z0 (by(simp[lnc];done)) ?_;refine .kloadAll J J J Y31.h J Sz31 Z0 (by(simp[lnc];done)) ?_;refine .call J J J J Body23 (law24_filledL ⟨some ⟨q,0,none⟩,1,3⟩ [Da] sP hsm1) (FilL.loose _) (fun w h=>(tri_first (B8 (B:=⟨q,tri Ba Bb Bc,37,(tri Ba Bb Bc).length⟩) h mR) (hch w (Lies.of h (by repeat(first|exact Aw|refine A2 ?_|refine Bl ?_)))))) ?_;rintro v46 out46 ⟨p46,rfl,hd46⟩;rw[hfil1]at hd46;refine .mkRow2g (z:=agg (Aa (List.replicate 32 0))) [agg (Aa nc)] (Ap [nc]) J J J Y32.h Sz31 B1 J J (by intro v hv;simp only[Laj,Lbu,or_false]at hv;rcases hv with rfl<;>simp[Value.cells,Aa,lnc]) dE (by simp[Value.cells,agg,Ap]) ?_;intro q48;refine .call J J J J Body27 (want_askF X1 hI1 p46 ⟨some ⟨q48,0,none⟩,1,1⟩ [nc] sP hask) (RowsR.loose (one_32 lnc)) (fun w h=>⟨hd46 w (Lies.of h (by repeat(first|exact Aw|refine A2 ?_))),row_one lnc (by have h9:=Ao (b:=q48) (cs:=Ap [nc]) h Z0;simpa[Ap]using h9)⟩) ?_;rintro v49 out49 ⟨⟨p49,n49,c49⟩,rfl,hn49,hs49⟩;obtain rfl:n49=1:=hn49;refine .mkRow2g (z:=agg (Aa (List.replicate 32 0))) [agg (Aa nc)] (Ap [nc]) J J J Y32.h Sz31 B1 J J (by intro v hv;simp only[Laj,Lbu,or_false]at hv;rcases hv with rfl<;>simp[Value.cells,Aa,lnc]) dE (by simp[Value.cells,agg,Ap]) ?_;intro q51;refine .cV J J J J Body20 (dig_same p49 (some ⟨q51,0,none⟩) 1 c49 1 [nc] (one_32 lnc) J dE) (fun w h=>⟨hs49 w (Lies.of h (by repeat(first|exact Aw|refine A2 ?_))),SeesP.of (Ao (b:=q51) h Z0)⟩) ?_;refine G4 ?_;refine .sliceLoHiN 1 2 J J J J J J J dE dE Y22.h Sz37 (.cV J J J J Body35 (kit_blocksS s24 ⟨some ⟨q,131,none⟩,1,2⟩ [Db] (fun d hd=>by have:=hsm d (by rw[La1.1 hd];simp);omega)) (fun w h=>⟨hb24 w (Lies.of h (by repeat(first|exact Aw|refine A2 ?_|refine Bl ?_))),(tri_mid (B8 (B:=⟨q,tri Ba Bb Bc,37,(tri Ba Bb Bc).length⟩) h mR) (hch w (Lies.of h (by repeat(first|exact Aw|refine A2 ?_|refine Bl ?_)))))⟩) ?_);refine G4 ?_;refine .sliceLoN 1 J J J J J dE dE Y22.h Sz37 (.cV J J J J Body35 (kit_blocksS s34 ⟨some ⟨q,131,none⟩,2,2⟩ [Db,Dc] (fun d hd=>by have:=hsm d (Lae _ hd);omega)) (fun w h=>⟨hb34 w (Lies.of h (by repeat(first|exact Aw|refine A2 ?_|refine Bl ?_))),(tri_rest (B8 (B:=⟨q,tri Ba Bb Bc,37,(tri Ba Bb Bc).length⟩) h mR) (hch w (Lies.of h (by repeat(first|exact Aw|refine A2 ?_|refine Bl ?_)))))⟩) ?_);refine G4 ?_;refine G2 ?_;refine Au (out:=[]) (Ag J J) Ae ?_;exact⟨rfl,rfl⟩
end Go.Proofs.YtgjnomgkddbhcaaGreat
namespace Go.Proofs.YtgjnomgkddbhcaaGreat
open Go Hw _root_.Go.Proofs.Tryz
variable{P Q:List (List UInt8×DB)}{X:PD}{k:Nat}{l:List RE}{n:List UInt8}{out ps:List (List UInt8)}{s:Sl}{x:RD}
theorem law24_known(s:Sl)(ds:List DB)(hn:s.n≤1000)(hsm:∀d∈ds,d.ls.length≤500000∧d.ds.length≤500000):Meets prog 24 [s.v] [] (fun W=>BlocksAt W s ds) (fun v out=>∃(p:Nat) (x:RD),v=ptr p 0∧out=x.blks p∧x.ok∧RRel (fillP PD.new ds) x.P x.Q∧x.L.length+x.O.length≤ds.length):=by
 intro W hW;obtain⟨rs,hs⟩:=hW;have hnd:=hs.nd;refine Ad func24 J 19 ntmps24 J (G7 ?_);refine .call4 J J J J J Body68 (rd_new) tV ?_;rintro v5 out5 ⟨p,rfl,rfl⟩;refine G10 ?_;refine .loop (ι:=Nat×RD) (fun r=>⟨[(0,s.v),(3,ptr p 0),(4,i64 (r.1:Int))],(r.2.blks p++[])⟩) (fun r=>r.1≤s.n∧r.2.ok∧RRel (fillP PD.new (ds.take r.1)) r.2.P r.2.Q∧r.2.L.length+r.2.O.length≤r.1) (fun r=>s.n-r.1) ((0,⟨Sl.nil,[],[],Sl.nil,[],[],[]⟩)) ?_ ?_ ?_
 ·exact⟨Lan _,rd_new0,RRel.new,Lad _⟩
 ·exact Af wN (Ac sG Ae)
 rintro⟨k,x⟩ ⟨hk,hx,hrel,hnx⟩;simp only at hk hx hrel hnx ⊢;refine G9 ?_;refine .condP J (fun hc0=>?_) (fun hc0=>?_)
 ·
  have hk2:k<s.n:=by omega
  obtain⟨b,o,r,d,hsp,hr,hd,his,hlen,hsee⟩:=hs.at dE hk2;refine G8 ?_;refine .idxSlP 131 J J J hsp J Y22.h Sz37 k J oM (.loadEN r.cells J J J Y37.h J Sz37 sP hlen hsee (.callL (L:=(x.blks p)) J J J J J Body69 (rd_add x hx (fillP PD.new (ds.take k)) (PD.Inv.fill _ PD.Inv.new) hrel p r d oM (hsm d (Lb1 hd)).1 (hsm d (Lb1 hd)).2) sG (lent_ok J) (fun w h=>rd_lent h sG his) ?_));rintro v17 out17 ⟨x1,e17,s17,bl17,rfl,rfl,hx1,hrel1,hnx1⟩;simp only[La8];refine G9 ?_;exact⟨(k+1,x1),⟨by simp only;omega,hx1,by simp only;rw[take_snoc hd,fillP_snoc];exact hrel1,by simp only;omega⟩,by simp only;omega,Af wN (Ac sG Ae)⟩
 have hke:k=s.n:=by omega
 refine G11 ?_;refine G2 ?_;refine Au (out:=(x.blks p++[])) (Ag J J) (Ac sG Ae) ?_;refine⟨p,x,rfl,by simp,hx,?_,by omega⟩;rw[hke,La3 oM]at hrel;exact hrel
def IntsAt(W:World)(s:Sl)(l:List Int):Prop:=SeqIs (fun r:Int=>[i64 r]) 1 (fun _ r d=>d=r∧(Lit.int .i64 r).wf=true) W s l l
theorem ints_ext{C:Cx}{hp:List Blk}{w:World}{l:List Int}(hh:HRep C hp w)(hl:C.lent=[])(h:IntsAt C.W0 s l):IntsAt w s l:=h.ext hh hl fun r d hd=>hd
theorem kit_namesA(s:Sl)(ls:List (List UInt8))(hn:s.n≤500000):Meets prog 28 [s.v] [] (fun W=>RowsAt W s 32 ls) (fun v out=>∃s2:Sl,v=s2.v∧Hw.Acc s2 out (Ap ls) 31 ls.length 32):=fun W hW=>by
  refine(kit_names s ls hn W hW).mono fun e W' ⟨v,out,h1,⟨q,c,hv,hc,ho⟩,h3⟩=>⟨v,out,h1,⟨⟨some ⟨q,0,none⟩,s.n,c⟩,hv,?_⟩,h3⟩;rw[ho,←hW.len];exact Acc.some (by rw[hW.len];exact hc) (A1 hW.row)
theorem light_ats{ds:List DB}{m:Int}(h:lightOf lightBf ds m=true):(ds.length:Int)≤m∧∀d∈ds,d.ls.length≤500000∧d.ds.length≤500000:=by
  unfold lightOf at h;simp only[Lal,Lck,decide_eq_false_iff_not,Lc0]at h;refine⟨by omega,fun d hd=>?_⟩;have:=h.2 d hd;unfold lightBf at this;simp only[Lal,decide_eq_true_eq]at this;omega
def pk9(v:Int):List UInt8:=Hw.byteOf v::(List.replicate 30 0++[9])
theorem pk9_len(v:Int):(pk9 v).length=32:=rfl
theorem run_pk9(v:Int)(w:World):(Instr.build 31 #[(0,u8 (Hw.byteOf v)),(31, .int .u8 9)]).run prog w= .ok (agg (Aa (pk9 v))) w:=by
  have hz:Zr prog 31 (agg (Aa (List.replicate 32 0))):=B1;have r1:=Cj Sz5 w;unfold Zr at hz;cases hi:prog.info? 31 with
  |none=>rw[hi]at hz;cases hz
  | some i=>
    rw[hi]at hz;simp only[Lbz]at hz;have hf:Instr.fill (fun i=>some (i*1,1)) (Value.agg (Aa (List.replicate 32 0)).toArray).cells [(0,u8 (Hw.byteOf v)),(31, .int .u8 9)]=some (Aa (pk9 v)).toArray:=by rfl
    simp only[Instr.build,Sem.run_bind,zeroValue,typeInfo,hi,hz,run_underlying Y31.h,Result.andThen_ok,agg];simp[r1,zeroValue,typeInfo,hi,hz,agg];rfl
theorem law24_picked(so:Sl)(o:List (List UInt8))(si:Sl)(lst:List Int)(hn:si.n≤1000):Meets prog 25 [so.v,si.v] [] (fun W=>RowsAt W so 32 o∧IntsAt W si lst) (fun v out=>∃(s:Sl) (L:List (List UInt8)),v=s.v∧Hw.Acc s out (Ap L) 31 L.length 32∧(∀l∈L,l.length=32)∧L.length=lst.length):=by
 intro W hW;have h32v:True:=trivial;have hln:=hW.2.nd;have hol:=hW.1.len;have hrow:=hW.1.row;refine Ad func25 J 47 ntmps25 J (G17 ?_);refine .loop (ι:=Nat×List (List UInt8)×Sl×List Blk) (fun r=>⟨[(0,so.v),(1,si.v),(5,r.2.2.1.v),(6,i64 (r.1:Int))],(r.2.2.2++[])⟩) (fun r=>r.1≤si.n∧r.2.1.length=r.1∧Hw.Acc r.2.2.1 r.2.2.2 (Ap r.2.1) 31 r.2.1.length 32∧∀l∈r.2.1,l.length=32) (fun r=>si.n-r.1) ((0,[],Sl.nil,[])) ?_ ?_ ?_
 ·exact⟨Lan _,rfl,Acc.none,fun l hl=>by cases hl⟩
 ·exact Af wN (Ac (by repeat(exact C6)) Ae)
 rintro⟨k,L,s5,bl5⟩ ⟨hk,hLk,hac5,h32⟩;simp only at hk hLk hac5 h32 ⊢;refine G9 ?_;refine .condP J (fun hc0=>?_) (fun hc0=>?_)
 ·
  have hk2:k<si.n:=by omega
  obtain⟨b,o2,v9b,v9,hsp,hrv,hdv,⟨rfl,hwf⟩,hlen9,hsee⟩:=hW.2.at dE hk2;have hcell:=hsee 0 _ rfl;refine G8 ?_;refine .idxSlP 1 J J J hsp J Y50.h Sz3 k J oM (.loadE J J J Y3.h J sP ((by simpa using hcell)) ?_);refine two (fun r hr k=>Tr.geq J J J J hr k) (fun hs5_40=>?_) (fun hs5_40=>?_)
  ·
   have hs5_4:=of_decide_eq_true hs5_40;refine G3 ?_;refine .idxSlP 1 J J J hsp J Y50.h Sz3 k J oM (.loadE J J J Y3.h J sP ((by simpa using hcell)) ?_);refine G6 ?_;refine .condP J (fun hc1=>?_) (fun hc1=>?_)
   ·
    have hv2:v9.toNat<o.length:=by omega
    obtain⟨b1,o1,hop,hos⟩:=hW.1.see.at (by rw[A1 hrow];omega);obtain⟨gv,hgv⟩:∃gv,gv=o.getD v9.toNat []:=⟨_,rfl⟩;have h32v:gv.length=32:=by rw[hgv];exact Cd hrow hv2
    refine G5 ?_;refine .idxSlP 1 J J J hsp J Y50.h Sz3 k J oM (.loadE J J J Y3.h J sP ((by simpa using hcell)) ?_);refine .idxSlP 32 J J J hop J Y32.h Sz31 v9.toNat oM oM (.loadEN (Aa gv) J J J Y31.h J Sz31 sP (by rw[Aa,La0];exact h32v) (by rw[hgv];exact Bs hrow hos hv2) ?_);refine .mkRow2 (z:=agg (Aa (List.replicate 32 0))) [agg (Aa gv)] (Aa gv) J J Y32.h Sz31 B1 J J (by intro v hv;rw[La1.1 hv];simp[Value.cells,Aa,h32v]) dE (by simp[Value.cells,agg]) ?_;intro q35;refine .appendAcc (n:=L.length) (z:=agg (Aa (List.replicate 32 0))) (by':=32) (Aa gv) J J J J J Y32.h Y32.h Sz31 B1 (by unfold By;kernel_rfl) J hac5 sG (fun w h=>SeesP.of (Ao h Z0)) (fun e=>by cases e) (Ax _) oM oM (by rw[Aa,La0,h32v]) ?_;intro s36 bl36 hac36;refine G10 ?_;exact⟨(k+1,L++[gv],s36,bl36),⟨by simp only;omega,by simp only[La2,Las];omega,by simp only;rw[Br,La2,show Ap [gv]=Aa (gv) by simp[Ap]];exact hac36,fun l hl=>by rcases Laa.1 hl with h|h;exact h32 l h;rw[La1.1 h];exact h32v⟩,by simp only;omega,Af wN (Ac sG Ae)⟩
   refine G4 ?_;refine .idxSlP 1 J J J hsp J Y50.h Sz3 k J oM (.loadE J J J Y3.h J sP ((by simpa using hcell)) ?_);refine G1 ?_;refine .build (cs:=Aa (pk9 v9)) J J J (fun w=>run_pk9 v9 w) (.mkRow2 (z:=agg (Aa (List.replicate 32 0))) [agg (Aa (pk9 v9))] (Aa (pk9 v9)) J J Y32.h Sz31 B1 J J (by intro v hv;rw[La1.1 hv];simp[Value.cells,Aa,pk9_len]) dE (by simp[Value.cells,agg]) ?_);intro q44;refine .appendAcc (n:=L.length) (z:=agg (Aa (List.replicate 32 0))) (by':=32) (Aa (pk9 v9)) J J J J J Y32.h Y32.h Sz31 B1 (by unfold By;kernel_rfl) J hac5 sG (fun w h=>SeesP.of (Ao h Z0)) (fun e=>by cases e) (Ax _) oM oM (by rw[Aa,La0,pk9_len]) ?_;intro s45 bl45 hac45;refine G10 ?_;exact⟨(k+1,L++[pk9 v9],s45,bl45),⟨by simp only;omega,by simp only[La2,Las];omega,by simp only;rw[Br,La2,show Ap [pk9 v9]=Aa (pk9 v9) by simp[Ap]];exact hac45,fun l hl=>by rcases Laa.1 hl with h|h;exact h32 l h;rw[La1.1 h];exact pk9_len v9⟩,by simp only;omega,Af wN (Ac sG Ae)⟩
  have hs5_4:=of_decide_eq_false hs5_40;refine G11 ?_;refine .cond_f J J (G4 ?_);refine .idxSlP 1 J J J hsp J Y50.h Sz3 k J oM (.loadE J J J Y3.h J sP ((by simpa using hcell)) ?_);refine G1 ?_;refine .build (cs:=Aa (pk9 v9)) J J J (fun w=>run_pk9 v9 w) (.mkRow2 (z:=agg (Aa (List.replicate 32 0))) [agg (Aa (pk9 v9))] (Aa (pk9 v9)) J J Y32.h Sz31 B1 J J (by intro v hv;rw[La1.1 hv];simp[Value.cells,Aa,pk9_len]) dE (by simp[Value.cells,agg]) ?_);intro q44;refine .appendAcc (n:=L.length) (z:=agg (Aa (List.replicate 32 0))) (by':=32) (Aa (pk9 v9)) J J J J J Y32.h Y32.h Sz31 B1 (by unfold By;kernel_rfl) J hac5 sG (fun w h=>SeesP.of (Ao h Z0)) (fun e=>by cases e) (Ax _) oM oM (by rw[Aa,La0,pk9_len]) ?_;intro s45 bl45 hac45;refine G10 ?_;exact⟨(k+1,L++[pk9 v9],s45,bl45),⟨by simp only;omega,by simp only[La2,Las];omega,by simp only;rw[Br,La2,show Ap [pk9 v9]=Aa (pk9 v9) by simp[Ap]];exact hac45,fun l hl=>by rcases Laa.1 hl with h|h;exact h32 l h;rw[La1.1 h];exact pk9_len v9⟩,by simp only;omega,Af wN (Ac sG Ae)⟩
 have hke:k=si.n:=by omega
 refine G11 ?_;refine G2 ?_;refine Au (out:=(bl5++[])) (Ag J J) (Ac sG Ae) ?_;exact⟨s5,L,rfl,by simpa using hac5,h32,by omega⟩
theorem law24_all(s:Sl)(ds:List DB)(hn:s.n≤1000):Meets prog 26 [s.v] [] (fun W=>BlocksAt W s ds) (RowA (ds.map A4)):=by
 intro W hW;obtain⟨rs,hs⟩:=hW;have hnd:=hs.nd;have hml:(ds.map A4).length=ds.length:=La0 _;refine Ad func26 J 20 ntmps26 J (G17 ?_);refine .loop (ι:=Nat×Sl×List Blk) (fun r=>⟨[(0,s.v),(3,r.2.1.v),(4,i64 (r.1:Int))],(r.2.2++[])⟩) (fun r=>r.1≤s.n∧Hw.Acc r.2.1 r.2.2 (Ap ((ds.map A4).take r.1)) 31 r.1 32) (fun r=>s.n-r.1) ((0,Sl.nil,[])) ?_ ?_ ?_
 ·exact⟨Lan _,Acc.none⟩
 ·exact Af wN (Ac (by repeat(exact C6)) Ae)
 rintro⟨k,s3,bl3⟩ ⟨hk,hac⟩;simp only at hk hac ⊢;have hel:True:=trivial;have hnk:=hac.num;refine G9 ?_;refine .condP J (fun hc0=>?_) (fun hc0=>?_)
 ·
  have hk2:k<s.n:=by omega
  obtain⟨b,o,r,d,hsp,hr,hd,his,hlen,hsee⟩:=hs.at dE hk2;have hel:=nameD_length d;refine G8 ?_;refine .idxSlP 131 J J J hsp J Y22.h Sz37 k J oM (.loadEN r.cells J J J Y37.h J Sz37 sP hlen hsee (.cV J J J J Body37 (r15_Name r d his.ok) (fun w h=>his.ext h J) (.mkRow2 (z:=agg (Aa (List.replicate 32 0))) [agg (Aa (A4 d))] (Aa (A4 d)) J J Y32.h Sz31 B1 J J (by intro v hv;rw[La1.1 hv];simp[Value.cells,Aa,hel]) dE (by simp[Value.cells,agg]) ?_)));intro q17;refine .appendAcc (n:=k) (z:=agg (Aa (List.replicate 32 0))) (by':=32) (Aa (A4 d)) J J J J J Y32.h Y32.h Sz31 B1 (by unfold By;kernel_rfl) J hac sG (fun w h=>SeesP.of (Ao h Z0)) (fun e=>by cases e) (Ax _) oM oM (by rw[Aa,La0,hel]) ?_;intro s18 bl18 hac18;refine G10 ?_;exact⟨(k+1,s18,bl18),⟨by simp only;omega,by simp only;rw[take_snoc (show(ds.map A4)[k]? =some (A4 d) by rw[Lam,hd];rfl),Br,show Ap [A4 d]=Aa (A4 d) by simp[Ap]];exact hac18⟩,by simp only;omega,Af wN (Ac sG Ae)⟩
 have hke:k=s.n:=by omega
 refine G11 ?_;refine G2 ?_;refine Au (out:=(bl3++[])) (Ag J J) (Ac sG Ae) ?_;rw[La3 oM]at hac;exact⟨s3,rfl,by rw[hml,hnd,←hke];simpa using hac⟩
def rkOrp(x:RD):List (List UInt8):=x.O.map fun e=>e.1.fName
theorem rkOrp_at{e:RE}(h:x.O[k]? =some e):(rkOrp x).take (k+1)=(rkOrp x).take k++[e.1.fName]:=take_snoc (by unfold rkOrp;rw[Lam,h];rfl)
theorem rk_orphans(h:RRel X x.P x.Q):rkOrp x=X.orphans:=by
  rw[show rkOrp x=x.Q.map (·.1) by unfold rkOrp RD.Q rp;rw[Lh9];rfl,h.keys];rfl
def RowX(L:List (List UInt8))(v:Value)(out:List Blk):Prop:=∃s:Sl,v=s.v∧s.n=L.length∧(0<s.n→∃b o,s.p=some ⟨b,o,none⟩∧∀w,Lies out w→∀k,k<L.length→Dd w b (o+k*32) (Aa (L.getD k [])))
structure LackI(X:PD)(ps out:List (List UInt8)):Prop where
  srt:SortB out
  nd:out.Nodup
  l32:∀l∈out,l.length=32
  mem:∀n,n∈out↔n∈ps∧X.lacks n=true
theorem LackI.none(X:PD):LackI X [] []:=⟨List.Pairwise.nil,Lcp,fun l h=>(by cases h),fun n=>by simp⟩
theorem LackI.skip(h:LackI X ps out)(hl:X.lacks n=false):LackI X (ps++[n]) out:=⟨h.srt,h.nd,h.l32,fun m=>by
  rw[h.mem,Laa,La1];refine⟨fun h=>⟨.inl h.1,h.2⟩,fun⟨h1,h2⟩=>?_⟩;rcases h1 with h1|rfl
  ·exact⟨h1,h2⟩
  ·rw[hl]at h2;cases h2⟩
theorem LackI.put(h:LackI X ps out)(hl:X.lacks n=true)(h32:n.length=32):LackI X (ps++[n]) (putB out n):=⟨put_sort h.srt n,put_nd h.nd n,fun l hm=>by
    rcases put_mem.1 hm with h1|rfl
    ·exact h.l32 l h1
    ·exact h32,fun m=>by
  rw[put_mem,h.mem,Laa,La1];refine⟨fun h=>?_,fun⟨h1,h2⟩=>?_⟩
  · rcases h with h|rfl
    ·exact⟨.inl h.1,h.2⟩
    ·exact⟨.inr rfl,hl⟩
  · rcases h1 with h1|rfl
    ·exact .inl ⟨h1,h2⟩
    ·exact .inr rfl⟩
def parsQ(Q:List (List UInt8×DB)):List (List UInt8):=(Q.map fun q=>Bk q.2).flatten
theorem LackI.fin(hr:RRel X P Q)(h:LackI X (parsQ Q) out):out=X.missing:=
  once_eq h.srt h.nd fun n=>by
    rw[h.mem,Lav];refine and_congr_left fun _=>?_;unfold parsQ;simp only[Lft,La6];exact⟨fun⟨l,⟨q,hq,e⟩,hm⟩=>⟨l,⟨q,hr.q.mem_iff.1 hq,e⟩,hm⟩,fun⟨l,⟨q,hq,e⟩,hm⟩=>⟨l,⟨q,hr.q.mem_iff.2 hq,e⟩,hm⟩⟩
theorem parsQ_snoc{q:List UInt8×DB}(h:Q[k]? =some q):parsQ (Q.take (k+1))=parsQ (Q.take k)++Bk q.2:=by
  unfold parsQ;rw[take_snoc h];simp
theorem lacks_has(hr:RRel X P Q)(h:(An P n).isSome=true):X.lacks n=false:=by unfold PD.lacks;rw[←hr.p,h];simp
theorem lacks_orp(hr:RRel X P (rp l))(h:0≤fstBad (rkN n) l):X.lacks n=false:=by
  obtain⟨k,e,_,_,_,hm⟩:=rd_hit h;have h2:=hr.someQ n (by rw[hm];rfl);unfold PD.lacks;rw[h2];rfl
theorem lacks_yes(hr:RRel X P (rp l))(h1:(An P n).isSome=false)(h:¬0≤fstBad (rkN n) l):X.lacks n=true:=by
  have h2:=hr.has n (rd_no h);unfold PD.lacks;rw[h2,←hr.p,h1];rfl
def PutU(s:Sl)(bl:List Blk)(ls:List (List UInt8))(n:List UInt8)(v:Value)(out:List Blk):Prop:=∃(s2:Sl) (bl2:List Blk),v=s2.v∧Hw.Acc s2 bl2 (Ap (putB ls n)) 31 (putB ls n).length 32∧∀b∈bl2,b∈out++bl
theorem rd_putU(s:Sl)(bl:List Blk)(ls:List (List UInt8))(hac:Hw.Acc s bl (Ap ls) 31 ls.length 32)(hrow:∀l∈ls,l.length=32)(hs:SortB ls)(hnd:ls.Nodup)(hbig:ls.length≤100000)(n:List UInt8)(h32:n.length=32):Meets prog 76 [s.v,agg (Aa n)] [] (fun W=>Lies bl W) (PutU s bl ls n):=
  (rd_put s bl ls hac hrow hs hnd hbig n h32).imp (fun w h=>h) fun v out h=>by
    rcases h with ⟨h1,rfl,rfl⟩|⟨h1,s2,rfl,h2⟩
    ·exact⟨s,bl,rfl,by rw[put_there h1];exact hac,fun b hb=>by simpa using hb⟩
    ·exact⟨s2,out,rfl,h2,fun b hb=>Lao _ hb⟩
theorem rowX_of{bl B:List Blk}{L:List (List UInt8)}(h:Hw.Acc s bl (Ap L) 31 L.length 32)(hb:∀b∈bl,b∈B)(h32:∀l∈L,l.length=32):RowX L s.v B:=
  ⟨s,rfl,h.num,fun h0=>by
    obtain⟨b,o,e,hs⟩:=par_open h (by rw[←h.num];exact h0) h32;exact⟨b,o,e,fun w hw=>hs w (hw.sub hb)⟩⟩
theorem rd_orphans(x:RD)(hx:x.ok)(p:Nat):Meets prog 29 [ptr p 0] [] (fun W=>Lies (x.blks p) W) (RowA (rkOrp x)):=by
 intro W hW;have hbig:=hx.big;have hnL:=hx.accL.num;have hnO:=hx.accO.num;have hcL:=rd_L hW;have hsL:=rd_seeL hx hW;have hcO:=rd_O hW;have hsO:=rd_seeO hx hW;have hfew:=hx.few;have hnl:(rkOrp x).length=x.O.length:=La0 _;refine Ad func29 J 26 ntmps29 J (G17 ?_);refine .loop (ι:=Nat×Sl×List Blk) (fun r=>⟨[(0,ptr p 0),(3,r.2.1.v),(4,i64 (r.1:Int))],(r.2.2++[])⟩) (fun r=>r.1≤x.O.length∧Hw.Acc r.2.1 r.2.2 (Ap ((rkOrp x).take r.1)) 31 r.1 32) (fun r=>x.O.length-r.1) ((0,Sl.nil,[])) ?_ ?_ ?_
 ·exact⟨Lan _,Acc.none⟩
 ·exact Af wN (Ac (by repeat(exact C6)) Ae)
 rintro⟨k,s,bl⟩ ⟨hk,hac⟩;simp only at hk hac ⊢;have hnk:=hac.num;refine G7 ?_;refine .loadE J J J Y118.h J sP (hcO) (G4 ?_);refine .condP J (fun hc0=>?_) (fun hc0=>?_)
 ·
  have hk2:k<x.O.length:=by omega
  obtain⟨e,hd⟩:∃e,x.O[k]? =some e:=⟨_,La4 hk2⟩;have hel:=(hx.okO e (Lb1 hd)).l_fName;obtain⟨b,o,hbp,hbs⟩:=rd_open hsO hx.okO hk2;refine G9 ?_;refine .loadE J J J Y118.h J sP (hcO) (G1 ?_);refine .idxSlP 163 J J J hbp J Y118.h Sz122 k (by rfl) oM ?_;refine G1 ?_;refine .loadEN (Aa e.1.fName) J J J Y31.h J Sz31 sP (by rw[Aa,La0];exact hel) (rk_name hbs hx.okO hd) ?_;refine .mkRow2 (z:=agg (Aa (List.replicate 32 0))) [agg (Aa e.1.fName)] (Aa e.1.fName) J J Y32.h Sz31 B1 J J (by intro v hv;rw[La1.1 hv];simp[Value.cells,Aa,hel]) dE (by simp[Value.cells,agg]) ?_;intro q23;refine .appendAcc (n:=k) (z:=agg (Aa (List.replicate 32 0))) (by':=32) (Aa e.1.fName) J J J J J Y32.h Y32.h Sz31 B1 (by unfold By;kernel_rfl) J hac sG (fun w h=>SeesP.of (Ao h Z0)) (fun e=>by cases e) (Ax _) oM oM (by rw[Aa,La0,hel]) ?_;intro s24 bl24 hac24;refine G10 ?_;exact⟨(k+1,s24,bl24),⟨by simp only;omega,by simp only;rw[rkOrp_at hd,Br,show Ap [e.1.fName]=Aa e.1.fName by simp[Ap]];exact hac24⟩,by simp only;omega,Af wN (Ac sG Ae)⟩
 have hke:k=x.O.length:=by omega
 refine G11 ?_;refine G2 ?_;refine Au (out:=(bl++[])) (Ag J J) (Ac sG Ae) ?_;rw[La3 oM]at hac;exact⟨s,rfl,by rw[hnl,←hke];simpa using hac⟩
theorem rd_missing(x:RD)(hx:x.ok)(p:Nat)(X:PD)(hr:RRel X x.P x.Q):Meets prog 30 [ptr p 0] [] (fun W=>Lies (x.blks p) W) (RowX X.missing):=by
 intro W hW;have hbig:=hx.big;have hnL:=hx.accL.num;have hnO:=hx.accO.num;have hcL:=rd_L hW;have hsL:=rd_seeL hx hW;have hcO:=rd_O hW;have hsO:=rd_seeO hx hW;have hfew:=hx.few;have h32pp:True:=trivial;refine Ad func30 J 57 ntmps30 J (.sr (.a J J J (.nsr (.a J J J (.na (.seq (.sr (.a J J J (.na (.block (.loop (ι:=Nat×Sl×List Blk×List Blk×List (List UInt8)) (fun r=>⟨[(0,ptr p 0),(3,r.2.1.v),(4,i64 (r.1:Int))],(r.2.2.2.1++[])⟩) (fun r=>r.1≤x.O.length∧LackI X (parsQ (x.Q.take r.1)) r.2.2.2.2∧Hw.Acc r.2.1 r.2.2.1 (Ap r.2.2.2.2) 31 r.2.2.2.2.length 32∧(∀b∈r.2.2.1,b∈r.2.2.2.1)∧r.2.2.2.2.length≤17*r.1) (fun r=>x.O.length-r.1) ((0,Sl.nil,[],[],[])) ?_ ?_ ?_)))))))))))
 ·exact⟨Lan _,LackI.none X,Acc.none,fun b hb=>hb,Lad _⟩
 ·exact Af wN (Ac (by repeat(exact C6)) Ae)
 rintro⟨k,s,bl,B,out⟩ ⟨hk,hM,hac,hsub,hlen⟩;simp only at hk hM hac hsub hlen ⊢;refine .seq (.sr (.m J J J (.m J J J (.nC J J J (.fld J J J Y120.h J Sz118 dE _ J (.loadE J J J Y118.h J sP (hcO) (.lenSl J J J Y118.h (.lss J J J J J (.na (.condP J (fun hc0=>?_) (fun hc0=>?_)))))))))))
 ·
  have hk2:k<x.O.length:=by omega
  obtain⟨e,hd⟩:∃e,x.O[k]? =some e:=⟨_,La4 hk2⟩;have hen:=hx.entO e (Lb1 hd);have hek:=hen.1;obtain⟨b,o,hbp,hbs⟩:=rd_open hsO hx.okO hk2;refine .skip (Bj (.seq (.block (.sr (.m J J J (.nC J J J (.fld J J J Y120.h J Sz118 dE _ J (.loadE J J J Y118.h J sP (hcO) (.m J J J (.idxSlP 163 J J J hbp J Y118.h Sz122 k (by rfl) oM ?_))))))))));refine .fld J J J Y122.h J Sz37 dE _ J (.loadEN e.1.fBlock.cells J J J Y37.h J Sz37 sP (Block.length hek.o_fBlock) (rk_blk hbs hx.okO hd) (.call4 J J J J J Body39 (r15_parA e.1.fBlock e.2 oM) (fun w h=>hen.2.1.2 w (rd_cb (Bm hW h))) ?_));rintro v24 out24 ⟨sPq,rfl,hacP⟩;have hnP:=hacP.num;have hprow:=parL_row (hen.2.1.2 _ (rd_cb hW)).dok;have hpl:=parL_len e.2;refine .a J J J (.nsr (.a J J J (.na (.block (.loop (ι:=Nat×Sl×List Blk×List Blk×List (List UInt8)) (fun y=>⟨[(0,ptr p 0),(3,y.2.1.v),(4,i64 (k:Int)),(5,sPq.v),(6,i64 (y.1:Int))],(out24++(y.2.2.2.1++[]))⟩) (fun y=>y.1≤(Bk e.2).length∧LackI X (parsQ (x.Q.take k)++(Bk e.2).take y.1) y.2.2.2.2∧Hw.Acc y.2.1 y.2.2.1 (Ap y.2.2.2.2) 31 y.2.2.2.2.length 32∧(∀b∈y.2.2.1,b∈y.2.2.2.1)∧y.2.2.2.2.length≤17*k+y.1) (fun y=>(Bk e.2).length-y.1) ((0,s,bl,B,out)) ?_ ?_ ?_)))))
  ·exact⟨Lan _,by simpa using hM,hac,hsub,hlen⟩
  ·exact Af wN (Ac sG (Ac sG Ae))
  rintro⟨j,s2,bl2,B2,out2⟩ ⟨hj,hM2,hac2,hsub2,hlen2⟩;simp only at hj hM2 hac2 hsub2 hlen2 ⊢;refine .seq (.sr (.m J J J (.m J J J (.lenSl J J J Y32.h (.lss J J J J J (.na (.condP J (fun hc1=>?_) (fun hc1=>?_))))))))
  ·
   have hj2:j<(Bk e.2).length:=by omega
   obtain⟨pp,hpp⟩:∃q,q=(Bk e.2).getD j []:=⟨_,rfl⟩;clear h32pp;have h32pp:pp.length=32:=by rw[hpp];exact hprow _ (Cc hj2)
   obtain⟨b8,o8,hp8,see8⟩:=par_open hacP oM hprow;refine .skip (Bj (.seq (.block (.seq (.draw (oPq [0,1,2,3,104,305,6,7,8,9,10,111,12,13,14,115,316,17,18]) Ar zK (.m J J J (.m J J J (.m J J J (.idxSlP 32 J J J hp8 J Y32.h Sz31 j J oM (.loadSN (n:=32) (Aa pp) J J J Y31.h J Sz31 (by rw[Aa,La0];exact h32pp) (fun w h=>by rw[hpp];exact see8 w (Lies.of h (by repeat(exact Aw))) j oM) ?_))))))))));refine .callB J J J J Body31 (rd_has x hx p pp h32pp) (fun w h=>Bm hW h) (fun hs9_50=>?_) (fun hs9_50=>?_)
   ·
    have hs9_5:=hs9_50;refine .not J J J (.m J J J (.skp J J (.skp J J (.skp J J (.skp J J (.skp J J (.skp J J (.skp J J (.skp J J (.skp J J (.skp J J (.pick J J J J J J (.na (.cond_f J J (.skip (bl_n (Bj (.region (.m J J J (.aI J J J J oM (.a J J J (.na ?_))))))))))))))))))))));exact⟨(j+1,s2,bl2,B2,out2),⟨by simp only;omega,by simp only;rw[Cg oM,←La8,←hpp];exact hM2.skip (lacks_has hr hs9_5),hac2,hsub2,by simp only;omega⟩,by simp only;omega,Af wN (Ac sG (Ac sG Ae))⟩
   have hs9_5:=hs9_50;refine .not J J J (.m J J J (.m J J J (.nC J J J (.fld J J J Y120.h J Sz118 dE _ J (.loadE J J J Y118.h J sP (hcO) (.m J J J (.m J J J (.idxSlP 32 J J J hp8 J Y32.h Sz31 j J oM (.loadSN (n:=32) (Aa pp) J J J Y31.h J Sz31 (by rw[Aa,La0];exact h32pp) (fun w h=>by rw[hpp];exact see8 w (Lies.of h (by repeat(exact Aw))) j oM) ?_)))))))));refine .cV J J J J Body75 (rd_find x.sO x.O hnO.symm hx.okO oM pp h32pp) (fun w h=>A5 h J hsO) (.lss J J J J J (.pick J J J J J J (.na (.condP J (fun hc2=>?_) (fun hc2=>?_)))))
   ·
    refine .region (.m J J J (.m J J J (.m J J J (.idxSlP 32 J J J hp8 J Y32.h Sz31 j J oM (.loadSN (n:=32) (Aa pp) J J J Y31.h J Sz31 (by rw[Aa,La0];exact h32pp) (fun w h=>by rw[hpp];exact see8 w (Lies.of h (by repeat(exact Aw))) j oM) ?_)))));refine .call4 J J J J J Body76 (rd_putU s2 bl2 out2 hac2 hM2.l32 hM2.srt hM2.nd oM pp h32pp) (fun w h=>(Lies.of h (by repeat(first|exact Aw|refine Bl ?_)):Lies B2 w).sub hsub2) ?_;rintro v55 out55 ⟨s55,bl55,rfl,hac55,hsub55⟩;have hput:=put_len (l:=out2) (n:=pp);refine .a J J J (.nil (bl_n (Bj (.region (.m J J J (.aI J J J J oM (.a J J J (.na ?_))))))));exact⟨(j+1,s55,bl55,out55++B2,putB out2 pp),⟨by simp only;omega,by simp only;rw[Cg oM,←La8,←hpp];exact hM2.put (lacks_yes hr (by simpa using hs9_5) oM) h32pp,hac55,fun b hb=>by rcases Laa.1 (hsub55 b hb)with h|h;exact Lao _ h;exact Lau _ (hsub2 b h),by simp only;omega⟩,by simp only;omega,Af wN (Ac (by repeat(first|exact Cr|apply C2)) (pm_two (Ac sG (Ac sG Ae))))⟩
   refine .skip (bl_n (Bj (.region (.m J J J (.aI J J J J oM (.a J J J (.na ?_)))))));exact⟨(j+1,s2,bl2,B2,out2),⟨by simp only;omega,by simp only;rw[Cg oM,←La8,←hpp];exact hM2.skip (lacks_orp hr oM),hac2,hsub2,by simp only;omega⟩,by simp only;omega,Af wN (Ac sG (Ac sG Ae))⟩
  have hje:j=(Bk e.2).length:=by omega
  refine .exit (at_x (at_x (bl_h (bl_n (Bj (.region (.m J J J (.aI J J J J oM (.a J J J (.na ?_))))))))));exact⟨(k+1,s2,bl2,out24++B2,out2),⟨by simp only;omega,by simp only;rw[parsQ_snoc (show x.Q[k]? =some (e.1.fName,e.2)from rp_at hd)];rw[hje,Ld1]at hM2;exact hM2,hac2,fun b hb=>Lau _ (hsub2 b hb),by simp only;omega⟩,by simp only;omega,Af wN (pm_two (Ac sG (Ac sG Ae)))⟩
 have hke:k=x.O.length:=by omega
 refine .exit (at_x (at_x (bl_h (Bj (.sr (.m J J J (.a J J J (.na ?_))))))));refine .ret (C8 (Au (out:=(B++[])) (Ag J J) (Ac sG Ae) ?_));have hq:x.Q.length=x.O.length:=La0 _;rw[La3 oM]at hM;obtain rfl:=hM.fin hr;exact rowX_of hac (fun b hb=>by simpa using hsub b hb) hM.l32
theorem rd_hasF(x:RD)(hx:x.ok)(p:Nat)(n:List UInt8)(h32:n.length=32){b:Bool}(h:(An x.P n).isSome=b):Mv 31 [ptr p 0,agg (Aa n)] (fun W=>Lies (x.blks p) W) (.bool b):=by
  rw[←h];exact rd_has x hx p n h32
theorem nodup_take{l:List (List UInt8)}(h:l.Nodup)(hk:k<l.length):l.getD k []∉l.take k:=fun hm=>by
  obtain⟨j,hj,e⟩:=Lbm hm;rw[Lab]at hj;rw[Lew,La5,La4 hk]at e;have:=(List.getElem_inj h).1 e;omega
theorem law_wantasks(s:Sl)(ds:List DB)(sx:Sl)(lx:List Int):Mv 4 [s.v,sx.v] (fun W=>BlocksAt W s ds∧IntsAt W sx lx) (.bool true):=by
 intro W hW;have h32n:True:=trivial;refine Ad func4 J 224 ntmps4 J (G8 ?_);refine .cV J J J J Body21 (law24_lives) tV (G3 ?_);refine .cond_f J J (G6 ?_);refine .callB J J J J Body22 (lightd_blocks s ds 20) (fun w h=>Blocks_ext h J hW.1) (fun hs3_10=>?_) (fun hs3_10=>?_)
 ·
  have hs3_1:=hs3_10;refine G8 ?_;refine .condP J (fun hc1=>?_) (fun hc1=>?_)
  ·
   refine G5 ?_;refine G3 ?_;refine Au (out:=[]) (Ag J J) Ae ?_;exact⟨rfl,rfl⟩
  have hsm0:lightOf lightBf ds 20=true:=by simpa using hs3_1
  obtain⟨hd20,hsm⟩:=light_ats hsm0;obtain⟨rs0,hs0⟩:=id hW.1;have hsn0:=hs0.nd;refine G5 ?_;refine .call4 J J J J J Body23 (law24_filled s ds oM hsm) (fun w h=>Blocks_ext h J hW.1) ?_;rintro v33 out33 ⟨p,x,rfl,rfl,hx,hplx,hnx⟩;have hI:x.pl.Inv:=by rw[hplx];exact PD.Inv.fill _ PD.Inv.new
  refine G1 ?_;refine .call4 J J J J J Body24 (law24_known s ds oM hsm) (fun w h=>Blocks_ext h J hW.1) ?_;rintro v35 out35 ⟨pr,y,rfl,rfl,hy,hrel,hny⟩;rw[←hplx]at hrel;refine G7 ?_;refine .call4 J J J J J Body26 (law24_all s ds oM) (fun w h=>Blocks_ext h J hW.1) ?_;rintro v37 out37 ⟨s37,rfl,hac37⟩;have hn37:∀l∈ds.map A4,l.length=32:=fun l hl=>by obtain⟨d,_,rfl⟩:=La6.1 hl;exact nameD_length d
  have hl37:(ds.map A4).length=ds.length:=La0 _;refine G1 ?_;refine .call4 J J J J J Body25 (law24_picked s37 (ds.map A4) sx lx oM) (fun w h=>⟨C9 hac37 (Lies.of h (by repeat(exact Aw))) hn37 J oM,ints_ext h J hW.2⟩) ?_;rintro v39 out39 ⟨sH,hs,rfl,hacH,hs32,hsl⟩;have hnH:=hacH.num;have hsxn:=hW.2.nd;refine G7 ?_;refine .call4 J J J J J Body28 (kit_namesA sH hs oM) (fun w h=>C9 hacH (Lies.of h (by repeat(exact Aw))) hs32 J oM) ?_;rintro v42 out42 ⟨s42,rfl,hac42⟩;refine .call4 J J J J J Body27 (want_askG x hx hI p s42 hs oM) (fun w h=>⟨Lies.of h (by repeat(first|exact Aw|refine A2 ?_|refine Bl ?_)),C9 hac42 (Lies.of h (by repeat(exact Aw))) hs32 J oM⟩) ?_;rintro v43 out43 ⟨sA,rfl,hacA⟩;have hal:=ask_len x.pl hs;obtain⟨ak,hak⟩:∃l,l=askL x.pl hs:=⟨_,rfl⟩;rw[←hak]at hacA hal;have hnA:=hacA.num;refine G4 ?_;refine .know (F:=∀l∈x.pl.missing,l.length=32) (fun w h=>miss_32 hx (p:=p) (Lies.of h (by repeat(first|exact Aw|refine A2 ?_|refine Bl ?_)))) (fun hm32=>?_);have ho32:=orph_32 hx;have hml:=miss_len hx;have hso:x.pl.orphans.length≤64:=by unfold PD.orphans;rw[(Ck _).length_eq,orp_keys,La0];exact hx.orpn
  have hak32:∀l∈ak,l.length=32:=fun l hl=>(ask_of (hak▸hl)).2.2.elim (hs32 l) (hm32 l);have hand:ak.Nodup:=hak▸ask_nd x.pl hs;refine .region (.mkMap (Aj 32 evI) J J ?_);intro m44;refine .mkMap (Aj 32 evI) J J ?_;intro m45;refine .mkMap (Aj 32 evI) J J ?_;intro m46;refine .mkMap (Aj 32 evI) J J ?_;intro m47;refine G13 ?_;refine .loop (ι:=Nat×List (List UInt8×Int)) (fun r=>⟨[(5,ptr p 0),(6,ptr pr 0),(7,sH.v),(8,sA.v),(9, .map (some m44)),(10, .map (some m45)),(11, .map (some m46)),(12, .map (some m47)),(13,i64 (r.1:Int))],(A3 m44 (Aj 32 evI) r.2::(A3 m45 (Aj 32 evI) []::(A3 m46 (Aj 32 evI) []::(A3 m47 (Aj 32 evI) []::(out43++(out39++(y.blks pr++[])))))))⟩) (fun r=>r.1≤sH.n∧KI r.2 (fun n=>n∈hs.take r.1)) (fun r=>sH.n-r.1) ((0,[])) ?_ ?_ ?_
  ·exact⟨Lan _,KI.none.iff fun n=>by simp⟩
  ·exact Af wN (Ab rM (Ab rM (Ab rM (Ab rM (Ac sG (Ac (by repeat(first|exact Cr|apply C2)) (Ac (by repeat(first|exact Cr|apply C2)) Ae)))))))
  rintro⟨k,im⟩ ⟨hk,hKI⟩;simp only at hk hKI ⊢;refine G9 ?_;refine .condP J (fun hc2=>?_) (fun hc2=>?_)
  ·
   have hk2:k<sH.n:=by omega
   obtain⟨nn,hnn⟩:∃n,n=hs.getD k []:=⟨_,rfl⟩;clear h32n;have h32n:nn.length=32:=by rw[hnn];exact hs32 _ (Cc oM)
   obtain⟨bE,oE,hpE,seE⟩:=par_open hacH oM hs32;refine G8 ?_;refine .idxSlP 32 J J J hpE J Y32.h Sz31 k J oM (.loadSN (n:=32) (Aa nn) J J J Y31.h J Sz31 (by rw[Aa,La0];exact h32n) (fun w h=>by rw[hnn];exact seE w (Lies.of h (by repeat(first|exact Aw|refine A2 ?_|refine Bl ?_))) k oM) ?_);refine .mapPut (v:=(1:Int)) MI J J J J J h32n rM ?_;refine G9 ?_;exact⟨(k+1,Be im nn 1),⟨by simp only;omega,hKI.put h32n fun n=>by rw[Cg oM,Laa,La1,←hnn]⟩,by simp only;omega,Af wN (Ab rM (Ab rM (Ab rM (Ab rM (Ac sG (Ac sG (Ac sG Ae)))))))⟩
  have hke:k=sH.n:=by omega
  obtain⟨hm,rfl⟩:∃z,z=im:=⟨_,rfl⟩;have hHM:KI hm (fun n=>n∈hs):=hKI.iff fun n=>by rw[La3 oM]
  refine G8 ?_;refine .call4 J J J J J Body29 (rd_orphans y hy pr) (fun w h=>Lies.of h (by repeat(first|exact Aw|refine A2 ?_|refine Bl ?_))) ?_;rintro v60 out60 ⟨sO,rfl,hacO⟩;rw[rk_orphans hrel]at hacO;have hnO:=hacO.num;refine G1 ?_;refine .call4 J J J J J Body30 (rd_missing y hy pr x.pl hrel) (fun w h=>Lies.of h (by repeat(first|exact Aw|refine A2 ?_|refine Bl ?_))) ?_;rintro v62 out62 ⟨sM,rfl,hnM,hpM⟩;refine G11 ?_;refine .loop (ι:=Nat×List (List UInt8×Int)) (fun r=>⟨[(5,ptr p 0),(6,ptr pr 0),(7,sH.v),(8,sA.v),(9, .map (some m44)),(10, .map (some m45)),(11, .map (some m46)),(12, .map (some m47)),(14,sO.v),(15,sM.v),(16,i64 (r.1:Int))],(A3 m44 (Aj 32 evI) hm::(A3 m45 (Aj 32 evI) r.2::(A3 m46 (Aj 32 evI) []::(A3 m47 (Aj 32 evI) []::(out43++(out39++(y.blks pr++(out60++(out62++[])))))))))⟩) (fun r=>r.1≤sO.n∧KI r.2 (fun n=>n∈x.pl.orphans.take r.1)) (fun r=>sO.n-r.1) ((0,[])) ?_ ?_ ?_
  ·exact⟨Lan _,KI.none.iff fun n=>by simp⟩
  ·exact Af wN (Ab (by repeat(first|exact A6|apply B4)) (Ab (by repeat(first|exact A6|apply B4)) (Ab (by repeat(first|exact A6|apply B4)) (Ab (by repeat(first|exact A6|apply B4)) (Ac (by repeat(first|exact Cr|apply C2)) (Ac (by repeat(first|exact Cr|apply C2)) (Ac (by repeat(first|exact Cr|apply C2)) (Ac (by repeat(first|exact Cr|apply C2)) (Ac sG Ae)))))))))
  rintro⟨k,im⟩ ⟨hk,hKI⟩;simp only at hk hKI ⊢;refine G9 ?_;refine .condP J (fun hc3=>?_) (fun hc3=>?_)
  ·
   have hk2:k<sO.n:=by omega
   obtain⟨nn,hnn⟩:∃n,n=x.pl.orphans.getD k []:=⟨_,rfl⟩;clear h32n;have h32n:nn.length=32:=by rw[hnn];exact ho32 _ (Cc oM)
   obtain⟨bE,oE,hpE,seE⟩:=par_open hacO oM ho32;refine G8 ?_;refine .idxSlP 32 J J J hpE J Y32.h Sz31 k J oM (.loadSN (n:=32) (Aa nn) J J J Y31.h J Sz31 (by rw[Aa,La0];exact h32n) (fun w h=>by rw[hnn];exact seE w (Lies.of h (by repeat(first|exact Aw|refine A2 ?_|refine Bl ?_))) k oM) ?_);refine .mapPut (v:=(1:Int)) MI J J J J J h32n rM ?_;refine G9 ?_;exact⟨(k+1,Be im nn 1),⟨by simp only;omega,hKI.put h32n fun n=>by rw[Cg oM,Laa,La1,←hnn]⟩,by simp only;omega,Af wN (Ab rM (Ab rM (Ab rM (Ab rM (Ac sG (Ac sG (Ac sG (Ac sG (Ac sG Ae)))))))))⟩
  have hke:k=sO.n:=by omega
  obtain⟨om,rfl⟩:∃z,z=im:=⟨_,rfl⟩;have hOM:KI om (fun n=>n∈x.pl.orphans):=hKI.iff fun n=>by rw[La3 oM]
  refine G12 ?_;refine .loop (ι:=Nat×List (List UInt8×Int)) (fun r=>⟨[(5,ptr p 0),(6,ptr pr 0),(7,sH.v),(8,sA.v),(9, .map (some m44)),(10, .map (some m45)),(11, .map (some m46)),(12, .map (some m47)),(14,sO.v),(15,sM.v),(17,i64 (r.1:Int))],(A3 m44 (Aj 32 evI) hm::(A3 m45 (Aj 32 evI) om::(A3 m46 (Aj 32 evI) r.2::(A3 m47 (Aj 32 evI) []::(out43++(out39++(y.blks pr++(out60++(out62++[])))))))))⟩) (fun r=>r.1≤sM.n∧KI r.2 (fun n=>n∈x.pl.missing.take r.1)) (fun r=>sM.n-r.1) ((0,[])) ?_ ?_ ?_
  ·exact⟨Lan _,KI.none.iff fun n=>by simp⟩
  ·exact Af wN (Ab rM (Ab rM (Ab rM (Ab rM (Ac sG (Ac sG (Ac sG (Ac sG (Ac sG Ae)))))))))
  rintro⟨k,im⟩ ⟨hk,hKI⟩;simp only at hk hKI ⊢;refine G9 ?_;refine .condP J (fun hc4=>?_) (fun hc4=>?_)
  ·
   have hk2:k<sM.n:=by omega
   obtain⟨nn,hnn⟩:∃n,n=x.pl.missing.getD k []:=⟨_,rfl⟩;clear h32n;have h32n:nn.length=32:=by rw[hnn];exact hm32 _ (Cc oM)
   obtain⟨bE,oE,hpE,seE⟩:=hpM oM;refine G8 ?_;refine .idxSlP 32 J J J hpE J Y32.h Sz31 k J oM (.loadSN (n:=32) (Aa nn) J J J Y31.h J Sz31 (by rw[Aa,La0];exact h32n) (fun w h=>by rw[hnn];exact seE w (Lies.of h (by repeat(first|exact Aw|refine A2 ?_|refine Bl ?_))) k oM) ?_);refine .mapPut (v:=(1:Int)) MI J J J J J h32n rM ?_;refine G9 ?_;exact⟨(k+1,Be im nn 1),⟨by simp only;omega,hKI.put h32n fun n=>by rw[Cg oM,Laa,La1,←hnn]⟩,by simp only;omega,Af wN (Ab rM (Ab rM (Ab rM (Ab rM (Ac sG (Ac sG (Ac sG (Ac sG (Ac sG Ae)))))))))⟩
  have hke:k=sM.n:=by omega
  obtain⟨mm,rfl⟩:∃z,z=im:=⟨_,rfl⟩;have hMM:KI mm (fun n=>n∈x.pl.missing):=hKI.iff fun n=>by rw[La3 oM]
  refine G12 ?_;refine .loop (ι:=Nat×List (List UInt8×Int)) (fun r=>⟨[(5,ptr p 0),(6,ptr pr 0),(7,sH.v),(8,sA.v),(9, .map (some m44)),(10, .map (some m45)),(11, .map (some m46)),(12, .map (some m47)),(14,sO.v),(15,sM.v),(18,i64 (r.1:Int))],(A3 m44 (Aj 32 evI) hm::(A3 m45 (Aj 32 evI) om::(A3 m46 (Aj 32 evI) mm::(A3 m47 (Aj 32 evI) r.2::(out43++(out39++(y.blks pr++(out60++(out62++[])))))))))⟩) (fun r=>r.1≤sA.n∧KI r.2 (fun n=>n∈ak.take r.1)) (fun r=>sA.n-r.1) ((0,[])) ?_ ?_ ?_
  ·exact⟨Lan _,KI.none.iff fun n=>by simp⟩
  ·exact Af wN (Ab rM (Ab rM (Ab rM (Ab rM (Ac sG (Ac sG (Ac sG (Ac sG (Ac sG Ae)))))))))
  rintro⟨k,im⟩ ⟨hk,hKI⟩;simp only at hk hKI ⊢;refine G9 ?_;refine .condP J (fun hc5=>?_) (fun hc5=>?_)
  ·
   have hk2:k<sA.n:=by omega
   obtain⟨nn,hnn⟩:∃n,n=ak.getD k []:=⟨_,rfl⟩;clear h32n;have h32n:nn.length=32:=by rw[hnn];exact hak32 _ (Cc oM)
   obtain⟨bE,oE,hpE,seE⟩:=par_open hacA oM hak32;have hkl:k<ak.length:=by omega
   have hnm:nn∈askL x.pl hs:=by rw[←hak,hnn];exact Cc hkl
   obtain⟨hnh,hno,hnx⟩:=ask_of hnm;have hPn:(An y.P nn).isSome=false:=by rw[hrel.p];exact hnh
   have hnt:nn∉ak.take k:=by rw[hnn];exact nodup_take hand hkl
   obtain⟨pv,hpv⟩:∃n,n=ak.getD (k-1) []:=⟨_,rfl⟩;have h32p:pv.length=32:=by rw[hpv];exact hak32 _ (Cc oM)
   have hord:0<k→((nn∈hs→pv∈hs)∧((nn∈hs↔pv∈hs)→Ce pv nn<0)):=fun h0=>by have h9:=ask_ord (X:=x.pl) (hs:=hs) h0 (by rw[←hak];exact hkl);rw[←hak,←hnn,←hpv]at h9;exact h9
   refine G8 ?_;refine .idxSlP 32 J J J hpE J Y32.h Sz31 k J oM (.loadSN (n:=32) (Aa nn) J J J Y31.h J Sz31 (by rw[Aa,La0];exact h32n) (fun w h=>by rw[hnn];exact seE w (Lies.of h (by repeat(first|exact Aw|refine A2 ?_))) k oM) ?_);refine .alloc (cs:=(Aa (List.replicate 32 0))) J B1 J ?_;intro n19 hn19 hf19;refine .sA J J J J zE Sz31 (by(simp[h32n];done)) Z0 sP zU ?_;refine G2 ?_;refine .join (ι:=Unit) (fun u=>⟨[(5,ptr p 0),(6,ptr pr 0),(7,sH.v),(8,sA.v),(9, .map (some m44)),(10, .map (some m45)),(11, .map (some m46)),(12, .map (some m47)),(14,sO.v),(15,sM.v),(18,i64 (k:Int)),(19,ptr n19 0)],(A3 m44 (Aj 32 evI) hm::(A3 m45 (Aj 32 evI) om::(A3 m46 (Aj 32 evI) mm::(A3 m47 (Aj 32 evI) im::(out43++(out39++(y.blks pr++(out60++(out62++(⟨n19,Aa nn,31,(Aa (List.replicate 32 0)).length⟩::[]))))))))))⟩) (fun u=>True) ?_ ?_
   ·
    refine G3 ?_;refine .lA J J J Y31.h J Sz31 Z0 (by(simp[h32n];done)) ?_;refine .lookG (fs:=im) evI MI J J J J h32n Z4 (fun hg=>?_) (fun v hg=>(hnt (hKI.yes hg).2).elim);refine .nei J J J J (show(!decide _)=false from congrArg not (decide_eq_true (dE))) (G2 ?_);refine .lA J J J Y31.h J Sz31 Z0 (by(simp[h32n];done)) ?_;refine .cV J J J J Body31 (rd_hasF y hy pr nn h32n hPn) (fun w h=>Lies.of h (by repeat(first|exact Aw|refine A2 ?_|refine Bl ?_))) ?_;refine G3 ?_;refine .lA J J J Y31.h J Sz31 Z0 (by(simp[h32n];done)) ?_;refine .lookG (fs:=om) evI MI J J J J h32n Z2 (fun hg=>?_) (fun v hg=>(hno (hOM.yes hg).2).elim);refine .nei J J J J (show(!decide _)=false from congrArg not (decide_eq_true (dE))) (G3 ?_);refine .lA J J J Y31.h J Sz31 Z0 (by(simp[h32n];done)) ?_;refine .lookG (fs:=hm) evI MI J J J J h32n Z1 (fun hg=>?_) (fun v hg=>?_)
    ·
     have hb0:=hHM.no hg;refine .eqi J J J J (decide_eq_true (dE)) (G2 ?_);refine .lA J J J Y31.h J Sz31 Z0 (by(simp[h32n];done)) ?_;refine .lookG (fs:=mm) evI MI J J J J h32n Z3 (fun hg=>(hMM.no hg (hnx.resolve_left hb0)).elim) (fun v hg=>?_);obtain rfl:=(hMM.yes hg).1;refine .eqi J J J J (decide_eq_false (dE)) (G4 ?_);refine .cond_f J J (G2 ?_);exact⟨(),trivial,Af wN (Ab rM (Ab rM (Ab rM (Ab rM (Ac sG (Ac sG (Ac sG (Ac sG (Ac sG (Ab rM Ae))))))))))⟩
    obtain⟨rfl,hb0⟩:=hHM.yes hg;refine .eqi J J J J (decide_eq_false (dE)) (G9 ?_);refine .cond_f J J (G2 ?_);exact⟨(),trivial,Af wN (Ab rM (Ab rM (Ab rM (Ab rM (Ac sG (Ac sG (Ac sG (Ac sG (Ac sG (Ab rM Ae))))))))))⟩
   intro u hj;skip;refine .join (ι:=Unit) (fun u=>⟨[(5,ptr p 0),(6,ptr pr 0),(7,sH.v),(8,sA.v),(9, .map (some m44)),(10, .map (some m45)),(11, .map (some m46)),(12, .map (some m47)),(14,sO.v),(15,sM.v),(18,i64 (k:Int)),(19,ptr n19 0)],(A3 m44 (Aj 32 evI) hm::(A3 m45 (Aj 32 evI) om::(A3 m46 (Aj 32 evI) mm::(A3 m47 (Aj 32 evI) im::(out43++(out39++(y.blks pr++(out60++(out62++(⟨n19,Aa nn,31,(Aa (List.replicate 32 0)).length⟩::[]))))))))))⟩) (fun u=>True) ?_ ?_
   ·
    refine .seq (.draw (oPq [0,1,2,3,104,105,6,7,8,9,10,11,12,113,114,15,16,17,18,119,120,21,22,23,24,25,26,127,128,29,30,31,32,33,34,35,136,137,338,39,40,41,42]) Ar zK (G1 ?_));refine two (fun r hr k=>Tr.gtr J J J J hr k) (fun hs28_10=>?_) (fun hs28_10=>?_)
    ·
     have hs28_1:=of_decide_eq_true hs28_10;refine G2 ?_;refine .lA J J J Y31.h J Sz31 mR (by(simp[h32n];done)) ?_;refine .lookG (fs:=hm) evI MI J J J J h32n Z0 (fun hg=>?_) (fun v hg=>?_)
     ·
      have hb1:=hHM.no hg;refine .nei J J J J (show(!decide _)=false from congrArg not (decide_eq_true (dE))) (G12 ?_);refine .lA J J J Y31.h J Sz31 mR (by(simp[h32n];done)) ?_;refine .lookG (fs:=hm) evI MI J J J J h32n Z0 (fun hg=>?_) (fun v hg=>(hb1 (hHM.yes hg).2).elim);refine .nei J J J J (show(!decide _)=false from congrArg not (decide_eq_true (dE))) (G4 ?_);refine .idxSlP 32 J J J hpE J Y32.h Sz31 (k-1) oM oM (.loadSN (n:=32) (Aa pv) J J J Y31.h J Sz31 (by rw[Aa,La0];exact h32p) (fun w h=>by rw[hpv];exact seE w (Lies.of h (by repeat(first|exact Aw|refine A2 ?_))) (k-1) oM) ?_);refine .lookG (fs:=hm) evI MI J J J J h32p Z0 (fun hg=>?_) (fun v hg=>?_)
      ·
       have hb2:=hHM.no hg;refine .nei J J J J (show(!decide _)=false from congrArg not (decide_eq_true (dE))) (.eqb J J J J Y4 J (G4 ?_));refine .idxSlP 32 J J J hpE J Y32.h Sz31 (k-1) oM oM (.loadSN (n:=32) (Aa pv) J J J Y31.h J Sz31 (by rw[Aa,La0];exact h32p) (fun w h=>by rw[hpv];exact seE w (Lies.of h (by repeat(first|exact Aw|refine A2 ?_))) (k-1) oM) ?_);refine .lA J J J Y31.h J Sz31 mR (by(simp[h32n];done)) ?_;refine .cV J J J J Body14 (r15_cmp pv nn h32p h32n) tV (.geq J J J J (decide_eq_false (by have:=(hord oM).2 (iff_of_false hb1 hb2);omega)) ?_);refine G5 ?_;refine .cond_f J J (G2 ?_);exact⟨(),trivial,Af wN (Ab rM (Ab rM (Ab rM (Ab rM (Ac sG (Ac sG (Ac sG (Ac sG (Ac sG (Ab rM Ae))))))))))⟩
      obtain⟨rfl,hb2⟩:=hHM.yes hg;refine .nei J J J J (show(!decide _)=true from congrArg not (decide_eq_false (dE))) (.eqb J J J J Y4 J (G14 ?_));refine .cond_f J J (G2 ?_);exact⟨(),trivial,Af wN (Ab rM (Ab rM (Ab rM (Ab rM (Ac sG (Ac sG (Ac sG (Ac sG (Ac sG (Ab rM Ae))))))))))⟩
     obtain⟨rfl,hb1⟩:=hHM.yes hg;refine .nei J J J J (show(!decide _)=true from congrArg not (decide_eq_false (dE))) (G5 ?_);refine .idxSlP 32 J J J hpE J Y32.h Sz31 (k-1) oM oM (.loadSN (n:=32) (Aa pv) J J J Y31.h J Sz31 (by rw[Aa,La0];exact h32p) (fun w h=>by rw[hpv];exact seE w (Lies.of h (by repeat(first|exact Aw|refine A2 ?_))) (k-1) oM) ?_);refine .lookG (fs:=hm) evI MI J J J J h32p Z0 (fun hg=>(hHM.no hg ((hord oM).1 hb1)).elim) (fun v hg=>?_);obtain rfl:=(hHM.yes hg).1;refine .eqi J J J J (decide_eq_false (dE)) (G3 ?_);refine .lA J J J Y31.h J Sz31 mR (by(simp[h32n];done)) ?_;refine .lookG (fs:=hm) evI MI J J J J h32n Z0 (fun hg=>(hHM.no hg hb1).elim) (fun v hg=>?_);obtain rfl:=(hHM.yes hg).1;refine .nei J J J J (show(!decide _)=true from congrArg not (decide_eq_false (dE))) (G4 ?_);refine .idxSlP 32 J J J hpE J Y32.h Sz31 (k-1) oM oM (.loadSN (n:=32) (Aa pv) J J J Y31.h J Sz31 (by rw[Aa,La0];exact h32p) (fun w h=>by rw[hpv];exact seE w (Lies.of h (by repeat(first|exact Aw|refine A2 ?_))) (k-1) oM) ?_);refine .lookG (fs:=hm) evI MI J J J J h32p Z0 (fun hg=>?_) (fun v hg=>?_)
     ·
      have hb2:=hHM.no hg;refine .nei J J J J (show(!decide _)=false from congrArg not (decide_eq_true (dE))) (.eqb J J J J Y4 J (G14 ?_));refine .cond_f J J (G2 ?_);exact⟨(),trivial,Af wN (Ab rM (Ab rM (Ab rM (Ab rM (Ac sG (Ac sG (Ac sG (Ac sG (Ac sG (Ab rM Ae))))))))))⟩
     obtain⟨rfl,hb2⟩:=hHM.yes hg;refine .nei J J J J (show(!decide _)=true from congrArg not (decide_eq_false (dE))) (.eqb J J J J Y4 J (G4 ?_));refine .idxSlP 32 J J J hpE J Y32.h Sz31 (k-1) oM oM (.loadSN (n:=32) (Aa pv) J J J Y31.h J Sz31 (by rw[Aa,La0];exact h32p) (fun w h=>by rw[hpv];exact seE w (Lies.of h (by repeat(first|exact Aw|refine A2 ?_))) (k-1) oM) ?_);refine .lA J J J Y31.h J Sz31 mR (by(simp[h32n];done)) ?_;refine .cV J J J J Body14 (r15_cmp pv nn h32p h32n) tV (.geq J J J J (decide_eq_false (by have:=(hord oM).2 (iff_of_true hb1 hb2);omega)) ?_);refine G5 ?_;refine .cond_f J J (G2 ?_);exact⟨(),trivial,Af wN (Ab rM (Ab rM (Ab rM (Ab rM (Ac sG (Ac sG (Ac sG (Ac sG (Ac sG (Ab rM Ae))))))))))⟩
    have hs28_1:=of_decide_eq_false hs28_10;refine G43 ?_;refine .cond_f J J (G2 ?_);exact⟨(),trivial,Af wN (Ab rM (Ab rM (Ab rM (Ab rM (Ac sG (Ac sG (Ac sG (Ac sG (Ac sG (Ab rM Ae))))))))))⟩
   intro u hj;skip;refine G2 ?_;refine .lA J J J Y31.h J Sz31 mR (by(simp[h32n];done)) ?_;refine .mapPut (v:=(1:Int)) MI J J J J J h32n rM ?_;refine G9 ?_;exact⟨(k+1,Be im nn 1),⟨by simp only;omega,hKI.put h32n fun n=>by rw[Cg oM,Laa,La1,←hnn]⟩,by simp only;omega,Af wN (Ab rM (Ab rM (Ab rM (Ab rM (Ac sG (Ac sG (Ac sG (Ac sG (Ac sG Ae)))))))))⟩
  have hke:k=sA.n:=by omega
  have hIM:KI im (fun n=>n∈ak):=hKI.iff fun n=>by rw[La3 oM]
  refine G5 ?_;refine .join (ι:=Unit) (fun u=>⟨[(5,ptr p 0),(6,ptr pr 0),(7,sH.v),(8,sA.v),(9, .map (some m44)),(10, .map (some m45)),(11, .map (some m46)),(12, .map (some m47)),(14,sO.v),(15,sM.v)],(A3 m44 (Aj 32 evI) hm::(A3 m45 (Aj 32 evI) om::(A3 m46 (Aj 32 evI) mm::(A3 m47 (Aj 32 evI) im::(out43++(out39++(y.blks pr++(out60++(out62++[])))))))))⟩) (fun u=>True) ?_ ?_
  ·
   refine G6 ?_;refine .loop (ι:=Nat) (fun k=>⟨[(5,ptr p 0),(6,ptr pr 0),(7,sH.v),(8,sA.v),(9, .map (some m44)),(10, .map (some m45)),(11, .map (some m46)),(12, .map (some m47)),(14,sO.v),(15,sM.v),(20,i64 (k:Int))],(A3 m44 (Aj 32 evI) hm::(A3 m45 (Aj 32 evI) om::(A3 m46 (Aj 32 evI) mm::(A3 m47 (Aj 32 evI) im::(out43++(out39++(y.blks pr++(out60++(out62++[])))))))))⟩) (fun k=>k≤sH.n) (fun k=>sH.n-k) (0) ?_ ?_ ?_
   ·exact Lan _
   ·exact Af wN (Ab rM (Ab rM (Ab rM (Ab rM (Ac sG (Ac sG (Ac sG (Ac sG (Ac sG Ae)))))))))
   rintro k hk;refine G6 ?_;refine two (fun r hr k=>Tr.lss J J J J hr k) (fun hs32_30=>?_) (fun hs32_30=>?_)
   ·
    have hs32_3:=of_decide_eq_true hs32_30;refine G7 ?_;refine .condP J (fun hc8=>?_) (fun hc8=>?_)
    ·
     have hk2:k<sH.n:=by omega
     obtain⟨nn,hnn⟩:∃n,n=hs.getD k []:=⟨_,rfl⟩;clear h32n;have h32n:nn.length=32:=by rw[hnn];exact hs32 _ (Cc oM)
     obtain⟨bE,oE,hpE,seE⟩:=par_open hacH oM hs32;refine G9 ?_;refine .idxSlP 32 J J J hpE J Y32.h Sz31 k J oM (.loadSN (n:=32) (Aa nn) J J J Y31.h J Sz31 (by rw[Aa,La0];exact h32n) (fun w h=>by rw[hnn];exact seE w (Lies.of h (by repeat(first|exact Aw|refine A2 ?_|refine Bl ?_))) k oM) ?_);refine .lookG (fs:=im) evI MI J J J J h32n Z3 (fun hg=>?_) (fun v hg=>?_)
     ·
      have hb1:=hIM.no hg;refine .eqi J J J J (decide_eq_true (dE)) (G4 ?_);refine .idxSlP 32 J J J hpE J Y32.h Sz31 k J oM (.loadSN (n:=32) (Aa nn) J J J Y31.h J Sz31 (by rw[Aa,La0];exact h32n) (fun w h=>by rw[hnn];exact seE w (Lies.of h (by repeat(first|exact Aw|refine A2 ?_|refine Bl ?_))) k oM) ?_);refine .callB J J J J Body31 (rd_has y hy pr nn h32n) (fun w h=>Lies.of h (by repeat(first|exact Aw|refine A2 ?_|refine Bl ?_))) (fun hs34_130=>?_) (fun hs34_130=>?_)
      ·
       have hs34_13:=hs34_130;refine G13 ?_;refine .cond_f J J (G9 ?_);exact⟨k+1,by omega,by omega,Af wN (Ab rM (Ab rM (Ab rM (Ab rM (Ac sG (Ac sG (Ac sG (Ac sG (Ac sG Ae)))))))))⟩
      have hs34_13:=hs34_130;refine G6 ?_;refine .idxSlP 32 J J J hpE J Y32.h Sz31 k J oM (.loadSN (n:=32) (Aa nn) J J J Y31.h J Sz31 (by rw[Aa,La0];exact h32n) (fun w h=>by rw[hnn];exact seE w (Lies.of h (by repeat(first|exact Aw|refine A2 ?_|refine Bl ?_))) k oM) ?_);refine .lookG (fs:=om) evI MI J J J J h32n Z1 (fun hg=>?_) (fun v hg=>?_)
      ·
       exfalso;have hb2:=hOM.no hg;exact hb1 (by rw[hak];exact ask_all (by rw[←hak];omega) (.inl ⟨by rw[hnn];exact Cc oM,by unfold PD.has;rw[←hrel.p];exact hs34_13,hb2⟩))
      obtain⟨rfl,hb2⟩:=hOM.yes hg;refine .eqi J J J J (decide_eq_false (dE)) (G3 ?_);refine .cond_f J J (G9 ?_);exact⟨k+1,by omega,by omega,Af wN (Ab rM (Ab rM (Ab rM (Ab rM (Ac sG (Ac sG (Ac sG (Ac sG (Ac sG Ae)))))))))⟩
     obtain⟨rfl,hb1⟩:=hIM.yes hg;refine .eqi J J J J (decide_eq_false (dE)) (G20 ?_);refine .cond_f J J (G9 ?_);exact⟨k+1,by omega,by omega,Af wN (Ab rM (Ab rM (Ab rM (Ab rM (Ac sG (Ac sG (Ac sG (Ac sG (Ac sG Ae)))))))))⟩
    refine G5 ?_;exact⟨(),trivial,Af wN (Ab rM (Ab rM (Ab rM (Ab rM (Ac sG (Ac sG (Ac sG (Ac sG (Ac sG Ae)))))))))⟩
   have hs32_3:=of_decide_eq_false hs32_30;refine G7 ?_;refine .cond_f J J (G5 ?_);exact⟨(),trivial,Af wN (Ab rM (Ab rM (Ab rM (Ab rM (Ac sG (Ac sG (Ac sG (Ac sG (Ac sG Ae)))))))))⟩
  intro u hj;skip;refine .join (ι:=Unit) (fun u=>⟨[(8,sA.v)],[]⟩) (fun u=>True) ?_ ?_
  ·
   refine G6 ?_;refine .loop (ι:=Nat) (fun k=>⟨[(5,ptr p 0),(6,ptr pr 0),(7,sH.v),(8,sA.v),(9, .map (some m44)),(10, .map (some m45)),(11, .map (some m46)),(12, .map (some m47)),(14,sO.v),(15,sM.v),(21,i64 (k:Int))],(A3 m44 (Aj 32 evI) hm::(A3 m45 (Aj 32 evI) om::(A3 m46 (Aj 32 evI) mm::(A3 m47 (Aj 32 evI) im::(out43++(out39++(y.blks pr++(out60++(out62++[])))))))))⟩) (fun k=>k≤sM.n) (fun k=>sM.n-k) (0) ?_ ?_ ?_
   ·exact Lan _
   ·exact Af wN (Ab rM (Ab rM (Ab rM (Ab rM (Ac sG (Ac sG (Ac sG (Ac sG (Ac sG Ae)))))))))
   rintro k hk;refine G6 ?_;refine two (fun r hr k=>Tr.lss J J J J hr k) (fun hs37_30=>?_) (fun hs37_30=>?_)
   ·
    have hs37_3:=of_decide_eq_true hs37_30;refine G7 ?_;refine .condP J (fun hc10=>?_) (fun hc10=>?_)
    ·
     have hk2:k<sM.n:=by omega
     obtain⟨nn,hnn⟩:∃n,n=x.pl.missing.getD k []:=⟨_,rfl⟩;clear h32n;have h32n:nn.length=32:=by rw[hnn];exact hm32 _ (Cc oM)
     obtain⟨bE,oE,hpE,seE⟩:=hpM oM;refine G9 ?_;refine .idxSlP 32 J J J hpE J Y32.h Sz31 k J oM (.loadSN (n:=32) (Aa nn) J J J Y31.h J Sz31 (by rw[Aa,La0];exact h32n) (fun w h=>by rw[hnn];exact seE w (Lies.of h (by repeat(first|exact Aw|refine A2 ?_|refine Bl ?_))) k oM) ?_);refine .lookG (fs:=im) evI MI J J J J h32n Z3 (fun hg=>(hIM.no hg (by rw[hak];exact ask_all (by rw[←hak];omega) (.inr (by rw[hnn];exact Cc oM)))).elim) (fun v hg=>?_);obtain rfl:=(hIM.yes hg).1;refine .eqi J J J J (decide_eq_false (dE)) (G2 ?_);refine .cond_f J J (G9 ?_);exact⟨k+1,by omega,by omega,Af wN (Ab rM (Ab rM (Ab rM (Ab rM (Ac sG (Ac sG (Ac sG (Ac sG (Ac sG Ae)))))))))⟩
    refine G5 ?_;exact⟨(),trivial,Af (wk1 rfl wk0) Ae⟩
   have hs37_3:=of_decide_eq_false hs37_30;refine G7 ?_;refine .cond_f J J (G5 ?_);exact⟨(),trivial,Af (wk1 rfl wk0) Ae⟩
  intro u hj;skip;refine G4 ?_;refine .leq J J J J (decide_eq_true oM) (G3 ?_);refine G2 ?_;refine Au (out:=[]) (Ag J J) Ae ?_;exact⟨rfl,rfl⟩
 have hs3_1:=hs3_10;refine G8 ?_;refine .cond_t J J (G5 ?_);refine G3 ?_;refine Au (out:=[]) (Ag J J) Ae ?_;exact⟨rfl,rfl⟩
end Go.Proofs.YtgjnomgkddbhcaaGreat
namespace Go.Proofs.YtgjnomgkddbhcaaGreat
open Hw (La4 Le1)
open Go Go.ChangeShapes Go.WideShapes Go.ChangeAt Go.RowKit
variable{H:Type}{W:World}{b0 base:Nat}{held:Bool}{k:TypeId}{ps:List MemPlace}{r:Reach}{sp:Nat→Bool}{v:Value}{d:DataW H}{enc:TypeId×Value→H}
theorem ownWAsk:ownKnob Tryz.prog.godebug=none:=by kernel_rfl
theorem laidOutWAsk:laidOutB Tryz.prog=true:=by kernel_rfl
theorem ints_ofWAsk{s:Hw.Sl}{rs ds:List Int}(h:Hw.SeqIs (fun r:Int=>[Hw.i64 r]) 1 (fun(_:World) (r d:Int)=>d=r∧(Lit.int .i64 r).wf=true) W s rs ds):IntsAt W s rs:=by
  have e:ds=rs:=Le1 (by rw[h.nd,h.nr]) fun i h1 h2=>(h.is i _ _ (La4 h2) (La4 h1)).1;subst e;exact h
theorem openInWAsk{P:Program}{k e:TypeId}(hu:P.underlying k=some (.slice e))(he:P.underlying e=some (.int .i64))(hc:P.cellsOf e=1)
    (hval:Value.okWide P W r b0 k v) (hd:DataW.Trod enc P W base sp held k v d ps):∃s l,v=Hw.Sl.v s∧IntsAt W s l:=by
  simp only[Value.okWide,hu,Cell.okWide]at hval;obtain⟨a1,len,cap,rfl⟩:∃a1 len cap,v= .slice a1 len cap:=by
    unfold Cell.ok at hval;rw[hu]at hval;split at hval<;>first|exact hval.elim|exact⟨_,_,_,rfl⟩|simp_all
  obtain⟨fuel,hf⟩:=hd;obtain⟨s,rs,ds,h1,h2⟩:=Hw.open_seqS (cells:=fun r:Int=>[Hw.i64 r]) (Is:=fun(_:World) (r d:Int)=>d=r∧(Lit.int .i64 r).wf=true) hu hc (by decide) (fun ht=>by
    obtain⟨a,ea,_,wa⟩:=DataW.trod_int he ht;exact⟨a,a,ea,⟨rfl,wa⟩,rfl⟩) hf
  refine⟨s,rs,?_,ints_ofWAsk h2⟩;simp[Value.cells]at h1;exact h1
theorem openSqWAskBlock(hu:Tryz.prog.underlying k=some (.slice 37))(hc:Tryz.prog.cellsOf 37=131)
    (hval:Value.okWide Tryz.prog W r b0 k v) (hd:DataW.Trod enc Tryz.prog W base sp held k v d ps):∃s l,v=Hw.Sl.v s∧BlocksAt W s l:=by
  simp only[Value.okWide,hu,Cell.okWide]at hval;obtain⟨a1,len,cap,rfl⟩:∃a1 len cap,v= .slice a1 len cap:=by
    unfold Cell.ok at hval;rw[hu]at hval;split at hval<;>first|exact hval.elim|exact⟨_,_,_,rfl⟩|simp_all
  obtain⟨fuel,hf⟩:=hd;obtain⟨s,l,h1,h2⟩:=Block.openS hu hc hf;refine⟨s,l,?_,h2⟩;simp[Value.cells]at h1;exact h1
theorem walkWAsk(w:World)(s0:Hw.Sl)(l0:List DB)(hs0:BlocksAt w s0 l0)(s1:Hw.Sl)(l1:List Int)(hs1:IntsAt w s1 l1):Calls Tryz.prog 4 #[Hw.Sl.v s0,Hw.Sl.v s1] w fun e w'=>e= .returned (.bool true)∧Below w.heap.size w w':=
  by
  have fin:∀ {us:Array Value},Calls Tryz.prog 4 us w (fun e W'=>∃v out,e= .returned v∧(v= .bool true∧out=[])∧Hw.Ret [] out w W')→Calls Tryz.prog 4 us w (fun e w'=>e= .returned (.bool true)∧Below w.heap.size w w'):=
    fun h=>h.mono fun e w' ⟨v,out,he,⟨hv,ho⟩,hr⟩=>⟨by rw[he,hv],Hw.Keeps.below hr.keeps⟩
  exact fin (law_wantasks s0 l0 s1 l1 w ⟨hs0,hs1⟩)
theorem liftedWAsk(os:Os)(started:os.Started)(H:Type)(enc:TypeId×Value→H):
    ReturnsInHanded {} Tryz.checked os 4 .any (Rows.wantAsksSpec.pre6 enc Tryz.prog Tryz.f4 Rows.wantAsksRow.domain false) (Rows.wantAsksSpec.post enc Tryz.prog Tryz.f4 false true false false):=by
  refine returnsInHanded_of_change (C:=Tryz.checked) ownWAsk started (by kernel_rfl) Tryz.func4
    (ChangeSpec.witness6 (enc:=enc) (C:=Tryz.checked) false ⟨#[], #[.slice none 0 0, .slice none 0 0],[]⟩ 8 (by kernel_rfl) (by kernel_rfl) (by kernel_rfl) (by kernel_rfl)) ?_
  intro W base args ds gs before hval0 hW hcnd _;have hval:∀(j:Nat) t v,Tryz.f4.params[j]? =some t→args[j]? =some v→Value.okWide Tryz.prog W .any base t v:=hval0;have hW':=hW;obtain⟨p,q,hA0,hV,rfl,hfz,hnd⟩:=hW;have hA:DataW.TrodAll enc Tryz.prog W 0 (fun _=>true) true Tryz.f4.params.toList args.toList ds p:=hA0;rw[Tryz.params4]at hA hval;obtain⟨v0,vs0,d0,ds0,p0,q0,hargs,rfl,rfl,h0,r0⟩:=trodAll_cons hA;obtain⟨v1,vs1,d1,ds1,p1,q1,rfl,rfl,rfl,h1,r1⟩:=trodAll_cons r0;obtain⟨rfl,rfl,rfl⟩:=trodAll_nil r1;obtain rfl:args= #[v0,v1]:=by cases args;simp_all
  obtain⟨rfl,rfl⟩:=trodVars_none hV;have k0:=h0;have lt0:∀x∈p0,x.block<W.heap.size:=by obtain⟨m,hm⟩:=k0;exact DataW.trod_lt m _ _ _ hm
  have k1:=h1;have lt1:∀x∈p1,x.block<W.heap.size:=by obtain⟨m,hm⟩:=k1;exact DataW.trod_lt m _ _ _ hm
  obtain⟨s0,l0,rfl,hs0⟩:=openSqWAskBlock Tryz.underlying22 (by kernel_rfl) (hval 0 22 v0 rfl rfl) h0;obtain⟨s1,l1,rfl,hs1⟩:=openInWAsk Tryz.underlying50 Tryz.underlying3 (by kernel_rfl) (hval 1 50 v1 rfl rfl) h1;clear hA0 hval0;refine(walkWAsk W s0 l0 hs0 s1 l1 hs1).mono fun e W' ⟨he,bel⟩=>?_;subst he;exact⟨_,rfl,_,_,_,[],_,[],hW',trodAll_mk1 (shut_bool Tryz.underlying4 _),(trodAll_cons_mk (Below.trod laidOutWAsk (by kernel_rfl) (of_decide_eq_true (by kernel_rfl)) k0 bel lt0) (trodAll_cons_mk (Below.trod laidOutWAsk (by kernel_rfl) (of_decide_eq_true (by kernel_rfl)) k1 bel lt1) trodAll_mk0)),rfl,bel.frame _,fun h=>by cases h⟩
theorem wantAsks_holds:Rows.WantAsksSaid:=
  OpenClaim.holds_of_wide 4 Tryz.f4 rfl rfl rfl rfl rfl rfl rfl ⟨rfl,rfl,rfl,rfl,rfl⟩ rfl rfl rfl rfl rfl (by kernel_rfl) Tryz.func4 closedWAsk
    (of_decide_eq_true (by kernel_rfl)) (by unfold Func.isWrapper;first|(rw[if_pos (by decide+kernel)];kernel_rfl)|(rw[if_neg (by decide+kernel)];exact⟨rfl,rfl⟩))
    (fun os started H enc _=>liftedWAsk os started H enc)
end Go.Proofs.YtgjnomgkddbhcaaGreat
end
