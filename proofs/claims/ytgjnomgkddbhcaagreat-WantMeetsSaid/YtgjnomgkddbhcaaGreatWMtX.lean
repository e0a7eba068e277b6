/- headwaterlaw24.WantMeets returns true at every input, and all that it reads reads behind the call as before. Conditions: none beyond the given statement's own. -/
import Derived.WalkKit
import Derived.Orders
import Derived.Deep.LoopGhost
import Derived.IntWalk
import Derived.Laws.StructEq
import Derived.Test.YtgjnomgkddbhcaaGreatRows
import Derived.KernelRfl
import Derived.ArgAppend
import Derived.Deep.AppendSrc
import Derived.Lib.Bytealg
import Derived.Lib.BytesEntry
import Derived.Laws.IdiomStrings
import Derived.WideKeyArr2
import Derived.ProofKit
import Derived.OpenShut
import Derived.Deep.Slices
import Derived.Laws.Pointers
import Derived.Laws.Cover3
import Derived.LaidEqlPtr
import Derived.LoopN
import Derived.RangeFuncLeaves
import Derived.RangeFuncSeq
import Derived.OrdersIn
import Derived.Maps.Keyed
import Derived.Maps.RangeRun
import Derived.DeepKeys4
import Derived.Below
import Derived.Laws.Externs
import Derived.Defers
import Derived.Laws.MathBits
import Derived.Shelf.SlSortCmp.WholeK
import Derived.Shelf.SlGeneric
import Derived.Test.YtgjnomgkddbhcaaGreatProg
import Derived.Shelf.SlSortCmp.NoneTotal
import Derived.Deep.QuietTactic
import Derived.BigQuiet
import Derived.ScopeJumps
import Derived.DeepKeys3
import Derived.ChangeOld
import Derived.JoinedOf
import Derived.Test.YtgjnomgkddbhcaaGreatWMtX6
set_option maxRecDepth 100000
set_option maxHeartbeats 8000000
set_option linter.unusedVariables false
set_option linter.unusedSimpArgs false
set_option linter.unusedSectionVars false
set_option linter.unnecessarySimpa false
section
namespace Go.Proofs.YtgjnomgkddbhcaaGreat
open Go Hw _root_.Go.Proofs.Tryz
noncomputable def gvL(X:PD)(ws hs:List (List UInt8)):List (List UInt8):=isortD X (X.names.filter fun n=>rB X (-1) (ws.filter fun n=>X.has n) n&& !rB X (-1) (hs.filter fun n=>X.has n) n)
variable{L R hs l ws:List (List UInt8)}{W:World}{X:PD}{i k:Nat}{n v:List UInt8}{x:DD}
theorem setP_mem(ls:List (List UInt8))(n:List UInt8):n∈(setP ls).map (·.1)↔n∈ls:=by
  refine⟨?_,fun h=>(setP_keys ls).2 n h⟩;have key:∀(l:List (List UInt8)) (fs:List (List UInt8×Unit)),n∈(l.foldl (fun fs n=>Bh fs n ()) fs).map (·.1)→n∈l∨n∈fs.map (·.1):=by
    intro l
    induction l with
    |nil=>intro fs h;exact .inr h
    | cons a l ih=>
      intro fs h;rcases ih _ h with h1|h1
      ·exact .inl (Laf _ h1)
      · obtain⟨p,hp,rfl⟩:=La6.1 h1
        rcases mput_mem hp with h2|rfl
        ·exact .inr (La6.2 ⟨p,h2,rfl⟩)
        ·exact .inl La9
  intro h;rcases key ls [] h with h1|h1
  ·exact h1
  ·cases h1
theorem setP_none(ls:List (List UInt8))(n:List UInt8):(Aj (setP ls) n).isNone=decide (n∉ls):=by
  cases h:Aj (setP ls) n with
  | none=>
    have h1:n∉ls:=fun hn=>not_key h ((setP_mem ls n).2 hn);simp[h1]
  | some u=>
    have h1:n∈ls:=(setP_mem ls n).1 (La6.2 ⟨(n,u),Be h,rfl⟩);simp[h1]
theorem gv_perm(hI:X.Inv){ws hs al th:List (List UInt8)}(hnd:al.Nodup)(ha:∀n,n∈al↔X.Reach (-1) (ws.filter fun n=>X.has n) n)(ht:∀n,n∈th↔X.Reach (-1) (hs.filter fun n=>X.has n) n):
    isortD X (al.filter fun n=>(Aj (setP th) n).isNone)=gvL X ws hs:=by
  refine isortD_eq ((isortD_perm X _).trans ?_) (isortD_sort X _);refine(Lfm (hnd.filter _) ((hI.nn▸hI.nd:X.names.Nodup).filter _)).2 fun n=>?_;rw[Las,Las,setP_none,Lal,rB_iff,Lce,←Lgl,rB_iff,ha,decide_eq_true_iff,ht,C9 hI];exact⟨fun h=>⟨reach_P h.1,h⟩,fun h=>h.2⟩
theorem gv_has(hI:X.Inv):∀n∈gvL X ws hs,X.has n=true:=fun n hn=>by
  obtain⟨D,hD⟩:=(C9 hI n).1 (Las.1 ((isortD_perm X _).mem_iff.1 hn)).1;unfold PD.has;rw[hD];rfl
theorem want_none(x:DD)(hx:x.ok)(hI:x.pl.Inv)(p:Nat):Mv 70 [ptr p 0] (fun W=>Lies (x.blks p) W) (.bool false):=by
 intro W hW;have hck:∀q∈x.P,q.2.check=0:=hI.ck;refine Ad func70 J 13 ntmps70 J (G8 ?_);refine .build (cs:=Aa (List.replicate 32 0)) J J J (fun w=>by kernel_rfl) ?_;refine .call4 J J J J J Body13 (dag_get x hx hck p (List.replicate 32 0) J) (fun w h=>Bm hW h) ?_;rintro v8 out8 (⟨_,rfl,rfl⟩|⟨D,B,hD,hB,rfl,hbi⟩)
 ·
  skip;refine G3 ?_;refine .alloc (cs:=Block.zero.cells) J Block.zr J ?_;intro n3 hn3 hf3;refine G7 ?_;refine .eqi J J J J (decide_eq_false dE) (G3 ?_);refine G2 ?_;refine As (out:=[]) (Af J J) Ae ?_;exact⟨rfl,rfl⟩
 skip;refine G3 ?_;refine .alloc (cs:=Block.zero.cells) J Block.zr J ?_;intro n3 hn3 hf3;refine .sA J J J J (Block.isCell (by exact hB.ok)) Sz37 (Block.length (by exact hB.ok)) Z0 (Block.length (by exact Block.zero_ok)) zU ?_;refine G6 ?_;refine .eqi J J J J (decide_eq_false dE) (G3 ?_);refine G2 ?_;refine As (out:=[]) (Af J J) Ae ?_;exact⟨rfl,rfl⟩
theorem compact_short(s:Sl)(h1:s.n<2):Mv 107 [s.v] (fun _=>True) s.v:=by
 intro W hW;refine Ad func107 J 61 ntmps107 J (G10 ?_);refine .lss J J J J (decide_eq_true oM) (G2 ?_);refine .cond_t J J (G6 ?_);refine G3 ?_;refine⟨_,[],Af J J,sP,sP,?_,rfl⟩;rfl
theorem take_drop_flat(L:List (List UInt8))(i:Nat):Av L=Av (L.take i)++Av (L.drop i):=by rw[←Cf,Lc6]
theorem flat_take_len(h32:∀l∈L,l.length=32)(hi:i≤L.length):(Av (L.take i)).length=i*32:=by rw[A2 (fun l hl=>h32 l (Lbf hl)),Lac,Lc8 hi]
theorem upd_set:∀ {L:List (List UInt8)} {i:Nat} {v:List UInt8},(∀l∈L,l.length=32)→v.length=32→i<L.length→upd (Av L) (0+i*32) (Aa v)=Av (L.set i v):=fun {L i v} h hv hi=>by
  have e1:L=L.take i++L[i]::L.drop (i+1):=by rw[←Lbt hi,Lc6]
  have e2:L.set i v=L.take i++v::L.drop (i+1):=by rw[Leg,if_pos hi]
  have l1:(Av (L.take i)).length=i*32:=flat_take_len h oM;have l2:(Aa L[i]).length=32:=by rw[Aa,La0];exact h _ (Lc7 hi)
  have l3:(Aa v).length=32:=by rw[Aa,La0];exact hv
  have f:∀(a:List (List UInt8)) (b:List UInt8) (d:List (List UInt8)),Av (a++b::d)=Av a++(Aa b++Av d):=fun a b d=>by simp[Av]
  have e3:Av L=Av (L.take i)++(Aa L[i]++Av (L.drop (i+1))):=by rw[←f,←e1]
  rw[e2,f,e3,Lb2,←l1,upd];rw[List.take_left,l3,←List.drop_drop,List.drop_left,←l2,List.drop_left,La8]
theorem getD_at(h:i<l.length):l.getD i []=l[i]:=by rw[La4,La3 h];rfl
def onceL(l:List (List UInt8)):List (List UInt8):=isort (ddp l)
theorem once_mem:n∈onceL l↔n∈l:=by unfold onceL;rw[(Br _).mem_iff,mem_ddp]
theorem once_nd(l:List (List UInt8)):(onceL l).Nodup:=(Br _).nodup_iff.2 (ddp_nodup l)
theorem once_sort(l:List (List UInt8)):SortB (onceL l):=isort_sort _
theorem once_eq{k l:List (List UInt8)}(hs:SortB k)(hnd:k.Nodup)(hm:∀n,n∈k↔n∈l):k=onceL l:=
  isort_eq ((Lfm hnd (ddp_nodup l)).2 fun n=>by rw[mem_ddp,hm]) hs
theorem once_self{k:List (List UInt8)}(hs:SortB k)(hnd:k.Nodup):onceL k=k:=(once_eq hs hnd fun _=>Iff.rfl).symm
theorem ddp_len:∀l:List (List UInt8),(ddp l).length≤l.length
  | []=>Lad _
  | b::l=>by
    have:=ddp_len l;show(if b∈ddp l then ddp l else b::ddp l).length≤_;split
    ·rw[Lay];omega
    ·rw[Lay,Lay];omega
theorem once_len(l:List (List UInt8)):(onceL l).length≤l.length:=by unfold onceL;rw[(Br _).length_eq];exact ddp_len l
noncomputable def askF(X:PD)(hs:List (List UInt8)):List (List UInt8):=onceL (hs.filter fun n=> !X.has n&&decide (n∉X.orphans))
noncomputable def askR(X:PD)(hs:List (List UInt8)):List (List UInt8):=X.missing.filter fun n=>decide (n∉askF X hs)
noncomputable def askL(X:PD)(hs:List (List UInt8)):List (List UInt8):=(askF X hs++askR X hs).take 32
theorem miss_lacks(h:n∈X.missing):X.lacks n=true:=by
  have h1:=(Br _).mem_iff.1 h;rw[mem_ddp]at h1;exact(Las.1 h1).2
theorem orp_mem:n∈X.orphans↔n∈X.orp.map (·.1):=(Br _).mem_iff
theorem lacks_not(h:X.lacks n=true):X.has n=false∧n∉X.orphans:=by
  unfold PD.lacks at h;rw[Lal,Lce,Lce]at h;refine⟨h.2,fun hm=>?_⟩;obtain⟨v,hv⟩:=Cr (orp_mem.1 hm);rw[hv]at h;exact absurd h.1 sP
theorem miss_nd(X:PD):X.missing.Nodup:=once_nd _
theorem miss_sort(X:PD):SortB X.missing:=once_sort _
theorem askF_mem:n∈askF X hs↔n∈hs∧X.has n=false∧n∉X.orphans:=by
  unfold askF;rw[once_mem,Las,Lal,Lce,decide_eq_true_iff]
theorem askR_mem:n∈askR X hs↔n∈X.missing∧n∉hs:=by
  unfold askR;rw[Las,decide_eq_true_iff,askF_mem];refine⟨fun⟨h1,h2⟩=>⟨h1,fun h3=>h2 ⟨h3,lacks_not (miss_lacks h1)⟩⟩,fun⟨h1,h2⟩=>⟨h1,fun h3=>h2 h3.1⟩⟩
theorem ask_len(X:PD)(hs:List (List UInt8)):(askL X hs).length≤32:=by unfold askL;rw[Lac];omega
theorem ask_of(h:n∈askL X hs):X.has n=false∧n∉X.orphans∧(n∈hs∨n∈X.missing):=by
  rcases Lab.1 (Lbf h)with h1|h1
  · have h2:=askF_mem.1 h1
    exact⟨h2.2.1,h2.2.2, .inl h2.1⟩
  · have h2:=askR_mem.1 h1
    exact⟨(lacks_not (miss_lacks h2.1)).1,(lacks_not (miss_lacks h2.1)).2, .inr h2.1⟩
theorem ask_all(hl:(askL X hs).length<32)(h:n∈hs∧X.has n=false∧n∉X.orphans∨n∈X.missing):n∈askL X hs:=by
  have e:askL X hs=askF X hs++askR X hs:=by
    unfold askL at hl ⊢;rw[Lac]at hl;exact La5 oM
  rw[e,Lab,askF_mem,askR_mem];rcases h with h|h
  ·exact .inl h
  · by_cases h2:n∈hs
    ·exact .inl ⟨h2,lacks_not (miss_lacks h)⟩
    ·exact .inr ⟨h,h2⟩
def cpF(L:List (List UInt8)):Nat→List (List UInt8)
  |0=>[]
  |i+1=>if i=0∨L.getD i []≠L.getD (i-1) []then cpF L i++[L.getD i []]else cpF L i
theorem take_snocD(h:i<L.length):L.take (i+1)=L.take i++[L.getD i []]:=by
  rw[getD_at h,Lar h]
theorem cp_yes(h:i=0∨L.getD i []≠L.getD (i-1) []):cpF L (i+1)=cpF L i++[L.getD i []]:=if_pos h
theorem cp_no(h0:0<i)(h:L.getD i []=L.getD (i-1) []):cpF L (i+1)=cpF L i:=if_neg fun h9=>by
  rcases h9 with h9|h9
  ·omega
  ·exact h9 h
theorem cp_mem{L:List (List UInt8)}{n:List UInt8}:∀i,i≤L.length→(n∈cpF L i↔n∈L.take i)
  |0,_=>by simp[cpF]
  | i +1,hi=>by
    have ih:=cp_mem (L:=L) (n:=n) i oM;rw[take_snocD (show i<L.length by omega),Lab,La1];by_cases h:i=0∨L.getD i []≠L.getD (i-1) []
    ·rw[cp_yes h,Lab,La1,ih]
    · have h0:0<i:=by omega
      have he:L.getD i []=L.getD (i-1) []:=Classical.byContradiction fun h9=>h (.inr h9);rw[cp_no h0 he,ih];refine⟨.inl,fun h9=>h9.elim id fun e=>?_⟩;rw[e,he,getD_at (show i-1<L.length by omega)];exact Ler.2 ⟨i-1,by rw[Lac];omega,Lfk⟩
theorem cp_len{L:List (List UInt8)}:∀i,(cpF L i).length≤i
  |0=>Lad _
  | i+1=>by
    have ih:=cp_len (L:=L) i;rw[cpF];split
    ·rw[La2,Lav];omega
    ·omega
theorem cp_lt{L:List (List UInt8)}{k:Nat}(h0:0<k)(h:L.getD k []=L.getD (k-1) []):∀i,k<i→(cpF L i).length<i
  |0,hi=>by omega
  | i +1,hi=>by
    by_cases hk:k=i
    · subst hk
      have:=cp_len (L:=L) k;rw[cp_no h0 h];omega
    · have ih:=cp_lt h0 h i oM
      rw[cpF];split
      ·rw[La2,Lav];omega
      ·omega
theorem cp_all{L:List (List UInt8)}:∀k,k≤L.length→(∀j,1≤j→j<k→L.getD j []≠L.getD (j-1) [])→cpF L k=L.take k
  |0,_,_=>by simp[cpF]
  | k+1,hk,h=>by
    have ih:=cp_all k oM fun j h1 h2=>h j h1 oM;rw[cp_yes (by by_cases h0:k=0;exact .inl h0;exact .inr (h k oM oM)),ih,take_snocD oM]
theorem cp_sort{L:List (List UInt8)}(hs:SortB L):∀i,i≤L.length→(cpF L i).Pairwise fun a b=>C7 a b<0
  |0,_=>List.Pairwise.nil
  | i + 1,hi=>by
    have ih:=cp_sort hs i oM;by_cases h:i=0∨L.getD i []≠L.getD (i-1) []
    · rw[cp_yes h,Lfp]
      refine⟨ih,by simp,fun a ha b hb=>?_⟩;rw[La1.1 hb];have h1:=(cp_mem i oM).1 ha;obtain⟨j,hj,e⟩:=Lbo h1;rw[Lac]at hj;rw[Lfk]at e;have hle:∀x y (hx:x≤y) (hy:y<L.length),C7 (L.getD x []) (L.getD y [])≤0:=fun x y hx hy=>by
        rcases Lg3 hx with h2|rfl
        ·rw[getD_at oM,getD_at hy];exact Ldr.1 hs x y oM hy h2
        ·rw[(cmpB_zero _ _).2 rfl];exact Lh6 0
      have ej:a=L.getD j []:=by rw[getD_at oM,e]
      have h2:=hle j i oM oM;rw[ej];have h3:C7 (L.getD j []) (L.getD i [])≠0:=fun hz=>by
        have e2:=(cmpB_zero _ _).1 hz;have h4:=hle j (i-1) oM oM;have h5:=hle (i-1) i oM oM;rw[e2]at h4;have h6:=cmpB_neg (L.getD (i-1) []) (L.getD i []);have h7:L.getD (i-1) []=L.getD i []:=(cmpB_zero _ _).1 oM;rcases h with h|h
        ·omega
        ·exact h h7.symm
      omega
    · have he:L.getD i []=L.getD (i-1) []:=Classical.byContradiction fun h9=>h (.inr h9)
      rw[cp_no oM he];exact ih
theorem cp_once(hs:SortB L):cpF L L.length=onceL L:=by
  have h:=cp_sort hs L.length (Lad _);refine once_eq (h.imp fun h=>Int.le_of_lt h) (h.imp fun {a b} h1 e=>?_) fun n=>?_
  ·subst e;rw[(cmpB_zero _ _).2 rfl]at h1;omega
  ·rw[cp_mem L.length (Lad _),Ldb]
theorem once_isort(l:List (List UInt8)):onceL (isort l)=onceL l:=once_eq (once_sort _) (once_nd _) fun n=>by rw[once_mem,(Br l).mem_iff]
structure CptI(L R:List (List UInt8))(i:Nat):Prop where
  len:R.length=L.length
  pre:R.take (cpF L i).length=cpF L i
  post:∀j,i-1≤j→R.getD j []=L.getD j []
theorem CptI.start(h0:0<k)(hk:k<L.length)(hall:cpF L k=L.take k)(h:L.getD k []=L.getD (k-1) []):CptI L L (k+1)∧(cpF L (k+1)).length=k:=by
  have e:cpF L (k+1)=L.take k:=by rw[cp_no h0 h,hall]
  have el:(cpF L (k+1)).length=k:=by rw[e,Lac];omega
  exact⟨⟨rfl,by rw[el,e],fun j _=>rfl⟩,el⟩
theorem getD_set{k j:Nat}(hk:k<R.length):(R.set k v).getD j []=if k=j then v else R.getD j []:=by
  rw[La4,La4,Lct];split
  ·rfl
  ·rfl
theorem CptI.put(h:CptI L R i)(hi:i<L.length)(hlt:(cpF L i).length<i)(h2:L.getD i []≠L.getD (i-1) []):CptI L (R.set (cpF L i).length (R.getD i [])) (i+1) where
  len:=by rw[Lbs];exact h.len
  pre:=by
    have hl:=h.len;rw[cp_yes (.inr h2),La2,Lav,take_snocD (by rw[Lbs];omega),getD_set oM,if_pos rfl,h.post i oM,List.take_set_of_le (Lad _),h.pre]
  post:=fun j hj=>by
    have hl:=h.len;rw[getD_set oM,if_neg oM];exact h.post j oM
theorem CptI.skip(h:CptI L R i)(h0:0<i)(h2:L.getD i []=L.getD (i-1) []):CptI L R (i+1) where
  len:=h.len
  pre:=by rw[cp_no h0 h2];exact h.pre
  post:=fun j hj=>h.post j oM
theorem set_32(h:∀l∈L,l.length=32)(hv:v.length=32):∀l∈L.set k v,l.length=32:=fun l hl=>by
  rcases Leo hl with h1|rfl
  ·exact h l h1
  ·exact hv
theorem compact_digs(q n c:Nat)(L:List (List UInt8))(h32:∀l∈L,l.length=32)(hn:L.length=n)(hnc:n≤c)(h2:2≤n)(hbig:n≤1000000):Meets prog 107 [.slice (some ⟨q,0,none⟩) n c] [q] (fun W=>Lent [⟨q,Av L,31,c*32⟩] W) (fun v out=>v= .slice (some ⟨q,0,none⟩) (cpF L n).length c∧out=[⟨q,Av (cpF L n),31,c*32⟩]):=by
 intro W hW;have h32aa:True:=trivial;have h32bb:True:=trivial;have hcl:=cp_len (L:=L) n;refine calls_of (hp0:=[⟨q,Av L,31,c*32⟩]) func107 J 61 ntmps107 J hW.rep (G10 ?_);refine .lss J J J J (decide_eq_false oM) (G2 ?_);refine .cond_f J J (G9 ?_);refine .loop (ι:=Nat) (fun k=>⟨[(0, .slice (some ⟨q,0,none⟩) n c),(3,i64 (k:Int))],[⟨q,Av L,31,c*32⟩]⟩) (fun k=>1≤k∧k≤n∧∀j,1≤j→j<k→L.getD j []≠L.getD (j-1) []) (fun k=>n-k) (1) ?_ ?_ ?_
 ·exact⟨Lad 1,by omega,fun j h1 h2=>by omega⟩
 ·exact Ag wN (Ab rM Ae)
 rintro k ⟨hk1,hkn,hg⟩;refine G9 ?_;refine .condP J (fun hc1=>?_) (fun hc1=>?_)
 ·
  have hk2:k<n:=by omega
  obtain⟨aa,haa⟩:∃a,a=L.getD k []:=⟨_,rfl⟩;obtain⟨bb,hbb⟩:∃a,a=L.getD (k-1) []:=⟨_,rfl⟩;have h32aa:aa.length=32:=by rw[haa];exact h32 _ (getD_mem2 oM)
  have h32bb:bb.length=32:=by rw[hbb];exact h32 _ (getD_mem2 oM)
  refine G5 ?_;refine .draw (oPq [0,1,2,103,4,5,6,7,108,9]) Aq zK (G2 ?_);refine .idxSlP 32 J J J J J Y32.h Sz31 k J oM (.loadSN (n:=32) (Aa aa) J J J Y31.h J Sz31 (by rw[Aa,La0];exact h32aa) (fun w h=>by rw[haa];exact B0 h32 (An h Z0) oM) ?_);refine G3 ?_;refine .idxSlP 32 J J J J J Y32.h Sz31 (k-1) oM oM (.loadSN (n:=32) (Aa bb) J J J Y31.h J Sz31 (by rw[Aa,La0];exact h32bb) (fun w h=>by rw[hbb];exact B0 h32 (An h Z0) oM) ?_);refine .eql_bytes J J J J eqGuardType31 Y31.h Y5.h Sz5 (by(simp[h32aa];done)) (by(simp[h32bb];done)) J ?_;refine G2 ?_;refine .condP J (fun hc2=>?_) (fun hc2=>?_)
  ·
   have heq:L.getD k []=L.getD (k-1) []:=by rw[←haa,←hbb];exact hc2
   have hst:=CptI.start (L:=L) oM oM (cp_all k oM hg) heq;clear h32aa h32bb;have h32aa:True:=trivial;have h32bb:True:=trivial;refine G4 ?_;refine .sliceLoN k J J J J J oM hnc Y32.h Sz31 ?_;rw[if_neg (show ¬c=k by omega)];refine G10 ?_;refine .loop (ι:=Nat×List (List UInt8)) (fun r=>⟨[(0, .slice (some ⟨q,0,none⟩) n c),(3,i64 ((cpF L (k+r.1)).length:Int)),(4, .slice (some ⟨q,0+k*32,none⟩) (n-k) (c-k)),(5,i64 (r.1:Int))],[⟨q,Av r.2,31,c*32⟩]⟩) (fun r=>1≤r.1∧k+r.1≤n∧CptI L r.2 (k+r.1)∧∀l∈r.2,l.length=32) (fun r=>n-r.1) ((1,L)) ?_ ?_ ?_
   ·exact⟨Lad 1,by simp only;omega,hst.1,h32⟩
   ·exact Ag (wk1 rfl (wk1 (congrArg (fun z:Nat=>some (i64 (z:Int))) hst.2.symm) wN)) (Ab rM Ae)
   rintro⟨j,R⟩ ⟨hj1,hjn,hC,hR32⟩;simp only at hj1 hjn hC hR32 ⊢;have hRl:=hC.len;have hcj:=cp_lt (L:=L) oM heq (k+j) oM;refine G9 ?_;refine .condP J (fun hc3=>?_) (fun hc3=>?_)
   ·
    have hj2:k+j<n:=by omega
    obtain⟨aa,haa⟩:∃a,a=R.getD (k+j) []:=⟨_,rfl⟩;obtain⟨bb,hbb⟩:∃a,a=R.getD (k+j-1) []:=⟨_,rfl⟩;have h32aa:aa.length=32:=by rw[haa];exact hR32 _ (getD_mem2 oM)
    have h32bb:bb.length=32:=by rw[hbb];exact hR32 _ (getD_mem2 oM)
    have hpa:=hC.post (k+j) oM;have hpb:=hC.post (k+j-1) oM;refine G5 ?_;refine .draw (oPq [0,1,2,103,4,5,6,7,108,9]) Aq zK (G2 ?_);refine .idxSlP 32 J J J J J Y32.h Sz31 j J oM (.loadSN (n:=32) (Aa aa) J J J Y31.h J Sz31 (by rw[Aa,La0];exact h32aa) (fun w h=>by rw[haa,show 0+k*32+j*32=0+(k+j)*32 by omega];exact B0 hR32 (An h Z0) oM) ?_);refine G3 ?_;refine .idxSlP 32 J J J J J Y32.h Sz31 (j-1) oM oM (.loadSN (n:=32) (Aa bb) J J J Y31.h J Sz31 (by rw[Aa,La0];exact h32bb) (fun w h=>by rw[hbb,show 0+k*32+(j-1)*32=0+(k+j-1)*32 by omega];exact B0 hR32 (An h Z0) oM) ?_);refine .neq_bytes J J J J eqGuardType31 Y31.h Y5.h Sz5 (by(simp[h32aa];done)) (by(simp[h32bb];done)) J ?_;refine G2 ?_;refine .condNP J (fun hc4=>?_) (fun hc4=>?_)
    ·
     have hne:L.getD (k+j) []≠L.getD (k+j-1) []:=by rw[←hpa,←hpb,←haa,←hbb];exact hc4
     have hcn:(cpF L (k+(j+1))).length=(cpF L (k+j)).length+1:=by rw[←Lcd,cp_yes (.inr hne),La2];rfl
     refine G6 ?_;refine .idxSlP 32 J J J J J Y32.h Sz31 j J oM (.loadSN (n:=32) (Aa aa) J J J Y31.h J Sz31 (by rw[Aa,La0];exact h32aa) (fun w h=>by rw[haa,show 0+k*32+j*32=0+(k+j)*32 by omega];exact B0 hR32 (An h Z0) oM) ?_);refine .idxSlP 32 J J J J J Y32.h Sz31 (cpF L (k+j)).length J oM (.storeN (Aa aa) (cs':=Av (R.set (cpF L (k+j)).length aa)) J J J J J (A0 _) Sz31 (by rw[Aa,La0];exact h32aa) Z0 (by rw[A2 hR32,Aa,La0,h32aa];omega) (upd_set hR32 h32aa oM) zU ?_);refine G15 ?_;refine⟨(j+1,R.set (cpF L (k+j)).length aa),⟨by simp only;omega,by simp only;omega,?_,set_32 hR32 h32aa⟩,by simp only;omega,Ag (wk1 J (wk1 (by show Hw.look _ _=some (i64 (((cpF L (k+(j+1))).length:Nat):Int));rw[hcn];rfl) wN)) (Ab rM Ae)⟩;simp only;rw[show aa=R.getD (k+j) []from haa,←Lcd];exact hC.put oM hcj hne
    have heq2:L.getD (k+j) []=L.getD (k+j-1) []:=by rw[←hpa,←hpb,←haa,←hbb];simpa using hc4
    have hcn:(cpF L (k+(j+1))).length=(cpF L (k+j)).length:=by rw[←Lcd,cp_no oM heq2]
    refine G9 ?_;exact⟨(j+1,R),⟨by simp only;omega,by simp only;omega,hC.skip oM heq2,hR32⟩,by simp only;omega,Ag (wk1 rfl (wk1 (by show Hw.look _ _=some (i64 (((cpF L (k+(j+1))).length:Nat):Int));rw[hcn];rfl) wN)) (Ab rM Ae)⟩
   have hje:k+j=n:=by omega
   rw[hje]at hC hcj ⊢;refine G6 ?_;rw[take_drop_flat R (cpF L n).length];refine .trunc (q:=q) rM ?_;refine G3 ?_;refine .sliceLoN (cpF L n).length J J J J J oM hnc Y32.h Sz31 ?_;rw[if_neg (show ¬c=(cpF L n).length by omega)];refine .clearB (size:=32) (z:=agg (Aa (List.replicate 32 0))) J J J Y32.h Cj J dE rM (by rw[flat_take_len hR32 oM];omega) oM ?_;refine G6 ?_;refine .sliceHiA ⟨some ⟨q,0,none⟩,n,c⟩ (cpF L n).length J J J J J (by show(cpF L n).length≤c;omega) Y32.h Sz31 ?_;dsimp only[Sl.v];refine G3 ?_;refine G7 ?_;refine As (out:=(⟨q,Av (R.take (cpF L n).length),31,c*32⟩::[])) (Af J J) (Ab rM Ae) ?_;rw[hC.pre];exact⟨rfl,rfl⟩
  refine G9 ?_;exact⟨k+1,⟨by omega,by omega,fun j h1 h2=>by rcases Lcc.1 h2 with h|rfl;exact hg j h1 h;rw[←haa,←hbb];exact hc2⟩,by omega,Ag wN (Ab rM Ae)⟩
 obtain rfl:k=n:=by omega
 have hall:=cp_all k oM hg;refine G11 ?_;refine G2 ?_;refine As (out:=(⟨q,Av L,31,c*32⟩::[])) (Af J J) (Ab rM Ae) ?_;rw[hall,La5 oM,hn];exact⟨rfl,rfl⟩
theorem compact_acc(s:Sl)(bl:List Blk)(ks:List (List UInt8))(h32:∀l∈ks,l.length=32)(hbig:ks.length≤1000000)(hac:Hw.Acc s bl (Av ks) 31 ks.length 32):
    Meets prog 107 [s.v] (bl.map (·.n)) (fun W=>Lent bl W) (fun v out=>∃s2:Sl,v=s2.v∧Hw.Acc s2 out (Av (cpF ks ks.length)) 31 (cpF ks ks.length).length 32):=fun W h1=>by
  rcases hac with ⟨rfl,rfl,hz,hn⟩|⟨q,c,rfl,hnc,hfl,rfl⟩
  · obtain rfl:=Lag hn
    exact(compact_short Sl.nil (by show 0<2;omega) W trivial).mono fun e W' ⟨v,out,he,⟨hv,ho⟩,hr⟩=>⟨v,out,he,⟨Sl.nil,hv,by subst ho;exact Acc.none⟩,hr⟩
  · by_cases h0:ks.length<2
    · have e9:cpF ks ks.length=ks:=by
        rw[cp_all ks.length (Lad _) (fun j h1 h2=>by omega),Ldb]
      rw[e9];have hb:BlkOk W ⟨q,Av ks,31,c*32⟩:=h1.1 _ (La1.2 rfl);refine(compact_short ⟨some ⟨q,0,none⟩,ks.length,c⟩ h0 W trivial).mono fun e W' ⟨v,out,he,⟨hv,ho⟩,hr⟩=>⟨v,[⟨q,Av ks,31,c*32⟩],he,⟨⟨some ⟨q,0,none⟩,ks.length,c⟩,hv, .inr ⟨q,c,rfl,hnc,hfl,rfl⟩⟩,⟨hr.keeps.mono sP,fun b hb2=>?_,by simp,fun b hb2=>?_⟩⟩
      · rw[La1.1 hb2]
        exact hb.of_heap (hr.keeps.block q hb.lt sP)
      ·rw[La1.1 hb2];exact .inr sP
    · refine(compact_digs q ks.length c ks h32 rfl hnc oM hbig W h1).mono fun e W' ⟨v,out,he,⟨hv,ho⟩,hr⟩=>⟨v,out,he,⟨⟨some ⟨q,0,none⟩,(cpF ks ks.length).length,c⟩,hv,?_⟩,hr⟩
      have h9:=cp_len (L:=ks) ks.length;exact .inr ⟨q,c,rfl,by omega,A2 (fun l hl=>h32 l (by have:=(cp_mem ks.length (Lad _)).1 hl;rwa[Ldb]at this)),ho⟩
theorem once_32(h:∀k∈l,k.length=32):∀k∈onceL l,k.length=32:=fun k hk=>h k (once_mem.1 hk)
theorem reach_once{a:Int}{f:List UInt8→Bool}:X.Reach a ((onceL ws).filter f) n↔X.Reach a (ws.filter f) n:=
  ⟨reach_mono fun m hm=>by rw[Las,once_mem]at hm;exact Las.2 hm,reach_mono fun m hm=>by rw[Las]at hm;exact Las.2 ⟨once_mem.2 hm.1,hm.2⟩⟩
theorem orph_32(hx:x.ok):∀l∈x.pl.orphans,l.length=32:=fun l hl=>by
  have h1:=orp_mem.1 hl;rw[orp_keys]at h1;obtain⟨q,hq,rfl⟩:=La6.1 h1;exact(hx.orp q hq).1
theorem miss_32(hx:x.ok){p:Nat}(hl:Lies (x.blks p) W):∀l∈x.pl.missing,l.length=32:=fun l hm=>by
  have h1:=(Br _).mem_iff.1 hm;rw[mem_ddp]at h1;obtain⟨m,hm2,h2⟩:=Lf6.1 (Las.1 h1).1;obtain⟨q,hq,rfl⟩:=La6.1 hm2;obtain⟨q0,hq0,rfl⟩:=La6.1 (show q∈x.orp.map fun p=>(p.1,p.2.2)from hq);have h3:=(hx.orp q0 hq0).2.1.2 W (fun b hb=>hl b (x.mcb p b hb));exact parL_row h3.dok l h2
theorem sum_le{α:Type}(f:α→List (List UInt8))(k:Nat):∀(L:List α),(∀a∈L,(f a).length≤k)→(L.map f).flatten.length≤k*L.length
  | [],_=>Lan _
  | a::L,h=>by
    have h1:=sum_le f k L fun b hb=>h b (Laf _ hb);have h2:=h a La9;rw[Laq,Lcu,La2,Lay,Nat.mul_succ];omega
theorem miss_len(hx:x.ok):x.pl.missing.length≤1088:=by
  unfold PD.missing;rw[(Br _).length_eq];refine Lbb (ddp_len _) (Lbb (Lch _ _) ?_);have h1:=sum_le (fun q:List UInt8×DB=>Bo q.2) 17 x.pl.orp fun q hq=>by
    obtain⟨q0,hq0,rfl⟩:=La6.1 (show q∈x.orp.map fun p=>(p.1,p.2.2)from hq);have h2:=(hx.orp q0 hq0).2.2;have h3:=parL_len q0.2.2;simp only at h3 ⊢;omega
  have h4:x.pl.orp.length=x.orp.length:=La0 _;have h5:=hx.orpn;omega
theorem ask_filt:(hs.filter fun n=>(Aj (setP (hs.filter fun n=>X.has n)) n).isNone&&(Aj (setP X.orphans) n).isNone)=hs.filter fun n=> !X.has n&&decide (n∉X.orphans):=by
  refine Lgz fun n hn=>?_;rw[setP_none,setP_none];congr 1;rw[Lec,decide_eq_true_iff,Las,Lce];cases X.has n<;>simp[hn]
theorem ask_rest:(X.missing.filter fun n=>(Aj (setP (askF X hs)) n).isNone)=askR X hs:=by
  unfold askR;exact Lgz fun n _=>setP_none _ n
theorem want_onceG(s:Sl)(ls:List (List UInt8))(h1:ls.length≤90000):Meets prog 73 [s.v] [] (fun W=>RowsAt W s 32 ls) (RowA (onceL ls)):=by
 intro W hW;have hlen:=hW.len;have hrow:=hW.row;refine Ad func73 J 9 ntmps73 J (G8 ?_);refine .call4 J J J J J Body53 (cl_digs s ls oM) (fun w h=>Cw h J hW) ?_;rintro v4 out4 ⟨s4,rfl,hac4⟩;rw[←hlen]at hac4;refine G6 ?_;refine .callL (L:=out4) J J J J J Body54 (sort_acc s4 out4 ls hrow oM hac4) sG (C5 J) (fun w h=>Lies.of h (by repeat(exact Au))) ?_;rintro v6 out6 ⟨rfl,ks,hkp,hks,hac6⟩;rw[←hkp.length_eq]at hac6;have hkl:=hkp.length_eq;refine G5 ?_;refine .callL (L:=out6) J J J J J Body107 (compact_acc s4 out6 ks (fun l hl=>hrow l (hkp.mem_iff.1 hl)) oM hac6) sG (C5 J) (fun w h=>Lent.of h sG) ?_;rintro v8 out8 ⟨s8,rfl,hac8⟩;refine G3 ?_;refine G2 ?_;refine As (out:=(out8++[])) (Af J J) (Ac sG Ae) ?_;have e9:cpF ks ks.length=onceL ls:=by rw[cp_once hks,isort_eq hkp hks,once_isort]
 rw[e9]at hac8;exact⟨s8,rfl,by simpa using hac8⟩
theorem want_givenG(x:DD)(hx:x.ok)(hI:x.pl.Inv)(hO:x.pl.Ord)(p:Nat)(sw sh:Sl)(ws hs:List (List UInt8))(hw1:ws.length≤90000)(hh1:hs.length≤90000):Meets prog 77 [ptr p 0,sw.v,sh.v] [] (fun W=>Lies (x.blks p) W∧RowsAt W sw 32 ws∧RowsAt W sh 32 hs) (RowA (gvL x.pl ws hs)):=by
 intro W hW;obtain⟨hlies,hrw,hrh⟩:=id hW;have hck:∀q∈x.P,q.2.check=0:=hI.ck;have h16:∀q∈x.P,q.2.ls.length≤16:=fun q hq=>(ck_small (hck q hq)).1;have hbig:=hx.big;have hnm:x.pl.names.length=x.names.length:=rfl;have hw32:=hrw.row;have hh32:=hrh.row;refine Ad func77 J 44 ntmps77 J (G9 ?_);refine .call4 J J J J J Body73 (want_onceG sw ws hw1) (fun w h=>Cw h J hrw) ?_;rintro v16 out16 ⟨s16,rfl,hac16⟩;have hol16:=once_len ws;refine G2 ?_;refine .call4 J J J J J Body72 (filter_has s16 (onceL ws) x hx p oM) (fun w h=>⟨Ci hac16 (Lies.of h (by repeat(exact Au))) (once_32 hw32) J oM,Bm hlies h⟩) ?_;rintro v19 out19 ⟨s19,rfl,hac19⟩;have hn19:=hac19.num;have hf19:=Lch (fun n=>x.pl.has n) (onceL ws);refine .call4 J J J J J Body109 (dag_closure x hx h16 p s19 ((onceL ws).filter fun n=>x.pl.has n) oM) (fun w h=>⟨Bm hlies h,Ci hac19 (Lies.of h (by repeat(exact Au))) (fun l hl=>once_32 hw32 l (Las.1 hl).1) J oM⟩) ?_;rintro v20 out20 (⟨⟨n9,hn9,h09⟩,_⟩|⟨_,s20,al,rfl,hac20,hso20,hnd20,hx20⟩)
 ·exfalso;have h8:x.pl.has n9=true:=(Las.1 hn9).2;unfold PD.has at h8;rw[h09]at h8;cases h8
 have hb20:al.length≤400000:=by have h9:=reach_len hI hnd20 hx20;have h8:x.pl.names.length=x.names.length:=rfl;omega
 have h3220:∀l∈al,l.length=32:=fun l hl=>P32 hx (reach_P ((hx20 l).1 hl));replace hx20:=fun n=>(hx20 n).trans (reach_once (f:=fun n=>x.pl.has n) (ws:=ws));refine G11 ?_;refine .call4 J J J J J Body73 (want_onceG sh hs hh1) (fun w h=>Cw h J hrh) ?_;rintro v26 out26 ⟨s26,rfl,hac26⟩;have hol26:=once_len hs;refine G2 ?_;refine .call4 J J J J J Body72 (filter_has s26 (onceL hs) x hx p oM) (fun w h=>⟨Ci hac26 (Lies.of h (by repeat(exact Au))) (once_32 hh32) J oM,Bm hlies h⟩) ?_;rintro v29 out29 ⟨s29,rfl,hac29⟩;have hn29:=hac29.num;have hf29:=Lch (fun n=>x.pl.has n) (onceL hs);refine .call4 J J J J J Body109 (dag_closure x hx h16 p s29 ((onceL hs).filter fun n=>x.pl.has n) oM) (fun w h=>⟨Bm hlies h,Ci hac29 (Lies.of h (by repeat(exact Au))) (fun l hl=>once_32 hh32 l (Las.1 hl).1) J oM⟩) ?_;rintro v30 out30 (⟨⟨n9,hn9,h09⟩,_⟩|⟨_,s30,th,rfl,hac30,hso30,hnd30,hx30⟩)
 ·exfalso;have h8:x.pl.has n9=true:=(Las.1 hn9).2;unfold PD.has at h8;rw[h09]at h8;cases h8
 have hb30:th.length≤400000:=by have h9:=reach_len hI hnd30 hx30;have h8:x.pl.names.length=x.names.length:=rfl;omega
 have h3230:∀l∈th,l.length=32:=fun l hl=>P32 hx (reach_P ((hx30 l).1 hl));replace hx30:=fun n=>(hx30 n).trans (reach_once (f:=fun n=>x.pl.has n) (ws:=hs));refine G12 ?_;refine .call4 J J J J J Body71 (want_set s30 th) (fun w h=>Ci hac30 (Lies.of h (by repeat(exact Au))) h3230 J oM) ?_;rintro v37 out37 ⟨m37,rfl,rfl⟩;refine .call4 J J J J J Body74 (want_outside (some m37) none) tV ?_;rintro v38 out38 ⟨qa,qb,rfl,rfl⟩;simp only[Lak,Lah,La8];refine .call4 J J J J J Body72 (filter_out1 s20 al qa qb m37 (setP th) oM) (fun w h=>⟨Ci hac20 (Lies.of h (by repeat(first|exact Au|refine A3 ?_|refine Bk ?_))) h3220 J oM,(B5 (B:=⟨qa,[.map (some m37)],114,1⟩) h Z0).cell (o:=0) J,(B5 (B:=⟨qb,[.map none],114,1⟩) h Z1).cell (o:=0) J,B5 h Z2⟩) ?_;rintro v39 out39 ⟨s39,rfl,hac39⟩;have hn39:=hac39.num;have hf39:=Lch (fun n=>(Aj (setP th) n).isNone) al;have h3239:∀l∈al.filter fun n=>(Aj (setP th) n).isNone,l.length=32:=fun l hl=>h3220 l (Las.1 hl).1;have hall:al.length≤x.names.length:=by rw[←hnm];exact nd_len hnd20 fun n hn=>(C9 hI n).2 (reach_P ((hx20 n).1 hn))
 refine .call4 J J J J J Body110 (lin_sort x hx hI hO p s39 (al.filter fun n=>(Aj (setP th) n).isNone) oM) (fun w h=>⟨Bm hlies h,Ci hac39 (Lies.of h (by repeat(exact Au))) h3239 J oM⟩) ?_;rintro v40 out40 (⟨⟨n9,hn9,h09⟩,_⟩|⟨_,⟨hd9,_⟩|⟨_,s40,rfl,hac40⟩⟩)
 ·exfalso;obtain⟨D9,hD9⟩:=reach_P ((hx20 n9).1 (Las.1 hn9).1);unfold PD.has at h09;rw[hD9]at h09;cases h09
 ·exact absurd (hnd20.filter _) hd9
 have hgv:=gv_perm hI (ws:=ws) (hs:=hs) hnd20 hx20 hx30;rw[←(isortD_perm x.pl _).length_eq,hgv]at hac40;refine G13 ?_;refine G2 ?_;refine As (out:=(out40++[])) (Af J J) (Ac sG Ae) ?_;exact⟨s40,rfl,by simpa using hac40⟩
theorem want_needs(x:DD)(hx:x.ok)(hI:x.pl.Inv)(hO:x.pl.Ord)(p:Nat)(sw sh:Sl)(ws hs:List (List UInt8))(hw1:ws.length≤90000)(hh1:hs.length≤90000):Mv 34 [ptr p 0,sw.v,sh.v] (fun W=>Lies (x.blks p) W∧RowsAt W sw 32 ws∧RowsAt W sh 32 hs) (i64 ((gvL x.pl ws hs).length:Int)):=by
 intro W hW;refine Ad func34 J 14 ntmps34 J (G9 ?_);refine .cV J J J J Body70 (want_none x hx hI p) (fun w h=>Bm hW.1 h) (G2 ?_);refine .cond_f J J (G7 ?_);refine .call4 J J J J J Body77 (want_givenG x hx hI hO p sw sh ws hs hw1 hh1) (fun w h=>⟨Bm hW.1 h,Cw h J hW.2.1,Cw h J hW.2.2⟩) ?_;rintro v12 out12 ⟨s12,rfl,hac12⟩;refine G4 ?_;refine G2 ?_;refine As (out:=[]) (Af J J) Ae ?_;exact⟨by rw[hac12.num],rfl⟩
theorem want_askG(x:DD)(hx:x.ok)(hI:x.pl.Inv)(p:Nat)(sh:Sl)(hs:List (List UInt8))(hh1:hs.length≤90000):Meets prog 27 [ptr p 0,sh.v] [] (fun W=>Lies (x.blks p) W∧RowsAt W sh 32 hs) (RowA (askL x.pl hs)):=by
 intro W hW;obtain⟨hlies,hrh⟩:=id hW;have hh32:=hrh.row;have hbig:=hx.big;have hno:=hx.orpn;have hso:x.pl.orphans.length≤64:=by unfold PD.orphans;rw[(Br _).length_eq,orp_keys,La0];exact hno
 have ho32:=orph_32 hx;have hm32:=miss_32 hx hlies;have hml:=miss_len hx;refine Ad func27 J 41 ntmps27 J (G9 ?_);refine .cV J J J J Body70 (want_none x hx hI p) (fun w h=>Bm hlies h) (G2 ?_);refine .cond_f J J (G7 ?_);refine .call4 J J J J J Body72 (filter_has sh hs x hx p oM) (fun w h=>⟨Cw h J hrh,Bm hlies h⟩) ?_;rintro v14 out14 ⟨s14,rfl,hac14⟩;have hf14:=Lch (fun n=>x.pl.has n) hs;refine .call4 J J J J J Body71 (want_set s14 (hs.filter fun n=>x.pl.has n)) (fun w h=>Ci hac14 (Lies.of h (by repeat(exact Au))) (fun l hl=>hh32 l (Las.1 hl).1) J oM) ?_;rintro v15 out15 ⟨m15,rfl,rfl⟩;refine G8 ?_;refine .call4 J J J J J Body17 (dag_orphans x hx p) (fun w h=>Bm hlies h) ?_;rintro v19 out19 ⟨s19,rfl,hac19⟩;refine .call4 J J J J J Body71 (want_set s19 x.pl.orphans) (fun w h=>Ci hac19 (Lies.of h (by repeat(exact Au))) ho32 J oM) ?_;rintro v20 out20 ⟨m20,rfl,rfl⟩;refine .call4 J J J J J Body74 (want_outside (some m15) (some m20)) tV ?_;rintro v21 out21 ⟨q21a,q21b,rfl,rfl⟩;simp only[Lak,Lah,La8];refine .call4 J J J J J Body72 (filter_out2 sh hs q21a q21b m15 m20 (setP (hs.filter fun n=>x.pl.has n)) (setP x.pl.orphans) oM) (fun w h=>⟨Cw h J hrh,(B5 (B:=⟨q21a,[.map (some m15)],114,1⟩) h Z0).cell (o:=0) J,(B5 (B:=⟨q21b,[.map (some m20)],114,1⟩) h Z1).cell (o:=0) J,B5 h mR,B5 h Z2⟩) ?_;rintro v22 out22 ⟨s22,rfl,hac22⟩;rw[ask_filt]at hac22;have hn22:=hac22.num;have hf22:=Lch (fun n=> !x.pl.has n&&decide (n∉x.pl.orphans)) hs;refine .call4 J J J J J Body73 (want_onceG s22 (hs.filter fun n=> !x.pl.has n&&decide (n∉x.pl.orphans)) oM) (fun w h=>Ci hac22 (Lies.of h (by repeat(exact Au))) (fun l hl=>hh32 l (Las.1 hl).1) J oM) ?_;rintro v23 out23 ⟨s23,rfl,hac23⟩;change Hw.Acc s23 out23 (Av (askF x.pl hs)) 31 (askF x.pl hs).length 32 at hac23;have hn23:=hac23.num;have hF32:∀l∈askF x.pl hs,l.length=32:=fun l hl=>hh32 l (askF_mem.1 hl).1;have hFl:(askF x.pl hs).length≤hs.length:=Lbb (once_len _) hf22;refine G6 ?_;refine .call4 J J J J J Body19 (dag_missing x hx p) (fun w h=>Bm hlies h) ?_;rintro v25 out25 ⟨s25,rfl,hac25⟩;refine .call4 J J J J J Body73 (want_onceG s25 x.pl.missing oM) (fun w h=>Ci hac25 (Lies.of h (by repeat(exact Au))) hm32 J oM) ?_;rintro v26 out26 ⟨s26,rfl,hac26⟩;rw[once_self (miss_sort x.pl) (miss_nd x.pl)]at hac26;refine G1 ?_;refine .call4 J J J J J Body71 (want_set s23 (askF x.pl hs)) (fun w h=>Ci hac23 (Lies.of h (by repeat(first|exact Au|refine Bk ?_))) hF32 J oM) ?_;rintro v28 out28 ⟨m28,rfl,rfl⟩;refine .call4 J J J J J Body74 (want_outside (some m28) none) tV ?_;rintro v29 out29 ⟨q29a,q29b,rfl,rfl⟩;simp only[Lak,Lah,La8]
 refine .call4 J J J J J Body72 (filter_out1 s26 x.pl.missing q29a q29b m28 (setP (askF x.pl hs)) oM) (fun w h=>⟨Ci hac26 (Lies.of h (by repeat(first|exact Au|refine A3 ?_))) hm32 J oM,(B5 (B:=⟨q29a,[.map (some m28)],114,1⟩) h Z0).cell (o:=0) J,(B5 (B:=⟨q29b,[.map none],114,1⟩) h Z1).cell (o:=0) J,B5 h Z2⟩) ?_;rintro v30 out30 ⟨s30,rfl,hac30⟩;rw[ask_rest]at hac30;have hn30:=hac30.num;have hR32:∀l∈askR x.pl hs,l.length=32:=fun l hl=>hm32 l (askR_mem.1 hl).1;have hRl:(askR x.pl hs).length≤x.pl.missing.length:=Lch _ _;refine G7 ?_;refine .appendAcc (n:=(askF x.pl hs).length) (z:=agg (Aa (List.replicate 32 0))) (by':=32) (Av (askR x.pl hs)) J J J J J Y32.h Y32.h Sz31 Cj (by unfold By;kernel_rfl) J hac23 sG (fun w h=>hac30.see (Lies.of h (by repeat(exact Au)))) (fun e=>by have:=hac30.nil e;omega) (flatB_cell _) oM oM (by rw[A2 hR32,hn30]) ?_;intro s33 bl33 hac33';have hac33:Hw.Acc s33 bl33 (Av (askF x.pl hs++askR x.pl hs)) 31 (askF x.pl hs++askR x.pl hs).length 32:=by rw[Cf,La2,←hn30];exact hac33'
 clear hac33';have hn33:=hac33.num;have hc33:=hac33.cap;have hA32:∀l∈askF x.pl hs++askR x.pl hs,l.length=32:=fun l hl=>by rcases Lab.1 hl with h|h;exact hF32 l h;exact hR32 l h
 refine G3 ?_;refine .join (ι:=Sl×List Blk) (fun z=>⟨[(8,z.1.v)],(z.2++[])⟩) (fun z=>Hw.Acc z.1 z.2 (Av (askL x.pl hs)) 31 (askL x.pl hs).length 32) ?_ ?_
 ·
  refine G7 ?_;refine .condP J (fun hc1=>?_) (fun hc1=>?_)
  ·
   refine G2 ?_;refine .sliceHiA s33 32 J J J J J oM Y32.h Sz31 (.call4 J J J J J Body53 (cl_digs ⟨s33.p,32,s33.c⟩ ((askF x.pl hs++askR x.pl hs).take 32) (by show 32≤90000;omega)) (fun w h=>⟨by rw[Lac];show min 32 _=32;omega,fun l hl=>hA32 l (Lbf hl),by show 32≤s33.c;omega,rows_take (hac33.see (Lies.of h (by repeat(exact Au)))) hA32,by show 32≤maxLen;unfold maxLen;omega,hac33.nilc⟩) ?_);rintro v39 out39 ⟨s39,rfl,hac39⟩;refine G3 ?_;exact⟨(s39,out39),(by simp only;unfold askL;rw[Lac,Lc8 oM];exact hac39),Ag (wk1 rfl wk0) (Ac sG Ae)⟩
  refine G2 ?_;exact⟨(s33,bl33),(by simp only;unfold askL;rw[La5 oM];exact hac33),Ag (wk1 rfl wk0) (Ac sG Ae)⟩
 intro z hj;skip;refine G6 ?_;refine G2 ?_;refine As (out:=(z.2++[])) (Af J J) (Ac sG Ae) ?_;exact⟨z.1,rfl,by simpa using hj⟩
def PD.blk(X:PD)(n:List UInt8):DB:=(Aj X.P n).getD DB.zero
def GiveB(ds:List DB)(v:Value)(out:List Blk):Prop:=∃(sl:Sl) (bl bl2:List Blk) (rs:List Block),v=sl.v∧out=bl++bl2∧OwnSeq Block.cells 131 BlockIs 37 sl bl bl2 rs ds ds.length
noncomputable def takeE:PD→List DB→List Int
  |_,[]=>[]
  |X,d::ds=>(X.add d).2.2::takeE (X.add d).1 ds
noncomputable def takeN:PD→List DB→Nat
  |_,[]=>0
  |X,d::ds=>(X.add d).2.1.length+takeN (X.add d).1 ds
theorem takeE_snoc:∀(ds:List DB) (X:PD) (d:DB),takeE X (ds++[d])=takeE X ds++[((fillP X ds).add d).2.2]
  | [],X,d=>rfl
  | e::ds,X,d=>by
    rw[Lak,takeE,takeE,takeE_snoc ds,Lak];rfl
theorem takeN_snoc:∀(ds:List DB) (X:PD) (d:DB),takeN X (ds++[d])=takeN X ds+((fillP X ds).add d).2.1.length
  | [],X,d=>by
    show(X.add d).2.1.length+0=0+_;rw[Lb2];rfl
  | e::ds,X,d=>by
    rw[Lak,takeN,takeN,takeN_snoc ds,Lcd];rfl
theorem takeE_len:∀(ds:List DB) (X:PD),(takeE X ds).length=ds.length
  | [],X=>rfl
  |d::ds,X=>congrArg (· +1) (takeE_len ds _)
theorem intsV_cell(l:List Int):∀u∈l.map i64,isCell u=true:=fun u hu=>by obtain⟨a,_,rfl⟩:=La6.1 hu;rfl
theorem want_each(x:DD)(hx:x.ok)(hI:x.pl.Inv)(p:Nat)(s:Sl)(ns:List (List UInt8))(hn:ns.length≤1000)(hall:∀n∈ns,x.pl.has n=true):Meets prog 78 [s.v, .func (.func 13) #[ptr p 0] #[]] [] (fun W=>Lies (x.blks p) W∧RowsAt W s 32 ns) (GiveB (ns.map x.pl.blk)):=by
 intro W hW;have h32k:True:=trivial;have hlen:=hW.2.len;have hrow:=hW.2.row;have hck:∀q∈x.P,q.2.check=0:=hI.ck;refine Ad func78 J 30 ntmps78 J (G19 ?_);refine .loop (ι:=Nat×Sl×List Blk×List Blk×List Block) (fun q=>⟨[(1, .func (.func 13) #[ptr p 0] #[]),(5,q.2.1.v),(10,s.v),(11,i64 (s.n:Int)),(12,i64 (q.1:Int))],(q.2.2.1++(q.2.2.2.1++[]))⟩) (fun q=>q.1≤s.n∧OwnSeq Block.cells 131 BlockIs 37 q.2.1 q.2.2.1 q.2.2.2.1 q.2.2.2.2 ((ns.take q.1).map x.pl.blk) q.1) (fun q=>s.n-q.1) ((0,Sl.nil,[],[],[])) ?_ ?_ ?_
 ·exact⟨Lan _,OwnSeq.none⟩
 ·exact Ag wN (Ac (by repeat(exact Df)) (Ac (by repeat(exact Df)) Ae))
 rintro⟨k,s5,bl5,bo5,rs⟩ ⟨hk,hos⟩;simp only at hk hos ⊢;refine G6 ?_;refine .condP J (fun hc0=>?_) (fun hc0=>?_)
 ·
  have hk2:k<s.n:=by omega
  obtain⟨b,o,hbp,hbs⟩:=hW.2.see.at (by rw[A2 hrow];omega);obtain⟨kk,hkk⟩:∃q,q=ns.getD k []:=⟨_,rfl⟩;have h32k:kk.length=32:=by rw[hkk];exact Ch hrow oM
  obtain⟨Dk,hDk⟩:=Laz.1 (hall kk (by rw[hkk];exact getD_mem2 oM));refine G6 ?_;refine .idxSlP 32 J J J hbp J Y32.h Sz31 k J oM (.loadEN (Aa kk) J J J Y31.h J Sz31 sP (by rw[Aa,La0];exact h32k) (by rw[hkk];exact B0 hrow hbs oM) ?_);refine .alloc (cs:=(Aa (List.replicate 32 0))) J Cj J ?_;intro n7 hn7 hf7;refine .sA J J J J zE Sz31 (by(simp[h32k];done)) Z0 sP zU ?_;refine G5 ?_;refine .lA J J J Y31.h J Sz31 Z0 (by(simp[h32k];done)) ?_;refine .call4C J J J J J J Body13 (dag_get x hx hck p kk h32k) (fun w h=>Bm hW.1 h) ?_;rintro v19 out19 (⟨h0,_⟩|⟨D,B,hD,hB,rfl,hbi⟩)
  ·exfalso;rw[h0]at hDk;cases hDk
  refine G3 ?_;refine .alloc (cs:=Block.zero.cells) J Block.zr J ?_;intro n8 hn8 hf8;refine .sA J J J J (Block.isCell (by exact hB.ok)) Sz37 (Block.length (by exact hB.ok)) Z0 (Block.length (by exact Block.zero_ok)) zU ?_;refine G6 ?_;refine .eqi J J J J (decide_eq_true (dE)) (G2 ?_);refine .cond_t J J (G2 ?_);refine .lA J J J Y37.h J Sz37 Z0 (Block.length (by exact hB.ok)) ?_;refine .mkRow (z:=agg Block.zero.cells) [agg B.cells] B.cells J J J Y22.h Sz37 Block.zr J J (by intro v hv;rw[La1.1 hv];exact Block.length hB.ok) dE (by simp[Value.cells]) ?_;intro q26;refine .appendAcc (n:=k) (z:=agg Block.zero.cells) (by':=184) (B.cells) J J J J J Y22.h Y22.h Sz37 Block.zr (by unfold By;kernel_rfl) J hos.acc sG (fun w h=>SeesP.of (An h Z0)) (fun e=>by cases e) (Block.isCell hB.ok) oM oM (by rw[Block.length hB.ok]) ?_;intro s27 bl27 hac27;refine G9 ?_;refine⟨(k+1,s27,bl27,out19++bo5,rs++[B]),⟨by simp only;omega,?_⟩,by simp only;omega,Ag wN (Ac sG (pm_two (Ac sG (Ac sG Ae))))⟩;simp only;rw[take_succ_getD oM,Lae,List.map_singleton,←hkk,show x.pl.blk kk=D by unfold PD.blk;rw[hD];rfl];exact hos.snoc hac27 (Block.length hB.ok) (fun W2 hl=>hbi W2 hl)
 have hke:k=s.n:=by omega
 refine G11 ?_;refine G2 ?_;refine As (out:=(bl5++(bo5++[]))) (Af J J) (Ac sG (Ac sG Ae)) ?_;refine⟨s5,bl5,bo5,rs,rfl,by simp,?_⟩;rw[La0,hlen,←hke];have e9:ns.take k=ns:=La5 oM;rw[e9]at hos;exact hos
theorem want_giveG(x:DD)(hx:x.ok)(hI:x.pl.Inv)(hO:x.pl.Ord)(p:Nat)(sw sh:Sl)(ws hs:List (List UInt8))(hw1:ws.length≤90000)(hh1:hs.length≤90000)(most:Int)(hm:1≤most):Meets prog 33 [ptr p 0,sw.v,sh.v,i64 most] [] (fun W=>Lies (x.blks p) W∧RowsAt W sw 32 ws∧RowsAt W sh 32 hs) (fun v out=>∃v0,v= .tuple #[v0,i64 0]∧GiveB (((gvL x.pl ws hs).take (min (min (gvL x.pl ws hs).length most.toNat) 8)).map x.pl.blk) v0 out):=by
 intro W hW;refine Ad func33 J 28 ntmps33 J (G10 ?_);refine .cV J J J J Body70 (want_none x hx hI p) (fun w h=>Bm hW.1 h) (G2 ?_);refine .cond_f J J (G6 ?_);refine .lss J J J J (decide_eq_false oM) (G2 ?_);refine .cond_f J J (G7 ?_);refine .call4 J J J J J Body77 (want_givenG x hx hI hO p sw sh ws hs hw1 hh1) (fun w h=>⟨Bm hW.1 h,Cw h J hW.2.1,Cw h J hW.2.2⟩) ?_;rintro v18 out18 ⟨s18,rfl,hac18⟩;have hn18:=hac18.num;have hc18:=hac18.cap;obtain⟨mn,hmn⟩:∃mn,mn=min (min (gvL x.pl ws hs).length most.toNat) 8:=⟨_,rfl⟩;have h32g:∀l∈gvL x.pl ws hs,l.length=32:=fun l hl=>P32 hx (Laz.1 (gv_has hI l hl));refine G9 ?_;refine .min3 J J J J J (show _=i64 (mn:Int)from congrArg (Value.int .i64) (show(if(8:Int)<(if most<(s18.n:Int)then most else(s18.n:Int))then(8:Int)else(if most<(s18.n:Int)then most else(s18.n:Int)))=(mn:Int) by rw[hmn];repeat(omega))) ?_;refine .sliceHiA s18 mn J J J J J oM Y32.h Sz31 (G2 ?_);refine .call4 J J J J J Body78 (want_each x hx hI p ⟨s18.p,mn,s18.c⟩ ((gvL x.pl ws hs).take mn) (by rw[Lac];omega) (fun n hn=>gv_has hI n (Lbf hn))) (fun w h=>⟨Bm hW.1 h,⟨by rw[Lac];show min mn _=mn;omega,fun l hl=>h32g l (Lbf hl),by show mn≤s18.c;omega,rows_take (hac18.see (Lies.of h (by repeat(exact Au)))) h32g,by show mn≤maxLen;unfold maxLen;omega,hac18.nilc⟩⟩) ?_;rintro v27 out27 ⟨s27,bl27,bo27,rs27,rfl,rfl,hos27⟩;simp only[La8];refine G4 ?_;refine G2 ?_;refine As (out:=(bl27++(bo27++[]))) (Ca J J J) (Ac sG (Ac sG Ae)) ?_;rw[←hmn];exact⟨s27.v,rfl,s27,bl27,bo27,rs27,rfl,by simp,hos27⟩
theorem same_ofT{B:Block}{D:DB}(h:BlockIs W B D):SameB B D:=⟨h.ok,h.w,h.seq,h.prev,h.sg,h.ls.len.symm,h.ds.len.symm⟩
def TakeR(x:DD)(p:Nat)(ds:List DB)(al:List Blk)(v:Value)(out:List Blk):Prop:=∃(x':DD) (s:Sl) (bl:List Blk),v= .tuple #[i64 (takeN x.pl ds:Int),s.v]∧out=x'.blks p++(bl++al)∧x'.ok∧x'.pl=fillP x.pl ds∧Hw.Acc s bl ((takeE x.pl ds).map i64) 39 ds.length 1∧x'.names.length+x'.orp.length≤x.names.length+x.orp.length+ds.length
theorem mem_len{α:Type}{l:List α}{a:α}(h:l[k]? =some a):k<l.length:=(Laa.1 h).1
theorem take_see{s:Sl}{rs:List Block}{ds:List DB}(h:SeqIs Block.cells 131 BlockIs W s rs ds){k b o:Nat}{r:Block}(hr:rs[k]? =some r)(hp:s.p=some ⟨b,o,none⟩):De W b (o+k*131) r.cells:=by
  obtain⟨b2,o2,r2,d2,hp2,hr2,hd2,hi,hl,hs⟩:=h.at dE (show k<s.n by rw[←h.nr];exact mem_len hr);rw[hp]at hp2;cases hp2;rw[hr]at hr2;cases hr2;exact hs
theorem add_len(hx:x.ok)(d:DB):(x.pl.add d).2.1.length≤65:=by
  have ho:x.pl.orp.length=x.orp.length:=La0 _;have h1:=hx.orpn;unfold PD.add;split
  · split
    ·exact Lan _
    · split
      ·exact Lan _
      · split
        ·split<;>exact Lan _
        · have h2:=settle_len (x.pl.adm (Az d) d).orp.length (x.pl.adm (Az d) d)
          have h3:(x.pl.adm (Az d) d).orp.length=x.orp.length:=ho;simp only[Lay];omega
  ·exact Lan _
theorem want_take(x:DD)(hx:x.ok)(p:Nat)(s:Sl)(rs:List Block)(ds:List DB)(al:List Blk)(hal:∀W,Lies al W→SeqIs Block.cells 131 BlockIs W s rs ds)(hn:ds.length≤1000)(hroom:x.names.length+x.orp.length+ds.length<20000):Meets prog 41 [ptr p 0,s.v] ((x.blks p++al).map (·.n)) (fun W=>Lent (x.blks p++al) W) (TakeR x p ds al):=by
 intro W hW;have hs0:=hal W (hW.1.sub fun b hb=>Lau _ hb);have hsn:=hs0.nd;generalize hlt:(x.blks p++al).map (·.n)=lt;refine calls_of (hp0:=(x.blks p++al)) func41 J 38 ntmps41 J (hlt▸hW.rep) (G15 ?_);refine .mkRoomN (z:=i64 0) (by':=8) s.n J J J J J Y73.h Sz39 Zr39 (by unfold By;kernel_rfl) oM oM ?_;intro q14;have hac0:Hw.Acc ⟨some ⟨q14,0,none⟩,0,s.n⟩ [⟨q14,([]:List Int).map i64,39,s.n*1⟩] (([]:List Int).map i64) 39 0 1:=Acc.some (Lan _) rfl;refine G12 ?_;refine .loop (ι:=Nat×DD×Sl×List Blk) (fun q=>⟨[(0,ptr p 0),(6,i64 (takeN x.pl (ds.take q.1):Int)),(7,q.2.2.1.v),(15,s.v),(16,i64 (s.n:Int)),(17,i64 (q.1:Int))],(q.2.1.blks p++(al++(q.2.2.2++[])))⟩) (fun q=>q.1≤s.n∧q.2.1.ok∧q.2.1.pl=fillP x.pl (ds.take q.1)∧Hw.Acc q.2.2.1 q.2.2.2 ((takeE x.pl (ds.take q.1)).map i64) 39 q.1 1∧q.2.1.names.length+q.2.1.orp.length≤x.names.length+x.orp.length+q.1∧takeN x.pl (ds.take q.1)≤20000*q.1) (fun q=>s.n-q.1) ((0,x,⟨some ⟨q14,0,none⟩,0,s.n⟩,[⟨q14,([]:List Int).map i64,39,s.n*1⟩])) ?_ ?_ ?_
 ·exact⟨Lan _,hx,rfl,hac0,Lad _,Lad _⟩
 ·exact Ag wN (Ac sG (Ac (by repeat(first|exact Df|apply sg_there)) (Ac (by repeat(exact Df)) Ae)))
 rintro⟨k,x1,s7,bl7⟩ ⟨hk,hx1,hpl1,hac7,hnx1,htn⟩;simp only at hk hx1 hpl1 hac7 hnx1 htn ⊢;refine G6 ?_;refine .condP J (fun hc0=>?_) (fun hc0=>?_)
 ·
  have hk2:k<s.n:=by omega
  obtain⟨b,o,r,d,hsp,hr,hd,hrB,hlen,hsee⟩:=hs0.at dE hk2;have hal32:=add_len hx1 d;refine G6 ?_;refine .idxSlP 131 J J J hsp J Y22.h Sz37 k J oM (.loadSN (n:=131) r.cells J J J Y37.h J Sz37 hlen (fun w h=>take_see (hal w (Lies.of h (by repeat(first|exact Au|refine A3 ?_|refine Bk ?_)))) hr hsp) ?_);refine .alloc (cs:=Block.zero.cells) J Block.zr J ?_;intro n9 hn9 hf9;refine .sA J J J J (Block.isCell (by exact hrB.ok)) Sz37 (Block.length (by exact hrB.ok)) Z0 (Block.length (by exact Block.zero_ok)) zU ?_;refine G5 ?_;refine .lA J J J Y37.h J Sz37 Z0 (Block.length (by exact hrB.ok)) ?_;refine .callL (L:=(x1.blks p++al)) J J J J J Body50 (dag_add x1 hx1 p r d al ⟨same_ofT (hal W (hW.1.sub fun b hb=>Lau _ hb)|>.is k r d hr hd),fun w hw=>(hal w hw).is k r d hr hd⟩ oM) (sg_two sG sG) (C5 J) (fun w h=>Lent.of h (sg_two sG sG)) ?_;rintro v24 out24 ⟨x2,s24,bl24,rfl,rfl,hx2,hac24,h3224,hpl2,hnx2⟩;have hn24:=hac24.num;obtain⟨ee,hee⟩:∃e,e=(x1.pl.add d).2.2:=⟨_,rfl⟩;rw[←hee];simp only[La8];refine G19 ?_;refine .mkRow (z:=i64 0) [i64 ee] (([ee]:List Int).map i64) J J J Y73.h Sz39 Zr39 J J (by intro v hv;rw[La1.1 hv];rfl) dE J ?_;intro q33;refine .appendAcc (n:=k) (z:=i64 0) (by':=8) (([ee]:List Int).map i64) J J J J J Y73.h Y73.h Sz39 Zr39 (by unfold By;kernel_rfl) J hac7 (by repeat(first|exact Bu|apply B6|apply sg_there)) (fun w h=>SeesP.of (An h Z0)) (fun e=>by cases e) (intsV_cell _) oM oM J ?_;intro s34 bl34 hac34;refine G9 ?_;refine⟨(k+1,x2,s34,bl34),⟨by simp only;omega,hx2,?_,?_,by simp only;omega,?_⟩,by simp only;omega,Ag (wk1 J (wk1 (by show Hw.look _ _=some (i64 ((takeN x.pl (ds.take (k+1)):Nat):Int));rw[take_snoc hd,takeN_snoc,←hpl1,Lcn,←hn24];rfl) wN)) (Ac (by repeat(first|exact Bu|apply B6|apply sg_there)) (Ac (by repeat(first|exact Bu|apply B6|apply sg_there)) (Ac sG Ae)))⟩
  ·simp only;rw[take_snoc hd,fillP_snoc,←hpl1,hpl2]
  ·simp only;rw[take_snoc hd,takeE_snoc,←hpl1,←hee,Lae];exact hac34
  ·simp only;rw[take_snoc hd,takeN_snoc,←hpl1];omega
 have hke:k=s.n:=by omega
 have hkl:ds.take k=ds:=La5 oM;rw[hkl]at hpl1 hac7;refine G13 ?_;refine G2 ?_;refine As (out:=(x1.blks p++(bl7++(al++[])))) (Ca J J J) (Ac sG (Ac (by repeat(first|exact Bu|apply B6)) (Ac sG Ae))) ?_;refine⟨x1,s7,bl7,by rw[hkl],by simp,hx1,hpl1,?_,by omega⟩;rw[hsn,←hke];exact hac7
theorem whole_1(n:List UInt8)(h32:n.length=32)(x:DD)(hx:x.ok)(p qd:Nat):Mv 84 [agg (Aa n),ptr qd 0] (fun W=>Lies (x.blks p) W∧W.cell? ⟨qd,0,none⟩=some (ptr p 0)) (.bool (!x.pl.has n)):=by
 intro W hW;refine Ad func84 J 8 ntmps84 J (G3 ?_);intro n2 hn2 hf2;refine G5 ?_;refine .loadE J J J Y25.h J sP (hW.2) (.lA J J J Y31.h J Sz31 Z0 (by(simp[h32];done)) ?_);refine .cV J J J J Body66 (dag_hasP x hx p n h32) (fun w h=>Bm hW.1 h) (G4 ?_);refine G2 ?_;refine As (out:=[]) (Af J J) Ae ?_;exact⟨rfl,rfl⟩
theorem index_whole(s:Sl)(ls:List (List UInt8))(x:DD)(hx:x.ok)(p qd:Nat):Mv 118 [s.v, .func (.func 84) #[] #[ptr qd 0]] (fun W=>RowsAt W s 32 ls∧Lies (x.blks p) W∧W.cell? ⟨qd,0,none⟩=some (ptr p 0)) (i64 (fstBad (fun n=> !x.pl.has n) ls)):=by
 intro W hW;have hlen:=hW.1.len;have hrow:=hW.1.row;have hmax:=hW.1.max;simp only[maxLen]at hmax;have hcap:=hW.1.cap;refine Ad func118 J 19 ntmps118 J (G14 ?_);refine .loop (ι:=Nat) (fun k=>⟨[(0,s.v),(1, .func (.func 84) #[] #[ptr qd 0]),(7,i64 (s.n:Int)),(8,i64 (k:Int))],[]⟩) (fun k=>k≤s.n∧∀j,j<k→(ls.map (fun n=> !x.pl.has n))[j]? =some false) (fun k=>s.n-k) (0) ?_ ?_ ?_
 ·exact⟨by omega,fun j hj=>by omega⟩
 ·exact Ah wN wh0 nD
 rintro k ⟨hk,hg⟩;refine G6 ?_;refine .condP J (fun hc0=>?_) (fun hc0=>?_)
 ·
  have hk2:k<s.n:=by omega
  obtain⟨b,o,hbp,hbs⟩:=hW.1.see.at (by rw[A2 hrow];omega);have h32k:(ls.getD k []).length=32:=Ch hrow oM;have hd:ls[k]? =some (ls.getD k []):=by rw[La4,La3 (show k<ls.length by omega)];rfl
  refine G15 ?_;refine .idxSlP 32 J J J hbp J Y32.h Sz31 k oM oM (.loadEN (Aa (ls.getD k [])) J J J Y31.h J Sz31 sP (by rw[Aa,La0];exact h32k) (B0 hrow hbs oM) ?_);refine .callCV J J J J J Body84 (whole_1 (ls.getD k []) h32k x hx p qd) (fun w hh2=>⟨Bm hW.2.1 hh2,hh2.keeps.cell sP hW.2.2⟩) (G2 ?_);refine .cond J (fun hc1=>?_) (fun hc1=>?_)
  ·
   refine G6 ?_;refine G7 ?_;refine⟨_,[],Af J J,sP,sP,?_,rfl⟩;exact congrArg i64 (fstBad_at hg (by rw[Lam,hd];simpa using hc1)).symm
  refine G8 ?_;exact⟨k+1,⟨by omega,fun j hj=>by rcases Lcc.1 hj with h|rfl;exact hg j h;rw[Lam,hd];simpa using hc1⟩,by omega,Ah wN wh0 nD⟩
 obtain rfl:k=s.n:=by omega
 refine G10 ?_;refine G2 ?_;refine⟨_,[],Af J J,sP,sP,?_,rfl⟩;exact congrArg i64 (fstBad_none (by intro j hj;exact hg j (by rw[hlen]at hj;exact hj))).symm
theorem contains_whole(s:Sl)(ls:List (List UInt8))(x:DD)(hx:x.ok)(p qd:Nat):Mv 83 [s.v, .func (.func 84) #[] #[ptr qd 0]] (fun W=>RowsAt W s 32 ls∧Lies (x.blks p) W∧W.cell? ⟨qd,0,none⟩=some (ptr p 0)) (.bool (ls.any (fun n=> !x.pl.has n))):=by
 intro W hW;refine Ad func83 J 9 ntmps83 J (G9 ?_);refine .cV J J J J Body118 (index_whole s ls x hx p qd) (fun w hh2=>⟨Cw hh2 J hW.1,Bm hW.2.1 hh2,hh2.keeps.cell sP hW.2.2⟩) (G4 ?_);refine G2 ?_;refine⟨_,[],Af J J,sP,sP,?_,rfl⟩;exact congrArg Value.bool (fstBad_ge _ _)
theorem want_whole(x:DD)(hx:x.ok)(hI:x.pl.Inv)(p:Nat)(sh:Sl)(hs:List (List UInt8)):Mv 43 [ptr p 0,sh.v] (fun W=>Lies (x.blks p) W∧RowsAt W sh 32 hs) (.bool (!hs.any (fun n=> !x.pl.has n))):=by
 intro W hW;refine Ad func43 J 11 ntmps43 J (G2 ?_);refine .box1 J J J ?_;intro n2 hn2 hf2;refine G7 ?_;refine .cV J J J J Body70 (want_none x hx hI p) (fun w h=>Bm hW.1 h) (G2 ?_);refine .cond_f J J (G6 ?_);refine .cV J J J J Body83 (contains_whole sh hs x hx p n2) (fun w h=>⟨Cw h J hW.2,Bm hW.1 h,(B5 (B:=⟨n2,[ptr p 0],25,1⟩) h Z0).cell (o:=0) J⟩) ?_;refine G4 ?_;refine G2 ?_;refine As (out:=[]) (Af J J) Ae ?_;exact⟨by simp,rfl⟩
end Go.Proofs.YtgjnomgkddbhcaaGreat
namespace Go.Proofs.YtgjnomgkddbhcaaGreat
open Go Hw Ed
def mC0:DB:={ DB.zero with seq:=2,prev:=mBN }
def mCR:Nat×Nat×Nat×Nat:=(4918219388157574454008950300951600336261496714867819213746146962254068804302,12066615373167398837812297369869085678792139161754506735642922152132469909793,2391075413008516104747883083306106368920068902258276330310763233931621502074,86861518318388596130886399270894904004484937538936997900655612364818747309780)
def mCN:List UInt8:=leb 32 mCR.2.2.2
def mCD:DB:=blkD s1K mC0 mCR.2.1 mCR.2.2.1
theorem mC_ok:blkOk s1H s1K 38748270507491543869280182973643753799655646515636239770492563660028217171792 mC0 mCR.1 mCR.2.1 mCR.2.2.1 mCR.2.2.2=true:=by kernel_rfl
theorem mC_len:mCN.length=32:=Am 32 _
theorem mC_f:BlkF s1B s1K mC0 mCR.2.1 mCR.2.2.1 mCR.2.2.2:=blk_facts (H:=s1H) rfl s1_h s1_n s1_k dE dE ⟨rfl,by rfl,rfl,fun l hl=>(by first|(cases hl;done)|(rw[La1.1 hl];rfl))⟩ mC_ok
end Go.Proofs.YtgjnomgkddbhcaaGreat
namespace Go.Proofs.YtgjnomgkddbhcaaGreat
open Go Hw _root_.Go.Proofs.Tryz
open Ed
variable{D Da Db Dc:DB}{L:List (List UInt8)}{T:TypeId}{X:PD}{a b c:Block}{m q:Nat}{n:List UInt8}{w:World}
theorem law24_signed(n:Int)(seed:List UInt8)(h32:seed.length=32)(B:Block)(hB:B.ok)(D D1:DB)(hD1:D1.ok)(cSeed:Mv 117 [i64 n] (fun _=>True) (agg (Aa seed)))(cS:∀B:Block,B.ok→Meets prog 116 [agg (Aa seed),agg B.cells] [] (fun W=>BlockIs W B D) (BlkR 0 D1)):Meets prog 82 [i64 n,agg B.cells] [] (fun W=>BlockIs W B D) (BlkV D1):=by
 intro W hW;refine Ad func82 J 15 ntmps82 J (G3 ?_);intro n3 hn3 hf3;refine .alloc (cs:=Block.zero.cells) J Block.zr J ?_;intro n4 hn4 hf4;refine G3 ?_;refine .draw (oPq [0,102,301,303,4,5,6,207,408,9]) Aq zK (G1 ?_);refine .lA J J J Y37.h J Sz37 Z1 (Block.length (by exact hB)) ?_;refine .cV J J J J Body117 (cSeed) tV (.call J J J J Body116 (cS B hB) (BlkR.loose 0 D1 hD1) (fun w h=>hW.ext h J) ?_);rintro v11 out11 ⟨B11,h11,rfl,ho11⟩;refine G3 ?_;refine .alloc (cs:=Block.zero.cells) J Block.zr J ?_;intro n5 hn5 hf5;refine .sA J J J J (Block.isCell (by exact h11.ok)) Sz37 (Block.length (by exact h11.ok)) Z0 (Block.length (by exact Block.zero_ok)) zU ?_;refine G5 ?_;refine .lA J J J Y37.h J Sz37 Z0 (Block.length (by exact h11.ok)) ?_;refine .sA J J J J (Block.isCell (by exact h11.ok)) Sz37 (Block.length (by exact h11.ok)) mR (Block.length (by exact Block.zero_ok)) uU ?_;refine G2 ?_;refine G2 ?_;refine As (out:=(out11++[])) (Aw J J Y37.h J Sz37 mR (by exact Block.length (by exact h11.ok))) (Ac sG Ae) ?_;exact⟨B11,h11,rfl,by simpa using ho11⟩
theorem law24_filled(s:Sl)(ds:List DB)(hn:s.n≤1000)(hsm:∀d∈ds,d.ls.length≤500000∧d.ds.length≤500000):Meets prog 23 [s.v] [] (fun W=>BlocksAt W s ds) (fun v out=>∃(p:Nat) (x:DD),v=ptr p 0∧out=x.blks p∧x.ok∧x.pl=fillP PD.new ds∧x.names.length+x.orp.length≤ds.length):=by
 intro W hW;obtain⟨rs,hs⟩:=hW;have hnd:=hs.nd;refine Ad func23 J 20 ntmps23 J (G7 ?_);refine .call4 J J J J J Body49 (dag_new2) tV ?_;rintro v5 out5 ⟨p,x0,rfl,rfl,hx0,hplx0,hnx0⟩;refine G10 ?_;refine .loop (ι:=Nat×DD) (fun r=>⟨[(0,s.v),(3,ptr p 0),(4,i64 (r.1:Int))],(r.2.blks p++[])⟩) (fun r=>r.1≤s.n∧r.2.ok∧r.2.pl=fillP PD.new (ds.take r.1)∧r.2.names.length+r.2.orp.length≤r.1) (fun r=>s.n-r.1) ((0,x0)) ?_ ?_ ?_
 ·exact⟨Lan _,hx0,hplx0,Ld4 hnx0⟩
 ·exact Ag wN (Ac sG Ae)
 rintro⟨k,x⟩ ⟨hk,hx,hplx,hnx⟩;simp only at hk hx hplx hnx ⊢;refine G9 ?_;refine .condP J (fun hc0=>?_) (fun hc0=>?_)
 ·
  have hk2:k<s.n:=by omega
  obtain⟨b,o,r,d,hsp,hr,hd,his,hlen,hsee⟩:=hs.at dE hk2;refine G8 ?_;refine .idxSlP 131 J J J hsp J Y22.h Sz37 k J oM (.loadEN r.cells J J J Y37.h J Sz37 sP hlen hsee (.call4 J J J J J Body51 (db_own r d (hsm d (Lax hd)).1 (hsm d (Lax hd)).2) (fun w h=>his.ext h J) ?_));rintro v17 out17 ⟨B17,h17,rfl,hb17⟩;refine .callL (L:=(x.blks p++out17)) J J J J J Body50 (dag_add x hx p B17 d out17 ⟨h17,hb17⟩ oM) (sg_two (by repeat(first|exact Bu|apply B6)) sG) (C5 J) (fun w h=>Lent.of h (sg_two (by repeat(first|exact Bu|apply B6)) sG)) ?_;rintro v18 out18 ⟨x1,⟨p18,n18,c18⟩,bl18,rfl,rfl,hx1,hac18,h3218,hplx1,hnx1⟩;simp only[La8];refine G9 ?_;exact⟨(k+1,x1),⟨by simp only;omega,hx1,by show x1.pl=_;rw[hplx1,hplx,take_snoc hd,fillP_snoc],by simp only;omega⟩,by simp only;omega,Ag wN (Ac sG Ae)⟩
 have hke:k=s.n:=by omega
 refine G11 ?_;refine G2 ?_;refine As (out:=(x.blks p++[])) (Af J J) (Ac sG Ae) ?_;refine⟨p,x,rfl,by simp,hx,?_,by omega⟩;rw[hke,La5 oM]at hplx;exact hplx
theorem law24_chain(Da Db Dc:DB)(na nb:List UInt8)(hDa:Da.ok)(hDb:Db.ok)(hDc:Dc.ok)(lna:na.length=32)(lnb:nb.length=32)(hna:Az Da=na)(hnb:Az Db=nb)(cSa:∀B:Block,B.ok→Meets prog 116 [agg (Aa s1B),agg B.cells] [] (fun W=>BlockIs W B DB.zero) (BlkR 0 Da))(cSb:∀B:Block,B.ok→Meets prog 116 [agg (Aa s1B),agg B.cells] [] (fun W=>BlockIs W B { DB.zero with seq:=1,prev:=na }) (BlkR 0 Db))(cSc:∀B:Block,B.ok→Meets prog 116 [agg (Aa s1B),agg B.cells] [] (fun W=>BlockIs W B { DB.zero with seq:=2,prev:=nb }) (BlkR 0 Dc)):Meets prog 40 [] [] (fun _=>True) (ChainS Da Db Dc):=by
 intro W hW;refine Ad func40 J 16 ntmps40 J (G7 ?_);refine .build (cs:=Block.zero.cells) J J J (fun w=>by kernel_rfl) ?_;refine .call4 J J J J J Body82 (law24_signed 1 s1B J Block.zero Block.zero_ok DB.zero Da hDa kitS1 cSa) (fun w h=>zero_is w) ?_;rintro v4 out4 ⟨Ba,ha,rfl,hoa⟩;have cNa:=r15_Name Ba Da ha.ok;rw[hna]at cNa;refine .alloc (cs:=Block.zero.cells) J Block.zr J ?_;intro n1 hn1 hf1;refine .sA J J J J (Block.isCell (by exact ha.ok)) Sz37 (Block.length (by exact ha.ok)) Z0 (Block.length (by exact Block.zero_ok)) zU ?_;refine G4 ?_;refine .lA J J J Y37.h J Sz37 Z0 (Block.length (by exact ha.ok)) ?_;refine .cV J J J J Body37 (cNa) (fun w h=>hoa w (Lies.of h (by repeat(first|exact Au|refine A3 ?_)))) ?_;refine .build (cs:=({ Block.zero with fSeq:=1,fPrev:=na }:Block).cells) J J J (fun w=>build_sp 1 na lna w) (.call4 J J J J J Body82 (law24_signed 1 s1B J _ (sp_ok 1 lna) _ Db hDb kitS1 cSb) (fun w h=>sp_is w 1 lna) ?_);rintro v8 out8 ⟨Bb,hb,rfl,hob⟩;have cNb:=r15_Name Bb Db hb.ok;rw[hnb]at cNb;refine .alloc (cs:=Block.zero.cells) J Block.zr J ?_;intro n2 hn2 hf2;refine .sA J J J J (Block.isCell (by exact hb.ok)) Sz37 (Block.length (by exact hb.ok)) Z0 (Block.length (by exact Block.zero_ok)) zU ?_;refine G3 ?_;refine .drawZ (oPq [100,101,102,303,4,305,206,7]) Aq zK (.lA J J J Y37.h J Sz37 mR (Block.length (by exact ha.ok)) ?_);refine .lA J J J Y37.h J Sz37 Z0 (Block.length (by exact hb.ok)) ?_;refine .lA J J J Y37.h J Sz37 Z0 (Block.length (by exact hb.ok)) ?_;refine .cV J J J J Body37 (cNb) (fun w h=>hob w (Lies.of h (by repeat(first|exact Au|refine A3 ?_)))) ?_;refine .build (cs:=({ Block.zero with fSeq:=2,fPrev:=nb }:Block).cells) J J J (fun w=>build_sp 2 nb lnb w) (.call J J J J Body82 (law24_signed 1 s1B J _ (sp_ok 2 lnb) _ Dc hDc kitS1 cSc) (BlkV.loose Dc hDc) (fun w h=>sp_is w 2 lnb) ?_);rintro v14 out14 ⟨Bc,hc,rfl,hoc⟩;refine .mkRow2 (z:=agg Block.zero.cells) [agg Ba.cells,agg Bb.cells,agg Bc.cells] (tri Ba Bb Bc) J J Y22.h Sz37 Block.zr J J (by intro v hv;simp only[Laj,Lbu,or_false]at hv;rcases hv with rfl|rfl|rfl;exact Block.length ha.ok;exact Block.length hb.ok;exact Block.length hc.ok) dE (by simp[Value.cells,agg,tri]) ?_;intro q15;refine G3 ?_;refine G2 ?_;refine As (out:=(⟨q15,tri Ba Bb Bc,37,(tri Ba Bb Bc).length⟩::(out14++(out8++(out4++[]))))) (Af J J) (Ab rM (Ac sG (Ac sG (Ac sG Ae)))) ?_;exact⟨q15,Ba,Bb,Bc,_,ha,hb,hc,rfl,rfl,fun W2 hl=>⟨hoa W2 (hl.sub (by repeat(first|exact Au|refine Bk ?_))),hob W2 (hl.sub (by repeat(first|exact Au|refine Bk ?_))),hoc W2 (hl.sub (by repeat(exact Au)))⟩⟩
theorem mC_g:dgood mCD=0:=mC_f.2.2.1
theorem mC_nm:Az mCD=mCN:=mC_f.2.1
def wX3:PD:=cX2.adm mCN mCD
theorem w_add3:cX2.add mCD=(wX3,[mCN],0):=by
  have h:=add_fits (X:=cX2) mC_g (by rw[mC_nm];kernel_rfl) zK;rw[mC_nm]at h;have e:PD.settle (cX2.adm mCN mCD).orp.length (cX2.adm mCN mCD)=(wX3,[]):=by kernel_rfl
  rw[h,e]
theorem w_fill:fillP PD.new [mAD,mBD,mCD]=wX3:=by
  simp only[fillP,Ldl,Lfs,c_add1,c_add2,w_add3]
theorem w_fill1:fillP PD.new [mAD]=cX1:=by
  simp only[fillP,Ldl,Lfs,c_add1]
theorem w_inv:wX3.Inv:=by rw[←w_fill];exact PD.Inv.fill _ PD.Inv.new
theorem w_perm:wX3.names.Perm [mAN,mBN,mCN]:=of_decide_eq_true zK
theorem w_hA:Aj wX3.P mAN=some mAD:=by kernel_rfl
theorem w_hB:Aj wX3.P mBN=some mBD:=by kernel_rfl
theorem w_hC:Aj wX3.P mCN=some mCD:=by kernel_rfl
theorem w_pC:Bo mCD=[mBN]:=by kernel_rfl
theorem w_pB:Bo mBD=[mAN]:=by kernel_rfl
theorem w_pA:Bo mAD=[]:=by kernel_rfl
theorem w_has(h:Aj X.P n=some D):X.has n=true:=by unfold PD.has;rw[h];rfl
theorem w_sub{a:Int}{L S:List (List UInt8)}(hL:∀n∈L,n∈S)(hp:∀n∈S,∀D,Aj X.P n=some D→∀m∈Bo D,m∈S)(h:X.Reach a L n):n∈S:=by
  induction h with
  |base h1 _ _=>exact hL _ h1
  |step _ hP hn _ _ ih=>exact hp _ ih _ hP _ hn
theorem w_rCC:rB wX3 (-1) [mCN] mCN=true:=rB_iff.2 (reach_in w_inv La9 w_hC)
theorem w_rCB:rB wX3 (-1) [mCN] mBN=true:=rB_iff.2 (.step (rB_iff.1 w_rCC) w_hC (by rw[w_pC];exact La9) w_hB (by have:=w_inv.d0 _ _ w_hB;omega))
theorem w_rCA:rB wX3 (-1) [mCN] mAN=true:=rB_iff.2 (.step (rB_iff.1 w_rCB) w_hB (by rw[w_pB];exact La9) w_hA (by have:=w_inv.d0 _ _ w_hA;omega))
theorem w_rAA:rB wX3 (-1) [mAN] mAN=true:=rB_iff.2 (reach_in w_inv La9 w_hA)
theorem w_only(h:n≠mAN):rB wX3 (-1) [mAN] n=false:=by
  cases h9:rB wX3 (-1) [mAN] n with
  |false=>rfl
  |true=>exact absurd (La1.1 (w_sub (S:=[mAN]) (fun m hm=>hm) (fun m hm D hD k hk=>by
      rw[La1.1 hm,w_hA]at hD;cases hD;rw[w_pA]at hk;cases hk) (rB_iff.1 h9))) h
theorem w_gv:gvL wX3 [mCN] [mAN]=[mBN,mCN]:=by
  unfold gvL;refine(isortD_eq ?_ ?_).symm
  · refine List.Perm.trans ?_ (w_perm.filter _).symm
    rw[List.filter_cons_of_neg,Lf5,Lf5,List.filter_nil]
    all_goals
      rw[show([mCN].filter fun n=>wX3.has n)=[mCN] by rw[Lf5 (w_has w_hC)];rfl,show([mAN].filter fun n=>wX3.has n)=[mAN] by rw[Lf5 (w_has w_hA)];rfl]
    ·rw[w_rCC,w_only (of_decide_eq_true zK)];rfl
    ·rw[w_rCB,w_only (of_decide_eq_true zK)];rfl
    ·rw[w_rCA,w_rAA];decide
  · unfold SortD LeD
    simp only[Ldk,Laj,Lbu,or_false,forall_eq,show wX3.dp mBN=1 from by kernel_rfl,show wX3.dp mCN=2 from by kernel_rfl];exact⟨.inl dE,fun a ha=>(by cases ha),List.Pairwise.nil⟩
theorem w_blk(h:Aj X.P n=some D):X.blk n=D:=by unfold PD.blk;rw[h];rfl
theorem w_give1:((gvL wX3 [mCN] [mAN]).take (min (min (gvL wX3 [mCN] [mAN]).length (Int.toNat 1)) 8)).map wX3.blk=[mBD]:=by
  rw[w_gv];show[wX3.blk mBN]=_;rw[w_blk w_hB]
theorem w_give8:((gvL wX3 [mCN] [mAN]).take (min (min (gvL wX3 [mCN] [mAN]).length (Int.toNat 8)) 8)).map wX3.blk=[mBD,mCD]:=by
  rw[w_gv];show[wX3.blk mBN,wX3.blk mCN]=_;rw[w_blk w_hB,w_blk w_hC]
theorem w_ask:askL cX1 [mCN]=[mCN]:=by kernel_rfl
theorem chain24_facts:∃(Da Db Dc:DB) (na nb nc:List UInt8) (X1 X3:PD),(Da.ok∧Db.ok∧Dc.ok)∧(na.length=32∧nb.length=32∧nc.length=32)∧(Az Da=na∧Az Db=nb∧Az Dc=nc)
    ∧(∀B:Block,B.ok→Meets prog 116 [agg (Aa s1B),agg B.cells] [] (fun W=>BlockIs W B DB.zero) (BlkR 0 Da))∧(∀B:Block,B.ok→Meets prog 116 [agg (Aa s1B),agg B.cells] [] (fun W=>BlockIs W B { DB.zero with seq:=1,prev:=na }) (BlkR 0 Db))∧(∀B:Block,B.ok→Meets prog 116 [agg (Aa s1B),agg B.cells] [] (fun W=>BlockIs W B { DB.zero with seq:=2,prev:=nb }) (BlkR 0 Dc))∧(∀d∈ [Da,Db,Dc],d.ls.length≤500000∧d.ds.length≤500000)
    ∧(fillP PD.new [Da]=X1∧fillP PD.new [Da,Db,Dc]=X3)∧((gvL X3 [nc] [na]).take (min (min (gvL X3 [nc] [na]).length (Int.toNat 1)) 8)).map X3.blk=[Db]∧((gvL X3 [nc] [na]).take (min (min (gvL X3 [nc] [na]).length (Int.toNat 8)) 8)).map X3.blk=[Db,Dc]∧askL X1 [nc]=[nc]:=
  ⟨mAD,mBD,mCD,mAN,mBN,mCN,cX1,wX3,⟨mA_f.1,mB_f.1,mC_f.1⟩,⟨mA_len,mB_len,mC_len⟩,⟨mA_nm,mB_nm,mC_nm⟩,mA_f.2.2.2,mB_f.2.2.2,mC_f.2.2.2,
    (fun d hd=>by simp only[Laj,Lbu,or_false]at hd;rcases hd with rfl|rfl|rfl<;>exact of_decide_eq_true zK),⟨w_fill1,w_fill⟩,w_give1,w_give8,w_ask⟩
theorem sameB_self{W:World}{A B:Block}{d:DB}(h1:BlockIs W A d)(h2:BlockIs W B d):sameB A B d.ls d.ls d.ds d.ds=true:=by
  simp[sameB,h1.w,h2.w,h1.seq,h2.seq,h1.prev,h2.prev,h1.sg,h2.sg]
theorem kit_blockS(A B:Block)(d:DB)(hn:d.ls.length≤1000000):Mv 79 [agg A.cells,agg B.cells] (fun W=>BlockIs W A d∧BlockIs W B d) (.bool true):=fun W hW=>by
  rw[←sameB_self hW.1 hW.2];exact kit_block A B hW.1.ok hW.2.ok d.ls d.ls d.ds d.ds (by rw[←hW.1.ls.len];exact hn) W ⟨⟨hW.1.ls,hW.1.ds⟩,⟨hW.2.ls,hW.2.ds⟩⟩
theorem kit_blocksS(s u:Sl)(xs:List DB)(hsm:∀d∈xs,d.ls.length≤1000000):Mv 35 [s.v,u.v] (fun W=>BlocksAt W s xs∧BlocksAt W u xs) (.bool true):=by
 intro W hW;obtain⟨⟨rs,hs⟩,⟨ru,hu⟩⟩:=id hW;have hnd:=hs.nd;have hnu:=hu.nd;have hmax:=hs.max;simp only[maxLen]at hmax;refine Ad func35 J 27 ntmps35 J (G12 ?_);refine .nei J J J J (show(!decide _)=false from congrArg not (decide_eq_true oM)) (G2 ?_);refine .cond_f J J (G9 ?_);refine .loop (ι:=Nat) (fun k=>⟨[(0,s.v),(1,u.v),(5,i64 (k:Int))],[]⟩) (fun k=>k≤s.n) (fun k=>s.n-k) (0) ?_ ?_ ?_
 ·exact Lan _
 ·exact Ah wN wh0 nD
 rintro k hk;refine G9 ?_;refine .condP J (fun hc1=>?_) (fun hc1=>?_)
 ·
  have hk2:k<s.n:=by omega
  obtain⟨b,o,r,d,hsp,hr,hd,his,hlen,hsee⟩:=hs.at dE hk2;obtain⟨b2,o2,r2,d2,hspu,hru,hdu,hiu,hlenu,hseeu⟩:=hu.at dE (show k<u.n by omega);obtain rfl:d=d2:=by rw[hd]at hdu;cases hdu;rfl
  refine G5 ?_;refine .draw (oPq [0,1,2,103,4,5,6,107,308,9]) Aq zK (G2 ?_);refine .idxSlP 131 J J J hsp J Y22.h Sz37 k J oM (.loadEN r.cells J J J Y37.h J Sz37 sP hlen hsee (G2 ?_));refine .idxSlP 131 J J J hspu J Y22.h Sz37 k J oM (.loadEN r2.cells J J J Y37.h J Sz37 sP hlenu hseeu (.cV J J J J Body79 (kit_blockS r r2 d (hsm d (Lax hd))) (fun w h=>⟨his.ext h J,hiu.ext h J⟩) (G3 ?_)));refine .cond_f J J (G9 ?_);exact⟨k+1,by omega,by omega,Ah wN wh0 nD⟩
 obtain rfl:k=s.n:=by omega
 refine G10 ?_;refine G2 ?_;refine⟨_,[],Af J J,sP,sP,?_,rfl⟩;rfl
def DagAt(W:World)(p:Nat)(X:PD):Prop:=∃x:DD,x.ok∧x.pl=X∧Lies (x.blks p) W
def FilL(ds:List DB)(v:Value)(out:List Blk):Prop:=∃p:Nat,v=ptr p 0∧∀W2,Lies out W2→DagAt W2 p (fillP PD.new ds)
theorem FilL.loose(ds:List DB):Loose (FilL ds):=fun l hl=>by
  obtain⟨n,_,hn⟩:=fresh_is 0 l;exact⟨_,[⟨n,[undef],0,0⟩],⟨0,rfl,fun W2 h=>(lie_none h).elim⟩,none_nodup hl hn _⟩
theorem law24_filledL(s:Sl)(ds:List DB)(hn:s.n≤1000)(hsm:∀d∈ds,d.ls.length≤500000∧d.ds.length≤500000):Meets prog 23 [s.v] [] (fun W=>BlocksAt W s ds) (FilL ds):=
  (law24_filled s ds hn hsm).imp (fun w h=>h) fun v out ⟨p,x,h1,h2,h3,h4,_⟩=>⟨p,h1,fun W2 h=>⟨x,h3,h4,h2▸h⟩⟩
def GiveF(L:List DB)(v:Value)(out:List Blk):Prop:=∃s:Sl,v= .tuple #[s.v,i64 0]∧s.n=L.length∧∀W,Lies out W→BlocksAt W s L
theorem want_giveF(X:PD)(hI:X.Inv)(hO:X.Ord)(p:Nat)(sw sh:Sl)(ws hs:List (List UInt8))(hw1:ws.length≤90000)(hh1:hs.length≤90000)(most:Int)(hm:1≤most){L:List DB}(h:((gvL X ws hs).take (min (min (gvL X ws hs).length most.toNat) 8)).map X.blk=L):
    Meets prog 33 [ptr p 0,sw.v,sh.v,i64 most] [] (fun W=>DagAt W p X∧RowsAt W sw 32 ws∧RowsAt W sh 32 hs) (GiveF L):=by
  rintro W ⟨⟨x,hx,rfl,hl⟩,h2,h3⟩;refine(want_giveG x hx hI hO p sw sh ws hs hw1 hh1 most hm W ⟨hl,h2,h3⟩).mono fun e W' ⟨v,out,he,⟨v0,hv,sl,bl,bl2,rs,hv0,ho,hos⟩,hr⟩=>⟨v,out,he,?_,hr⟩;have h8:L.length≤8:=by rw[←h,La0,Lac];omega
  rw[h]at hos;subst ho;exact⟨sl,by rw[hv,hv0],hos.acc.num,fun W hl=>⟨rs,hos.seq (hl.sub fun b hb=>Lao _ hb) (hl.sub fun b hb=>Lau _ hb) oM⟩⟩
theorem want_askF(X:PD)(hI:X.Inv)(p:Nat)(sh:Sl)(hs:List (List UInt8))(hh1:hs.length≤90000)(h:askL X hs=L):
    Meets prog 27 [ptr p 0,sh.v] [] (fun W=>DagAt W p X∧RowsAt W sh 32 hs) (RowsR L):=by
  rintro W ⟨⟨x,hx,rfl,hl⟩,h2⟩;rw[←h];exact(want_askG x hx hI p sh hs hh1 W ⟨hl,h2⟩).mono fun e W' ⟨v,out,he,⟨s,hv,hac⟩,hr⟩=>⟨v,out,he,⟨s,hv,hac.num,fun W2 h2=>hac.see h2⟩,hr⟩
theorem tri_cut(hw:BlkOk w ⟨q,tri a b c,T,m⟩)(o:Nat){l:List Value}(e:((tri a b c).drop o).take l.length=l):De w q o l:=sees_kok hw fun j v hj=>by
  rw[←e]at hj;have h1:=(Laa.1 hj).1;rw[Lex (by rw[Lac]at h1;omega),Lb9]at hj;exact hj
theorem tri_some{q o n c0:Nat}{rs:List Block}{ds:List DB}(hw:BlkOk w ⟨q,tri a b c,T,m⟩)(hr:rs.length=n)(hd:ds.length=n)(hi:∀(i:Nat) (r:Block) (d:DB),rs[i]? =some r→ds[i]? =some d→BlockIs w r d)(ho:∀r∈rs,r.ok)(hn:n≤c0)(hc:c0≤1000)(e:((tri a b c).drop o).take (rs.map Block.cells).flatten.length=(rs.map Block.cells).flatten):
    BlocksAt w ⟨some ⟨q,o,none⟩,n,c0⟩ ds:=
  ⟨rs,hr,hd,hi,fun r h=>Block.length (ho r h),hn,SeesP.of (tri_cut hw o e),(by show n≤maxLen;unfold maxLen;omega),fun e=>by cases e⟩
theorem tri_first(h:BlkOk w ⟨q,tri a b c,T,m⟩)(hi:BlockIs w a Da∧BlockIs w b Db∧BlockIs w c Dc):BlocksAt w ⟨some ⟨q,0,none⟩,1,3⟩ [Da]:=
  tri_some (rs:=[a]) h rfl rfl (fun i r d hr hd=>by rcases i with _|i;cases hr;cases hd;exact hi.1;cases hr) (fun r hr=>by rw[La1.1 hr];exact hi.1.ok) dE dE
    (by have h1:=Block.length hi.1.ok;simp[tri,h1])
theorem tri_mid(h:BlkOk w ⟨q,tri a b c,T,m⟩)(hi:BlockIs w a Da∧BlockIs w b Db∧BlockIs w c Dc):BlocksAt w ⟨some ⟨q,131,none⟩,1,2⟩ [Db]:=
  tri_some (rs:=[b]) h rfl rfl (fun i r d hr hd=>by rcases i with _|i;cases hr;cases hd;exact hi.2.1;cases hr) (fun r hr=>by rw[La1.1 hr];exact hi.2.1.ok) dE dE
    (by have h1:=Block.length hi.1.ok;have h2:=Block.length hi.2.1.ok;simp[tri,h2,Lbc,h1])
theorem tri_rest(h:BlkOk w ⟨q,tri a b c,T,m⟩)(hi:BlockIs w a Da∧BlockIs w b Db∧BlockIs w c Dc):BlocksAt w ⟨some ⟨q,131,none⟩,2,2⟩ [Db,Dc]:=
  tri_some (rs:=[b,c]) h rfl rfl (fun i r d hr hd=>by rcases i with _|_|i;cases hr;cases hd;exact hi.2.1;cases hr;cases hd;exact hi.2.2;cases hr) (fun r hr=>by simp only[Laj,Lbu,or_false]at hr;rcases hr with rfl|rfl;exact hi.2.1.ok;exact hi.2.2.ok) dE dE
    (by have h1:=Block.length hi.1.ok;have h2:=Block.length hi.2.1.ok;have h3:=Block.length hi.2.2.ok;simp[tri,h2,h3,Lbc,h1];exact La5 (by simp[h2,h3]))
theorem law24_lives  :Mv 21 [] (fun _=>True) (.bool true):=by
 intro W hW;obtain⟨Da,Db,Dc,na,nb,nc,X1,X3,⟨hDa,hDb,hDc⟩,⟨lna,lnb,lnc⟩,⟨hna,hnb,hnc⟩,cSa,cSb,cSc,hsm,⟨hfil1,hfil3⟩,hg1,hg8,hask⟩:=chain24_facts;have hI1:X1.Inv:=by rw[←hfil1];exact PD.Inv.fill _ PD.Inv.new
 have hI3:X3.Inv:=by rw[←hfil3];exact PD.Inv.fill _ PD.Inv.new
 have hO3:X3.Ord:=by rw[←hfil3];exact PD.Ord.fill _ PD.Inv.new PD.Ord.new
 have hsm1:∀d∈ [Da],d.ls.length≤500000∧d.ds.length≤500000:=fun d hd=>hsm d (by rw[La1.1 hd];exact La9);refine Ad func21 J 66 ntmps21 J (G7 ?_);refine .call4 J J J J J Body40 (law24_chain Da Db Dc na nb hDa hDb hDc lna lnb hna hnb cSa cSb cSc) tV ?_;rintro v8 out8 ⟨q,Ba,Bb,Bc,bl,ha,hb,hc,rfl,rfl,hch⟩;have cNa:=r15_Name Ba Da ha.ok;have cNc:=r15_Name Bc Dc hc.ok;rw[hna]at cNa;rw[hnc]at cNc;refine G4 ?_
 try simp only[Lak,Lah,La8]
 refine .withK (sp_k (sp_x sp_n)) J (.draw (oPq [0,1,2,4,5,6,303,307,208,209,410,411]) Aq zK (G1 ?_));refine .idxSlP 131 J J J J J Y22.h Sz37 0 J dE (.kloadSN (n:=131) Ba.cells J J J Y37.h J Sz37 (Block.length ha.ok) (fun w h=>(tri_sees ha.ok hb.ok hc.ok (h ⟨q,tri Ba Bb Bc,37,(tri Ba Bb Bc).length⟩ (by simp[Cx.with]))).1) ?_);refine G1 ?_;refine .idxSlP 131 J J J J J Y22.h Sz37 2 J dE (.kloadSN (n:=131) Bc.cells J J J Y37.h J Sz37 (Block.length hc.ok) (fun w h=>(tri_sees ha.ok hb.ok hc.ok (h ⟨q,tri Ba Bb Bc,37,(tri Ba Bb Bc).length⟩ (by simp[Cx.with]))).2.2) ?_);refine .cV J J J J Body37 (cNa) (fun w h=>(hch w (Lies.of h (by repeat(exact Au)))).1) ?_;refine .cV J J J J Body37 (cNc) (fun w h=>(hch w (Lies.of h (by repeat(exact Au)))).2.2) ?_;refine .alloc (cs:=(Aa (List.replicate 32 0))) J Cj J ?_;intro n2 hn2 hf2;refine .alloc (cs:=(Aa (List.replicate 32 0))) J Cj J ?_;intro n3 hn3 hf3;refine .sA J J J J zE Sz31 (by(simp[lna];done)) Z1 sP zV ?_;refine .sA J J J J zE Sz31 (by(simp[lnc];done)) Z0 sP zU ?_;refine G3 ?_
 try simp only[Lak,Lah,La8]
 refine .withK (sp_k (sp_k (sp_x (sp_v sp_n)))) J (.draw (oPq [0,2,4,301,203,205,406,7,8,9,10,11]) Aq zK ?_)
 try simp only[Lak,Lah,La8]
 refine G1 ?_;refine .kloadAll J J J Y31.h J Sz31 Z0 (by(simp[lnc];done)) ?_;refine .kloadAll J J J Y31.h J Sz31 Z1 (by(simp[lna];done)) ?_;refine .call J J J J Body23 (law24_filledL ⟨some ⟨q,0,none⟩,3,3⟩ [Da,Db,Dc] sP hsm) (FilL.loose _) (fun w h=>(tri_blocks (B5 (B:=⟨q,tri Ba Bb Bc,37,(tri Ba Bb Bc).length⟩) h mR) (hch w (Lies.of h (by repeat(exact Au)))))) ?_;rintro v19 out19 ⟨p19,rfl,hd19⟩;rw[hfil3]at hd19;refine .mkRow2 (z:=agg (Aa (List.replicate 32 0))) [agg (Aa nc)] (Av [nc]) J J Y32.h Sz31 Cj J J (by intro v hv;simp only[Laj,Lbu,or_false]at hv;rcases hv with rfl<;>simp[Value.cells,Aa,lnc]) dE (by simp[Value.cells,agg,Av]) ?_;intro q21;refine .mkRow2 (z:=agg (Aa (List.replicate 32 0))) [agg (Aa na)] (Av [na]) J J Y32.h Sz31 Cj J J (by intro v hv;simp only[Laj,Lbu,or_false]at hv;rcases hv with rfl<;>simp[Value.cells,Aa,lna]) dE (by simp[Value.cells,agg,Av]) ?_;intro q23;refine .call4 J J J J J Body33 (want_giveF X3 hI3 hO3 p19 ⟨some ⟨q21,0,none⟩,1,1⟩ ⟨some ⟨q23,0,none⟩,1,1⟩ [nc] [na] sP sP 1 dE hg1) (fun w h=>⟨hd19 w (Lies.of h (by repeat(first|exact Au|refine A3 ?_))),row_one lnc (by have h9:=An (b:=q21) (cs:=Av [nc]) h Z1;simpa[Av]using h9),row_one lna (by have h9:=An (b:=q23) (cs:=Av [na]) h Z0;simpa[Av]using h9)⟩) ?_;rintro v24 out24 ⟨s24,rfl,hn24,hb24⟩;refine G8 ?_
 try simp only[Lak,Lah,La8]
 refine .withK (sp_x (sp_v (sp_v (sp_x (sp_x (sp_v (sp_k (sp_k sp_n)))))))) J (.draw (oPq [0,2,4,301,203,205,406,7,8,9,10,11]) Aq zK ?_)
 try simp only[Lak,Lah,La8]
 refine G1 ?_;refine .kloadAll J J J Y31.h J Sz31 Z0 (by(simp[lnc];done)) ?_;refine .kloadAll J J J Y31.h J Sz31 Z1 (by(simp[lna];done)) ?_;refine .call J J J J Body23 (law24_filledL ⟨some ⟨q,0,none⟩,3,3⟩ [Da,Db,Dc] sP hsm) (FilL.loose _) (fun w h=>(tri_blocks (B5 (B:=⟨q,tri Ba Bb Bc,37,(tri Ba Bb Bc).length⟩) h mR) (hch w (Lies.of h (by repeat(first|exact Au|refine A3 ?_|refine Bk ?_)))))) ?_;rintro v29 out29 ⟨p29,rfl,hd29⟩;rw[hfil3]at hd29;refine .mkRow2 (z:=agg (Aa (List.replicate 32 0))) [agg (Aa nc)] (Av [nc]) J J Y32.h Sz31 Cj J J (by intro v hv;simp only[Laj,Lbu,or_false]at hv;rcases hv with rfl<;>simp[Value.cells,Aa,lnc]) dE (by simp[Value.cells,agg,Av]) ?_;intro q31;refine .mkRow2 (z:=agg (Aa (List.replicate 32 0))) [agg (Aa na)] (Av [na]) J J Y32.h Sz31 Cj J J (by intro v hv;simp only[Laj,Lbu,or_false]at hv;rcases hv with rfl<;>simp[Value.cells,Aa,lna]) dE (by simp[Value.cells,agg,Av]) ?_;intro q33;refine .call4 J J J J J Body33 (want_giveF X3 hI3 hO3 p29 ⟨some ⟨q31,0,none⟩,1,1⟩ ⟨some ⟨q33,0,none⟩,1,1⟩ [nc] [na] sP sP 8 dE hg8) (fun w h=>⟨hd29 w (Lies.of h (by repeat(first|exact Au|refine A3 ?_))),row_one lnc (by have h9:=An (b:=q31) (cs:=Av [nc]) h Z1;simpa[Av]using h9),row_one lna (by have h9:=An (b:=q33) (cs:=Av [na]) h Z0;simpa[Av]using h9)⟩) ?_;rintro v34 out34 ⟨s34,rfl,hn34,hb34⟩;refine G8 ?_
 try simp only[Lak,Lah,La8]
 refine .withK (sp_x (sp_v (sp_v (sp_x (sp_x (sp_v (sp_v (sp_x (sp_x (sp_v (sp_k (sp_k sp_n)))))))))))) J (.draw (oPq [0,1,2,3,4,5,6,7,8,10,13,309,211,312,214,315,16,17,18,19,20,321,22,23,24,25,26,327,28,29]) Aq zK ?_)
 try simp only[Lak,Lah,La8]
 refine G1 ?_;refine .eqi J J J J (decide_eq_true (rfl)) (G2 ?_);refine .eqi J J J J (decide_eq_true (rfl)) (G3 ?_);refine .sliceHiA ⟨some ⟨q,0,none⟩,3,3⟩ 1 J J J J J (by show 1≤3;decide) Y22.h Sz37 ?_;refine .kloadAll J J J Y31.h J Sz31 Z0 (by(simp[lnc];done)) ?_;refine .kloadAll J J J Y31.h J Sz31 Z0 (by(simp[lnc];done)) ?_;refine .call J J J J Body23 (law24_filledL ⟨some ⟨q,0,none⟩,1,3⟩ [Da] sP hsm1) (FilL.loose _) (fun w h=>(tri_first (B5 (B:=⟨q,tri Ba Bb Bc,37,(tri Ba Bb Bc).length⟩) h mR) (hch w (Lies.of h (by repeat(first|exact Au|refine A3 ?_|refine Bk ?_)))))) ?_;rintro v46 out46 ⟨p46,rfl,hd46⟩;rw[hfil1]at hd46;refine .mkRow2g (z:=agg (Aa (List.replicate 32 0))) [agg (Aa nc)] (Av [nc]) J J J Y32.h Sz31 Cj J J (by intro v hv;simp only[Laj,Lbu,or_false]at hv;rcases hv with rfl<;>simp[Value.cells,Aa,lnc]) dE (by simp[Value.cells,agg,Av]) ?_;intro q48;refine .call J J J J Body27 (want_askF X1 hI1 p46 ⟨some ⟨q48,0,none⟩,1,1⟩ [nc] sP hask) (RowsR.loose (one_32 lnc)) (fun w h=>⟨hd46 w (Lies.of h (by repeat(first|exact Au|refine A3 ?_))),row_one lnc (by have h9:=An (b:=q48) (cs:=Av [nc]) h Z0;simpa[Av]using h9)⟩) ?_;rintro v49 out49 ⟨⟨p49,n49,c49⟩,rfl,hn49,hs49⟩;obtain rfl:n49=1:=hn49;refine .mkRow2g (z:=agg (Aa (List.replicate 32 0))) [agg (Aa nc)] (Av [nc]) J J J Y32.h Sz31 Cj J J (by intro v hv;simp only[Laj,Lbu,or_false]at hv;rcases hv with rfl<;>simp[Value.cells,Aa,lnc]) dE (by simp[Value.cells,agg,Av]) ?_;intro q51;refine .cV J J J J Body20 (dig_same p49 (some ⟨q51,0,none⟩) 1 c49 1 [nc] (one_32 lnc) J dE) (fun w h=>⟨hs49 w (Lies.of h (by repeat(first|exact Au|refine A3 ?_))),SeesP.of (An (b:=q51) h Z0)⟩) ?_;refine G4 ?_;refine .sliceLoHiN 1 2 J J J J J J J dE dE Y22.h Sz37 (.cV J J J J Body35 (kit_blocksS s24 ⟨some ⟨q,131,none⟩,1,2⟩ [Db] (fun d hd=>by have:=hsm d (by rw[La1.1 hd];simp);omega)) (fun w h=>⟨hb24 w (Lies.of h (by repeat(first|exact Au|refine A3 ?_|refine Bk ?_))),(tri_mid (B5 (B:=⟨q,tri Ba Bb Bc,37,(tri Ba Bb Bc).length⟩) h mR) (hch w (Lies.of h (by repeat(first|exact Au|refine A3 ?_|refine Bk ?_)))))⟩) ?_);refine G4 ?_;refine .sliceLoN 1 J J J J J dE dE Y22.h Sz37 (.cV J J J J Body35 (kit_blocksS s34 ⟨some ⟨q,131,none⟩,2,2⟩ [Db,Dc] (fun d hd=>by have:=hsm d (Laf _ hd);omega)) (fun w h=>⟨hb34 w (Lies.of h (by repeat(first|exact Au|refine A3 ?_|refine Bk ?_))),(tri_rest (B5 (B:=⟨q,tri Ba Bb Bc,37,(tri Ba Bb Bc).length⟩) h mR) (hch w (Lies.of h (by repeat(first|exact Au|refine A3 ?_|refine Bk ?_)))))⟩) ?_);refine G4 ?_;refine G2 ?_;refine As (out:=[]) (Af J J) Ae ?_;exact⟨rfl,rfl⟩
end Go.Proofs.YtgjnomgkddbhcaaGreat
namespace Go.Proofs.YtgjnomgkddbhcaaGreat
open Go Hw _root_.Go.Proofs.Tryz
variable{D:DB}{X:PD}{hs ws:List (List UInt8)}{n:List UInt8}
theorem law24_known(s:Sl)(ds:List DB)(hn:s.n≤1000)(hsm:∀d∈ds,d.ls.length≤500000∧d.ds.length≤500000):Meets prog 24 [s.v] [] (fun W=>BlocksAt W s ds) (fun v out=>∃(p:Nat) (x:RD),v=ptr p 0∧out=x.blks p∧x.ok∧RRel (fillP PD.new ds) x.P x.Q∧x.L.length+x.O.length≤ds.length):=by
 intro W hW;obtain⟨rs,hs⟩:=hW;have hnd:=hs.nd;refine Ad func24 J 19 ntmps24 J (G7 ?_);refine .call4 J J J J J Body68 (rd_new) tV ?_;rintro v5 out5 ⟨p,rfl,rfl⟩;refine G10 ?_;refine .loop (ι:=Nat×RD) (fun r=>⟨[(0,s.v),(3,ptr p 0),(4,i64 (r.1:Int))],(r.2.blks p++[])⟩) (fun r=>r.1≤s.n∧r.2.ok∧RRel (fillP PD.new (ds.take r.1)) r.2.P r.2.Q∧r.2.L.length+r.2.O.length≤r.1) (fun r=>s.n-r.1) ((0,⟨Sl.nil,[],[],Sl.nil,[],[],[]⟩)) ?_ ?_ ?_
 ·exact⟨Lan _,rd_new0,RRel.new,Lad _⟩
 ·exact Ag wN (Ac sG Ae)
 rintro⟨k,x⟩ ⟨hk,hx,hrel,hnx⟩;simp only at hk hx hrel hnx ⊢;refine G9 ?_;refine .condP J (fun hc0=>?_) (fun hc0=>?_)
 ·
  have hk2:k<s.n:=by omega
  obtain⟨b,o,r,d,hsp,hr,hd,his,hlen,hsee⟩:=hs.at dE hk2;refine G8 ?_;refine .idxSlP 131 J J J hsp J Y22.h Sz37 k J oM (.loadEN r.cells J J J Y37.h J Sz37 sP hlen hsee (.callL (L:=(x.blks p)) J J J J J Body69 (rd_add x hx (fillP PD.new (ds.take k)) (PD.Inv.fill _ PD.Inv.new) hrel p r d oM (hsm d (Lax hd)).1 (hsm d (Lax hd)).2) sG (C5 J) (fun w h=>rd_lent h sG his) ?_));rintro v17 out17 ⟨x1,e17,s17,bl17,rfl,rfl,hx1,hrel1,hnx1⟩;simp only[La8];refine G9 ?_;exact⟨(k+1,x1),⟨by simp only;omega,hx1,by simp only;rw[take_snoc hd,fillP_snoc];exact hrel1,by simp only;omega⟩,by simp only;omega,Ag wN (Ac sG Ae)⟩
 have hke:k=s.n:=by omega
 refine G11 ?_;refine G2 ?_;refine As (out:=(x.blks p++[])) (Af J J) (Ac sG Ae) ?_;refine⟨p,x,rfl,by simp,hx,?_,by omega⟩;rw[hke,La5 oM]at hrel;exact hrel
theorem light_ats{ds:List DB}{m:Int}(h:lightOf lightBf ds m=true):(ds.length:Int)≤m∧∀d∈ds,d.ls.length≤500000∧d.ds.length≤500000:=by
  unfold lightOf at h;simp only[Lal,Lce,decide_eq_false_iff_not,Lbv]at h;refine⟨by omega,fun d hd=>?_⟩;have:=h.2 d hd;unfold lightBf at this;simp only[Lal,decide_eq_true_eq]at this;omega
theorem gv_mem(hI:X.Inv):n∈gvL X ws hs↔X.Reach (-1) (ws.filter fun n=>X.has n) n∧¬X.Reach (-1) (hs.filter fun n=>X.has n) n:=by
  unfold gvL;rw[(isortD_perm X _).mem_iff,Las,Lal,rB_iff,Lce,←Lgl,rB_iff,C9 hI];exact⟨fun h=>h.2,fun h=>⟨reach_P h.1,h⟩⟩
theorem gv_par(hI:X.Inv){i:Nat}(hn:(gvL X ws hs)[i]? =some n)(hD:Aj X.P n=some D){m:List UInt8}(hm:m∈Bo D):X.Reach (-1) (hs.filter fun n=>X.has n) m∨m∈(gvL X ws hs).take i:=by
  by_cases h1:X.Reach (-1) (hs.filter fun n=>X.has n) m
  ·exact .inl h1
  · obtain⟨⟨E,hE⟩,hlt⟩:=hI.par n D hD m hm
    have hd0:=hI.d0 m E hE;have hin:=(gv_mem hI).1 (Lax hn);have hm2:m∈gvL X ws hs:=(gv_mem hI).2 ⟨.step hin.1 hD hm hE oM,h1⟩;obtain⟨hi,rfl⟩:=Laa.1 hn;obtain⟨j,hj,e⟩:=Lbo hm2;have hs9:SortD X (gvL X ws hs):=isortD_sort X _;refine .inr ?_;rcases Lgf j i with h|h|h
    ·rw[←e];exact Ler.2 ⟨j,by rw[Lac];omega,Lfk⟩
    ·subst h;rw[e]at hlt;omega
    · have h2:LeD X _ _:=Ldr.1 hs9 i j hi hj h
      rw[e]at h2;unfold LeD PD.dp at h2;omega
structure PD.Nm(X:PD):Prop where
  p:∀q∈X.P,Az q.2=q.1∧dgood q.2=0
  o:∀q∈X.orp,Az q.2=q.1∧dgood q.2=0
theorem PD.Nm.new:PD.new.Nm:=⟨fun q hq=>(by cases hq),fun q hq=>(by cases hq)⟩
theorem PD.Nm.drop(h:X.Nm)(n:List UInt8):(X.drop1 n).Nm:={ h with o:=fun q hq=>h.o q (mdel_mem hq) }
theorem PD.Nm.adm(h:X.Nm)(hn:Az D=n∧dgood D=0):(X.adm n D).Nm:={ h with
  p :=fun q hq=>by
    rcases mput_mem hq with h1|rfl
    ·exact h.p q h1
    ·exact hn }
theorem PD.Nm.settle:∀(f:Nat) {X:PD},X.Nm→(PD.settle f X).1.Nm
  |0,X,h=>h
  | f +1,X,h=>by
    cases hf:X.first with
    |none=>rw[settle_done hf];exact h
    | some n=>
      obtain⟨D,hD,hj⟩:=first_key hf;by_cases hj1:Bi X.P D=1
      ·rw[settle_fit hf hD hj1];exact PD.Nm.settle f ((h.drop n).adm (h.o (n,D) (Be hD)))
      ·rw[settle_wrong hf hD hj1];exact PD.Nm.settle f (h.drop n)
theorem PD.Nm.add(h:X.Nm)(D:DB):(X.add D).1.Nm:=by
  unfold PD.add;split
  · rename_i hg
    split
    ·exact h
    · split
      ·exact h
      · split
        · split
          ·exact h
          · refine{ h with o:=fun q hq=>?_ }
            rcases mput_mem hq with h1|rfl
            ·exact h.o q h1
            ·exact⟨rfl,hg⟩
        ·exact PD.Nm.settle _ (h.adm ⟨rfl,hg⟩)
  ·exact h
theorem PD.Nm.fill:∀(ds:List DB) {X:PD},X.Nm→(fillP X ds).Nm
  | [],X,h=>h
  | d::ds,X,h=>by
    show(fillP (X.add d).1 ds).Nm;exact PD.Nm.fill ds (h.add d)
theorem kit_pickE(g m:Int)(n k:Nat)(hm:m=(n:Int))(hk:k=pickN g n)(hn:0<n)(hn2:n≤1000000):Mv 32 [i64 g,i64 m] (fun _=>True) (i64 (k:Int)):=by
  subst hm;subst hk;exact kit_pickN g n hn hn2
open Ed
theorem want_wholeF(x:DD)(hx:x.ok)(hI:x.pl.Inv)(p:Nat)(sh:Sl)(hs:List (List UInt8)){b:Bool}(h:(!hs.any fun n=> !x.pl.has n)=b):Mv 43 [ptr p 0,sh.v] (fun W=>Lies (x.blks p) W∧RowsAt W sh 32 hs) (.bool b):=by
  rw[←h];exact want_whole x hx hI p sh hs
theorem want_needsF(x:DD)(hx:x.ok)(hI:x.pl.Inv)(hO:x.pl.Ord)(p:Nat)(sw sh:Sl)(ws hs:List (List UInt8))(hw1:ws.length≤90000)(hh1:hs.length≤90000){k:Nat}(h:(gvL x.pl ws hs).length=k):Mv 34 [ptr p 0,sw.v,sh.v] (fun W=>Lies (x.blks p) W∧RowsAt W sw 32 ws∧RowsAt W sh 32 hs) (i64 (k:Int)):=by
  rw[←h];exact want_needs x hx hI hO p sw sh ws hs hw1 hh1
end Go.Proofs.YtgjnomgkddbhcaaGreat
namespace Go.Proofs.YtgjnomgkddbhcaaGreat
open Go Hw _root_.Go.Proofs.Tryz
variable{D:DB}{P:List (List UInt8×DB)}{X Y:PD}{n:List UInt8}{ws:List (List UInt8)}{x:DD}
theorem acc_at{s:Sl}{bl:List Blk}{l:List Int}{n k:Nat}(h:Hw.Acc s bl (l.map i64) 39 n 1)(hk:k<n):∃q,s.p=some ⟨q,0,none⟩∧∀W,Lies bl W→W.cell? ⟨q,0+k*1,none⟩=some (i64 (l.getD k 0)):=by
  have hl:l.length=n:=by have:=h.len;rw[La0]at this;omega
  rcases h with ⟨rfl,rfl,hz,rfl⟩|⟨q,c,rfl,hc,hfl,rfl⟩
  ·omega
  · refine⟨q,rfl,fun W hW=>?_⟩
    have h1:(l.map i64)[k]? =some (i64 (l.getD k 0)):=by rw[Lam,La4,La3 oM];rfl
    rw[show 0+k*1=k by omega];exact(hW _ (La1.2 rfl)).cell (o:=k) h1
theorem judge_zero(h:Bi P D=0):wrongB P D=false∧readyB P D=false:=by
  unfold Bi at h;split at h
  ·cases h
  · rename_i h1
    split at h
    ·cases h
    · rename_i h2
      exact⟨by simpa using h1,by simpa using h2⟩
theorem judge_one(h1:wrongB P D=false)(h2:readyB P D=true):Bi P D=1:=by unfold Bi;rw[h1,h2];rfl
theorem judge_nw(h:Bi P D=1):wrongB P D=false:=by
  unfold Bi at h;split at h
  ·cases h
  ·rename_i h1;simpa using h1
theorem ready_iff:readyB P D=true↔∀n∈Bo D,∃E,Aj P n=some E:=by
  unfold readyB;rw[Lbv];exact⟨fun h n hn=>Laz.1 (h n hn),fun h n hn=>Laz.2 (h n hn)⟩
def PD.Rt(X:PD):Prop:=∀q∈X.P,wrongB X.P q.2=false
theorem prev_par(h:D.seq≠0):D.prev∈Bo D:=by unfold Bo;rw[if_neg h];exact La9
theorem wrong_sub{P Q:List (List UInt8×DB)}(h:wrongB P D=false)(hs:∀E,D.seq≠0→Aj Q D.prev=some E→Aj P D.prev=some E):wrongB Q D=false:=by
  by_cases h0:D.seq=0
  ·exact wrong_seq h0
  · cases hq:Aj Q D.prev with
    |none=>exact wrong_none hq
    | some E=>
      rw[wrong_some h0 hq];rw[wrong_some h0 (hs E h0 hq)]at h;exact h
theorem PD.Rt.adm(hI:X.Inv)(h:X.Rt)(hn:n∉X.P.map (·.1))(hj:Bi X.P D=1):(X.adm n D).Rt:=fun q hq=>by
  have hP:(X.adm n D).P=X.P++[(n,D)]:=mput_app (key_none hn) D;have hold:∀k E,Aj X.P k=some E→Aj (X.adm n D).P k=some E:=fun k E hk=>by
    have hne:n≠k:=fun e=>hn (e▸keys_in hk);show Aj (Bh X.P n D) k=some E;rw[mget_old (key_none hn) _ hne];exact hk
  have hback:∀k E,k≠n→Aj (X.adm n D).P k=some E→Aj X.P k=some E:=fun k E hk h9=>by
    have:Aj (Bh X.P n D) k=some E:=h9;rw[mget_old (key_none hn) _ (fun e=>hk e.symm)]at this;exact this
  have hpar:∀D2:DB,readyB X.P D2=true→wrongB X.P D2=false→wrongB (X.adm n D).P D2=false:=fun D2 hr hw=>wrong_sub hw fun E h0 h9=>by
    refine hback _ E (fun e=>?_) h9;obtain⟨F,hF⟩:=ready_iff.1 hr _ (prev_par h0);rw[e]at hF;exact hn (keys_in hF)
  rw[hP]at hq;rcases Lab.1 hq with h1|h1
  · refine hpar q.2 (ready_iff.2 fun m hm=>?_) (h q h1)
    obtain⟨j,hj,e⟩:=Lbo h1;have h2:=mget_some hI.nd (j:=j) (p:=q) (by rw[La3 hj,e]);exact(hI.par _ _ h2 m hm).1
  · rw[La1.1 h1]
    exact hpar D (Dd hj) (judge_nw hj)
theorem PD.Rt.settle:∀(f:Nat) {X:PD},X.Inv→X.Rt→(PD.settle f X).1.Rt
  |0,X,_,h=>h
  | f + 1,X,hI,h=>by
    cases hf:X.first with
    |none=>rw[settle_done hf];exact h
    | some n=>
      obtain⟨D,hD,hj⟩:=first_key hf;have hoc:=hI.oc _ (Be hD);have hno:n∉(X.drop1 n).orp.map (·.1):=fun h9=>((mdel_keys hI.od n n).1 h9).2 rfl;by_cases hj1:Bi X.P D=1
      · rw[settle_fit hf hD hj1]
        exact PD.Rt.settle f ((hI.drop n).adm hoc.2 hno hoc.1 (Dd hj1)) (PD.Rt.adm (hI.drop n) h hoc.2 hj1)
      ·rw[settle_wrong hf hD hj1];exact PD.Rt.settle f (hI.drop n) h
theorem add_adm_inv(hI:X.Inv)(hg:dgood D=0)(hth:((Aj X.orp (Az D)).isSome||(Aj X.P (Az D)).isSome)=false)(hj:Bi X.P D=1):(X.adm (Az D) D).Inv∧Az D∉X.P.map (·.1):=by
  rw[Lgn]at hth;have h1:Az D∉X.P.map (·.1):=not_keyN (Lfq.1 (by rw[←Lgu,hth.2];rfl));have h2:Az D∉X.orp.map (·.1):=not_keyN (Lfq.1 (by rw[←Lgu,hth.1];rfl));exact⟨hI.adm h1 h2 (good_check hg) (Dd hj),h1⟩
theorem PD.Rt.add(hI:X.Inv)(h:X.Rt)(D:DB):(X.add D).1.Rt:=by
  by_cases hg:dgood D=0
  · cases hth:((Aj X.orp (Az D)).isSome||(Aj X.P (Az D)).isSome)with
    |true=>rw[add_there hg hth];exact h
    | false=>
      rcases judge_cases X.P D with hj|hj|hj
      · by_cases h64:64≤X.orp.length
        ·rw[add_full hg hth hj h64];exact h
        ·rw[add_keep hg hth hj h64];exact h
      · rw[add_fits hg hth hj]
        obtain⟨h1,h2⟩:=add_adm_inv hI hg hth hj;exact PD.Rt.settle _ h1 (h.adm hI h2 hj)
      ·rw[add_wrong hg hth hj];exact h
  ·rw[add_bad hg];exact h
theorem PD.Rt.fill:∀(ds:List DB) {X:PD},X.Inv→X.Rt→(fillP X ds).Rt
  | [],X,_,h=>h
  | d::ds,X,hI,h=>by
    show(fillP (X.add d).1 ds).Rt;exact PD.Rt.fill ds (hI.add d) (PD.Rt.add hI h d)
theorem settle_fin:∀(f:Nat) {X:PD},X.orp.length≤f→(PD.settle f X).1.first=none
  | 0,X,h=>by
    have h1:X.orp=[]:=Lg8.1 oM;show X.first=none;unfold PD.first;rw[h1];rfl
  | f + 1,X,h=>by
    cases hf:X.first with
    |none=>rw[settle_done hf];exact hf
    | some n=>
      obtain⟨D,hD,hj⟩:=first_key hf;have hl:=mdel_one hD;by_cases hj1:Bi X.P D=1
      · rw[settle_fit hf hD hj1]
        exact settle_fin f (show(mdel X.orp n).length≤f by omega)
      · rw[settle_wrong hf hD hj1]
        exact settle_fin f (show(mdel X.orp n).length≤f by omega)
theorem wait_no(h:X.first=none){q:List UInt8×DB}(hq:q∈X.orp)(hod:(X.orp.map (·.1)).Nodup):Bi X.P q.2=0:=by
  unfold PD.first at h;rw[Lek]at h;have h1:=h q.1 ((Br _).mem_iff.2 (La6.2 ⟨q,hq,rfl⟩));obtain⟨j,hj,e⟩:=Lbo hq;rw[mget_some hod (j:=j) (p:=q) (by rw[La3 hj,e])]at h1;simpa using h1
theorem settle_names:∀(f:Nat) (X:PD),(PD.settle f X).1.names=X.names++(PD.settle f X).2
  |0,X=>by show X.names=X.names++[];rw[Lat]
  | f + 1,X=>by
    cases hf:X.first with
    |none=>rw[settle_done hf,Lat]
    | some n=>
      obtain⟨D,hD,hj⟩:=first_key hf;by_cases hj1:Bi X.P D=1
      · rw[settle_fit hf hD hj1]
        show(PD.settle f _).1.names=X.names++n::_;rw[settle_names f];show(X.names++[n])++_=_;rw[La8];rfl
      ·rw[settle_wrong hf hD hj1,settle_names f];rfl
theorem add_names(X:PD)(D:DB):(X.add D).1.names=X.names++(X.add D).2.1:=by
  have hn:∀e:Int,X.names=X.names++((X,([]:List (List UInt8)),e):PD×List (List UInt8)×Int).2.1:=fun e=>(Lat _).symm;by_cases hg:dgood D=0
  · cases hth:((Aj X.orp (Az D)).isSome||(Aj X.P (Az D)).isSome)with
    |true=>rw[add_there hg hth];exact hn 8
    | false=>
      rcases judge_cases X.P D with hj|hj|hj
      · by_cases h64:64≤X.orp.length
        ·rw[add_full hg hth hj h64];exact hn 7
        ·rw[add_keep hg hth hj h64];exact hn 0
      · rw[add_fits hg hth hj]
        show(PD.settle _ _).1.names=X.names++Az D::_;rw[settle_names];show(X.names++[Az D])++_=_;rw[La8];rfl
      ·rw[add_wrong hg hth hj];exact hn 4
  ·rw[add_bad hg];exact hn _
structure Mt(X Y:PD):Prop where
  inv:Y.Inv
  ord:Y.Ord
  p:∀q∈Y.P,Aj X.P q.1=some q.2
  o:∀q∈Y.orp,Aj X.P q.1=some q.2
  st:Y.first=none
theorem Mt.new(X:PD):Mt X PD.new:=⟨PD.Inv.new,PD.Ord.new,fun q h=>(by cases h),fun q h=>(by cases h),rfl⟩
theorem Mt.nw(h:Mt X Y)(hI:X.Inv)(hR:X.Rt)(hD:Aj X.P n=some D):wrongB Y.P D=false:=wrong_sub (hR _ (Be hD)) fun E _ hE=>h.p _ (Be hE)
theorem settle_sub{X:PD}:∀(f:Nat) {Y:PD},Y.Inv→Y.Ord→(∀q∈Y.P,Aj X.P q.1=some q.2)→(∀q∈Y.orp,Aj X.P q.1=some q.2)→(∀q∈(PD.settle f Y).1.P,Aj X.P q.1=some q.2)∧∀q∈(PD.settle f Y).1.orp,Aj X.P q.1=some q.2
  |0,Y,_,_,h1,h2=>⟨h1,h2⟩
  | f + 1,Y,hI,hO,h1,h2=>by
    cases hf:Y.first with
    |none=>rw[settle_done hf];exact⟨h1,h2⟩
    | some n=>
      obtain⟨D,hD,hj⟩:=first_key hf;have hoc:=hI.oc _ (Be hD);have hno:n∉(Y.drop1 n).orp.map (·.1):=fun h9=>((mdel_keys hI.od n n).1 h9).2 rfl;have h3:∀q∈(Y.drop1 n).orp,Aj X.P q.1=some q.2:=fun q hq=>h2 q (mdel_mem hq);by_cases hj1:Bi Y.P D=1
      · rw[settle_fit hf hD hj1]
        refine settle_sub f ((hI.drop n).adm hoc.2 hno hoc.1 (Dd hj1)) (PD.Ord.adm (hO.drop n) (hI.drop n) hoc.2 (Dd hj1)) (fun q hq=>?_) h3;rcases mput_mem hq with h4|rfl
        ·exact h1 q h4
        ·exact h2 _ (Be hD)
      ·rw[settle_wrong hf hD hj1];exact settle_sub f (hI.drop n) (hO.drop n) h1 h3
theorem Mt.add (h:Mt X Y)(hI:X.Inv)(hR:X.Rt)(hD:Aj X.P (Az D)=some D):Mt X (Y.add D).1:=by
  have hi :=h.inv.add D;have ho:=PD.Ord.add h.inv h.ord D;have key:(∀q∈(Y.add D).1.P,Aj X.P q.1=some q.2)∧(∀q∈(Y.add D).1.orp,Aj X.P q.1=some q.2)∧(Y.add D).1.first=none:=by
    by_cases hg:dgood D=0
    · cases hth :((Aj Y.orp (Az D)).isSome||(Aj Y.P (Az D)).isSome)with
      |true=>rw[add_there hg hth];exact⟨h.p,h.o,h.st⟩
      | false =>
        rcases judge_cases Y.P D with hj|hj|hj
        · by_cases h64:64≤Y.orp.length
          ·rw[add_full hg hth hj h64];exact⟨h.p,h.o,h.st⟩
          · rw [add_keep hg hth hj h64]
            refine⟨h.p,fun q hq=>?_,?_⟩
            · rcases mput_mem hq with h4|rfl
              ·exact h.o q h4
              ·exact hD
            · have hod:((Bh Y.orp (Az D) D).map (·.1)).Nodup:=by have h9:=hi.od;rw[add_keep hg hth hj h64]at h9;exact h9
              unfold PD.first;rw[Lek];intro m hm;have hm2:=(Br _).mem_iff.1 hm;obtain⟨q,hq,rfl⟩:=La6.1 hm2;obtain⟨j,hj2,e⟩:=Lbo hq;rw[mget_some hod (j:=j) (p:=q) (by rw[La3 hj2,e])];have hz:Bi Y.P q.2=0:=by
                rcases mput_mem hq with h4|rfl
                ·exact wait_no h.st h4 h.inv.od
                ·exact hj
              show ¬(Bi Y.P q.2 !=0)=true;rw[hz];decide
        · obtain⟨h1,h2⟩:=add_adm_inv h.inv hg hth hj
          have h3:=settle_sub (X:=X) (Y.adm (Az D) D).orp.length h1 (PD.Ord.adm h.ord h.inv h2 (Dd hj)) (fun q hq=>by
            rcases mput_mem hq with h4|rfl
            ·exact h.p q h4
            ·exact hD) h.o
          rw[add_fits hg hth hj];exact⟨h3.1,h3.2,settle_fin _ (Lad _)⟩
        ·rw[add_wrong hg hth hj];exact⟨h.p,h.o,h.st⟩
    ·rw[add_bad hg];exact⟨h.p,h.o,h.st⟩
  exact⟨hi,ho,key.1,key.2.1,key.2.2⟩
theorem Mt.fill(hI:X.Inv)(hR:X.Rt):∀(ds:List DB) {Y:PD},Mt X Y→(∀d∈ds,Aj X.P (Az d)=some d)→Mt X (fillP Y ds)
  | [],Y,h,_=>h
  | d::ds,Y,h,hd=>by
    show Mt X (fillP (Y.add d).1 ds);exact Mt.fill hI hR ds (h.add hI hR (hd d La9)) fun e he=>hd e (Laf _ he)
theorem Mt.has(h:Mt X Y)(hD:Aj Y.P n=some D):Aj X.P n=some D:=h.p _ (Be hD)
theorem Mt.reach(h:Mt X Y)(hI:X.Inv)(n:List UInt8):X.Reach (-1) (Y.heads.filter fun n=>X.has n) n↔Y.has n=true:=by
  constructor
  · intro hr
    have hin:∀m,X.Reach (-1) (Y.heads.filter fun n=>X.has n) m→∃D,Aj Y.P m=some D:=fun m hm=>by
      induction hm with
      |base h1 _ _=>exact((h.inv.hd _).1 ((Br _).mem_iff.1 (Las.1 h1).1)).1
      | step h1 h2 h3 h4 _ ih=>
        obtain⟨D,hD⟩:=ih;have h5:=h.has hD;rw[h2]at h5;cases h5;exact(h.inv.par _ _ hD _ h3).1
    obtain⟨D,hD⟩:=hin n hr;unfold PD.has;rw[hD];rfl
  · intro hn
    obtain⟨D,hD⟩:=Laz.1 hn;have h1:=reach_all h.inv hD;have key:∀m,Y.Reach (-1) (Y.hds.map (·.1)) m→X.Reach (-1) (Y.heads.filter fun n=>X.has n) m:=fun m hm=>by
      induction hm with
      | base h1 h2 _=>
        have h3:=h.has h2;refine .base (Las.2 ⟨(Br _).mem_iff.2 h1,?_⟩) h3 (by have:=hI.d0 _ _ h3;omega);unfold PD.has;rw[h3];rfl
      | step _ h2 h3 h4 _ ih=>
        have h5:=h.has h4;exact .step ih (h.has h2) h3 h5 (by have:=hI.d0 _ _ h5;omega)
    exact key n h1
theorem Mt.gv(h:Mt X Y)(hI:X.Inv):n∈gvL X ws Y.heads↔X.Reach (-1) (ws.filter fun n=>X.has n) n∧Y.has n=false:=by
  rw[gv_mem hI,h.reach hI,Lgl]
theorem Mt.names(h:Mt X Y)(hI:X.Inv):Y.names.length≤X.names.length:=nd_len (by rw[h.inv.nn];exact h.inv.nd) fun n hn=>by
  obtain⟨D,hD⟩:=(C9 h.inv n).1 hn;exact(C9 hI n).2 ⟨D,h.has hD⟩
theorem Mt.ask(h:Mt X Y)(hI:X.Inv)(hn:n∈askL Y X.heads):X.has n=true∧Y.has n=false:=by
  obtain⟨h1,_,h3⟩:=ask_of hn;refine⟨?_,h1⟩;rcases h3 with h3|h3
  · obtain⟨D,hD⟩:=((hI.hd n).1 ((Br _).mem_iff.1 h3)).1
    unfold PD.has;rw[hD];rfl
  · have h4:=(Br _).mem_iff.1 h3
    rw[mem_ddp]at h4;obtain⟨l,hl,h5⟩:=Lf6.1 (Las.1 h4).1;obtain⟨q,hq,rfl⟩:=La6.1 hl;obtain⟨E,hE⟩:=(hI.par _ _ (h.o q hq) n h5).1;unfold PD.has;rw[hE];rfl
theorem Mt.pos(h:Mt X Y)(hI:X.Inv)(hne:askL Y X.heads≠ []):0<(gvL X (askL Y X.heads) Y.heads).length:=by
  obtain⟨n,hn⟩:=Lft _ hne;obtain⟨h1,h2⟩:=h.ask hI hn;obtain⟨D,hD⟩:=Laz.1 h1;have h3:=hI.d0 n D hD;exact List.length_pos_of_mem ((h.gv hI).2 ⟨.base (Las.2 ⟨hn,h1⟩) hD oM,h2⟩)
theorem Mt.take{X Y Z:PD}(hY:Mt X Y)(h:Mt X Z)(hI:X.Inv)(hN:X.Nm)(hR:X.Rt){i:Nat}(hn:(gvL X ws Y.heads)[i]? =some n)(hD:Aj X.P n=some D)
    (hold:∀m∈Y.names,m∈Z.names) (hnew:∀m∈(gvL X ws Y.heads).take i,m∈Z.names):((Z.add D).2.2=0∨(Z.add D).2.2=8)∧n∈(Z.add D).1.names∧Mt X (Z.add D).1:=by
  obtain⟨hnm,hg⟩:=hN.p _ (Be hD);simp only at hnm hg;have hrd:readyB Z.P D=true:=ready_iff.2 fun m hm=>by
    refine(C9 h.inv m).1 ?_;rcases gv_par hI hn hD hm with h1|h1
    ·exact hold m ((C9 hY.inv m).2 (Laz.1 ((hY.reach hI m).1 h1)))
    ·exact hnew m h1
  have hj:=judge_one (h.nw hI hR hD) hrd;refine⟨?_,?_,h.add hI hR (by rw[hnm];exact hD)⟩
  · cases hth:((Aj Z.orp (Az D)).isSome||(Aj Z.P (Az D)).isSome)with
    |true=>rw[add_there hg hth];exact .inr rfl
    |false=>rw[add_fits hg hth hj];exact .inl rfl
  · cases hth:((Aj Z.orp (Az D)).isSome||(Aj Z.P (Az D)).isSome)with
    | true=>
      rw[add_there hg hth];rw[hnm,Lbz]at hth;rcases hth with h1|h1
      · obtain⟨E,hE⟩:=Laz.1 h1
        have h2:=h.o _ (Be hE);simp only at h2;rw[hD]at h2;cases h2;have h3:=wait_no h.st (Be hE) h.inv.od;simp only at h3;rw[hj]at h3;cases h3
      ·exact(C9 h.inv n).2 (Laz.1 h1)
    | false=>
      rw[add_names,add_fits hg hth hj,hnm];exact Lau _ La9
theorem Mt.whole(h:Mt X Y)(hI:X.Inv)(hR:X.Rt)(h0:askL Y X.heads=[]):∀n,X.has n=true→Y.has n=true:=by
  have hall :=fun n=>ask_all (X:=Y) (hs:=X.heads) (n:=n) (by rw[h0];decide);rw[h0]at hall;have horp:Y.orp=[]:=by
    refine Classical.byContradiction fun hne=>?_;have key:∀(d:Nat) (q:List UInt8×DB),q∈Y.orp→((Aj X.dep q.1).getD 0).toNat≤d→False:=by
      intro d
      induction d with
      | zero=>
        intro q hq hd;have hz:=judge_zero (wait_no h.st hq h.inv.od);refine absurd (ready_iff.2 fun m hm=>?_) (by rw[hz.2];decide);obtain⟨⟨E,hE⟩,hlt⟩:=hI.par _ _ (h.o q hq) m hm;have:=hI.d0 m E hE;omega
      | succ d ih=>
        intro q hq hd;have hz:=judge_zero (wait_no h.st hq h.inv.od);refine absurd (ready_iff.2 fun m hm=>?_) (by rw[hz.2];decide);obtain⟨⟨E,hE⟩,hlt⟩:=hI.par _ _ (h.o q hq) m hm;have hm0:=hI.d0 m E hE;cases hP:Aj Y.P m with
        |some F=>exact⟨F,rfl⟩
        | none=>
          cases hO:Aj Y.orp m with
          |some F=>exact(ih (m,F) (Be hO) (by simp only;omega)).elim
          | none=>
            refine absurd (hall m (.inr ((Br _).mem_iff.2 (mem_ddp.2 (Las.2 ⟨Lf6.2 ⟨_,La6.2 ⟨q,hq,rfl⟩,hm⟩,?_⟩))))) (fun h=>by cases h);unfold PD.lacks;rw[hP,hO];rfl
    obtain⟨q,hq⟩:=Lft _ hne;exact key _ q hq (Lad _)
  intro n hn;obtain⟨D,hD⟩:=Laz.1 hn;have hr:=reach_all hI hD;have hin:∀m,X.Reach (-1) (X.hds.map (·.1)) m→∃D,Aj Y.P m=some D:=fun m hm=>by
    induction hm with
    | base h1 h2 _=>
      refine Classical.byContradiction fun h9=>?_
      rename_i m0 D0 _
      refine absurd (hall m0 (.inl ⟨(Br _).mem_iff.2 h1,?_,?_⟩)) (fun h=>by cases h)
      · cases hh:Y.has m0 with
        |false=>rfl
        |true=>exact absurd (Laz.1 hh) h9
      ·rw[show Y.orphans=[] by unfold PD.orphans;rw[horp];rfl];exact fun h=>by cases h
    | step _ h2 h3 h4 _ ih=>
      obtain⟨E,hE⟩:=ih;have h5:=h.has hE;rw[h2]at h5;cases h5;exact(h.inv.par _ _ hE _ h3).1
  obtain⟨E,hE⟩:=hin n hr;unfold PD.has;rw[hE];rfl
theorem Mt.full(h:Mt X Y)(hI:X.Inv)(hall:∀n,X.has n=true→Y.has n=true):Y.names.length=X.names.length∧gvL X X.heads Y.heads=[]:=by
  constructor
  · refine Nat.le_antisymm (h.names hI) (nd_len (by rw[hI.nn];exact hI.nd) fun n hn=>?_)
    exact(C9 h.inv n).2 (Laz.1 (hall n (Laz.2 ((C9 hI n).1 hn))))
  · refine List.eq_nil_iff_forall_not_mem.2 fun n hn=>?_
    obtain⟨h1,h2⟩:=(h.gv hI).1 hn;obtain⟨D,hD⟩:=reach_P h1;rw[hall n (Laz.2 ⟨D,hD⟩)]at h2;cases h2
def BoolsAt(W:World)(s:Sl)(l:List Bool):Prop:=SeqIs (fun r:Bool=>[.bool r]) 1 (fun _ r d=>d=r) W s l l
theorem kit_pickB(g m:Int)(n k:Nat)(hm:m=(n:Int))(hk:k=pickN g n)(hn:0<n)(hn2:n≤1000000):Mv 32 [i64 g,i64 m] (fun _=>True) (i64 (k:Int)):=kit_pickE g m n k hm hk hn hn2
theorem heads_32(hx:x.ok):∀l∈x.pl.heads,l.length=32:=fun l hl=>by
  obtain⟨q,hq,rfl⟩:=La6.1 ((heads_mem x.pl l).1 hl);exact hx.hds q hq
theorem heads_small(hx:x.ok):x.pl.heads.length≤x.names.length:=by
  rw[heads_len];exact hx.hdsn
structure TakI(X Y:PD)(G:List (List UInt8))(i:Nat):Prop where
  mt:Mt X (fillP Y ((G.take i).map X.blk))
  old:∀m∈Y.names,m∈(fillP Y ((G.take i).map X.blk)).names
  new:∀m∈G.take i,m∈(fillP Y ((G.take i).map X.blk)).names
  err:∀e∈takeE Y ((G.take i).map X.blk),e=0∨e=8
  num:Y.names.length+takeN Y ((G.take i).map X.blk)=(fillP Y ((G.take i).map X.blk)).names.length
theorem TakI.all(hY:Mt X Y)(hI:X.Inv)(hN:X.Nm)(hR:X.Rt):∀i,i≤(gvL X ws Y.heads).length→TakI X Y (gvL X ws Y.heads) i
  |0,_=>⟨hY,fun m h=>h,fun m h=>(by cases h),fun e h=>(by cases h),rfl⟩
  | i +1,hi=>by
    have ih:=TakI.all hY hI hN hR i oM;have hn:(gvL X ws Y.heads)[i]? =some ((gvL X ws Y.heads)[i]'oM):=La3 oM;obtain⟨D,hD⟩:=Laz.1 (gv_has hI _ (Lax hn));obtain⟨h1,h2,h3⟩:=Mt.take hY ih.mt hI hN hR hn hD ih.old ih.new;have hb:X.blk ((gvL X ws Y.heads)[i]'oM)=D:=by unfold PD.blk;rw[hD];rfl
    have e:((gvL X ws Y.heads).take (i+1)).map X.blk=((gvL X ws Y.heads).take i).map X.blk++[D]:=by rw[take_snoc hn,Lae,←hb];rfl
    have ef:fillP Y (((gvL X ws Y.heads).take (i+1)).map X.blk)=((fillP Y (((gvL X ws Y.heads).take i).map X.blk)).add D).1:=by rw[e,fillP_snoc]
    have en:=add_names (fillP Y (((gvL X ws Y.heads).take i).map X.blk)) D;refine⟨by rw[ef];exact h3,fun m hm=>?_,fun m hm=>?_,fun z hz=>?_,?_⟩
    ·rw[ef,en];exact Lao _ (ih.old m hm)
    · rw[take_snoc hn]at hm
      rw[ef];rcases Lab.1 hm with h|h
      ·rw[en];exact Lao _ (ih.new m h)
      ·rw[La1.1 h];exact h2
    · rw[e,takeE_snoc]at hz
      rcases Lab.1 hz with h|h
      ·exact ih.err z h
      ·rw[La1.1 h];exact h1
    ·rw[ef,en,e,takeN_snoc,La2,←ih.num];omega
theorem TakI.more{c:Nat}(h:TakI X Y (gvL X ws Y.heads) c)(hY:Mt X Y)(hI:X.Inv)(h0:0<c)(h1:0<(gvL X ws Y.heads).length):0<takeN Y (((gvL X ws Y.heads).take c).map X.blk):=by
  have hn:(gvL X ws Y.heads)[0]∈gvL X ws Y.heads:=Lc7 _;have hno:=((Mt.gv hY hI).1 hn).2;have hnm:(gvL X ws Y.heads)[0]∉Y.names:=fun hm=>by
    have:=Laz.2 ((C9 hY.inv _).1 hm);unfold PD.has at hno;rw[hno]at this;cases this
  have hin:(gvL X ws Y.heads)[0]∈(gvL X ws Y.heads).take c:=Ler.2 ⟨0,by rw[Lac];omega,Lfk⟩;have hl:=nd_len (l:=(gvL X ws Y.heads)[0]::Y.names) (Lb4.2 ⟨hnm,by rw[hY.inv.nn];exact hY.inv.nd⟩) (fun m hm=>by
    rcases Laj.1 hm with rfl|hm
    ·exact h.new _ hin
    ·exact h.old m hm)
  rw[Lay,←h.num]at hl;omega
theorem whole_all(hI:X.Inv)(h:∀n,X.has n=true→Y.has n=true):(!X.names.any fun n=> !Y.has n)=true:=by
  rw[Lce,List.any_eq_false];intro n hn;have:=h n (Laz.2 ((C9 hI n).1 hn));rw[this];decide
theorem law_wantmeets(s:Sl)(ds:List DB)(sb:Sl)(lb:List Bool)(a:Int):Mv 8 [s.v,sb.v,i64 a] (fun W=>BlocksAt W s ds∧BoolsAt W sb lb) (.bool true):=by
 intro W hW;have h32n:True:=trivial;obtain⟨kk,hkk⟩:∃k,k=pickN a 10:=⟨_,rfl⟩;have hkkl:kk<10:=by rw[hkk];exact pickN_lt a dE
 refine Ad func8 J 171 ntmps8 J (.sr (.a J J J (.nil (A7 (.seq (.sr (.cV J J J J Body21 (law24_lives) tV (.not J J J (.nil (A7 (.cond_f J J (.skip (A7 (.seq (.sr (.m J J J (.cV J J J J Body22 (lightd_blocks s ds 20) (fun w h=>Blocks_ext h J hW.1) (.not J J J (.nil (A7 (.cond J (fun hc1=>?_) (fun hc1=>?_))))))))))))))))))))))
 ·
  refine .sr (.a J J J (.nil (A7 ?_)));refine .ret (at_r (C6 (As (out:=[]) (Af J J) Ae ?_)));exact⟨rfl,rfl⟩
 have hsm0:lightOf lightBf ds 20=true:=by simpa using hc1
 obtain⟨hd20,hsm⟩:=light_ats hsm0;obtain⟨rs0,hs0⟩:=id hW.1;have hsn0:=hs0.nd;refine .skip (A7 (.sr (.m J J J (.call4 J J J J J Body24 (law24_known s ds oM hsm) (fun w h=>Blocks_ext h J hW.1) ?_))));rintro v30 out30 ⟨pr,y,rfl,rfl,hy,hrel,hny⟩;obtain⟨X,hX⟩:∃X,X=fillP PD.new ds:=⟨_,rfl⟩;rw[←hX]at hrel;have hI:X.Inv:=by rw[hX];exact PD.Inv.fill _ PD.Inv.new
 have hO:X.Ord:=by rw[hX];exact PD.Ord.fill _ PD.Inv.new PD.Ord.new
 have hN:X.Nm:=by rw[hX];exact PD.Nm.fill _ PD.Nm.new
 have hR:X.Rt:=by rw[hX];exact PD.Rt.fill _ PD.Inv.new (fun q hq=>by cases hq)
 have hnm:=rk_names hrel.p hI;have hrk:(rkNames y).length=y.L.length:=La0 _;have hXl:X.names.length≤20:=by rw[hnm,hrk];omega
 have hX32:∀l∈X.names,l.length=32:=by rw[hnm];exact rkNames_32 hy
 refine .a J J J (.nil (A7 (.sr (.m J J J (.call4 J J J J J Body45 (rd_names y hy pr) (fun w h=>Lies.of h (by repeat(exact Au))) ?_)))));rintro v32 outN ⟨sN,rfl,hacN⟩;rw[←hnm]at hacN;have hnN:=hacN.num;refine .a J J J (.nil (A7 (.sr (.a J J J (.nil (A7 (.seq (.sr (.a J J J (.nil (A7 (.block (.loop (ι:=Nat×Sl×List Blk×List Blk×List Block×List DB) (fun r=>⟨[(0,s.v),(1,sb.v),(2,i64 a),(7,ptr pr 0),(8,sN.v),(9,r.2.1.v),(10,i64 (r.1:Int))],(r.2.2.1++(r.2.2.2.1++(y.blks pr++(outN++[]))))⟩) (fun r=>r.1≤sN.n∧OwnSeq Block.cells 131 BlockIs 37 r.2.1 r.2.2.1 r.2.2.2.1 r.2.2.2.2.1 r.2.2.2.2.2 r.2.2.2.2.2.length∧r.2.2.2.2.2.length≤r.1∧∀d∈r.2.2.2.2.2,Aj X.P (Az d)=some d) (fun r=>sN.n-r.1) ((0,Sl.nil,[],[],[],[])) ?_ ?_ ?_)))))))))))))
 ·exact⟨Lan _,OwnSeq.none,Lad _,fun d h=>by cases h⟩
 ·exact Ag wN (Ac sG (Ac sG (Ac (by repeat(first|exact Bu|apply B6)) (Ac sG Ae))))
 rintro⟨k,s9,bl9,bo9,rs,dl⟩ ⟨hk,hos,hdll,hdl⟩;simp only at hk hos hdll hdl ⊢;have hns9:=hos.acc.num;refine .seq (.sr (.m J J J (.m J J J (.lenSl J J J Y32.h (.lss J J J J J (.nil (A7 (.condP J (fun hc2=>?_) (fun hc2=>?_)))))))))
 ·
  have hk2:k<sN.n:=by omega
  obtain⟨nn,hnn⟩:∃n,n=X.names.getD k []:=⟨_,rfl⟩;clear h32n;have h32n:nn.length=32:=by rw[hnn];exact hX32 _ (getD_mem2 oM)
  obtain⟨bE,oE,hpE,seE⟩:=par_open hacN oM hX32;obtain⟨Dk,hDk⟩:=(C9 hI nn).1 (by rw[hnn];exact getD_mem2 oM);refine .skip (A7 (.seq (.block (.sr (.m J J J (.m J J J (.m J J J (.idxSlP 32 J J J hpE J Y32.h Sz31 k J oM (.loadSN (n:=32) (Aa nn) J J J Y31.h J Sz31 (by rw[Aa,La0];exact h32n) (fun w h=>by rw[hnn];exact seE w (Lies.of h (by repeat(first|exact Au|refine A3 ?_|refine Bk ?_))) k oM) ?_)))))))));refine .call4 J J J J J Body46 (rd_get y hy pr X hrel.p hI.ck nn h32n) (fun w h=>Lies.of h (by repeat(first|exact Au|refine Bk ?_))) ?_;rintro v45 out45 (⟨h0,_⟩|⟨D,B,hD,hBS,rfl,hbi⟩)
  ·exfalso;rw[h0]at hDk;cases hDk
  refine .m J J J (.eX J J J J (.eX J J J J (.alloc (cs:=Block.zero.cells) J Block.zr J ?_)));intro n11 hn11 hf11;refine .sA J J J J (Block.isCell (by exact hBS.ok)) Sz37 (Block.length (by exact hBS.ok)) Z0 (Block.length (by exact Block.zero_ok)) zU ?_;refine .a J J J (.nil (A7 (.sr (.m J J J (.m J J J (.lenSl J J J underlying80 (two (fun r hr k=>Tr.lss J J J J hr k) (fun hs12_30=>?_) (fun hs12_30=>?_))))))))
  ·
   have hs12_3:=of_decide_eq_true hs12_30;have hbk:k<sb.n:=by omega
   obtain⟨bH,oH,vH,dH,hsp,hrH,hdH,hvH,hlH,hseeH⟩:=hW.2.at dE hbk;have hcell:=hseeH 0 _ rfl;refine .m J J J (.m J J J (.m J J J (.idxSlP 1 J J J hsp J underlying80 Sz4 k J oM (.loadE J J J underlying4 J sP ((by simpa using hcell)) ?_))));refine .pick J J J J J J (.nil (A7 (.cond J (fun hc3=>?_) (fun hc3=>?_))))
   ·
    refine .region (.m J J J (.lA J J J Y37.h J Sz37 Z0 (Block.length (by exact hBS.ok)) ?_));refine .mkRow (z:=agg Block.zero.cells) [agg B.cells] B.cells J J J Y22.h Sz37 Block.zr J J (by intro v hv;rw[La1.1 hv];exact Block.length hBS.ok) dE (by simp[Value.cells]) ?_;intro q60;refine .appendAcc (n:=dl.length) (z:=agg Block.zero.cells) (by':=184) (B.cells) J J J J J Y22.h Y22.h Sz37 Block.zr (by unfold By;kernel_rfl) J hos.acc sG (fun w h=>SeesP.of (An (b:=q60) h Z0)) (fun e=>by cases e) (Block.isCell hBS.ok) oM oM (by rw[Block.length hBS.ok]) ?_;intro s61 bl61 hac61;refine .a J J J (.nil (bl_n (A7 (.region (.m J J J (.aI J J J J oM (.a J J J (.nil (A7 ?_)))))))));exact⟨(k+1,s61,bl61,out45++bo9,rs++[B],dl++[D]),⟨by simp only;omega,by simp only;rw[La2];exact hos.snoc hac61 (Block.length hBS.ok) (fun W2 hl=>hbi W2 hl),by simp only;rw[La2];show _+1≤_;omega,fun d hd=>by rcases Lab.1 hd with h|h;exact hdl d h;rw[La1.1 h,(hN.p _ (Be hD)).1];exact hD⟩,by simp only;omega,Ag wN (Ac sG (pm_two (Ac sG (Ac sG (Ac sG (Ac sG Ae))))))⟩
   refine .skip (bl_n (A7 (.region (.m J J J (.aI J J J J oM (.a J J J (.nil (A7 ?_))))))));exact⟨(k+1,s9,bl9,bo9,rs,dl),⟨by simp only;omega,hos,by simp only;omega,hdl⟩,by simp only;omega,Ag wN (Ac sG (Ac sG (Ac sG (Ac sG Ae))))⟩
  have hs12_3:=of_decide_eq_false hs12_30;skip;refine .m J J J (.skp J J (.skp J J (.skp J J (.skp J J (.pick J J J J J J (.nil (A7 (.cond_f J J (.skip (bl_n (A7 (.region (.m J J J (.aI J J J J oM (.a J J J (.nil (A7 ?_)))))))))))))))));exact⟨(k+1,s9,bl9,bo9,rs,dl),⟨by simp only;omega,hos,by simp only;omega,hdl⟩,by simp only;omega,Ag wN (Ac sG (Ac sG (Ac sG (Ac sG Ae))))⟩
 have hke:k=sN.n:=by omega
 refine .exit (at_x (at_x (bl_h (A7 (.sr (.m J J J (.call4 J J J J J Body23 (law24_filled s9 dl oM (fun d hd=>by have:=ck_small (hI.ck _ (Be (hdl d hd)));simp only at this;omega)) (fun w h=>⟨_,hos.seq (Lies.of h (by repeat(exact Au))) (Lies.of h (by repeat(first|exact Au|refine Bk ?_))) oM⟩) ?_)))))));rintro v63 out63 ⟨p1,x1,rfl,rfl,hx1,hplx1,hnx1⟩;have hM1:Mt X x1.pl:=by rw[hplx1];exact Mt.fill hI hR dl (Mt.new X) hdl
 refine .m J J J (.call4 J J J J J Body23 (law24_filled s ds oM hsm) (fun w h=>Blocks_ext h J hW.1) ?_);rintro v65 out65 ⟨p2,x2,rfl,rfl,hx2,hplx2,hnx2⟩;rw[←hX]at hplx2;clear hX;subst hplx2;refine .a J J J (.a J J J (.nil (A7 (.join (ι:=DD) (fun x=>⟨[(8,sN.v),(13,ptr p1 0),(14,ptr p2 0)],(x.blks p1++(x2.blks p2++(outN++[])))⟩) (fun x=>x.ok∧Mt x2.pl x.pl∧askL x.pl x2.pl.heads=[]) ?_ ?_))))
 ·
  refine .sr (.m J J J (.lenSl J J J Y32.h (.a J J J (.nil (A7 (.block (.loop (ι:=Nat×DD) (fun r=>⟨[(2,i64 a),(8,sN.v),(13,ptr p1 0),(14,ptr p2 0),(15,i64 ((x2.pl.names.length:Int)-(r.1:Int)))],(r.2.blks p1++(x2.blks p2++(outN++[])))⟩) (fun r=>r.1≤r.2.pl.names.length∧r.2.ok∧Mt x2.pl r.2.pl∧r.2.names.length+r.2.orp.length≤20+8*r.1) (fun r=>x2.pl.names.length+1-r.1) ((0,x1)) ?_ ?_ ?_)))))))
  ·exact⟨Lan _,hx1,hM1,by simp only;omega⟩
  ·exact Ag (wk1 rfl (wk1 rfl (wk1 rfl (wk1 rfl (wk1 (by show Hw.look _ _=some (i64 ((x2.pl.names.length:Int)-((0:Nat):Int)));rw[←hnN];exact congrArg (fun z=>some (i64 z)) (show(sN.n:Int)=(sN.n:Int)-((0:Nat):Int) by omega)) wk0))))) (Ac (by repeat(first|exact Bu|apply B6)) (Ac sG (Ac (by repeat(first|exact Bu|apply B6)) Ae)))
  rintro⟨j,x⟩ ⟨hj,hx,hM,hroom⟩;simp only at hj hx hM hroom ⊢;have hjn:=Mt.names hM hI;have hxe:x.pl.names.length=x.names.length:=rfl;refine .seq (.sr (.m J J J (.geq J J J J J (.nil (A7 (.condP J (fun hc4=>?_) (fun hc4=>?_)))))))
  ·
   refine .skip (A7 (.seq (.block (.sr (.m J J J (.m J J J (.call4 J J J J J Body47 (dag_heads x2 hx2 p2) (fun w h=>Lies.of h (by repeat(first|exact Au|refine A3 ?_|refine Bk ?_))) ?_)))))));rintro v74 out74 ⟨s74,rfl,hac74⟩;have hh3274:=heads_32 hx2;have hhl74:=heads_small hx2;refine .call4 J J J J J Body27 (want_askG x hx hM.inv p1 s74 x2.pl.heads oM) (fun w h=>⟨Lies.of h (by repeat(first|exact Au|refine Bk ?_)),Ci hac74 (Lies.of h (by repeat(exact Au))) hh3274 J oM⟩) ?_;rintro v75 out75 ⟨sA,rfl,hacA⟩;have hal:=ask_len x.pl x2.pl.heads;obtain⟨ak,hak⟩:∃l,l=askL x.pl x2.pl.heads:=⟨_,rfl⟩;rw[←hak]at hacA hal;have hnA:=hacA.num;have hak32:∀l∈ak,l.length=32:=fun l hl=>hX32 l ((C9 hI l).2 (Laz.1 (Mt.ask hM hI (hak▸hl)).1));refine .a J J J (.nil (A7 (.seq (.sr (.m J J J (.lenSl J J J Y32.h (.eqi J J J J J (.nil (A7 (.condP J (fun hc5=>?_) (fun hc5=>?_)))))))))))
   ·
    refine .exit (at_x (bl_x J (at_x (at_x (bl_h (A7 ?_))))));exact⟨x,⟨hx,hM,by rw[←hak];exact Lag oM⟩,Ag wN (Ac (by repeat(first|exact Bu|apply B6)) (Ac (by repeat(first|exact Bu|apply B6)) (Ac (by repeat(first|exact Bu|apply B6)) Ae)))⟩
   refine .skip (A7 (.sr (.m J J J (.call4 J J J J J Body16 (dag_names x hx p1) (fun w h=>Lies.of h (by repeat(first|exact Au|refine Bk ?_))) ?_))));rintro v80 out80 ⟨s80,rfl,hac80⟩;have hn80:=hac80.num;refine .lenSl J J J Y32.h (.a J J J (.nil (A7 (.sr (.m J J J (.m J J J (.m J J J (.call4 J J J J J Body47 (dag_heads x hx p1) (fun w h=>Lies.of h (by repeat(first|exact Au|refine Bk ?_))) ?_))))))));rintro v85 out85 ⟨s85,rfl,hac85⟩;have hh3285:=heads_32 hx;have hhl85:=heads_small hx;refine .cV J J J J Body34 (want_needs x2 hx2 hI hO p2 sA s85 ak x.pl.heads oM oM) (fun w h=>⟨Lies.of h (by repeat(first|exact Au|refine A3 ?_|refine Bk ?_)),Ci hacA (Lies.of h (by repeat(first|exact Au|refine Bk ?_))) hak32 J oM,Ci hac85 (Lies.of h (by repeat(exact Au))) hh3285 J oM⟩) ?_;refine .a J J J (.nil (A7 (.sr (.m J J J (.m J J J (.m J J J (.call4 J J J J J Body47 (dag_heads x hx p1) (fun w h=>Lies.of h (by repeat(first|exact Au|refine Bk ?_))) ?_)))))));rintro v91 out91 ⟨s91,rfl,hac91⟩;have hh3291:=heads_32 hx;have hhl91:=heads_small hx;refine .m J J J (.cV J J J J Body32 (kit_pickB a 10 10 kk J hkk dE dE) tV (.aI J J J J oM (.call4 J J J J J Body33 (want_giveG x2 hx2 hI hO p2 sA s91 ak x.pl.heads oM oM (1+(kk:Int)) oM) (fun w h=>⟨Lies.of h (by repeat(first|exact Au|refine A3 ?_|refine Bk ?_)),Ci hacA (Lies.of h (by repeat(first|exact Au|refine Bk ?_))) hak32 J oM,Ci hac91 (Lies.of h (by repeat(exact Au))) hh3291 J oM⟩) ?_)));rintro v95 out95 ⟨v0,rfl,sGq,bG,bG2,rG,rfl,rfl,hosG⟩;obtain⟨cc,hcc⟩:∃c,c=min (min (gvL x2.pl ak x.pl.heads).length (1+(kk:Int)).toNat) 8:=⟨_,rfl⟩;rw[←hcc]at hosG;have hgl:(((gvL x2.pl ak x.pl.heads).take cc).map x2.pl.blk).length=cc:=by rw[La0,Lac];omega
   have hnG:=hosG.acc.num;rw[hgl]at hnG;have hne:ak≠ []:=fun h9=>by rw[h9]at hnA;have hz:sA.n=0:=hnA;omega
   have hpos:0<(gvL x2.pl ak x.pl.heads).length:=by rw[hak];exact Mt.pos hM hI (hak▸hne)
   have hT:=TakI.all hM hI hN hR (ws:=ak) cc oM;have hmore:=hT.more hM hI oM hpos;simp only[La8];refine .m J J J (.eX J J J J (.eX J J J J (.a J J J (.a J J J (.nil (A7 (.seq (.sr (.m J J J (.nei J J J J (show(!decide _)=false from congrArg not (decide_eq_true (rfl))) (.m J J J (.m J J J (.lenSl J J J Y22.h (.eqi J J J J (decide_eq_false oM) (.pick J J J J J J (.m J J J (.m J J J (.lenSl J J J Y22.h (.m J J J (.gtr J J J J (decide_eq_false oM) (.pick J J J J J J (.m J J J (.m J J J (.lenSl J J J Y22.h (.gtr J J J J (decide_eq_false oM) (.pick J J J J J J (.nil (A7 (.cond_f J J (.skip (A7 (.sr (.m J J J (.m J J J (.callL (L:=(x.blks p1++(bG++bG2))) J J J J J Body41 (want_take x hx p1 sGq rG (((gvL x2.pl ak x.pl.heads).take cc).map x2.pl.blk) (bG++bG2) (fun W h=>hosG.seq (h.sub fun b hb=>Lao _ hb) (h.sub fun b hb=>Lau _ hb) oM) oM oM) (sg_two (by repeat(first|exact Bu|apply B6)) (sg_two sG sG)) (C5 J) (fun w h=>Lent.of h (sg_two (by repeat(first|exact Bu|apply B6)) (sg_two sG sG))) ?_)))))))))))))))))))))))))))))))))));rintro v119 out119 ⟨x3,s22,bl22,rfl,rfl,hx3,hpl3,hac22,hnx3⟩;rw[hgl]at hac22 hnx3;obtain⟨er,her⟩:∃l,l=takeE x.pl (((gvL x2.pl ak x.pl.heads).take cc).map x2.pl.blk):=⟨_,rfl⟩;obtain⟨tn,htn⟩:∃k,k=takeN x.pl (((gvL x2.pl ak x.pl.heads).take cc).map x2.pl.blk):=⟨_,rfl⟩;rw[←her]at hac22;rw[←htn];have hn22:=hac22.num;have hM3:Mt x2.pl x3.pl:=by rw[hpl3];exact hT.mt
   have hnum:x.pl.names.length+tn=x3.pl.names.length:=by rw[hpl3,htn];exact hT.num
   rw[←htn]at hmore;have herr:∀e∈er,e=0∨e=8:=by rw[her];exact hT.err
   have hjn3:=Mt.names hM3 hI;have herl:er.length=cc:=by rw[her,takeE_len,hgl]
   simp only[La8];refine .m J J J (.eX J J J J (.eX J J J J (.a J J J (.a J J J (.nil (A7 (.seq (.sr (.a J J J (.nil (A7 (.block (.loop (ι:=Nat) (fun k=>⟨[(2,i64 a),(8,sN.v),(13,ptr p1 0),(14,ptr p2 0),(15,i64 ((x2.pl.names.length:Int)-(j:Int))),(17,i64 (s80.n:Int)),(21,i64 (tn:Int)),(22,s22.v),(23,i64 (k:Int))],(x3.blks p1++(bl22++(x2.blks p2++(outN++[]))))⟩) (fun k=>k≤s22.n) (fun k=>s22.n-k) (0) ?_ ?_ ?_)))))))))))))
   ·exact Lan _
   ·exact Ag wN (Ac sG (Ac sG (Ac (by repeat(first|exact Bu|apply B6)) (Ac (by repeat(first|exact Bu|apply B6)) Ae))))
   rintro k hk;refine .seq (.sr (.m J J J (.m J J J (.lenSl J J J Y73.h (.lss J J J J J (.nil (A7 (.condP J (fun hc7=>?_) (fun hc7=>?_)))))))))
   ·
    obtain⟨q22,hp22,hc22⟩:=acc_at hac22 (k:=k) oM;obtain⟨ee,hee⟩:∃z,z=er.getD k 0:=⟨_,rfl⟩;rw[←hee]at hc22;have hee8:ee=0∨ee=8:=herr ee (by rw[hee,La4,La3 oM];exact Lc7 _);refine .skip (A7 (.seq (.block (.sr (.m J J J (.m J J J (.idxSlP 1 J J J hp22 J Y73.h Sz39 k J oM (.loadS1 J J J underlying39 J (fun w h=>hc22 w (Lies.of h (by repeat(first|exact Au|refine A3 ?_|refine Bk ?_)))) ?_))))))));refine two (fun r hr k=>Tr.nei J J J J hr k) (fun hs29_40=>?_) (fun hs29_40=>?_)
    ·
     have hs29_4:=nd_t hs29_40;refine .m J J J (.m J J J (.m J J J (.idxSlP 1 J J J hp22 J Y73.h Sz39 k J oM (.loadS1 J J J underlying39 J (fun w h=>hc22 w (Lies.of h (by repeat(first|exact Au|refine A3 ?_|refine Bk ?_)))) ?_))));refine .nei J J J J (show(!decide _)=false from congrArg not (decide_eq_true (by rcases hee8 with h9|h9<;>omega))) ?_;refine .pick J J J J J J (.nil (A7 (.cond_f J J (.skip (bl_n (A7 (.region (.m J J J (.aI J J J J oM (.a J J J (.nil (A7 ?_))))))))))));exact⟨k+1,by omega,by omega,Ag wN (Ac sG (Ac sG (Ac sG (Ac sG Ae))))⟩
    have hs29_4:=nd_f hs29_40;refine .m J J J (.skp J J (.skp J J (.skp J J (.skp J J (.skp J J (.pick J J J J J J (.nil (A7 (.cond_f J J (.skip (bl_n (A7 (.region (.m J J J (.aI J J J J oM (.a J J J (.nil (A7 ?_))))))))))))))))));exact⟨k+1,by omega,by omega,Ag wN (Ac sG (Ac sG (Ac sG (Ac sG Ae))))⟩
   refine .exit (at_x (at_x (bl_h (A7 (.sr (.m J J J (.m J J J (.call4 J J J J J Body16 (dag_names x3 hx3 p1) (fun w h=>Lies.of h (by repeat(exact Au))) ?_))))))));rintro v142 out142 ⟨s142,rfl,hac142⟩;have hn142:=hac142.num;refine .lenSl J J J Y32.h (.m J J J (.sub_i64 J J J J oM (.nei J J J J (show(!decide _)=false from congrArg not (decide_eq_true oM)) (.m J J J (.m J J J (.lss J J J J (decide_eq_false oM) (.pick J J J J J J (.nil (A7 (.cond_f J J (.skip (bl_n (A7 (.region (.m J J J (.sub_i64 J J J J oM (.a J J J (.nil (A7 ?_)))))))))))))))))));exact⟨(j+1,x3),⟨by simp only;omega,hx3,hM3,by simp only;omega⟩,by simp only;omega,Ag (wk1 rfl (wk1 rfl (wk1 rfl (wk1 rfl (wk1 (congrArg (fun z=>some (i64 z)) (show(x2.pl.names.length:Int)-(j:Int)-1=(x2.pl.names.length:Int)-((j+1:Nat):Int) by omega)) wk0))))) (Ac (by repeat(first|exact Bu|apply B6)) (Ac (by repeat(first|exact Bu|apply B6)) (Ac (by repeat(first|exact Bu|apply B6)) Ae)))⟩
  refine .exit (at_x (at_x (bl_h (A7 ?_))));exfalso;omega
 intro x hj;obtain⟨hx,hM,hask⟩:=hj;have hall:=Mt.whole hM hI hR hask;have hfull:=Mt.full hM hI hall;have hjn:=Mt.names hM hI;have hxe:x.pl.names.length=x.names.length:=rfl;refine .sr (.m J J J (.m J J J (.cV J J J J Body43 (want_wholeF x hx hM.inv p1 sN x2.pl.names (whole_all hI hall)) (fun w h=>⟨Lies.of h (by repeat(exact Au)),Ci hacN (Lies.of h (by repeat(first|exact Au|refine A3 ?_|refine Bk ?_))) hX32 J oM⟩) ?_)));refine .m J J J (.m J J J (.call4 J J J J J Body16 (dag_names x hx p1) (fun w h=>Lies.of h (by repeat(exact Au))) ?_));rintro v156 out156 ⟨s156,rfl,hac156⟩;have hn156:=hac156.num;refine .lenSl J J J Y32.h (.m J J J (.lenSl J J J Y32.h (.eqi J J J J (decide_eq_true oM) (.pick J J J J J J (.m J J J (.m J J J (.m J J J (.call4 J J J J J Body47 (dag_heads x2 hx2 p2) (fun w h=>Lies.of h (by repeat(first|exact Au|refine A3 ?_|refine Bk ?_))) ?_))))))));rintro v165 out165 ⟨s165,rfl,hac165⟩;have hh32165:=heads_32 hx2;have hhl165:=heads_small hx2;refine .m J J J (.call4 J J J J J Body47 (dag_heads x hx p1) (fun w h=>Lies.of h (by repeat(first|exact Au|refine Bk ?_))) ?_);rintro v167 out167 ⟨s167,rfl,hac167⟩;have hh32167:=heads_32 hx;have hhl167:=heads_small hx;refine .cV J J J J Body34 (want_needsF x2 hx2 hI hO p2 s165 s167 x2.pl.heads x.pl.heads oM oM (k:=0) (by rw[hfull.2];rfl)) (fun w h=>⟨Lies.of h (by repeat(first|exact Au|refine A3 ?_|refine Bk ?_)),Ci hac165 (Lies.of h (by repeat(first|exact Au|refine Bk ?_))) hh32165 J oM,Ci hac167 (Lies.of h (by repeat(exact Au))) hh32167 J oM⟩) ?_;refine .eqi J J J J (decide_eq_true (rfl)) (.pick J J J J J J (.a J J J (.nil (A7 ?_))));refine .ret (C6 (As (out:=[]) (Af J J) Ae ?_));exact⟨rfl,rfl⟩
end Go.Proofs.YtgjnomgkddbhcaaGreat
namespace Go.Proofs.YtgjnomgkddbhcaaGreat
open Hw (La3 Le0)
open Go Go.ChangeShapes Go.WideShapes Go.ChangeAt Go.RowKit
variable{H:Type}{W:World}{b0 base:Nat}{held:Bool}{k:TypeId}{ps:List MemPlace}{r:Reach}{sp:Nat→Bool}{v:Value}{d:DataW H}{enc:TypeId×Value→H}
theorem ownWMts:ownKnob Tryz.prog.godebug=none:=by kernel_rfl
theorem laidOutWMts:laidOutB Tryz.prog=true:=by kernel_rfl
theorem bools_ofWMts{s:Hw.Sl}{rs ds:List Bool}(h:Hw.SeqIs (fun r:Bool=>[.bool r]) 1 (fun(_:World) (r d:Bool)=>d=r) W s rs ds):BoolsAt W s rs:=by
  have e:ds=rs:=Le0 (by rw[h.nd,h.nr]) fun i h1 h2=>h.is i _ _ (La3 h2) (La3 h1);subst e;exact h
theorem openBlWMts{P:Program}{k e:TypeId}(hu:P.underlying k=some (.slice e))(he:P.underlying e=some .bool)(hc:P.cellsOf e=1)
    (hval:Value.okWide P W r b0 k v) (hd:DataW.Trod enc P W base sp held k v d ps):∃s l,v=Hw.Sl.v s∧BoolsAt W s l:=by
  simp only[Value.okWide,hu,Cell.okWide]at hval;obtain⟨a1,len,cap,rfl⟩:∃a1 len cap,v= .slice a1 len cap:=by
    unfold Cell.ok at hval;rw[hu]at hval;split at hval<;>first|exact hval.elim|exact⟨_,_,_,rfl⟩|simp_all
  obtain⟨fuel,hf⟩:=hd;obtain⟨s,rs,ds,h1,h2⟩:=Hw.open_seqS (cells:=fun r:Bool=>[.bool r]) (Is:=fun(_:World) (r d:Bool)=>d=r) hu hc (by decide) (fun ht=>by
    obtain⟨a,ea,_⟩:=DataW.trod_bool he ht;exact⟨a,a,ea,rfl,rfl⟩) hf
  refine⟨s,rs,?_,bools_ofWMts h2⟩;simp[Value.cells]at h1;exact h1
theorem openSqWMtsBlock(hu:Tryz.prog.underlying k=some (.slice 37))(hc:Tryz.prog.cellsOf 37=131)
    (hval:Value.okWide Tryz.prog W r b0 k v) (hd:DataW.Trod enc Tryz.prog W base sp held k v d ps):∃s l,v=Hw.Sl.v s∧BlocksAt W s l:=by
  simp only[Value.okWide,hu,Cell.okWide]at hval;obtain⟨a1,len,cap,rfl⟩:∃a1 len cap,v= .slice a1 len cap:=by
    unfold Cell.ok at hval;rw[hu]at hval;split at hval<;>first|exact hval.elim|exact⟨_,_,_,rfl⟩|simp_all
  obtain⟨fuel,hf⟩:=hd;obtain⟨s,l,h1,h2⟩:=Block.openS hu hc hf;refine⟨s,l,?_,h2⟩;simp[Value.cells]at h1;exact h1
theorem walkWMts(w:World)(s0:Hw.Sl)(l0:List DB)(hs0:BlocksAt w s0 l0)(s1:Hw.Sl)(l1:List Bool)(hs1:BoolsAt w s1 l1)(a2:Int)(w2:(Lit.int .i64 a2).wf=true):Calls Tryz.prog 8 #[Hw.Sl.v s0,Hw.Sl.v s1,Hw.i64 a2] w fun e w'=>e= .returned (.bool true)∧Below w.heap.size w w':=
  by
  have fin:∀ {us:Array Value},Calls Tryz.prog 8 us w (fun e W'=>∃v out,e= .returned v∧(v= .bool true∧out=[])∧Hw.Ret [] out w W')→Calls Tryz.prog 8 us w (fun e w'=>e= .returned (.bool true)∧Below w.heap.size w w'):=
    fun h=>h.mono fun e w' ⟨v,out,he,⟨hv,ho⟩,hr⟩=>⟨by rw[he,hv],Hw.Keeps.below hr.keeps⟩
  exact fin (law_wantmeets s0 l0 s1 l1 a2 w ⟨hs0,hs1⟩)
theorem liftedWMts(os:Os)(started:os.Started)(H:Type)(enc:TypeId×Value→H):
    ReturnsInHanded {} Tryz.checked os 8 .any (Rows.wantMeetsSpec.pre6 enc Tryz.prog Tryz.f8 Rows.wantMeetsRow.domain false) (Rows.wantMeetsSpec.post enc Tryz.prog Tryz.f8 false true false false):=by
  refine returnsInHanded_of_change (C:=Tryz.checked) ownWMts started (by kernel_rfl) Tryz.func8
    (ChangeSpec.witness6 (enc:=enc) (C:=Tryz.checked) false ⟨#[], #[.slice none 0 0, .slice none 0 0, .int .i64 0],[]⟩ 8 (by kernel_rfl) (by kernel_rfl) (by kernel_rfl) (by kernel_rfl)) ?_
  intro W base args ds gs before hval0 hW hcnd _;have hval:∀(j:Nat) t v,Tryz.f8.params[j]? =some t→args[j]? =some v→Value.okWide Tryz.prog W .any base t v:=hval0;have hW':=hW;obtain⟨p,q,hA0,hV,rfl,hfz,hnd⟩:=hW;have hA:DataW.TrodAll enc Tryz.prog W 0 (fun _=>true) true Tryz.f8.params.toList args.toList ds p:=hA0;rw[Tryz.params8]at hA hval;obtain⟨v0,vs0,d0,ds0,p0,q0,hargs,rfl,rfl,h0,r0⟩:=trodAll_cons hA;obtain⟨v1,vs1,d1,ds1,p1,q1,rfl,rfl,rfl,h1,r1⟩:=trodAll_cons r0;obtain⟨v2,vs2,d2,ds2,p2,q2,rfl,rfl,rfl,h2,r2⟩:=trodAll_cons r1;obtain⟨rfl,rfl,rfl⟩:=trodAll_nil r2;obtain rfl:args= #[v0,v1,v2]:=by cases args;simp_all
  obtain⟨rfl,rfl⟩:=trodVars_none hV;have k0:=h0;have lt0:∀x∈p0,x.block<W.heap.size:=by obtain⟨m,hm⟩:=k0;exact DataW.trod_lt m _ _ _ hm
  have k1:=h1;have lt1:∀x∈p1,x.block<W.heap.size:=by obtain⟨m,hm⟩:=k1;exact DataW.trod_lt m _ _ _ hm
  have k2:=h2;have lt2:∀x∈p2,x.block<W.heap.size:=by obtain⟨m,hm⟩:=k2;exact DataW.trod_lt m _ _ _ hm
  obtain⟨s0,l0,rfl,hs0⟩:=openSqWMtsBlock Tryz.underlying22 (by kernel_rfl) (hval 0 22 v0 rfl rfl) h0;obtain⟨s1,l1,rfl,hs1⟩:=openBlWMts Tryz.underlying80 Tryz.underlying4 (by kernel_rfl) (hval 1 80 v1 rfl rfl) h1;obtain⟨a2,rfl,rfl,rfl,w2⟩:=open_int Tryz.underlying3 (hval 2 3 v2 rfl rfl) h2;clear hA0 hval0;refine(walkWMts W s0 l0 hs0 s1 l1 hs1 a2 w2).mono fun e W' ⟨he,bel⟩=>?_;subst he;exact⟨_,rfl,_,_,_,[],_,[],hW',trodAll_mk1 (shut_bool Tryz.underlying4 _),(trodAll_cons_mk (Below.trod laidOutWMts (by kernel_rfl) (of_decide_eq_true (by kernel_rfl)) k0 bel lt0) (trodAll_cons_mk (Below.trod laidOutWMts (by kernel_rfl) (of_decide_eq_true (by kernel_rfl)) k1 bel lt1) (trodAll_cons_mk (Below.trod laidOutWMts (by kernel_rfl) (of_decide_eq_true (by kernel_rfl)) k2 bel lt2) trodAll_mk0))),rfl,bel.frame _,fun h=>by cases h⟩
theorem wantMeets_holds:Rows.WantMeetsSaid:=
  OpenClaim.holds_of_wide 8 Tryz.f8 rfl rfl rfl rfl rfl rfl rfl ⟨rfl,rfl,rfl,rfl,rfl⟩ rfl rfl rfl rfl rfl (by kernel_rfl) Tryz.func8 closedWMts
    (of_decide_eq_true (by kernel_rfl)) (by unfold Func.isWrapper;first|(rw[if_pos (by decide+kernel)];kernel_rfl)|(rw[if_neg (by decide+kernel)];exact⟨rfl,rfl⟩))
    (fun os started H enc _=>liftedWMts os started H enc)
end Go.Proofs.YtgjnomgkddbhcaaGreat
end
