/- CutNames returns true at every start, and leaves all old memory as it was. Conditions: none beyond the given statement's own. -/
import Derived.WalkKit
import Derived.Orders
import Derived.Deep.LoopGhost
import Derived.IntWalk
import Derived.Laws.StructEq
import Derived.ArgAppend
import Derived.Deep.AppendSrc
import Derived.Lib.Bytealg
import Derived.Lib.BytesEntry
import Derived.Laws.IdiomStrings
import Derived.WideKeyArr2
import Derived.ProofKit
import Derived.OpenShut
import Derived.Deep.Slices
import Derived.Laws.Pointers
import Derived.Laws.Cover3
import Derived.LaidEqlPtr
import Derived.LoopN
import Derived.RangeFuncLeaves
import Derived.RangeFuncSeq
import Derived.OrdersIn
import Derived.Maps.Keyed
import Derived.Maps.RangeRun
import Derived.DeepKeys4
import Derived.Below
import Derived.Test.YtpogmfngccolbaaGreatRows
import Derived.KernelRfl
import Derived.Laws.Externs
import Derived.Defers
import Derived.Laws.MathBits
import Derived.Shelf.SlSortCmp.WholeK
import Derived.Shelf.SlGeneric
import Derived.Test.YtpogmfngccolbaaGreatProg
import Derived.Shelf.SlSortCmp.NoneTotal
import Derived.Deep.QuietTactic
import Derived.BigQuiet
import Derived.ScopeJumps
import Derived.DeepKeys3
import Derived.ChangeOld
import Derived.JoinedOf
import Derived.Test.YtpogmfngccolbaaGreatCNmX5
set_option maxRecDepth 100000
set_option maxHeartbeats 8000000
set_option linter.unusedVariables false
set_option linter.unusedSimpArgs false
set_option linter.unusedSectionVars false
set_option linter.unnecessarySimpa false
section
namespace Go.Proofs.YtpogmfngccolbaaGreat
open Go Hw _root_.Go.Proofs.Tryz
variable{D:DB}{L c hs k1 ks ls:List (List UInt8)}{W:World}{X:PD}{ds:List DCut}{f:List UInt8→Bool}{i k m:Nat}{n:List UInt8}{s:List (List UInt8)×List (List UInt8)}{x:DD}
theorem mid_u{i j:Nat}(h:i+j≤1000000):Value.int .u64 (IntKind.u64.wrap ((i:Int)+(j:Int)))=u64 (UInt64.ofNat (i+j)):=by
  rw[show(i:Int)+(j:Int)=((i+j:Nat):Int) by omega,cv_i64_u64,word_nat h]
theorem mid_i{n:Nat}(h:n≤1000000):Value.int .i64 (IntKind.i64.wrap ((Ar (UInt64.ofNat n) 1).toNat:Int))=i64 ((n/2:Nat):Int):=by
  have e:(Ar (UInt64.ofNat n) 1).toNat=n/2:=by rw[shr64_nat,ofNat_nat h]
  rw[cv_u64_i64 (by rw[e];omega),e]
theorem sort_at(hs:SortB ks)(hkm:k≤m)(hm:m<ks.length):Cp (ks.getD k []) (ks.getD m [])≤0:=by
  rcases Lfj hkm with h|rfl
  · rw[La2,La2,La5 hm,La5 (show k<ks.length by omega)]
    exact List.pairwise_iff_getElem.1 hs k m oM hm h
  ·rw[cmpB_self];exact Int.le_refl 0
theorem bs_lo(hs:SortB ks)(hkm:k≤m)(hm:m<ks.length)(h:Cp (ks.getD m []) n<0):Cp (ks.getD k []) n<0:=
  (cmpB_trans _ _ _ (sort_at hs hkm hm) (Int.le_of_lt h)).2 (.inr h)
theorem bs_hi(hs:SortB ks)(hkm:m≤k)(hk:k<ks.length)(h:¬Cp (ks.getD m []) n<0):0≤Cp (ks.getD k []) n:=by
  refine Int.not_lt.1 fun h2=>h ?_;exact(cmpB_trans _ _ _ (sort_at hs hkm hk) (Int.le_of_lt h2)).2 (.inr h2)
theorem bs_mem(hs:SortB ks)(hnd:ks.Nodup)(hlo:∀k,k<i→Cp (ks.getD k []) n<0)(hhi:∀k,i≤k→k<ks.length→0≤Cp (ks.getD k []) n):n∈ks↔i<ks.length∧Cp (ks.getD i []) n=0:=by
  constructor
  · intro h
    obtain⟨k,hk,e⟩:=Ldv h;have ek:ks.getD k []=n:=by rw[La2,La5 hk];exact e
    have hz:Cp (ks.getD k []) n=0:=(cmpB_zero _ _).2 ek;have hik:i≤k:=Nat.not_lt.1 fun h2=>by have:=hlo k h2;omega
    refine⟨by omega,?_⟩;have h1:=hhi i (Lac i) oM;have h2:=sort_at hs hik hk;rw[ek]at h2;omega
  · rintro⟨hi,h⟩
    rw[←(cmpB_zero _ _).1 h,La2,La5 hi];exact Lch hi
theorem bs_yes(hs:SortB ks)(hnd:ks.Nodup)(hlo:∀k,k<i→Cp (ks.getD k []) n<0)(hhi:∀k,i≤k→k<ks.length→0≤Cp (ks.getD k []) n)(hi:i<ks.length):decide (Cp (ks.getD i []) n=0)=decide (n∈ks):=
  decide_eq_decide.2 ((bs_mem hs hnd hlo hhi).trans ⟨fun h=>h.2,fun h=>⟨hi,h⟩⟩).symm
theorem bs_no(hs:SortB ks)(hnd:ks.Nodup)(hlo:∀k,k<i→Cp (ks.getD k []) n<0)(hhi:∀k,i≤k→k<ks.length→0≤Cp (ks.getD k []) n)(hi:¬i<ks.length):false=decide (n∈ks):=
  (decide_eq_false fun h=>hi ((bs_mem hs hnd hlo hhi).1 h).1).symm
theorem bsearch(s:Sl)(ks:List (List UInt8))(n:List UInt8)(h32:n.length=32)(hs:SortB ks)(hnd:ks.Nodup)(hbig:ks.length≤400000):Meets prog 94 [s.v,agg (Aa n), .func (.func 95) #[] #[]] [] (fun W=>RowsAt W s 32 ks) (fun v out=>(∃i:Int,v= .tuple #[i64 i, .bool (decide (n∈ks))])∧out=[]):=by
 intro W hW;have hlen:=hW.len;have hrow:=hW.row;refine Ac func94 J 49 ntmps94 J (G3 ?_);intro n4 hn4 hf4;refine G20 ?_;refine .loop (ι:=Nat×Nat) (fun r=>⟨[(0,s.v),(2, .func (.func 95) #[] #[]),(4,ptr n4 0),(8,i64 (s.n:Int)),(9,i64 (r.1:Int)),(10,i64 (r.2:Int))],[⟨n4,Aa n,34,(Aa n).length⟩]⟩) (fun r=>r.1≤r.2∧r.2≤s.n∧(∀k,k<r.1→Cp (ks.getD k []) n<0)∧(∀k,r.2≤k→k<ks.length→0≤Cp (ks.getD k []) n)) (fun r=>r.2-r.1) ((0,s.n)) ?_ ?_ ?_
 ·exact⟨Lar _,Lac _,fun k hk=>absurd hk (Le9 _),fun k h1 h2=>by omega⟩
 ·exact Aq wN (Ab rM Ak)
 rintro⟨i,j⟩ ⟨hij,hjn,hlo,hhi⟩;simp only at hij hjn hlo hhi ⊢;refine G8 ?_;refine .condP J (fun hc0=>?_) (fun hc0=>?_)
 ·
  have hij2:i<j:=by omega
  obtain⟨b,o,hbp,hbs⟩:=hW.see.at (by rw[Ay hrow];omega);refine G8 ?_;refine .conv J J J Y3.h Y172.h (mid_u oM) (.shr_u64 J J J J 1 J dE (.conv J J J Y172.h Y3.h (mid_i oM) (G4 ?_)))
  refine .draw (oP [0,1,2,3,104,105,306,7]) Ap zK (G3 ?_);refine .idxSlP 32 J J J hbp J Y30.h Sz34 ((i+j)/2) J oM (.loadEN (Aa (ks.getD ((i+j)/2) [])) J J J Y34.h J Sz34 sP (by rw[Aa,La0];exact Bo hrow oM) (B0 hrow hbs oM) ?_);refine .lA J J J Y34.h J Sz34 Z0 (by(simp[h32];done)) ?_;refine .cV J J J J Body95 (block_cmp (ks.getD ((i+j)/2) []) n (Bo hrow oM) h32) tV (G3 ?_);refine .condP J (fun hc1=>?_) (fun hc1=>?_)
  ·
   refine G7 ?_;exact⟨((i+j)/2+1,j),⟨by simp only;omega,hjn,fun k hk=>bs_lo hs (m:=(i+j)/2) (by simp only at hk;omega) oM hc1,hhi⟩,by simp only;omega,Aq wN (Ab rM Ak)⟩
  refine G6 ?_;exact⟨(i,(i+j)/2),⟨by simp only;omega,by simp only;omega,hlo,fun k h1 h2=>bs_hi hs (m:=(i+j)/2) h1 h2 hc1⟩,by simp only;omega,Aq wN (Ab rM Ak)⟩
 obtain rfl:i=j:=by omega
 refine G6 ?_;refine .draw (oP [0,1,2,3,4,5,6,7,8,109,110,311,12,13,14,15]) Ap zK (G3 ?_);refine two (fun r hr k=>Tr.lss J J J J hr k) (fun hs8_30=>?_) (fun hs8_30=>?_)
 ·
  have hs8_3:=of_decide_eq_true hs8_30;obtain⟨b,o,hbp,hbs⟩:=hW.see.at (by rw[Ay hrow];omega);refine G4 ?_;refine .idxSlP 32 J J J hbp J Y30.h Sz34 (i) J oM (.loadEN (Aa (ks.getD (i) [])) J J J Y34.h J Sz34 sP (by rw[Aa,La0];exact Bo hrow oM) (B0 hrow hbs oM) ?_);refine .lA J J J Y34.h J Sz34 Z0 (by(simp[h32];done)) ?_;refine .cV J J J J Body95 (block_cmp (ks.getD i []) n (Bo hrow oM) h32) tV (G6 ?_);refine G2 ?_;refine Az (out:=[]) (res_tmp2 J J J) Ak ?_;exact⟨⟨_,congrArg (fun z=>Value.tuple #[_, .bool z]) (bs_yes hs hnd hlo hhi oM)⟩,rfl⟩
 have hs8_3:=of_decide_eq_false hs8_30;skip;refine G14 ?_;refine G2 ?_;refine Az (out:=[]) (res_tmp2 J J J) Ak ?_;exact⟨⟨_,congrArg (fun z=>Value.tuple #[_, .bool z]) (bs_no hs hnd hlo hhi oM)⟩,rfl⟩
theorem apart_1(n:List UInt8)(h32:n.length=32)(q:Nat)(sb:Sl)(ks:List (List UInt8))(hs:SortB ks)(hnd:ks.Nodup)(hbig:ks.length≤400000):Mv 152 [agg (Aa n),ptr q 0] (fun W=>RowsAt W sb 32 ks∧W.cell? ⟨q,0,none⟩=some sb.v) (.bool (decide (n∈ks))):=by
 intro W hW;refine Ac func152 J 13 ntmps152 J (G3 ?_);intro n2 hn2 hf2;refine G5 ?_;refine .loadE J J J Y30.h J sP (hW.2) (.lA J J J Y34.h J Sz34 Z0 (by(simp[h32];done)) ?_);refine .call4 J J J J J Body94 (bsearch sb ks n h32 hs hnd hbig) (fun w h=>Cu h J hW.1) ?_;rintro v9 out9 ⟨⟨i9,rfl⟩,rfl⟩;refine G13 ?_;refine G2 ?_;refine Az (out:=[]) (Ah J J) Ak ?_;exact⟨rfl,rfl⟩
theorem index_apart(s:Sl)(ls:List (List UInt8))(q:Nat)(sb:Sl)(ks:List (List UInt8))(hs:SortB ks)(hnd:ks.Nodup)(hbig:ks.length≤400000):Mv 150 [s.v, .func (.func 152) #[] #[ptr q 0]] (fun W=>RowsAt W s 32 ls∧RowsAt W sb 32 ks∧W.cell? ⟨q,0,none⟩=some sb.v) (i64 (fstBad (fun n=>decide (n∈ks)) ls)):=by
 intro W hW;have hlen:=hW.1.len;have hrow:=hW.1.row;have hmax:=hW.1.max;simp only[maxLen]at hmax;have hcap:=hW.1.cap;refine Ac func150 J 19 ntmps150 J (G14 ?_);refine .loop (ι:=Nat) (fun k=>⟨[(0,s.v),(1, .func (.func 152) #[] #[ptr q 0]),(7,i64 (s.n:Int)),(8,i64 (k:Int))],[]⟩) (fun k=>k≤s.n∧∀j,j<k→(ls.map (fun n=>decide (n∈ks)))[j]? =some false) (fun k=>s.n-k) (0) ?_ ?_ ?_
 ·exact⟨by omega,fun j hj=>by omega⟩
 ·exact Ad wN wh0 nD
 rintro k ⟨hk,hg⟩;refine G6 ?_;refine .condP J (fun hc0=>?_) (fun hc0=>?_)
 ·
  have hk2:k<s.n:=by omega
  obtain⟨b,o,hbp,hbs⟩:=hW.1.see.at (by rw[Ay hrow];omega);have h32k:(ls.getD k []).length=32:=Bo hrow oM;have hd:ls[k]? =some (ls.getD k []):=by rw[La2,La5 (show k<ls.length by omega)];rfl
  refine G15 ?_;refine .idxSlP 32 J J J hbp J Y30.h Sz34 k oM oM (.loadEN (Aa (ls.getD k [])) J J J Y34.h J Sz34 sP (by rw[Aa,La0];exact h32k) (B0 hrow hbs oM) ?_);refine .callCV J J J J J Body152 (apart_1 (ls.getD k []) h32k q sb ks hs hnd hbig) (fun w h=>⟨Cu h J hW.2.1,h.keeps.cell sP hW.2.2⟩) (G2 ?_);refine .condP J (fun hc1=>?_) (fun hc1=>?_)
  ·
   refine G6 ?_;refine G7 ?_;refine⟨_,[],Ah J J,sP,sP,?_,rfl⟩;exact congrArg i64 (fstBad_at hg (by rw[Lap,hd];simpa using hc1)).symm
  refine G8 ?_;exact⟨k+1,⟨by omega,fun j hj=>by rcases Lca.1 hj with h|rfl;exact hg j h;rw[Lap,hd];simpa using hc1⟩,by omega,Ad wN wh0 nD⟩
 obtain rfl:k=s.n:=by omega
 refine G10 ?_;refine G2 ?_;refine⟨_,[],Ah J J,sP,sP,?_,rfl⟩;exact congrArg i64 (fstBad_none (by intro j hj;exact hg j (by rw[hlen]at hj;exact hj))).symm
theorem contains_apart(s:Sl)(ls:List (List UInt8))(q:Nat)(sb:Sl)(ks:List (List UInt8))(hs:SortB ks)(hnd:ks.Nodup)(hbig:ks.length≤400000):Mv 115 [s.v, .func (.func 152) #[] #[ptr q 0]] (fun W=>RowsAt W s 32 ls∧RowsAt W sb 32 ks∧W.cell? ⟨q,0,none⟩=some sb.v) (.bool (ls.any (fun n=>decide (n∈ks)))):=by
 intro W hW;refine Ac func115 J 9 ntmps115 J (G9 ?_);refine .cV J J J J Body150 (index_apart s ls q sb ks hs hnd hbig) (fun w h=>⟨Cu h J hW.1,Cu h J hW.2.1,h.keeps.cell sP hW.2.2⟩) (G4 ?_);refine G2 ?_;refine⟨_,[],Ah J J,sP,sP,?_,rfl⟩;exact congrArg Value.bool (fstBad_ge _ _)
theorem nil_rows(W:World):RowsAt W Sl.nil 32 []:=rows_none
noncomputable def parsOf(X:PD)(hs:List (List UInt8)):List (List UInt8):=(hs.map fun h=>Ca ((As X.P h).getD DB.zero)).flatten
noncomputable def apartB(X:PD)(hs:List (List UInt8)):Bool:= !(hs.any fun h=>rB X (-1) (parsOf X hs) h)
theorem parsOf_step(hk:k<hs.length)(hD:As X.P (hs.getD k [])=some D):parsOf X (hs.take (k+1))=parsOf X (hs.take k)++Ca D:=by
  have e:hs[k]=hs.getD k []:=by rw[La2,La5 hk];rfl
  unfold parsOf;rw[Laq hk,Lai,Lcx,e];simp only[Lam,Ldr,Lcp,Lfy,Las,hD,Lbk]
theorem parsOf_le(X:PD):∀hs:List (List UInt8),(∀h∈hs,(Ca ((As X.P h).getD DB.zero)).length≤17)→(parsOf X hs).length≤17*hs.length
  | [],_=>Lar _
  | h::hs,hh=>by
    have ih:=parsOf_le X hs (fun k hk=>hh k (Lah _ hk));have h1:=hh h La7;have e:parsOf X (h::hs)=Ca ((As X.P h).getD DB.zero)++parsOf X hs:=rfl;rw[e,La3,Lb1];omega
theorem parsOf_mem(h:n∈parsOf X hs):∃k∈hs,n∈Ca ((As X.P k).getD DB.zero):=by
  obtain⟨l,hl,hn⟩:=List.mem_flatten.1 h;obtain⟨k,hk,rfl⟩:=La9.1 hl;exact⟨k,hk,hn⟩
theorem apart_eq(h:∀n,n∈ks↔X.Reach (-1) (parsOf X hs) n):(!(hs.any fun n=>decide (n∈ks)))=apartB X hs:=by
  unfold apartB;congr 1;refine congrArg (fun f=>hs.any f) (funext fun n=>?_);unfold rB;exact decide_eq_decide.2 (h n)
theorem cut_none(x:DD)(hx:x.ok)(h16:∀p∈x.P,p.2.ls.length≤16)(p:Nat):Mv 86 [ptr p 0] (fun W=>Lies (x.blks p) W) (.bool false):=by
 intro W hW;refine Ac func86 J 12 ntmps86 J (G8 ?_);refine .call4 J J J J J Body88 (dag_closure x hx h16 p Sl.nil [] (Lar _)) (fun w h=>⟨Bm hW h,nil_rows w⟩) ?_;rintro v7 out7 (⟨⟨n,hn,_⟩,_⟩|⟨_,s7,ks,rfl,_⟩)
 ·cases hn
 refine G10 ?_;refine .nei J J J J (show(!decide _)=false from congrArg not (decide_eq_true (rfl))) (G3 ?_);refine G2 ?_;refine Az (out:=[]) (Ah J J) Ak ?_;exact⟨rfl,rfl⟩
theorem getD_mem2(h:k<L.length):L.getD k []∈L:=by
  rw[La2,La5 h];exact Lch h
theorem P32(hx:x.ok)(h:∃D,As x.pl.P n=some D):n.length=32:=by
  obtain⟨D,hD⟩:=h;obtain⟨p,hp,e⟩:=La9.1 (Cb (show As x.P n=some D from hD));rw[←(Prod.mk.inj e).1];exact(hx.ent p hp).1
theorem names_mem(hI:X.Inv)(n:List UInt8):n∈X.names↔∃D,As X.P n=some D:=by rw[hI.nn];exact key_some
theorem nd_len:∀ {l m:List (List UInt8)},l.Nodup→(∀n∈l,n∈m)→l.length≤m.length
  | [],m,_,_=>Lar _
  | a::l,m,h,hs=>by
    obtain⟨h1,h2⟩:=Lay.1 h;have ha:=hs a La7;have ih:=nd_len (l:=l) (m:=m.erase a) h2 (fun n hn=>(List.mem_erase_of_ne (fun e=>h1 (by rw[←e];exact hn))).2 (hs n (Lah _ hn)));have hl:=List.length_erase_of_mem ha;have hp:=List.length_pos_of_mem ha;rw[Lb1];omega
theorem reach_len(hI:X.Inv)(hnd:ks.Nodup)(hks:∀n,n∈ks↔X.Reach (-1) L n):ks.length≤X.names.length:=nd_len hnd fun n hn=>(names_mem hI n).2 (reach_P ((hks n).1 hn))
theorem parsOf_take(X:PD)(ls:List (List UInt8))(h17:∀n∈ls,(Ca ((As X.P n).getD DB.zero)).length≤17)(k:Nat):(parsOf X (ls.take k)).length≤17*ls.length:=by
  have h1:=parsOf_le X (ls.take k) (fun n hn=>h17 n (Lbp hn));have h2:(ls.take k).length≤ls.length:=by rw[Lag];exact Nat.min_le_right _ _
  omega
theorem parsOf_P(hI:X.Inv)(hP:∀n∈ls,∃D,As X.P n=some D)(h:n∈parsOf X ls):∃D,As X.P n=some D:=by
  obtain⟨k,hk,hn⟩:=parsOf_mem h;obtain⟨D,hD⟩:=hP k hk;rw[hD]at hn;exact(hI.par k D hD n hn).1
theorem parsOf_32(hI:x.pl.Inv)(hx:x.ok)(hP:∀n∈ls,∃D,As x.pl.P n=some D):∀n∈parsOf x.pl ls,n.length=32:=fun _ hn=>P32 hx (parsOf_P hI hP hn)
theorem hB_ok(hx:x.ok){q:Nat}(hl:Lies (x.blks q) W)(h:As x.pl.P n=some D):D.ok:=by
  obtain⟨p,hp,e⟩:=La9.1 (Cb (show As x.P n=some D from h));have:=((hx.ent p hp).2.1.2 W (hl.sub (x.mcb q))).dok;rw[←(Prod.mk.inj e).2];exact this
theorem cut_apart(x:DD)(hx:x.ok)(hI:x.pl.Inv)(p:Nat)(s:Sl)(ls:List (List UInt8))(hls:ls.length≤1000)(hP:∀n∈ls,∃D,As x.pl.P n=some D):Mv 93 [ptr p 0,s.v] (fun W=>Lies (x.blks p) W∧RowsAt W s 32 ls) (.bool (apartB x.pl ls)):=by
 intro W hW;have h32k:True:=trivial;have hck:∀q∈x.P,q.2.check=0:=hI.ck;have h16:∀q∈x.P,q.2.ls.length≤16:=fun q hq=>(ck_small (hck q hq)).1;have hlen:=hW.2.len;have hrow:=hW.2.row;have h17:∀n∈ls,(Ca ((As x.pl.P n).getD DB.zero)).length≤17:=fun n hn=>by obtain⟨D,hD⟩:=hP n hn;have h9:D.ls.length≤16:=h16 _ (Cb hD);have h8:=parL_len D;rw[hD];show(Ca D).length≤17;omega
 have hpl:=parsOf_le x.pl ls h17;refine Ac func93 J 39 ntmps93 J (G19 ?_);refine .loop (ι:=Nat×Sl×List Blk) (fun r=>⟨[(0,ptr p 0),(1,s.v),(5,r.2.1.v),(12,s.v),(13,i64 (s.n:Int)),(14,i64 (r.1:Int))],(r.2.2++[])⟩) (fun r=>r.1≤s.n∧Hw.Acc r.2.1 r.2.2 (Au (parsOf x.pl (ls.take r.1))) 34 (parsOf x.pl (ls.take r.1)).length 32) (fun r=>s.n-r.1) ((0,Sl.nil,[])) ?_ ?_ ?_
 ·exact⟨Lar _,Acc.none⟩
 ·exact Aq wN (Ag (by repeat(exact sg_end)) Ak)
 rintro⟨k,s5,bl⟩ ⟨hk,hac⟩;simp only at hk hac ⊢;have hkl:=parsOf_take x.pl ls h17 k;refine G6 ?_;refine .condP J (fun hc0=>?_) (fun hc0=>?_)
 ·
  have hk2:k<s.n:=by omega
  obtain⟨b,o,hbp,hbs⟩:=hW.2.see.at (by rw[Ay hrow];omega);have h32k:(ls.getD k []).length=32:=Bo hrow oM;have hPk:=hP _ (getD_mem2 (show k<ls.length by omega));refine G6 ?_;refine .idxSlP 32 J J J hbp J Y30.h Sz34 k J oM (.loadEN (Aa (ls.getD k [])) J J J Y34.h J Sz34 sP (by rw[Aa,La0];exact h32k) (B0 hrow hbs oM) ?_);refine .alloc (cs:=(Aa (List.replicate 32 0))) J Ci J ?_;intro n7 hn7 hf7;refine .sA J J J J zE Sz34 (by(rw[Aa,La0];assumption)) Z0 sP zU ?_;refine G5 ?_;refine .lA J J J Y34.h J Sz34 Z0 (by(rw[Aa,La0];assumption)) ?_;refine .call4 J J J J J Body114 (dag_get x hx hck p (ls.getD k []) h32k) (fun w h=>Bm hW.1 h) ?_;rintro v21 out21 (⟨h0,_⟩|⟨D,B,hD,hB,rfl,hbi⟩)
  ·exfalso;obtain⟨D,hD⟩:=hPk;rw[h0]at hD;cases hD
  have hD16:D.ls.length≤16:=h16 _ (Cb hD);have hp17:(Ca D).length≤17:=by have:=parL_len D;omega
  refine G3 ?_;refine .alloc (cs:=Block.zero.cells) J Block.zr J ?_;intro n8 hn8 hf8;refine .sA J J J J (Block.isCell (by exact hB.ok)) Sz50 (Block.length (by exact hB.ok)) Z0 (Block.length (by exact Block.zero_ok)) zU ?_;refine G4 ?_;have hdok:D.ok:=(hB_ok hx hW.1 hD);have hprow:=parL_row hdok;refine G1 ?_;refine .lA J J J Y50.h J Sz50 Z0 (Block.length (by exact hB.ok)) ?_;refine .call4 J J J J J Body116 (db_parA B D oM) (fun w h=>hbi w (Lies.of h (by repeat(first|exact A3|refine A9 ?_)))) ?_;rintro v26 out26 ⟨⟨p26,n26,c26⟩,rfl,hac26⟩;have hn26:n26=(Ca D).length:=hac26.num;refine .appendAcc (n:=(parsOf x.pl (ls.take k)).length) (z:=agg (Aa (List.replicate 32 0))) (by':=32) (Au (Ca D)) J J J J J Y30.h Y30.h Sz34 Ci (by unfold By;kernel_rfl) J hac sG (fun w h=>hac26.see (Lies.of h (by repeat(exact A3)))) (fun e=>hac26.nil e) (flatB_cell _) (by show(parsOf x.pl (ls.take k)).length+n26≤1000000;omega) (by show((parsOf x.pl (ls.take k)).length+n26)*32≤140737488355328;omega) (by rw[Ay hprow,←hn26]) ?_;intro s27 bl27 hac27;refine G9 ?_;refine⟨(k+1,s27,bl27),⟨by simp only;omega,?_⟩,by simp only;omega,Aq wN (Ag sG Ak)⟩;simp only;rw[parsOf_step oM hD,Cc,La3,←hn26];exact hac27
 have hke:k=ls.length:=by omega
 rw[hke,Ldx]at hac;refine G9 ?_;refine .call4 J J J J J Body88 (dag_closure x hx h16 p s5 (parsOf x.pl ls) (by have:=hac.num;omega)) (fun w h=>⟨Bm hW.1 h,acc_rows hac (Lies.of h (by repeat(exact A3))) (parsOf_32 hI hx hP) J oM⟩) ?_;rintro v32 out32 (⟨⟨n,hn,h0⟩,_⟩|⟨hall,s32,ks,rfl,hac32,hso,hnd,hks⟩)
 ·exfalso;obtain⟨D,hD⟩:=parsOf_P hI hP hn;rw[h0]at hD;cases hD
 have hk32:∀l∈ks,l.length=32:=fun l hl=>P32 hx (reach_P ((hks l).1 hl));have hkb:ks.length≤400000:=by have h9:=reach_len hI hnd hks;have h8:x.pl.names.length=x.names.length:=rfl;have h7:=hx.big;omega
 refine G3 ?_;refine .alloc (cs:=[.slice none 0 0]) J Zr30 J ?_;intro n10 hn10 hf10;refine .s1 J J J J J Sz30 Z0 sP (by rfl) zU ?_;refine G7 ?_;refine .cV J J J J Body115 (contains_apart s ls n10 s32 ks hso hnd hkb) (fun w h=>⟨Cu h J hW.2,acc_rows hac32 (Lies.of h (by repeat(first|exact A3|refine A9 ?_))) hk32 J oM,(own_blk h Z0).cell (o:=0) J⟩) ?_;refine G4 ?_;refine G2 ?_;refine Az (out:=[]) (Ah J J) Ak ?_;exact⟨congrArg Value.bool (apart_eq hks),rfl⟩
theorem res_cell_cell_tmp{C:Cx}{fn:Func}{s:St}{t t2 t3:Tmp}{T T2:TypeId}{td td2:TypeDesc}{n n2 b b2:Nat}{cs cs2:List Value}{BT BT2:TypeId}{m m2:Nat}{v3:Value}(hr:fn.results= #[.cell t T, .cell t2 T2, .tmp t3])(hv:Hw.look s.sl t=some (ptr b 0))(hv2:Hw.look s.sl t2=some (ptr b2 0))(hv3:Hw.look s.sl t3=some v3)
    (hu:C.P.underlying T=some td) (hp':Bw td=false) (hs:Sz C.P T n) (hb:(⟨b,cs,BT,m⟩:Blk)∈s.hp) (hn:cs.length=n) (hu2:C.P.underlying T2=some td2) (hp2:Bw td2=false) (hs2:Sz C.P T2 n2) (hb2:(⟨b2,cs2,BT2,m2⟩:Blk)∈s.hp) (hn2:cs2.length=n2):Res C fn s (.tuple #[agg cs,agg cs2,v3]):=by
  intro a w r;have h1:=r.rs.slots t _ hv;have h2:=r.rs.slots t2 _ hv2;have h3:=r.rs.slots t3 _ hv3;simp[results,hr,h1,h2,h3,asAddr,run_cellAll r.rh hu hp' hs hb hn,run_cellAll r.rh hu2 hp2 hs2 hb2 hn2]
def lastC(rs:List Cut):Cut:=rs.getLastD Cut.zero
def lastD(ds:List DCut):DCut:=ds.getLastD DCut.zero
def lastN(ds:List DCut):List UInt8:=if ds.length=0 then List.replicate 32 0 else cnameD (lastD ds)
def lastE(ds:List DCut):Int:=if ds.length=0 then 0 else(lastD ds).check
theorem last_of{α:Type}{l:List α}{a z:α}(h:l[k]? =some a)(hk:k+1=l.length):l.getLastD z=a:=by
  rw[List.getLastD_eq_getLast?,List.getLast?_eq_getElem?,show l.length-1=k by omega,h];rfl
theorem lastN_length(ds:List DCut):(lastN ds).length=32:=by
  unfold lastN;split
  ·rfl
  ·exact cnameD_length _
abbrev CutsIn(W:World)(s:Sl)(rs:List Cut)(ds:List DCut):Prop:=SeqIs Cut.cells 34 CutIs W s rs ds
theorem cuts_last{s:Sl}{rs:List Cut}(h:CutsIn W s rs ds):CutIs W (lastC rs) (lastD ds):=by
  have h1:=h.nr;have h2:=h.nd;by_cases h0:s.n=0
  · obtain rfl:rs=[]:=Laa oM
    obtain rfl:ds=[]:=Laa oM;exact cutz_is W
  · obtain⟨b,o,r,d,_,hr,hd,his,_⟩:=h.at (i:=s.n-1) dE oM
    rw[show lastC rs=r from last_of hr oM,show lastD ds=d from last_of hd oM];exact his
theorem last_small(h:lastE ds=0):(lastD ds).dHeads.length≤32:=by
  unfold lastE at h;split at h
  · obtain rfl:ds=[]:=Laa zA
    exact Lar _
  ·exact(lastD ds).small h
theorem cut_last(s:Sl)(rs:List Cut)(ds:List DCut):Mv 87 [s.v] (fun W=>CutsIn W s rs ds) (.tuple #[agg (lastC rs).cells,agg (Aa (lastN ds)),i64 (lastE ds)]):=by
 intro W hW;have hnd:=hW.nd;have hnr:=hW.nr;have hmax:=hW.max;simp only[maxLen]at hmax;refine Ac func87 J 22 ntmps87 J (G2 ?_);refine .alloc (cs:=Cut.zero.cells) J Cut.zr J ?_;intro n2 hn2 hf2;refine .alloc (cs:=(Aa (List.replicate 32 0))) J Ci J ?_;intro n3 hn3 hf3;refine G11 ?_;refine .condP J (fun hc0=>?_) (fun hc0=>?_)
 ·
  refine G2 ?_;refine .build (cs:=Cut.zero.cells) J J J (fun w=>by kernel_rfl) ?_;refine .build (cs:=Aa (List.replicate 32 0)) J J J (fun w=>by kernel_rfl) ?_;refine G1 ?_;refine .sA J J J J zE Sz34 sP Z0 sP zU ?_;refine G3 ?_;refine G3 ?_;refine⟨_,[],res_cell_cell_tmp J J J J Y57.h J Sz57 Z1 (by exact Cut.length (by exact Cut.zero_ok)) Y34.h J Sz34 Z0 sP,sP,sP,?_,rfl⟩;rw[show rs=[]from Laa oM,show ds=[]from Laa oM];rfl
 obtain⟨b,o,r,d,hsp,hr,hd,his,hlen,hsee⟩:=hW.at (i:=s.n-1) dE oM;refine G8 ?_;refine .idxSlP 34 J J J hsp J Y55.h Sz57 (s.n-1) oM oM (.loadEN r.cells J J J Y57.h J Sz57 sP hlen hsee (.alloc (cs:=Cut.zero.cells) J Cut.zr J ?_));intro n5 hn5 hf5;refine .sA J J J J (Cut.isCell (by exact his.ok)) Sz57 (Cut.length (by exact his.ok)) Z0 (Cut.length (by exact Cut.zero_ok)) zU ?_;refine G3 ?_;refine .withK (sp_k (sp_v (sp_v sp_n))) J (.draw (oP [0,1,3,302,304,405,406,7]) Ap zK (.kloadAll J J J Y57.h J Sz57 Z0 (Cut.length (by exact his.ok)) ?_));refine .kloadAll J J J Y57.h J Sz57 Z0 (Cut.length (by exact his.ok)) ?_;refine .kloadAll J J J Y57.h J Sz57 Z0 (Cut.length (by exact his.ok)) ?_;refine .cV J J J J Body56 (cut_name r d) (fun w h=>his.ext h J) (.cV J J J J Body57 (cut_check r d) (fun w h=>his.ext h J) (.sA J J J J (Cut.isCell (by exact his.ok)) Sz57 (Cut.length (by exact his.ok)) Z1 (Cut.length (by exact Cut.zero_ok)) zV ?_));refine .sA J J J J zE Sz34 (by(simp[cnameD_length];done)) Z0 sP zU ?_;refine G3 ?_;refine G2 ?_;refine⟨_,[],res_cell_cell_tmp J J J J Y57.h J Sz57 Z1 (by exact Cut.length (by exact his.ok)) Y34.h J Sz34 Z0 (by simp[cnameD_length]),sP,sP,?_,rfl⟩;rw[show lastC rs=r from last_of hr oM,lastN,lastE,if_neg oM,if_neg oM,show lastD ds=d from last_of hd oM]
def missB(X:PD)(L:List (List UInt8)):Bool:=L.any fun n=>(As X.P n).isNone
noncomputable def beneath(X:PD)(L:List (List UInt8)):List (List UInt8):=(X.P.map (·.1)).filter fun n=>rB X (-1) L n
theorem clos_len(hI:X.Inv)(hnd:ks.Nodup)(hks:∀n,n∈ks↔X.Reach (-1) L n):ks.length=(beneath X L).length:=by
  refine((List.perm_ext_iff_of_nodup hnd (hI.nd.filter _)).2 fun n=>?_).length_eq;rw[hks,Lc2,rB_iff];refine⟨fun h=>⟨?_,h⟩,fun h=>h.2⟩;obtain⟨D,hD⟩:=reach_P h;exact La9.2 ⟨(n,D),Cb hD,rfl⟩
theorem miss_yes(h:∃n∈L,As X.P n=none):missB X L=true:=by
  obtain⟨n,hn,h0⟩:=h;exact Ld5.2 ⟨n,hn,by rw[h0];rfl⟩
theorem miss_no(h:∀n∈L,(As X.P n).isSome=true):missB X L=false:=by
  unfold missB;rw[Lez];intro n hn;have:=h n hn;cases hm:As X.P n with
  |none=>rw[hm]at this;cases this
  |some D=>simp
theorem all_not(hks:∀n,n∈k1↔X.Reach (-1) c n)(hk:k<L.length)(h:L.getD k []∉k1):(L.all fun n=>rB X (-1) c n)=false:=by
  cases he:L.all fun n=>rB X (-1) c n with
  |false=>rfl
  |true=>exact absurd ((hks _).2 (rB_iff.1 (Lbu.1 he _ (getD_mem2 hk)))) h
theorem all_yes(hks:∀n,n∈k1↔X.Reach (-1) c n)(h:∀j,j<L.length→L.getD j []∈k1):(L.all fun n=>rB X (-1) c n)=true:=by
  rw[Lbu];intro n hn;obtain⟨j,hj,e⟩:=Ldv hn;have h1:=h j hj;rw[La2,La5 hj]at h1;rw[←e];exact rB_iff.2 ((hks _).1 h1)
noncomputable def PD.ext(X:PD)(p:DCut)(nm:List UInt8)(e:Int)(c:DCut):Int:=
  if e≠0 then 2 else if c.check≠0 then 2 else if(c.dHeight.toNat:Int)≠((p.dHeight+1).toNat:Int)then 4 else if c.dPrev≠nm then 4
  else if missB X p.dHeads=true then 6 else if missB X c.dHeads=true then 6
  else if(beneath X c.dHeads).length≤(beneath X p.dHeads).length then 4 else if apartB X c.dHeads=false then 4
  else if(p.dHeads.all fun h=>rB X (-1) c.dHeads h)=false then 4 else 0
theorem cut_extends(x:DD)(hx:x.ok)(hI:x.pl.Inv)(p:Nat)(s:Sl)(rs:List Cut)(ds:List DCut)(C:Cut)(D:DCut):Mv 38 [ptr p 0,s.v,agg C.cells] (fun W=>Lies (x.blks p) W∧CutsIn W s rs ds∧CutIs W C D) (i64 (x.pl.ext (lastD ds) (lastN ds) (lastE ds) D)):=by
 intro W hW;have h32k:True:=trivial;have hck:∀q∈x.P,q.2.check=0:=hI.ck;have h16:∀q∈x.P,q.2.ls.length≤16:=fun q hq=>(ck_small (hck q hq)).1;have hC:=hW.2.2;have hL:=cuts_last hW.2.1;have hln:=lastN_length ds;have hlC:=hC.fHeads.len;have hlL:=hL.fHeads.len;have eC:=hC.fHeight;have eL:=hL.fHeight;have eP:=hC.fPrev;refine Ac func38 J 91 ntmps38 J (G3 ?_);intro n5 hn5 hf5;refine G7 ?_;refine .cV J J J J Body86 (cut_none x hx h16 p) (fun w h=>Bm hW.1 h) (G2 ?_);refine .cond_f J J (G5 ?_);refine .cV J J J J Body87 (cut_last s rs ds) (fun w h=>hW.2.1.ext h J fun r d hd=>hd.ext h J) (G4 ?_);refine .alloc (cs:=Cut.zero.cells) J Cut.zr J ?_;intro n7 hn7 hf7;refine .alloc (cs:=(Aa (List.replicate 32 0))) J Ci J ?_;intro n8 hn8 hf8;refine .sA J J J J (Cut.isCell (by exact hL.ok)) Sz57 (Cut.length (by exact hL.ok)) Z1 (Cut.length (by exact Cut.zero_ok)) zV ?_;refine .sA J J J J zE Sz34 (by(simp[lastN_length];done)) Z0 sP zU ?_;refine G7 ?_;refine two (fun r hr k=>Tr.nei J J J J hr k) (fun hs4_10=>?_) (fun hs4_10=>?_)
 ·
  have hs4_1:=nd_t hs4_10;refine G7 ?_;refine .cond_t J J (G5 ?_);refine G3 ?_;refine⟨_,[],Ah J J,sP,sP,?_,rfl⟩;refine congrArg i64 (Eq.symm ?_);unfold PD.ext;rw[if_pos hs4_1]
 have hs4_1:=nd_f hs4_10;refine G1 ?_;refine .lA J J J Y57.h J Sz57 Z2 (Cut.length (by exact hC.ok)) ?_;refine .cV J J J J Body57 (cut_check C D) (fun w h=>hC.ext h J) (G4 ?_);refine .condNP J (fun hc1=>?_) (fun hc1=>?_)
 ·
  refine G5 ?_;refine G3 ?_;refine⟨_,[],Ah J J,sP,sP,?_,rfl⟩;refine congrArg i64 (Eq.symm ?_);unfold PD.ext;rw[if_neg (not_not_intro hs4_1),if_pos hc1]
 refine G6 ?_;refine .load1 J J J Y45.h J Z2 (by exact Cut.get_fHeight (by exact hC.ok)) ?_;refine G1 ?_;refine .load1 J J J Y45.h J Z1 (by exact Cut.get_fHeight (by exact hL.ok)) ?_;refine .add_u64 J J J (show Ae _ _=some (u64 1)from rfl) (two (fun r hr k=>Tr.nei J J J J hr k) (fun hs6_50=>?_) (fun hs6_50=>?_))
 ·
  have hs6_5:=nd_t hs6_50;refine G8 ?_;refine .cond_t J J (G5 ?_);refine G3 ?_;refine⟨_,[],Ah J J,sP,sP,?_,rfl⟩;refine congrArg i64 (Eq.symm ?_);unfold PD.ext;rw[if_neg (not_not_intro hs4_1),if_neg (not_not_intro hc1),if_pos (by rw[←eC,←eL];exact hs6_5)]
 have hs6_5:=nd_f hs6_50;refine G2 ?_;refine .lN (Aa _) J J J Y34.h J Sz34 Z2 (Cut.row_fPrev (by exact hC.ok)) (Cut.rl_fPrev (by exact hC.ok)) ?_;refine .lA J J J Y34.h J Sz34 Z0 (by(simp[lastN_length];done)) ?_;refine .neq_bytes J J J J eqGuardType34 Y34.h Y5.h Sz5 (by(simp[hC.ok.l_fPrev];done)) (by(simp[lastN_length];done)) J ?_;refine G3 ?_;refine .condNP J (fun hc2=>?_) (fun hc2=>?_)
 ·
  refine G5 ?_;refine G3 ?_;refine⟨_,[],Ah J J,sP,sP,?_,rfl⟩;refine congrArg i64 (Eq.symm ?_);unfold PD.ext;rw[if_neg (not_not_intro hs4_1),if_neg (not_not_intro hc1),if_neg (not_not_intro (by rw[←eC,←eL];exact hs6_5)),if_pos (by rw[←eP];exact hc2)]
 refine G6 ?_;refine .load1 J J J Y30.h J Z1 (by exact Cut.get_fHeads (by exact hL.ok)) ?_;refine .call4 J J J J J Body88 (dag_closure x hx h16 p (lastC rs).fHeads (lastD ds).dHeads (by have:=last_small hs4_1;omega)) (fun w h=>⟨Bm hW.1 h,Cu h J hL.fHeads⟩) ?_;rintro v47 out47 (⟨hm0,rfl,rfl⟩|⟨ha0,s47,k0,rfl,hac47,hso0,hnd0,hks0⟩)
 ·
  skip;refine G14 ?_;refine .cond_t J J (G6 ?_);refine G3 ?_;refine⟨_,[],Ah J J,sP,sP,?_,rfl⟩;show i64 6=_;refine congrArg i64 (Eq.symm ?_);unfold PD.ext;rw[if_neg (not_not_intro hs4_1),if_neg (not_not_intro hc1),if_neg (not_not_intro (by rw[←eC,←eL];exact hs6_5)),if_neg (not_not_intro (by rw[←eP];exact hc2)),if_pos (miss_yes hm0)]
 skip;refine G14 ?_;refine .cond_f J J (G6 ?_);refine .load1 J J J Y30.h J mR (by exact Cut.get_fHeads (by exact hC.ok)) ?_;refine .call4 J J J J J Body88 (dag_closure x hx h16 p C.fHeads D.dHeads (by have:=D.small hc1;omega)) (fun w h=>⟨Bm hW.1 h,Cu h J hC.fHeads⟩) ?_;rintro v57 out57 (⟨hm1,rfl,rfl⟩|⟨ha1,s57,k1,rfl,hac57,hso1,hnd1,hks1⟩)
 ·
  skip;refine G14 ?_;refine .cond_t J J (G6 ?_);refine G3 ?_;refine⟨_,[],Ah J J,sP,sP,?_,rfl⟩;show i64 6=_;refine congrArg i64 (Eq.symm ?_);unfold PD.ext;rw[if_neg (not_not_intro hs4_1),if_neg (not_not_intro hc1),if_neg (not_not_intro (by rw[←eC,←eL];exact hs6_5)),if_neg (not_not_intro (by rw[←eP];exact hc2)),if_neg (by rw[miss_no ha0];decide),if_pos (miss_yes hm1)]
 have hk132:∀l∈k1,l.length=32:=fun l hl=>P32 hx (reach_P ((hks1 l).1 hl));have hk1b:k1.length≤400000:=by have h9:=reach_len hI hnd1 hks1;have h8:x.pl.names.length=x.names.length:=rfl;have h7:=hx.big;omega
 have hcl0:=clos_len hI hnd0 hks0;have hcl1:=clos_len hI hnd1 hks1;have hn47:=hac47.num;have hn57:=hac57.num;have hsm:=D.small hc1;have hsL:=last_small hs4_1;refine G14 ?_;refine .cond_f J J (G9 ?_);refine two (fun r hr k=>Tr.leq J J J J hr k) (fun hs14_40=>?_) (fun hs14_40=>?_)
 ·
  have hs14_4:=of_decide_eq_true hs14_40;refine G9 ?_;refine .cond_t J J (G5 ?_);refine G3 ?_;refine⟨_,[],Ah J J,sP,sP,?_,rfl⟩;refine congrArg i64 (Eq.symm ?_);unfold PD.ext;rw[if_neg (not_not_intro hs4_1),if_neg (not_not_intro hc1),if_neg (not_not_intro (by rw[←eC,←eL];exact hs6_5)),if_neg (not_not_intro (by rw[←eP];exact hc2)),if_neg (by rw[miss_no ha0];decide),if_neg (by rw[miss_no ha1];decide),if_pos oM]
 have hs14_4:=of_decide_eq_false hs14_40;refine G3 ?_;refine .load1 J J J Y30.h J mR (by exact Cut.get_fHeads (by exact hC.ok)) ?_;refine .cV J J J J Body93 (cut_apart x hx hI p C.fHeads D.dHeads oM (fun n hn=>Lfd.1 (ha1 n hn))) (fun w h=>⟨Bm hW.1 h,Cu h J hC.fHeads⟩) (G4 ?_);refine .cond J (fun hc5=>?_) (fun hc5=>?_)
 ·
  refine G5 ?_;refine G3 ?_;refine⟨_,[],Ah J J,sP,sP,?_,rfl⟩;refine congrArg i64 (Eq.symm ?_);unfold PD.ext;rw[if_neg (not_not_intro hs4_1),if_neg (not_not_intro hc1),if_neg (not_not_intro (by rw[←eC,←eL];exact hs6_5)),if_neg (not_not_intro (by rw[←eP];exact hc2)),if_neg (by rw[miss_no ha0];decide),if_neg (by rw[miss_no ha1];decide),if_neg oM,if_pos (by simpa using hc5)]
 refine G6 ?_;refine .load1 J J J Y30.h J mR (by exact Cut.get_fHeads (by exact hL.ok)) ?_;refine G5 ?_;refine .loop (ι:=Nat) (fun k=>⟨[(11,s57.v),(76,(lastC rs).fHeads.v),(77,i64 ((lastC rs).fHeads.n:Int)),(78,i64 (k:Int))],(out57++[])⟩) (fun k=>k≤(lastC rs).fHeads.n∧∀j,j<k→(lastD ds).dHeads.getD j []∈k1) (fun k=>(lastC rs).fHeads.n-k) (0) ?_ ?_ ?_
 ·exact⟨Lar _,fun j hj=>absurd hj (Le9 _)⟩
 ·exact Aq wN (Ag sG Ak)
 rintro k ⟨hk,hg⟩;refine G6 ?_;refine .condP J (fun hc6=>?_) (fun hc6=>?_)
 ·
  have hk2:k<(lastC rs).fHeads.n:=by omega
  obtain⟨b,o,hbp,hbs⟩:=hL.fHeads.see.at (by rw[Ay hL.fHeads.row];omega);have h32k:((lastD ds).dHeads.getD k []).length=32:=Bo hL.fHeads.row oM;refine G6 ?_;refine .idxSlP 32 J J J hbp J Y30.h Sz34 k J oM (.loadEN (Aa ((lastD ds).dHeads.getD k [])) J J J Y34.h J Sz34 sP (by rw[Aa,La0];exact h32k) (B0 hL.fHeads.row hbs oM) ?_);refine .alloc (cs:=(Aa (List.replicate 32 0))) J Ci J ?_;intro n13 hn13 hf13;refine .sA J J J J zE Sz34 (by(rw[Aa,La0];assumption)) Z0 sP zU ?_;refine G5 ?_;refine .lA J J J Y34.h J Sz34 Z0 (by(rw[Aa,La0];assumption)) ?_;refine .call4 J J J J J Body94 (bsearch s57 k1 ((lastD ds).dHeads.getD k []) h32k hso1 hnd1 hk1b) (fun w h=>acc_rows hac57 (Lies.of h (by repeat(first|exact A3|refine A9 ?_))) hk132 J oM) ?_;rintro v85 out85 ⟨⟨i85,rfl⟩,rfl⟩;refine G13 ?_;refine .condNP J (fun hc7=>?_) (fun hc7=>?_)
  ·
   refine G5 ?_;refine G7 ?_;refine⟨_,[],Ah J J,sP,sP,?_,rfl⟩;refine congrArg i64 (Eq.symm ?_);unfold PD.ext;rw[if_neg (not_not_intro hs4_1),if_neg (not_not_intro hc1),if_neg (not_not_intro (by rw[←eC,←eL];exact hs6_5)),if_neg (not_not_intro (by rw[←eP];exact hc2)),if_neg (by rw[miss_no ha0];decide),if_neg (by rw[miss_no ha1];decide),if_neg oM,if_neg (by simpa using hc5),if_pos (all_not hks1 oM hc7)]
  refine G8 ?_;exact⟨k+1,⟨by omega,fun j hj=>by rcases Lca.1 hj with h|rfl;exact hg j h;simpa using hc7⟩,by omega,Aq wN (Ag sG Ak)⟩
 obtain rfl:k=(lastC rs).fHeads.n:=by omega
 refine G10 ?_;refine G2 ?_;refine⟨_,[],Ah J J,sP,sP,?_,rfl⟩;refine congrArg i64 (Eq.symm ?_);unfold PD.ext;rw[if_neg (not_not_intro hs4_1),if_neg (not_not_intro hc1),if_neg (not_not_intro (by rw[←eC,←eL];exact hs6_5)),if_neg (not_not_intro (by rw[←eP];exact hc2)),if_neg (by rw[miss_no ha0];decide),if_neg (by rw[miss_no ha1];decide),if_neg oM,if_neg (by simpa using hc5),if_neg (by rw[all_yes hks1 (fun j hj=>hg j oM)];decide)]
def RowsW(L:List (List UInt8))(v:Value)(out:List Blk):Prop:=∃s:Sl,v=s.v∧s.n=L.length∧∀W2,Lies out W2→RowsAt W2 s 32 L
theorem RowsW.loose(L:List (List UInt8)):Loose (RowsW L):=fun l hl=>by
  obtain⟨n,_,hn⟩:=fresh_is 0 l;refine⟨_,[⟨n,[undef],0,0⟩],⟨⟨none,L.length,0⟩,rfl,rfl,fun W2 h=>(lie_none h).elim⟩,?_⟩;rw[Lai,Lb0];refine⟨by simp,hl,fun i hi j hj=>?_⟩;obtain⟨b,hb,rfl⟩:=La9.1 hj;simp only[Lam,Ldr,La1]at hi;subst hi;exact Ne.symm (hn b hb)
theorem heads_mem(X:PD)(n:List UInt8):n∈X.heads↔n∈X.hds.map (·.1):=(isort_perm _).mem_iff
theorem heads_P(hI:X.Inv)(h:n∈X.heads):∃D,As X.P n=some D:=((hI.hd n).1 ((heads_mem X n).1 h)).1
theorem heads_sort(X:PD):SortB X.heads:=isort_sort _
theorem seesP_left{p:Option Addr}{a b:List Value}(h:SeesP W p (a++b)):SeesP W p a:=fun j v hj=>h j v (by rw[Law (Laf.1 hj).1];exact hj)
theorem rows_take{s:Sl}(h:SeesP W s.p (Au ls))(hr:∀l∈ls,l.length=32):SeesP W s.p (Au (ls.take m)):=by
  have e:Au ls=Au (ls.take m)++Au (ls.drop m):=by rw[←Cc,Lcd]
  rw[e]at h;exact seesP_left h
theorem reach_nil{a:Int}(h:X.Reach a [] n):False:=by
  induction h with
  |base h1 _ _=>cases h1
  |step _ _ _ _ _ ih=>exact ih
def PD.nxt0(X:PD):DCut×Int:=if X.heads.length=0 then(DCut.zero,6)else(⟨1,List.replicate 32 0,X.heads.take 32⟩,0)
def CutV(D:DCut)(e:Int)(v:Value)(out:List Blk):Prop:=∃C:Cut,C.ok∧v= .tuple #[agg C.cells,i64 e]∧∀W2,Lies out W2→CutIs W2 C D
theorem cut_last0:Mv 87 [.slice none 0 0] (fun _=>True) (.tuple #[agg Cut.zero.cells,agg (Aa (List.replicate 32 0)),i64 0]):=
  (cut_last Sl.nil [] []).imp (fun w h=>SeqIs.none) fun v out h=>h
theorem cut_choose0(x:DD)(hx:x.ok)(hh32:∀l∈x.pl.heads,l.length=32)(p:Nat):Meets prog 89 [ptr p 0, .slice none 0 0] [] (fun W=>Lies (x.blks p) W) (RowsW (x.pl.heads.take 32)):=by
 intro W hW;have hhl:x.pl.heads.length≤x.names.length:=by rw[heads_len];exact hx.hdsn
 have hbig:=hx.big;refine Ac func89 J 54 ntmps89 J (G2 ?_);refine .box1 J J J ?_;intro n2 hn2 hf2;refine G5 ?_;refine .load1 J J J Y26.h J Z0 J ?_;refine .call4 J J J J J Body147 (dag_heads x hx p) (fun w h=>Bm hW h) ?_;rintro v12 out12 ⟨s12,rfl,hac12⟩;have hn12:=hac12.num;obtain⟨m,hm⟩:∃m,m=min 32 x.pl.heads.length:=⟨_,rfl⟩;have htl:(x.pl.heads.take 32).length=m:=by rw[Lag,hm]
 have ht32:∀l∈x.pl.heads.take 32,l.length=32:=fun l hl=>hh32 l (Lbp hl);refine G17 ?_;refine .rounds 1 (SRounds.more (G2 ?_));refine .lss J J J J (decide_eq_false dE) (G3 ?_);refine .cond_f J J (G14 ?_);refine .min2 J J J J (show Value.int .i64 (if((32:Int)-((0:Nat):Int))<(s12.n:Int)then(32:Int)-((0:Nat):Int)else(s12.n:Int))=i64 (m:Int)from congrArg (Value.int .i64) (by split<;>omega)) ?_;refine .sliceHiA s12 m J J J J J (by have:=hac12.cap;omega) Y30.h Sz34 ?_;refine .appendAcc (n:=0) (z:=agg (Aa (List.replicate 32 0))) (by':=32) (Au (x.pl.heads.take 32)) J J J J J Y30.h Y30.h Sz34 Ci (by unfold By;kernel_rfl) J (Acc.none (E:=34)) Ak (fun w h=>rows_take (hac12.see (Lies.of h (by repeat(exact A3)))) hh32) (fun e=>by have h9:=hac12.nil e;show m=0;omega) (flatB_cell _) (by show 0+m≤1000000;omega) (by show(0+m)*32≤140737488355328;omega) (by rw[Ay ht32,htl]) ?_;intro s50 bl50 hac50;rw[Lad,Lb3,←htl]at hac50;refine G6 ?_;refine .callL (L:=bl50) J J J J J Body140 (sort_acc s50 bl50 (x.pl.heads.take 32) ht32 oM hac50) sG (lent_ok J) (fun w h=>Lies.of h (by repeat(exact A3))) ?_;rintro v52 out52 ⟨rfl,ks,hkp,hks,hac52⟩;obtain rfl:ks=x.pl.heads.take 32:=sort_unique hkp hks ((heads_sort _).sublist (List.take_sublist _ _));refine G8 ?_;refine G2 ?_;refine Az (out:=(out52++[])) (Ah J J) (Ag sG Ak) ?_;exact⟨s50,rfl,hac52.num,fun W2 hl=>acc_rows hac52 (by simpa using hl) ht32 rfl oM⟩
theorem nxt_none(hI:X.Inv)(hks:∀n,n∈k1↔X.Reach (-1) (X.heads.take 32) n)(h:k1.length=0):X.heads.length=0:=by
  obtain rfl:=Laa h;cases hh:X.heads with
  |nil=>rfl
  | cons a l=>
    exfalso;obtain⟨D,hD⟩:=heads_P hI (n:=a) (by rw[hh];exact La7);have:=(hks a).2 (.base (by rw[hh];exact La7) hD (by have:=hI.d0 a D hD;omega));cases this
theorem nxt_some(hks:∀n,n∈k1↔X.Reach (-1) (X.heads.take 32) n)(h:X.heads.length=0):k1.length=0:=by
  obtain e:=Laa h;rw[e]at hks;cases k1 with
  |nil=>rfl
  |cons a l=>exact(reach_nil ((hks a).1 La7)).elim
theorem cut_next0(x:DD)(hx:x.ok)(hI:x.pl.Inv)(p:Nat):Meets prog 32 [ptr p 0, .slice none 0 0] [] (fun W=>Lies (x.blks p) W) (CutV x.pl.nxt0.1 x.pl.nxt0.2):=by
 intro W hW;have hck:∀q∈x.P,q.2.check=0:=hI.ck;have h16:∀q∈x.P,q.2.ls.length≤16:=fun q hq=>(ck_small (hck q hq)).1;have hh32:∀l∈x.pl.heads,l.length=32:=fun l hl=>P32 hx (heads_P hI hl);have hml:(x.pl.heads.take 32).length≤32:=by rw[Lag];exact Nat.min_le_left _ _
 refine Ac func32 J 67 ntmps32 J (G2 ?_);refine .alloc (cs:=Cut.zero.cells) J Cut.zr J ?_;intro n4 hn4 hf4;refine G7 ?_;refine .cV J J J J Body86 (cut_none x hx h16 p) (fun w h=>Bm hW h) (G2 ?_);refine .cond_f J J (G5 ?_);refine .cV J J J J Body87 (cut_last0) tV (G4 ?_);refine .alloc (cs:=Cut.zero.cells) J Cut.zr J ?_;intro n6 hn6 hf6;refine .alloc (cs:=(Aa (List.replicate 32 0))) J Ci J ?_;intro n7 hn7 hf7;refine G1 ?_;refine .sA J J J J zE Sz34 sP Z0 sP zU ?_;refine G7 ?_;refine .nei J J J J (show(!decide _)=false from congrArg not (decide_eq_true (rfl))) (G3 ?_);refine .eqi J J J J (decide_eq_false dE) (G3 ?_);refine .cond_f J J (G7 ?_);refine .call4 J J J J J Body88 (dag_closure x hx h16 p Sl.nil [] (Lar _)) (fun w h=>⟨Bm hW h,nil_rows w⟩) ?_;rintro v33 out33 (⟨⟨n,hn,_⟩,_⟩|⟨_,s33,k0,rfl,hac33,hso0,hnd0,hks0⟩)
 ·cases hn
 obtain rfl:k0=[]:=List.eq_nil_iff_forall_not_mem.2 fun n hn=>reach_nil ((hks0 n).1 hn);have hn33:s33.n=0:=hac33.num;refine G11 ?_;refine .nei J J J J (show(!decide _)=false from congrArg not (decide_eq_true (rfl))) (G2 ?_);refine .cond_f J J (G3 ?_);refine .draw (oP [0,101,2,103,4,5,106,307,8,209,410]) Ap zK (G2 ?_);refine .add_u64 J J J (show Ae _ _=some (u64 1)from rfl) (.lA J J J Y34.h J Sz34 mR sP ?_);refine G3 ?_;refine .call J J J J Body89 (cut_choose0 x hx hh32 p) (RowsW.loose _) (fun w h=>Bm hW h) ?_;rintro v47 out47 ⟨s47,rfl,hn47,hrw⟩;have ok47:({ Cut.zero with fHeight:=Cut.zero.fHeight+1,fHeads:=s47 }:Cut).ok:=⟨rfl⟩;refine .build (cs:=({ Cut.zero with fHeight:=Cut.zero.fHeight+1,fHeads:=s47 }:Cut).cells) J J J (fun w=>by kernel_rfl) ?_;refine .alloc (cs:=Cut.zero.cells) J Cut.zr J ?_;intro n10 hn10 hf10;refine .sA J J J J (Cut.isCell (by exact ok47)) Sz57 (Cut.length (by exact ok47)) Z0 (Cut.length (by exact Cut.zero_ok)) zU ?_;refine G6 ?_;refine .load1 J J J Y30.h J Z0 (by exact Cut.get_fHeads (by exact ok47)) ?_;refine .call4 J J J J J Body88 (dag_closure x hx h16 p s47 (x.pl.heads.take 32) oM) (fun w h=>⟨Bm hW h,hrw w (Lies.of h (by repeat(first|exact A3|refine A9 ?_)))⟩) ?_;rintro v53 out53 (⟨⟨n,hn,h0⟩,_⟩|⟨_,s53,k1,rfl,hac53,hso1,hnd1,hks1⟩)
 ·exfalso;obtain⟨D,hD⟩:=heads_P hI (Lbp hn);rw[h0]at hD;cases hD
 have hn53:=hac53.num;refine G11 ?_;refine .nei J J J J (show(!decide _)=false from congrArg not (decide_eq_true (rfl))) (G9 ?_);refine .condP J (fun hc3=>?_) (fun hc3=>?_)
 ·
  refine G2 ?_;refine .build (cs:=Cut.zero.cells) J J J (fun w=>by kernel_rfl) ?_;refine G4 ?_;refine G3 ?_;refine Az (out:=[]) (Bd J J J Y57.h J Sz57 mR (by exact Cut.length (by exact Cut.zero_ok))) Ak ?_;have h0:x.pl.heads.length=0:=nxt_none hI hks1 oM;rw[PD.nxt0,if_pos h0];exact⟨Cut.zero,Cut.zero_ok,rfl,fun W2 _=>cutz_is W2⟩
 refine G4 ?_;refine .lA J J J Y57.h J Sz57 mR (Cut.length (by exact ok47)) ?_;refine .sA J J J J (Cut.isCell (by exact ok47)) Sz57 (Cut.length (by exact ok47)) mR (Cut.length (by exact Cut.zero_ok)) uU ?_;refine G3 ?_;refine G2 ?_;refine Az (out:=(out47++[])) (Bd J J J Y57.h J Sz57 mR (by exact Cut.length (by exact ok47))) (Ag sG Ak) ?_;have h0:¬x.pl.heads.length=0:=fun e=>hc3 (by have h9:=nxt_some hks1 e;omega);rw[PD.nxt0,if_neg h0];exact⟨({ Cut.zero with fHeight:=Cut.zero.fHeight+1,fHeads:=s47 }:Cut),ok47,rfl,fun W2 hl=>⟨ok47,rfl,rfl,hrw W2 (by simpa using hl)⟩⟩
noncomputable def ldB(X:PD)(h g:List UInt8):Bool:=rB X (-1) [g] h
theorem ldB_eq(hI:X.Inv){g h:List UInt8}{r:Bool}(hr:r=true↔LeadsP X g h):r=ldB X h g:=Lew.2 (hr.trans ((leads_iff hI).trans rB_iff.symm))
theorem take_drop_flat(L:List (List UInt8))(i:Nat):Au L=Au (L.take i)++Au (L.drop i):=by rw[←Cc,Lcd]
theorem erase_flat(L:List (List UInt8))(i:Nat):Au (L.take i)++Au (L.drop (i+1))=Au (L.eraseIdx i):=by rw[←Cc,Ld9]
theorem flat_take_len(h32:∀l∈L,l.length=32)(hi:i≤L.length):(Au (L.take i)).length=i*32:=by rw[Ay (fun l hl=>h32 l (Lbp hl)),Lag,Lc6 hi]
theorem flat_drop_len(h32:∀l∈L,l.length=32):(Au (L.drop i)).length=(L.length-i)*32:=by rw[Ay (fun l hl=>h32 l (List.mem_of_mem_drop hl)),Lc5]
theorem lead_1(g:List UInt8)(hg:g.length=32)(x:DD)(hx:x.ok)(hI:x.pl.Inv)(h16:∀p∈x.P,p.2.ls.length≤16)(p qd qh:Nat)(h:List UInt8)(hh:h.length=32):Mv 148 [agg (Aa g),ptr qd 0,ptr qh 0] (fun W=>Lies (x.blks p) W∧W.cell? ⟨qd,0,none⟩=some (ptr p 0)∧Sees W qh 0 (Aa h)) (.bool (ldB x.pl h g)):=by
 intro W hW;refine Ac func148 J 9 ntmps148 J (G3 ?_);intro n3 hn3 hf3;refine G5 ?_;refine .loadE J J J Y26.h J sP (hW.2.1) (.lA J J J Y34.h J Sz34 Z0 (by(simp[hg];done)) ?_);refine .loadEN (Aa h) J J J Y34.h J Sz34 sP (by rw[Aa,La0];exact hh) (by have h9:=hW.2.2;intro j v hj;have:=h9 j v hj;simpa using this) ?_;refine .call4 J J J J J Body149 (dag_leads x hx h16 p g h hg hh) (fun w hh2=>Bm hW.1 hh2) ?_;rintro v8 out8 ⟨r,rfl,rfl,hr⟩;refine G3 ?_;refine G2 ?_;refine Az (out:=[]) (Ah J J) Ak ?_;exact⟨congrArg Value.bool (ldB_eq hI hr),rfl⟩
theorem index_lead(s:Sl)(ls:List (List UInt8))(x:DD)(hx:x.ok)(hI:x.pl.Inv)(h16:∀p∈x.P,p.2.ls.length≤16)(p qd qh:Nat)(h:List UInt8)(hh:h.length=32):Mv 150 [s.v, .func (.func 148) #[] #[ptr qd 0,ptr qh 0]] (fun W=>RowsAt W s 32 ls∧Lies (x.blks p) W∧W.cell? ⟨qd,0,none⟩=some (ptr p 0)∧Sees W qh 0 (Aa h)) (i64 (fstBad (ldB x.pl h) ls)):=by
 intro W hW;have hlen:=hW.1.len;have hrow:=hW.1.row;have hmax:=hW.1.max;simp only[maxLen]at hmax;have hcap:=hW.1.cap;refine Ac func150 J 19 ntmps150 J (G14 ?_);refine .loop (ι:=Nat) (fun k=>⟨[(0,s.v),(1, .func (.func 148) #[] #[ptr qd 0,ptr qh 0]),(7,i64 (s.n:Int)),(8,i64 (k:Int))],[]⟩) (fun k=>k≤s.n∧∀j,j<k→(ls.map (ldB x.pl h))[j]? =some false) (fun k=>s.n-k) (0) ?_ ?_ ?_
 ·exact⟨by omega,fun j hj=>by omega⟩
 ·exact Ad wN wh0 nD
 rintro k ⟨hk,hg⟩;refine G6 ?_;refine .condP J (fun hc0=>?_) (fun hc0=>?_)
 ·
  have hk2:k<s.n:=by omega
  obtain⟨b,o,hbp,hbs⟩:=hW.1.see.at (by rw[Ay hrow];omega);have h32k:(ls.getD k []).length=32:=Bo hrow oM;have hd:ls[k]? =some (ls.getD k []):=by rw[La2,La5 (show k<ls.length by omega)];rfl
  refine G15 ?_;refine .idxSlP 32 J J J hbp J Y30.h Sz34 k oM oM (.loadEN (Aa (ls.getD k [])) J J J Y34.h J Sz34 sP (by rw[Aa,La0];exact h32k) (B0 hrow hbs oM) ?_);refine .callCV J J J J J Body148 (lead_1 (ls.getD k []) h32k x hx hI h16 p qd qh h hh) (fun w hh2=>⟨Bm hW.2.1 hh2,hh2.keeps.cell sP hW.2.2.1,sees_ext hh2 sP hW.2.2.2⟩) (G2 ?_);refine .cond J (fun hc1=>?_) (fun hc1=>?_)
  ·
   refine G6 ?_;refine G7 ?_;refine⟨_,[],Ah J J,sP,sP,?_,rfl⟩;exact congrArg i64 (fstBad_at hg (by rw[Lap,hd];simpa using hc1)).symm
  refine G8 ?_;exact⟨k+1,⟨by omega,fun j hj=>by rcases Lca.1 hj with h|rfl;exact hg j h;rw[Lap,hd];simpa using hc1⟩,by omega,Ad wN wh0 nD⟩
 obtain rfl:k=s.n:=by omega
 refine G10 ?_;refine G2 ?_;refine⟨_,[],Ah J J,sP,sP,?_,rfl⟩;exact congrArg i64 (fstBad_none (by intro j hj;exact hg j (by rw[hlen]at hj;exact hj))).symm
theorem contains_lead(s:Sl)(ls:List (List UInt8))(x:DD)(hx:x.ok)(hI:x.pl.Inv)(h16:∀p∈x.P,p.2.ls.length≤16)(p qd qh:Nat)(h:List UInt8)(hh:h.length=32):Mv 115 [s.v, .func (.func 148) #[] #[ptr qd 0,ptr qh 0]] (fun W=>RowsAt W s 32 ls∧Lies (x.blks p) W∧W.cell? ⟨qd,0,none⟩=some (ptr p 0)∧Sees W qh 0 (Aa h)) (.bool (ls.any (ldB x.pl h))):=by
 intro W hW;refine Ac func115 J 9 ntmps115 J (G9 ?_);refine .cV J J J J Body150 (index_lead s ls x hx hI h16 p qd qh h hh) (fun w hh2=>⟨Cu hh2 J hW.1,Bm hW.2.1 hh2,hh2.keeps.cell sP hW.2.2.1,sees_ext hh2 sP hW.2.2.2⟩) (G4 ?_);refine G2 ?_;refine⟨_,[],Ah J J,sP,sP,?_,rfl⟩;exact congrArg Value.bool (fstBad_ge _ _)
theorem del_one(q n c:Nat)(L:List (List UInt8))(h32:∀l∈L,l.length=32)(i:Nat)(hi:i<n)(hn:L.length=n)(hnc:n≤c)(hbig:n≤1000000):Meets prog 151 [.slice (some ⟨q,0,none⟩) n c,i64 (i:Int),i64 ((i:Int)+1)] [q] (fun W=>Lent [⟨q,Au (L.take i)++Au (L.drop i),34,c*32⟩] W) (fun v out=>v= .slice (some ⟨q,0,none⟩) (n-1) c∧out=[⟨q,Au (L.eraseIdx i),34,c*32⟩]):=by
 intro W hW;have hl1:(Au (L.take i)).length=i*32:=flat_take_len h32 oM;have hl2:(Au (L.drop (i+1))).length=(n-(i+1))*32:=by rw[←hn];exact flat_drop_len h32
 have he1:i+(n-(i+1))=n-1:=by omega
 refine calls_of (hp0:=[⟨q,Au (L.take i)++Au (L.drop i),34,c*32⟩]) func151 J 33 ntmps151 J hW.rep (G12 ?_);refine .slice3 i (i+1) n J J J J J J J J J oM oM hnc Y30.h Sz34 (G7 ?_);refine .eqi J J J J (decide_eq_false oM) (G2 ?_);refine .cond_f J J (G10 ?_);refine .draw (oP [0,1,2,3,4,5,406,7]) Ap zK (G2 ?_);refine .sliceHiA ⟨some ⟨q,0,none⟩,n,c⟩ i J J J J J (by show i≤c;omega) Y30.h Sz34 ?_;dsimp only[Sl.v];refine G2 ?_;refine .sliceLoN (i+1) J J J J J oM hnc Y30.h Sz34 (.appendIn (size:=32) (olds:=Au (L.take i)) (r:=Au (L.drop i)) (Au (L.drop (i+1))) J J J J J Y30.h Y30.h Sz34 (fun w hh=>SeesP.of (sees_rows_drop h32 hn hnc (by have h9:=Am (cs:=Au (L.take i)++Au (L.drop i)) hh Z0;rw[←take_drop_flat]at h9;exact h9))) (fun e=>by cases e) (flatB_cell _) rM J hl1 oM hl2 ?_);rw[he1];refine G9 ?_;refine .sliceLoHiN (n-1) n J J J J J J J oM hnc Y30.h Sz34 ?_;rw[if_neg (show ¬c=n-1 by omega)];refine .clearB (size:=32) (z:=agg (Aa (List.replicate 32 0))) J J J Y30.h Ci J dE rM (by rw[La3,hl1,hl2];omega) oM ?_;refine G8 ?_;refine G2 ?_;refine Az (out:=(⟨q,Au (L.take i)++Au (L.drop (i+1)),34,c*32⟩::[])) (Ah J J) (Ab rM Ak) ?_;exact⟨rfl,by rw[erase_flat]⟩
theorem del_digs(q n c:Nat)(L:List (List UInt8))(h32:∀l∈L,l.length=32)(i:Nat)(hi:i<n)(hn:L.length=n)(hnc:n≤c)(hbig:n≤1000000):Meets prog 151 [.slice (some ⟨q,0,none⟩) n c,i64 (i:Int),i64 ((i:Int)+1)] [q] (fun W=>Lent [⟨q,Au L,34,c*32⟩] W) (fun v out=>v= .slice (some ⟨q,0,none⟩) (n-1) c∧out=[⟨q,Au (L.eraseIdx i),34,c*32⟩]):=by
  have h:=del_one q n c L h32 i hi hn hnc hbig;rw[←take_drop_flat]at h;exact h
def chs1(f:List UInt8→Bool)(s:List (List UInt8)×List (List UInt8)):List (List UInt8)×List (List UInt8):=
  if s.1.any f=true then s else if s.2.any f=true then(s.1++[s.2.getD (s.2.findIdx f) []],s.2.eraseIdx (s.2.findIdx f))else s
noncomputable def PD.chsF(X:PD)(before:List (List UInt8)):List (List UInt8)×List (List UInt8):=before.foldl (fun s h=>chs1 (ldB X h) s) ([],X.heads)
noncomputable def PD.choose(X:PD)(before:List (List UInt8)):List (List UInt8):=isort ((X.chsF before).1++(X.chsF before).2.take (32-(X.chsF before).1.length))
theorem chsF_step(X:PD)(hk:k<ls.length):X.chsF (ls.take (k+1))=chs1 (ldB X (ls.getD k [])) (X.chsF (ls.take k)):=by
  unfold PD.chsF;have e:ls.getD k []=ls[k]:=by rw[La2,La5 hk];rfl
  rw[Laq hk,Ldt,e];rfl
theorem chs1_any(h:s.1.any f=true):chs1 f s=s:=if_pos h
theorem chs1_no(h:¬s.2.any f=true):chs1 f s=s:=by unfold chs1;rw[if_neg h,ite_self]
theorem chs1_yes(h:¬s.1.any f=true)(h2:s.2.any f=true):chs1 f s=(s.1++[s.2.getD (s.2.findIdx f) []],s.2.eraseIdx (s.2.findIdx f)):=by unfold chs1;rw[if_neg h,if_pos h2]
theorem idx_lt{l:List (List UInt8)}(h:l.any f=true):l.findIdx f<l.length:=by
  obtain⟨x,hx,hf⟩:=Ld5.1 h;exact List.findIdx_lt_length_of_exists ⟨x,hx,hf⟩
theorem chs_inv(X:PD)(ls:List (List UInt8)):(∀n∈(X.chsF ls).1,n∈X.heads)∧(∀n∈(X.chsF ls).2,n∈X.heads)∧(X.chsF ls).1.length≤ls.length∧(X.chsF ls).2.length≤X.heads.length:=by
  have key:∀(l:List (List UInt8)) (s:List (List UInt8)×List (List UInt8)) (k:Nat),(∀n∈s.1,n∈X.heads)→(∀n∈s.2,n∈X.heads)→s.1.length≤k→s.2.length≤X.heads.length→
      (∀n∈(l.foldl (fun s h=>chs1 (ldB X h) s) s).1,n∈X.heads)∧(∀n∈(l.foldl (fun s h=>chs1 (ldB X h) s) s).2,n∈X.heads)∧(l.foldl (fun s h=>chs1 (ldB X h) s) s).1.length≤k+l.length∧(l.foldl (fun s h=>chs1 (ldB X h) s) s).2.length≤X.heads.length:=by
    intro l
    induction l with
    |nil=>intro s k h1 h2 h3 h4;exact⟨h1,h2,h3,h4⟩
    | cons a l ih=>
      intro s k h1 h2 h3 h4;rw[Ld2,Lb1,show k+(l.length+1)=(k+1)+l.length by omega];by_cases e1:s.1.any (ldB X a)=true
      ·rw[chs1_any e1];exact ih s (k+1) h1 h2 oM h4
      · by_cases e2:s.2.any (ldB X a)=true
        · rw[chs1_yes e1 e2]
          have hi:=idx_lt e2;refine ih _ (k+1) (fun n hn=>?_) (fun n hn=>h2 n (List.mem_of_mem_eraseIdx hn)) (by simp only[La3,Lb1,Lev];omega) (by simp only;rw[Le6];split<;>omega);rcases Lae.1 hn with h|h
          ·exact h1 n h
          ·rw[La1.1 h];exact h2 _ (getD_mem2 hi)
        ·rw[chs1_no e2];exact ih s (k+1) h1 h2 oM h4
  have h:=key ls ([],X.heads) 0 (fun n hn=>by cases hn) (fun n hn=>hn) (Lac 0) (Lac _);rw[Lb3]at h;exact h
theorem choose_mem(h:n∈X.choose ls):n∈X.heads:=by
  have h1:=(isort_perm _).mem_iff.1 h;obtain⟨a1,a2,_⟩:=chs_inv X ls;rcases Lae.1 h1 with h2|h2
  ·exact a1 n h2
  ·exact a2 n (Lbp h2)
theorem choose_len(h:ls.length≤32):(X.choose ls).length≤32:=by
  unfold PD.choose;obtain⟨_,_,a3,_⟩:=chs_inv X ls;rw[(isort_perm _).length_eq,La3,Lag];omega
theorem flatB_one(l:List UInt8):Au [l]=Aa l:=by simp[Au]
theorem cut_choose(x:DD)(hx:x.ok)(hI:x.pl.Inv)(p:Nat)(s:Sl)(ls:List (List UInt8))(hls:ls.length≤32):Meets prog 89 [ptr p 0,s.v] [] (fun W=>Lies (x.blks p) W∧RowsAt W s 32 ls) (RowsW (x.pl.choose ls)):=by
 intro W hW;have h32k:True:=trivial;have hck:∀q∈x.P,q.2.check=0:=hI.ck;have h16:∀q∈x.P,q.2.ls.length≤16:=fun q hq=>(ck_small (hck q hq)).1;have hh32:∀l∈x.pl.heads,l.length=32:=fun l hl=>P32 hx (heads_P hI hl);have hhl:x.pl.heads.length≤x.names.length:=by rw[heads_len];exact hx.hdsn
 have hbig:=hx.big;have hlen:=hW.2.len;have hrow:=hW.2.row;refine Ac func89 J 54 ntmps89 J (G2 ?_);refine .box1 J J J ?_;intro n2 hn2 hf2;refine G6 ?_;refine .call4 J J J J J Body147 (dag_heads x hx p) (fun w h=>Bm hW.1 h) ?_;rintro v12 out12 ⟨s12,rfl,hac12⟩;have hn12:=hac12.num;refine G17 ?_;refine .loop (ι:=Nat×Sl×List Blk×Sl×List Blk) (fun r=>⟨[(2,ptr n2 0),(4, .slice none 0 0),(5,r.2.2.2.1.v),(6,r.2.1.v),(13,s.v),(14,i64 (s.n:Int)),(15,i64 (r.1:Int))],(r.2.2.1++(r.2.2.2.2++(⟨n2,[ptr p 0],26,1⟩::[])))⟩) (fun r=>r.1≤s.n∧Hw.Acc r.2.1 r.2.2.1 (Au (x.pl.chsF (ls.take r.1)).1) 34 (x.pl.chsF (ls.take r.1)).1.length 32∧Hw.Acc r.2.2.2.1 r.2.2.2.2 (Au (x.pl.chsF (ls.take r.1)).2) 34 (x.pl.chsF (ls.take r.1)).2.length 32) (fun r=>s.n-r.1) ((0,Sl.nil,[],s12,out12)) ?_ ?_ ?_
 ·exact⟨Lar _,Acc.none,hac12⟩
 ·exact Aq wN (Ag sG (Ag sG (Ab rM Ak)))
 rintro⟨k,sl,bl,sh,bh⟩ ⟨hk,hal,hah⟩;simp only at hk hal hah ⊢;have hci:=chs_inv x.pl (ls.take k);have htk:(ls.take k).length≤k:=by rw[Lag];exact Nat.min_le_left _ _
 obtain⟨S,hS⟩:∃S,x.pl.chsF (ls.take k)=S:=⟨_,rfl⟩;rw[hS]at hal hah hci;obtain⟨hc1a,hc2a,hc3a,hc4a⟩:=hci;have r1:∀l∈S.1,l.length=32:=fun l hl=>hh32 l (hc1a l hl);have r2:∀l∈S.2,l.length=32:=fun l hl=>hh32 l (hc2a l hl);have hnl:=hal.num;have hnh:=hah.num;refine G6 ?_;refine .condP J (fun hc0=>?_) (fun hc0=>?_)
 ·
  have hk2:k<s.n:=by omega
  obtain⟨b,o,hbp,hbs⟩:=hW.2.see.at (by rw[Ay hrow];omega);have h32k:(ls.getD k []).length=32:=Bo hrow oM;have hst:=chsF_step x.pl (ls:=ls) (k:=k) oM;rw[hS]at hst;refine G6 ?_;refine .idxSlP 32 J J J hbp J Y30.h Sz34 k J oM (.loadEN (Aa (ls.getD k [])) J J J Y34.h J Sz34 sP (by rw[Aa,La0];exact h32k) (B0 hrow hbs oM) ?_);refine .alloc (cs:=(Aa (List.replicate 32 0))) J Ci J ?_;intro n8 hn8 hf8;refine .sA J J J J zE Sz34 (by(rw[Aa,La0];assumption)) Z0 sP zU ?_;refine G13 ?_;refine .cV J J J J Body115 (contains_lead sl S.1 x hx hI h16 p n2 n8 (ls.getD k []) h32k) (fun w hh2=>⟨acc_rows hal (Lies.of hh2 (by repeat(first|exact A3|refine A9 ?_))) r1 J oM,Bm hW.1 hh2,(own_blk (B:=⟨n2,[ptr p 0],26,1⟩) hh2 mR).cell (o:=0) J,Am hh2 Z0⟩) ?_;refine G2 ?_;refine .cond J (fun hc1=>?_) (fun hc1=>?_)
  ·
   refine G9 ?_;refine⟨(k+1,sl,bl,sh,bh),⟨by simp only;omega,?_,?_⟩,by simp only;omega,Aq wN (Ag sG (Ag sG (Ab rM Ak)))⟩
   ·simp only;rw[hst,chs1_any hc1];exact hal
   ·simp only;rw[hst,chs1_any hc1];exact hah
  have hc1n:¬S.1.any (ldB x.pl (ls.getD k []))=true:=by rw[hc1];decide
  refine G6 ?_;refine .cV J J J J Body150 (index_lead sh S.2 x hx hI h16 p n2 n8 (ls.getD k []) h32k) (fun w hh2=>⟨acc_rows hah (Lies.of hh2 (by repeat(first|exact A3|refine A9 ?_|refine Cr ?_))) r2 J oM,Bm hW.1 hh2,(own_blk (B:=⟨n2,[ptr p 0],26,1⟩) hh2 mR).cell (o:=0) J,Am hh2 Z0⟩) ?_;refine G9 ?_;refine .condP J (fun hc2=>?_) (fun hc2=>?_)
  ·
   have hany:S.2.any (ldB x.pl (ls.getD k []))=true:=by rw[←fstBad_ge];exact decide_eq_true oM
   have hj:=idx_lt hany;have hfb:fstBad (ldB x.pl (ls.getD k [])) S.2=((S.2.findIdx (ldB x.pl (ls.getD k [])):Nat):Int):=if_pos hany;rw[hfb];obtain⟨j,hjx⟩:∃j,S.2.findIdx (ldB x.pl (ls.getD k []))=j:=⟨_,rfl⟩;rw[hjx]at hj ⊢;have h32j:(S.2.getD j []).length=32:=Bo r2 hj;have hle:(S.2.eraseIdx j).length=S.2.length-1:=by rw[Le6,if_pos hj]
   rcases hah with ⟨_,_,_,h0⟩|⟨qh,ch,rfl,hch,hfl,rfl⟩
   ·omega
   refine G5 ?_;refine .idxSlP 32 J J J J J Y30.h Sz34 j J oM (.loadSN (n:=32) (Aa (S.2.getD j [])) J J J Y34.h J Sz34 (by rw[Aa,La0];exact h32j) (fun w h=>B0 r2 (Am h mR) hj) ?_);refine .mkRow2 (z:=agg (Aa (List.replicate 32 0))) [agg (Aa (S.2.getD j []))] (Aa (S.2.getD j [])) J J Y30.h Sz34 Ci J J (by intro v hv;rw[La1.1 hv];simpa[Value.cells,agg,Aa]using h32j) dE (by simp[Value.cells,agg]) ?_;intro q33;refine .appendAcc (n:=S.1.length) (z:=agg (Aa (List.replicate 32 0))) (by':=32) (Aa (S.2.getD j [])) J J J J J Y30.h Y30.h Sz34 Ci (by unfold By;kernel_rfl) J hal sG (fun w h=>SeesP.of (Am h Z0)) (fun e=>by cases e) (A0 _) oM oM (by rw[Aa,La0,h32j]) ?_;intro s34 bl34 hac34;refine G8 ?_;refine .callL (L:=[⟨qh,Au S.2,34,ch*32⟩]) J J J J J Body151 (del_digs qh S.2.length ch S.2 r2 j hj J hch oM) sG (lent_ok J) (fun w h=>Lent.of h sG) ?_;rintro v39 out39 ⟨rfl,rfl⟩;refine G9 ?_;refine⟨(k+1,s34,bl34,⟨some ⟨qh,0,none⟩,S.2.length-1,ch⟩,[⟨qh,Au (S.2.eraseIdx j),34,ch*32⟩]),⟨by simp only;omega,?_,?_⟩,by simp only;omega,Aq wN (Ag sG (Ag (by repeat(exact sg_end)) (Ab rM Ak)))⟩
   ·simp only;rw[hst,chs1_yes hc1n hany,hjx,Cc,La3,flatB_one];exact hac34
   ·simp only;rw[hst,chs1_yes hc1n hany,hjx];simp only;rw[hle];exact Acc.some oM (by rw[Ay (fun l hl=>r2 l (List.mem_of_mem_eraseIdx hl)),hle])
  have hany:¬S.2.any (ldB x.pl (ls.getD k []))=true:=by rw[←fstBad_ge];intro h9;have:=of_decide_eq_true h9;omega
  refine G8 ?_;refine⟨(k+1,sl,bl,sh,bh),⟨by simp only;omega,?_,?_⟩,by simp only;omega,Aq wN (Ag sG (Ag sG (Ab rM Ak)))⟩
  ·simp only;rw[hst,chs1_no hany];exact hal
  ·simp only;rw[hst,chs1_no hany];exact hah
 have hke:k=ls.length:=by omega
 subst hke;rw[Ldx]at hS;obtain⟨m,hm⟩:∃m,m=min (32-S.1.length) S.2.length:=⟨_,rfl⟩;have htl:(S.2.take (32-S.1.length)).length=m:=by rw[Lag,hm]
 have ht32:∀l∈S.1++S.2.take (32-S.1.length),l.length=32:=fun l hl=>by rcases Lae.1 hl with h|h;exact r1 l h;exact r2 l (Lbp h)
 refine G14 ?_;refine .min2 J J J J (show Value.int .i64 (if((32:Int)-(sl.n:Int))<(sh.n:Int)then(32:Int)-(sl.n:Int)else(sh.n:Int))=i64 (m:Int)from congrArg (Value.int .i64) (by split<;>omega)) ?_;refine .sliceHiA sh m J J J J J (by have:=hah.cap;omega) Y30.h Sz34 ?_;refine .appendAcc (n:=S.1.length) (z:=agg (Aa (List.replicate 32 0))) (by':=32) (Au (S.2.take (32-S.1.length))) J J J J J Y30.h Y30.h Sz34 Ci (by unfold By;kernel_rfl) J hal sG (fun w h=>rows_take (hah.see (Lies.of h (by repeat(first|exact A3|refine Cr ?_)))) r2) (fun e=>by have h9:=hah.nil e;show m=0;omega) (flatB_cell _) (by show S.1.length+m≤1000000;omega) (by show(S.1.length+m)*32≤140737488355328;omega) (by rw[Ay (fun l hl=>r2 l (Lbp hl)),htl]) ?_;intro s50 bl50 hac50;rw[←Cc,←htl,←La3]at hac50;refine G6 ?_;refine .callL (L:=bl50) J J J J J Body140 (sort_acc s50 bl50 (S.1++S.2.take (32-S.1.length)) ht32 (by rw[La3,htl];omega) hac50) sG (lent_ok J) (fun w h=>Lies.of h (by repeat(exact A3))) ?_;rintro v52 out52 ⟨rfl,ks,hkp,hks,hac52⟩;obtain rfl:=isort_eq hkp hks;refine G8 ?_;refine G2 ?_;refine Az (out:=(out52++[])) (Ah J J) (Ag sG Ak) ?_;refine⟨s50,rfl,?_,fun W2 hl=>?_⟩
 ·rw[PD.choose,hS,(isort_perm _).length_eq];exact hac52.num
 ·rw[PD.choose,hS];exact acc_rows hac52 (by simpa using hl) (fun l hl=>ht32 l ((isort_perm _).mem_iff.1 hl)) (isort_perm _).length_eq (by rw[La3,htl];omega)
noncomputable def PD.nxt(X:PD)(ds:List DCut):DCut×Int:=
  if lastE ds≠0 then(DCut.zero,2)else if((lastD ds).dHeight.toNat:Int)=4294967295 then(DCut.zero,2)else if missB X (lastD ds).dHeads=true then(DCut.zero,6)
  else if(beneath X (X.choose (lastD ds).dHeads)).length≤(beneath X (lastD ds).dHeads).length then(DCut.zero,6)else(⟨(lastD ds).dHeight+1,lastN ds,X.choose (lastD ds).dHeads⟩,0)
theorem build_cut3(x:UInt64){l:List UInt8}(h:l.length=32)(s:Sl)(w:World):(Instr.build 57 #[(0,u64 x),(1,agg (Aa l)),(2,s.v)]).run prog w= .ok (agg ({ Cut.zero with fHeight:=x,fPrev:=l,fHeads:=s }:Cut).cells) w:=by
  iterate 32 (obtain⟨a,l,e,h2⟩:=cons_of h;clear h;subst e;have h:=h2;clear h2)
  obtain rfl:=Laa h
  (refine Eq.trans ?_ rfl;kernel_rfl)
theorem cut_next(x:DD)(hx:x.ok)(hI:x.pl.Inv)(p:Nat)(s:Sl)(rs:List Cut)(ds:List DCut):Meets prog 32 [ptr p 0,s.v] [] (fun W=>Lies (x.blks p) W∧CutsIn W s rs ds) (CutV (x.pl.nxt ds).1 (x.pl.nxt ds).2):=by
 intro W hW;have hck:∀q∈x.P,q.2.check=0:=hI.ck;have h16:∀q∈x.P,q.2.ls.length≤16:=fun q hq=>(ck_small (hck q hq)).1;have hL:=cuts_last hW.2;have hln:=lastN_length ds;have hlL:=hL.fHeads.len;have eL:=hL.fHeight;refine Ac func32 J 67 ntmps32 J (G2 ?_);refine .alloc (cs:=Cut.zero.cells) J Cut.zr J ?_;intro n4 hn4 hf4;refine G7 ?_;refine .cV J J J J Body86 (cut_none x hx h16 p) (fun w h=>Bm hW.1 h) (G2 ?_);refine .cond_f J J (G5 ?_);refine .cV J J J J Body87 (cut_last s rs ds) (fun w h=>hW.2.ext h J fun r d hd=>hd.ext h J) (G4 ?_);refine .alloc (cs:=Cut.zero.cells) J Cut.zr J ?_;intro n6 hn6 hf6;refine .alloc (cs:=(Aa (List.replicate 32 0))) J Ci J ?_;intro n7 hn7 hf7;refine .sA J J J J (Cut.isCell (by exact hL.ok)) Sz57 (Cut.length (by exact hL.ok)) Z1 (Cut.length (by exact Cut.zero_ok)) zV ?_;refine .sA J J J J zE Sz34 (by(simp[lastN_length];done)) Z0 sP zU ?_;refine G7 ?_;refine two (fun r hr k=>Tr.nei J J J J hr k) (fun hs4_10=>?_) (fun hs4_10=>?_)
 ·
  have hs4_1:=nd_t hs4_10;refine G7 ?_;refine .cond_t J J (G2 ?_);refine .build (cs:=Cut.zero.cells) J J J (fun w=>by kernel_rfl) ?_;refine G4 ?_;refine G3 ?_;refine Az (out:=[]) (Bd J J J Y57.h J Sz57 Z2 (by exact Cut.length (by exact Cut.zero_ok))) Ak ?_;rw[show x.pl.nxt ds=(DCut.zero,2)from by unfold PD.nxt;rw[if_pos hs4_1]];exact⟨Cut.zero,Cut.zero_ok,rfl,fun W2 _=>cutz_is W2⟩
 have hs4_1:=nd_f hs4_10;refine G2 ?_;refine .load1 J J J Y45.h J Z1 (by exact Cut.get_fHeight (by exact hL.ok)) ?_;refine G4 ?_;refine .condP J (fun hc1=>?_) (fun hc1=>?_)
 ·
  refine G2 ?_;refine .build (cs:=Cut.zero.cells) J J J (fun w=>by kernel_rfl) ?_;refine G4 ?_;refine G3 ?_;refine Az (out:=[]) (Bd J J J Y57.h J Sz57 Z2 (by exact Cut.length (by exact Cut.zero_ok))) Ak ?_;rw[show x.pl.nxt ds=(DCut.zero,2)from by unfold PD.nxt;rw[if_neg (not_not_intro hs4_1),if_pos (by rw[←eL];exact hc1)]];exact⟨Cut.zero,Cut.zero_ok,rfl,fun W2 _=>cutz_is W2⟩
 refine G6 ?_;refine .load1 J J J Y30.h J Z1 (by exact Cut.get_fHeads (by exact hL.ok)) ?_;refine .call4 J J J J J Body88 (dag_closure x hx h16 p (lastC rs).fHeads (lastD ds).dHeads (by have:=last_small hs4_1;omega)) (fun w h=>⟨Bm hW.1 h,Cu h J hL.fHeads⟩) ?_;rintro v33 out33 (⟨hm0,rfl,rfl⟩|⟨ha0,s33,k0,rfl,hac33,hso0,hnd0,hks0⟩)
 ·
  skip;refine G14 ?_;refine .cond_t J J (G2 ?_);refine .build (cs:=Cut.zero.cells) J J J (fun w=>by kernel_rfl) ?_;refine G5 ?_;refine G3 ?_;refine Az (out:=[]) (Bd J J J Y57.h J Sz57 Z2 (by exact Cut.length (by exact Cut.zero_ok))) Ak ?_;rw[show x.pl.nxt ds=(DCut.zero,6)from by unfold PD.nxt;rw[if_neg (not_not_intro hs4_1),if_neg (by rw[←eL];exact hc1),if_pos (miss_yes hm0)]];exact⟨Cut.zero,Cut.zero_ok,rfl,fun W2 _=>cutz_is W2⟩
 have hn33:=hac33.num;have hcl0:=clos_len hI hnd0 hks0;refine G14 ?_;refine .cond_f J J (G3 ?_);refine .draw (oP [0,101,2,103,4,5,106,307,8,209,410]) Ap zK (G1 ?_);refine .load1 J J J Y45.h J mR (by exact Cut.get_fHeight (by exact hL.ok)) ?_;refine .add_u64 J J J (show Ae _ _=some (u64 1)from rfl) (.lA J J J Y34.h J Sz34 mR (by(simp[lastN_length];done)) ?_);refine G2 ?_;refine .load1 J J J Y30.h J mR (by exact Cut.get_fHeads (by exact hL.ok)) ?_;refine .call J J J J Body89 (cut_choose x hx hI p (lastC rs).fHeads (lastD ds).dHeads (last_small hs4_1)) (RowsW.loose _) (fun w h=>⟨Bm hW.1 h,Cu h J hL.fHeads⟩) ?_;rintro v47 out47 ⟨s47,rfl,hn47,hrw⟩;have ok47:({ Cut.zero with fHeight:=(lastC rs).fHeight+1,fPrev:=lastN ds,fHeads:=s47 }:Cut).ok:=⟨hln⟩;refine .build (cs:=({ Cut.zero with fHeight:=(lastC rs).fHeight+1,fPrev:=lastN ds,fHeads:=s47 }:Cut).cells) J J J (fun w=>build_cut3 _ hln s47 w) (.alloc (cs:=Cut.zero.cells) J Cut.zr J ?_);intro n10 hn10 hf10;refine .sA J J J J (Cut.isCell (by exact ok47)) Sz57 (Cut.length (by exact ok47)) Z0 (Cut.length (by exact Cut.zero_ok)) zU ?_;refine G6 ?_;refine .load1 J J J Y30.h J Z0 (by exact Cut.get_fHeads (by exact ok47)) ?_;refine .call4 J J J J J Body88 (dag_closure x hx h16 p s47 (x.pl.choose (lastD ds).dHeads) (by have:=choose_len (X:=x.pl) (last_small hs4_1);omega)) (fun w h=>⟨Bm hW.1 h,hrw w (Lies.of h (by repeat(first|exact A3|refine A9 ?_)))⟩) ?_;rintro v53 out53 (⟨⟨n,hn,h0⟩,_⟩|⟨_,s53,k1,rfl,hac53,hso1,hnd1,hks1⟩)
 ·exfalso;obtain⟨D,hD⟩:=heads_P hI (choose_mem hn);rw[h0]at hD;cases hD
 have hn53:=hac53.num;have hcl1:=clos_len hI hnd1 hks1;refine G11 ?_;refine .nei J J J J (show(!decide _)=false from congrArg not (decide_eq_true (rfl))) (G9 ?_);refine .condP J (fun hc3=>?_) (fun hc3=>?_)
 ·
  refine G2 ?_;refine .build (cs:=Cut.zero.cells) J J J (fun w=>by kernel_rfl) ?_;refine G4 ?_;refine G3 ?_;refine Az (out:=[]) (Bd J J J Y57.h J Sz57 mR (by exact Cut.length (by exact Cut.zero_ok))) Ak ?_;rw[show x.pl.nxt ds=(DCut.zero,6)from by unfold PD.nxt;rw[if_neg (not_not_intro hs4_1),if_neg (by rw[←eL];exact hc1),if_neg (by rw[miss_no ha0];decide),if_pos oM]];exact⟨Cut.zero,Cut.zero_ok,rfl,fun W2 _=>cutz_is W2⟩
 refine G4 ?_;refine .lA J J J Y57.h J Sz57 mR (Cut.length (by exact ok47)) ?_;refine .sA J J J J (Cut.isCell (by exact ok47)) Sz57 (Cut.length (by exact ok47)) mR (Cut.length (by exact Cut.zero_ok)) uU ?_;refine G3 ?_;refine G2 ?_;refine Az (out:=(out47++[])) (Bd J J J Y57.h J Sz57 mR (by exact Cut.length (by exact ok47))) (Ag sG Ak) ?_;rw[show x.pl.nxt ds=(⟨(lastD ds).dHeight+1,lastN ds,x.pl.choose (lastD ds).dHeads⟩,0)from by unfold PD.nxt;rw[if_neg (not_not_intro hs4_1),if_neg (by rw[←eL];exact hc1),if_neg (by rw[miss_no ha0];decide),if_neg oM]];exact⟨({ Cut.zero with fHeight:=(lastC rs).fHeight+1,fPrev:=lastN ds,fHeads:=s47 }:Cut),ok47,rfl,fun W2 hl=>⟨ok47,by rw[show(lastC rs).fHeight=(lastD ds).dHeight from eL],rfl,hrw W2 (by simpa using hl)⟩⟩
end Go.Proofs.YtpogmfngccolbaaGreat
namespace Go.Proofs.YtpogmfngccolbaaGreat
open Go Hw Ed
variable{j n:Nat}{k st w:List UInt64}{p:List UInt8}{α:Type}{l:List α}
theorem cons_of8(h:l.length=n+1):∃a t,l=a::t∧t.length=n:=by
  cases l with
  |nil=>cases h
  |cons a t=>exact⟨a,t,rfl,by simpa using h⟩
def forceA{α:Type}(s:Nat)(f:Nat→α):α:=Nat.casesOn (motive:=fun _=>α) s (f 0) (fun m=>f (m+1))
theorem forceA_eq(s:Nat)(f:Nat→α):forceA s f=f s:=by cases s<;>rfl
def aN(a b:Nat):Nat:=Nat.mod (Nat.add a b) 18446744073709551616
def shN(x s:Nat):Nat:=Nat.mod (Nat.mul x (Nat.pow 2 s)) 18446744073709551616
def rolN(x s:Nat):Nat:=Nat.lor (shN x s) (Nat.div x (Nat.pow 2 (Nat.sub 64 s)))
def o8N(x:Nat)(b:UInt8):Nat:=Nat.lor (shN x 8) b.toNat
def sg0N(x:Nat):Nat:=Nat.xor (Nat.xor (rolN x 63) (rolN x 56)) (Nat.div x (Nat.pow 2 7))
def sg1N(x:Nat):Nat:=Nat.xor (Nat.xor (rolN x 45) (rolN x 3)) (Nat.div x (Nat.pow 2 6))
def t1N(e f g h k w:Nat):Nat:=aN (aN (aN (aN h (Nat.xor (Nat.xor (rolN e 50) (rolN e 46)) (rolN e 23))) (Nat.xor (Nat.land e f) (Nat.land (Nat.xor 18446744073709551615 e) g))) k) w
def t2N(a b c:Nat):Nat:=aN (Nat.xor (Nat.xor (rolN a 36) (rolN a 30)) (rolN a 25)) (Nat.xor (Nat.xor (Nat.land a b) (Nat.land a c)) (Nat.land b c))
def wgo:List UInt8→List Nat→List Nat
  |a::b::c::d::e::f::g::h::t,r=>forceA (o8N (o8N (o8N (o8N (o8N (o8N (o8N (o8N 0 a) b) c) d) e) f) g) h) fun v=>wgo t (v::r)
  |_,r=>r
def nxN(r:List Nat):Nat:=aN (aN (aN (r.getD 15 0) (sg0N (r.getD 14 0))) (r.getD 6 0)) (sg1N (r.getD 1 0))
def sgo:Nat→List Nat→List Nat
  |0,r=>r
  |n+1,r=>forceA (nxN r) fun v=>sgo n (v::r)
def rgo:List Nat→List Nat→Nat→Nat→Nat→Nat→Nat→Nat→Nat→Nat→List Nat
  |k::ks,w::ws,a,b,c,d,e,f,g,h=>forceA (t1N e f g h k w) fun t=>forceA (aN t (t2N a b c)) fun a2=>forceA (aN d t) fun e2=>rgo ks ws a2 a b c e2 e f g
  |_,_,a,b,c,d,e,f,g,h=>[a,b,c,d,e,f,g,h]
def adN:List Nat→List Nat→List Nat
  |x::xs,y::ys=>forceA (aN x y) fun z=>z::adN xs ys
  |_,_=>[]
def rgoL(ks ws:List Nat):List Nat→List Nat
  | [a,b,c,d,e,f,g,h]=>rgo ks ws a b c d e f g h
  |_=>[]
def pieceN(ks st:List Nat)(p:List UInt8):List Nat:=adN st (rgoL ks (sgo 64 (wgo p [])).reverse st)
def runN(ks st:List Nat)(bs:List UInt8):Nat→List Nat
  |0=>st
  |i+1=>pieceN ks (runN ks st bs i) ((bs.drop (128*i)).take 128)
def padT(n:Nat):List UInt8:=128::(List.replicate (padZ n) 0++(beUp 0 8++beUp (UInt64.ofNat (8*n)) 8))
def allN(ks st:List Nat)(l:List UInt8):List Nat:=forceA l.length fun n=>runN ks st (l++padT n) ((n+17+padZ n)/128)
theorem padT_eq(l:List UInt8):padB l=l++padT l.length:=by simp[padB,padT]
theorem sh_hom(x:UInt64)(s:Nat):(A1 x s).toNat=shN x.toNat s:=by rw[A1,Lbs];rfl
theorem sr_hom(x:UInt64)(s:Nat):(Ar x s).toNat=Nat.div x.toNat (Nat.pow 2 s):=by
  have h:x.toNat/2^s<18446744073709551616:=Lem (Lct _ _) x.toNat_lt;rw[Ar,Lbs];exact Lab h
theorem add_hom(x y:UInt64):(x+y).toNat=aN x.toNat y.toNat:=Lb8 x y
theorem or_hom(x y:UInt64):(x|||y).toNat=Nat.lor x.toNat y.toNat:=Le8 x y
theorem xor_hom(x y:UInt64):(x^^^y).toNat=Nat.xor x.toNat y.toNat:=UInt64.toNat_xor x y
theorem and_hom(x y:UInt64):(x&&&y).toNat=Nat.land x.toNat y.toNat:=Lf7 x y
theorem rol_hom(x:UInt64)(s:Nat):(rolW x s).toNat=rolN x.toNat s:=by rw[rolW,or_hom,sh_hom,sr_hom];rfl
theorem sg0_hom(x:UInt64):(sig0 x).toNat=sg0N x.toNat:=by simp only[sig0,xor_hom,rol_hom,sr_hom];rfl
theorem sg1_hom(x:UInt64):(sig1 x).toNat=sg1N x.toNat:=by simp only[sig1,xor_hom,rol_hom,sr_hom];rfl
theorem t1_hom(s:W8)(k w:UInt64):(rndT1 s k w).toNat=t1N s.e.toNat s.f.toNat s.g.toNat s.h.toNat k.toNat w.toNat:=by
  simp only[rndT1,add_hom,xor_hom,and_hom,rol_hom];rfl
theorem t2_hom(s:W8):(rndT2 s).toNat=t2N s.a.toNat s.b.toNat s.c.toNat:=by
  simp only[rndT2,add_hom,xor_hom,and_hom,rol_hom];rfl
theorem o8_hom(x:UInt64)(b:UInt8):(A1 x 8|||b.toUInt64).toNat=o8N x.toNat b:=by
  rw[or_hom,sh_hom,Ldl];rfl
def wU:List UInt8→List UInt64
  |a::b::c::d::e::f::g::h::t=>(A1 (A1 (A1 (A1 (A1 (A1 (A1 (A1 0 8|||a.toUInt64) 8|||b.toUInt64) 8|||c.toUInt64) 8|||d.toUInt64) 8|||e.toUInt64) 8|||f.toUInt64) 8|||g.toUInt64) 8|||h.toUInt64)::wU t
  |_=>[]
theorem wgo_eq:∀(n:Nat) (p:List UInt8) (r:List Nat),p.length=8*n→wgo p r=((wU p).map UInt64.toNat).reverse++r
  | 0,p,r,h=>by
    obtain rfl:=Laa h;rfl
  | n+1,p,r,h=>by
    have h:p.length=8*n+7+1:=h
    iterate 8 (obtain⟨a,l,e,h2⟩:=cons_of8 h;clear h;subst e;have h:=h2;clear h2)
    rw[wgo,forceA_eq,wgo_eq n _ _ h,wU,Lam,List.reverse_cons,La8];simp only[o8_hom];rfl
theorem schA_words(p:List UInt8)(h:p.length=128):schA p 128=wU p++List.replicate 64 0:=by
  iterate 128 (obtain⟨a,l,e,h2⟩:=cons_of8 h;clear h;subst e;have h:=h2;clear h2)
  obtain rfl:=Laa h;clear h;refine Eq.trans ?_ rfl;kernel_rfl
theorem wU_length:∀(n:Nat) (p:List UInt8),p.length=8*n→(wU p).length=n
  | 0,p,h=>by
    obtain rfl:=Laa h;rfl
  | n+1,p,h=>by
    have h:p.length=8*n+7+1:=h
    iterate 8 (obtain⟨a,l,e,h2⟩:=cons_of8 h;clear h;subst e;have h:=h2;clear h2)
    rw[wU,Lb1,wU_length n _ h]
def SJ(w:List UInt64)(j:Nat):List Nat:=(((schB w j).take (16+j)).map UInt64.toNat).reverse
theorem take_set(h:n<l.length)(v:α):(l.set n v).take (n+1)=l.take n++[v]:=by
  have hl:(l.take n).length=n:=by rw[Lag];omega
  rw[Lfm,if_pos h,Lbc,hl,La6 oM,show n+1-n=1 by omega];rfl
theorem SJ_get(hw:w.length=80){j i:Nat}(hj:j≤64)(hi:i<16+j):(SJ w j).getD i 0=((schB w j).getD (15+j-i) 0).toNat:=by
  have hl:((schB w j).take (16+j)).length=16+j:=by rw[Lag,schB_length,hw];omega
  have h1:15+j-i<(schB w j).length:=by rw[schB_length,hw];omega
  rw[SJ,La2,List.getElem?_reverse (by rw[La0,hl];exact hi),La0,hl,Lap,Lfg oM,show 16+j-1-i=15+j-i by omega,La2,La5 h1];rfl
theorem SJ_succ(hw:w.length=80)(hj:j<64):SJ w (j+1)=nxN (SJ w j)::SJ w j:=by
  have h1:SJ w (j+1)=((schB w j).getD j 0+sig0 ((schB w j).getD (j+1) 0)+(schB w j).getD (j+9) 0+sig1 ((schB w j).getD (j+14) 0)).toNat::SJ w j:=by
    rw[SJ,schB,show 16+(j+1)=(16+j)+1 by omega,take_set (by rw[schB_length,hw];omega),Lai,List.reverse_append];rfl
  rw[h1,nxN,SJ_get hw oM oM,SJ_get hw oM oM,SJ_get hw oM oM,SJ_get hw oM oM,show 15+j-15=j by omega,show 15+j-14=j+1 by omega,show 15+j-6=j+9 by omega,show 15+j-1=j+14 by omega];simp only[add_hom,sg0_hom,sg1_hom]
theorem sgo_run{w:List UInt64}(hw:w.length=80):∀n j,j+n≤64→sgo n (SJ w j)=SJ w (j+n)
  |0,j,_=>rfl
  | n+1,j,h=>by
    rw[sgo,forceA_eq,←SJ_succ hw oM,sgo_run hw n (j+1) oM,show j+1+n=j+(n+1) by omega]
theorem sch_N(h:p.length=128):(sgo 64 (wgo p [])).reverse=(schW p).map UInt64.toNat:=by
  have hw:(schA p 128).length=80:=schA_length p 128;have e:wgo p []=SJ (schA p 128) 0:=by
    rw[wgo_eq 16 p [] h,SJ,Las,schB,schA_words p h,Lcv (by rw[wU_length 16 p h];omega),La6 (by rw[wU_length 16 p h];omega)]
  rw[e,sgo_run hw 64 0 oM,SJ,List.reverse_reverse,schW,La6 (by rw[schB_length,hw];omega)]
def rndF(ks ws:List UInt64)(s:W8):W8:=(ks.zip ws).foldl (fun s p=>rnd1 s p.1 p.2) s
theorem rnds_F{k w:List UInt64}(s:W8)(hk:k.length=80)(hw:w.length=80):∀t,t≤80→rnds k w s t=rndF (k.take t) (w.take t) s
  |0,_=>by simp[rnds,rndF]
  | t +1,h=>by
    have e:rndF (k.take (t+1)) (w.take (t+1)) s=rnd1 (rndF (k.take t) (w.take t) s) (k[t]'oM) (w[t]'oM):=by
      rw[Laq oM,Laq oM,rndF,List.zip_append (by rw[Lag,Lag,hk,hw]),Ldt];rfl
    rw[rnds,rnds_F s hk hw t oM,e,La2,La2,La5 oM,La5 oM];rfl
theorem rgo_eq:∀(ks ws:List UInt64) (s:W8),rgo (ks.map UInt64.toNat) (ws.map UInt64.toNat) s.a.toNat s.b.toNat s.c.toNat s.d.toNat s.e.toNat s.f.toNat s.g.toNat s.h.toNat=(rndF ks ws s).l.map UInt64.toNat
  | [],ws,s=>by simp only[rndF,List.zip_nil_left,Lej,Ldr,rgo,W8.l,Lam]
  |_::_,[],s=>by simp only[rndF,List.zip_nil_right,Lej,Ldr,Lam,rgo,W8.l]
  | k::ks,w::ws,s=>by
    have e:rndF (k::ks) (w::ws) s=rndF ks ws (rnd1 s k w):=by simp only[rndF,List.zip_cons_cons,Ld2]
    rw[Lam,Lam,rgo,forceA_eq,forceA_eq,forceA_eq,e,←rgo_eq ks ws];simp only[rnd1,add_hom,t1_hom,t2_hom]
theorem add8{st xs:List UInt64}(h1:st.length=8)(h2:xs.length=8):(addUp st xs 8).map UInt64.toNat=adN (st.map UInt64.toNat) (xs.map UInt64.toNat):=by
  iterate 8 (obtain⟨a,l,e,h3⟩:=cons_of8 h1;clear h1;subst e;have h1:=h3;clear h3)
  obtain rfl:=Laa h1
  iterate 8 (obtain⟨a,l,e,h3⟩:=cons_of8 h2;clear h2;subst e;have h2:=h3;clear h3)
  obtain rfl:=Laa h2;simp only[Lam,Ldr,adN,forceA_eq,←add_hom];rfl
theorem piece_N(hk:k.length=80)(hs:st.length=8)(hp:p.length=128):(pieceW k st p).map UInt64.toNat=pieceN (k.map UInt64.toNat) (st.map UInt64.toNat) p:=by
  have hw:(schW p).length=80:=by rw[schW,schB_length,schA_length]
  have e:rgoL (k.map UInt64.toNat) ((schW p).map UInt64.toNat) (st.map UInt64.toNat)=(rnds k (schW p) (W8.of st) 80).l.map UInt64.toNat:=by
    rw[rnds_F _ hk hw 80 oM,La6 oM,La6 oM,←rgo_eq]
    iterate 8 (obtain⟨a,l,e,h3⟩:=cons_of8 hs;clear hs;subst e;have hs:=h3;clear h3)
    obtain rfl:=Laa hs;rfl
  rw[pieceW,add8 hs rfl,pieceN,sch_N hp,e]
theorem run_N{k st:List UInt64}{bs:List UInt8}(hk:k.length=80)(hs:st.length=8):∀i,128*i≤bs.length→(runW k st bs i).map UInt64.toNat=runN (k.map UInt64.toNat) (st.map UInt64.toNat) bs i
  |0,_=>rfl
  | i+1,h=>by
    rw[runW,runN,piece_N hk (by rw[runW_length];exact hs) (by rw[Lag,Lc5];omega),run_N hk hs i oM]
theorem all_N(l:List UInt8)(hk:k.length=80)(hs:st.length=8):(allW k st l).map UInt64.toNat=allN (k.map UInt64.toNat) (st.map UInt64.toNat) l:=by
  rw[allW,run_N hk hs _ (by have:=padB_mod l;omega),allN,forceA_eq,padT_eq,←padB_length,padT_eq]
def kN:List Nat:=[4794697086780616226,8158064640168781261,13096744586834688815,16840607885511220156,4131703408338449720,6480981068601479193,10538285296894168987,12329834152419229976,15566598209576043074,1334009975649890238,2608012711638119052,6128411473006802146,8268148722764581231,9286055187155687089,11230858885718282805,13951009754708518548,16472876342353939154,17275323862435702243,1135362057144423861,2597628984639134821,3308224258029322869,5365058923640841347,6679025012923562964,8573033837759648693,10970295158949994411,12119686244451234320,12683024718118986047,13788192230050041572,14330467153632333762,15395433587784984357,489312712824947311,1452737877330783856,2861767655752347644,3322285676063803686,5560940570517711597,5996557281743188959,7280758554555802590,8532644243296465576,9350256976987008742,10552545826968843579,11727347734174303076,12113106623233404929,14000437183269869457,14369950271660146224,15101387698204529176,15463397548674623760,17586052441742319658,1182934255886127544,1847814050463011016,2177327727835720531,2830643537854262169,3796741975233480872,4115178125766777443,5681478168544905931,6601373596472566643,7507060721942968483,8399075790359081724,8693463985226723168,9568029438360202098,10144078919501101548,10430055236837252648,11840083180663258601,13761210420658862357,14299343276471374635,14566680578165727644,15097957966210449927,16922976911328602910,17689382322260857208,500013540394364858,748580250866718886,1242879168328830382,1977374033974150939,2944078676154940804,3659926193048069267,4368137639120453308,4836135668995329356,5532061633213252278,6448918945643986474,6902733635092675308,7801388544844847127]
def stN:List Nat:=[7640891576956012808,13503953896175478587,4354685564936845355,11912009170470909681,5840696475078001361,11170449401992604703,2270897969802886507,6620516959819538809]
def siN:List Nat:=[2463787394917988140,11481187982095705282,2563595384472711505,10824532655140301501,10819967247969091555,13717434660681038226,3098927326965381290,1060366662362279074]
theorem kN_eq:kW.map UInt64.toNat=kN:=by kernel_rfl
theorem stN_eq:startW.map UInt64.toNat=stN:=by kernel_rfl
theorem of_to(l:List UInt64):(l.map UInt64.toNat).map UInt64.ofNat=l:=by
  rw[List.map_map];exact(List.map_congr_left fun x _=>UInt64.ofNat_toNat).trans (List.map_id l)
theorem sha512_N(l:List UInt8):sha512 l=sumUp ((allN kN stN l).map UInt64.ofNat) 64:=by
  rw[←kN_eq,←stN_eq,←all_N l rfl rfl,of_to];rfl
theorem siN_eq:shaI.map UInt64.toNat=siN:=by kernel_rfl
theorem sha256_N(l:List UInt8):sha256 l=(sumUp ((allN kN siN l).map UInt64.ofNat) 64).take 32:=by
  rw[←kN_eq,←siN_eq,←all_N l rfl shaI_length,of_to];rfl
end Go.Proofs.YtpogmfngccolbaaGreat
namespace Go.Proofs.YtpogmfngccolbaaGreat
open Go Hw _root_.Go.Proofs.Tryz
open Ed
def pbN(n:Nat):List UInt8:=forceA (fastN n) fun s=>forceA (pwm PF 256 (uz s%PF) (PF-2)) fun i=>pb ⟨fe (ux s*i%PF),fe (uy s*i%PF)⟩
variable{n:Nat}
theorem pbN_eq(h:n<2^256):pb (cv.mul n bP)=pbN n:=by
  rw[fast_at h rfl rfl,pbN,forceA_eq,forceA_eq,affX,affY,force_eq,force_eq]
def h512(l:List UInt8):List UInt8:=sumUp ((allN kN stN l).map UInt64.ofNat) 64
def h256(l:List UInt8):List UInt8:=(sumUp ((allN kN siN l).map UInt64.ofNat) 64).take 32
def blkD(K:List UInt8)(D0:DB)(e S:Nat):DB:=bsg D0 K (leb 32 e++leb 32 S)
def blkOk(H K:List UInt8)(n:Nat)(D0:DB)(r e S N:Nat):Bool:=
  Nat.beq (le (h512 (H.drop 32++btxt { D0 with w:=K }))%L) r&&(Nat.beq (le (pbN r)) e&&(Nat.beq ((le (h512 (leb 32 e++(K++btxt { D0 with w:=K })))%L*n+r)%L) S
    &&(Nat.beq (le (h256 (blkD K D0 e S).bytes)) N&&(decide (D0.check=0)&&decide ((blkD K D0 e S).check=0)))))
theorem le_32{l:List UInt8}{x:Nat}(h:l.length=32)(e:le l=x):l=leb 32 x:=by rw[←e,←h,leb_le]
def BlkF(seed K:List UInt8)(D0:DB)(e S N:Nat):Prop:=(blkD K D0 e S).ok∧Bi (blkD K D0 e S)=leb 32 N∧dgood (blkD K D0 e S)=0∧∀B:Block,B.ok→Meets prog 164 [agg (Aa seed),agg B.cells] [] (fun W=>BlockIs W B D0) (BlkR 0 (blkD K D0 e S))
theorem blk_facts{seed H K:List UInt8}(h32:seed.length=32)(hH:sha512 seed=H)(hn:le (clampB (H.take 32))=n)(hK:sgK H=K){D0:DB}{r e S N:Nat}(hl:D0.ls.length≤40)(hd:D0.ds.length≤2000)(hD0:D0.ok)(h:blkOk H K n D0 r e S N=true):BlkF seed K D0 e S N:=by
  unfold blkOk at h;simp only[Lan,decide_eq_true_eq]at h;obtain⟨h1,h2,h3,h4,h5,h6⟩:=h;rw[h512,←sha512_N]at h1 h3;rw[h256,←sha256_N]at h4;have h1:=Lbv h1;have h2:=Lbv h2;have h3:=Lbv h3;have h4:=Lbv h4;have hr:r<2^256:=by rw[←h1];exact lm _
  have hKl:K.length=32:=by rw[←hK];exact sgK_length H
  obtain⟨T,hT⟩:∃T,T=btxt { D0 with w:=K }:=⟨_,rfl⟩;rw[←hT]at h1 h3;obtain⟨s1,hs1⟩:∃s1,sha512 (H.drop 32++T)=s1:=⟨_,rfl⟩;rw[hs1]at h1;have e1:le (sgR s1)=r:=by rw[sgR,le_leb32 (lm _),h1]
  have e2:sgF s1=leb 32 e:=by
    rw[sgF,e1,pbN_eq hr];refine le_32 ?_ h2;rw[←pbN_eq hr];exact Cg _
  obtain⟨s2,hs2⟩:∃s2,sha512 (leb 32 e++(K++T))=s2:=⟨_,rfl⟩;rw[hs2]at h3;have e3:sgS H s1 s2=leb 32 S:=by rw[sgS,e1,hn,sgR,le_leb32 (lm _),h3]
  have g:=good_self H s1 T (s2:=s2) (by rw[e2,hK];exact hs2);rw[hK,e2,e3]at g;refine⟨⟨hKl,hD0.prev,by show(leb 32 e++leb 32 S).length=64;rw[La3,Ai,Ai],hD0.ls⟩,?_,?_,fun B hB=>?_⟩
  · unfold Bi
    rw[if_pos h6];exact le_32 (sha256_length _) h4
  · unfold dgood
    rw[if_pos h6];refine if_pos ?_;have e4:btxt (blkD K D0 e S)=T:=hT.symm;rw[e4];exact g
  · have c:=r15_Sign B D0 hB hl hd seed h32 H s1 s2 ⟨hH⟩ ⟨by rw[hK,←hT];exact hs1⟩ ⟨by rw[hK,←hT,e2];exact hs2⟩ h5
    rw[hK,e2,e3]at c;exact c
end Go.Proofs.YtpogmfngccolbaaGreat
namespace Go.Proofs.YtpogmfngccolbaaGreat
open Go Hw Ed
def s1B:List UInt8:=[1,0,0,0,0,0,0,0,0,0,0,0,0,0,0,0,0,0,0,0,0,0,0,0,0,0,0,0,0,0,0,77]
def s1H:List UInt8:=[87,159,104,236,80,14,38,174,240,0,164,75,108,245,33,87,115,113,131,28,237,105,185,222,57,145,233,242,112,190,170,213,35,11,137,144,70,23,17,214,148,220,86,67,25,124,131,91,42,247,30,195,63,213,16,142,181,57,199,82,96,7,203,83]
def s1K:List UInt8:=[96,107,246,169,182,86,212,252,106,138,137,108,60,10,195,142,100,120,65,80,61,64,193,87,241,248,221,83,126,228,255,164]
theorem s1_h:sha512 s1B=s1H:=by rw[sha512_N];kernel_rfl
theorem s1_n:le (clampB ((s1H).take 32))=38748270507491543869280182973643753799655646515636239770492563660028217171792:=by kernel_rfl
theorem s1_k:sgK s1H=s1K:=by
  rw[sgK,s1_n,pbN_eq dE];kernel_rfl
def s2B:List UInt8:=[2,0,0,0,0,0,0,0,0,0,0,0,0,0,0,0,0,0,0,0,0,0,0,0,0,0,0,0,0,0,0,77]
def s2H:List UInt8:=[159,230,160,217,19,92,134,97,221,29,151,92,173,55,201,96,247,140,202,26,171,176,42,66,5,66,179,216,185,188,163,0,78,178,17,189,220,26,113,236,223,171,6,169,230,174,14,221,86,213,3,69,84,255,54,249,11,147,29,173,100,208,56,60]
def s2K:List UInt8:=[135,111,12,209,122,16,16,190,105,170,2,71,173,200,90,26,237,46,45,107,189,50,216,58,186,203,54,244,172,156,8,66]
theorem s2_h:sha512 s2B=s2H:=by rw[sha512_N];kernel_rfl
theorem s2_n:le (clampB ((s2H).take 32))=29237320919612452970742533751157944247979243399322251012381788756161947821720:=by kernel_rfl
theorem s2_k:sgK s2H=s2K:=by
  rw[sgK,s2_n,pbN_eq dE];kernel_rfl
def mA0:DB:=DB.zero
def mAR:Nat×Nat×Nat×Nat:=(565907765622320541399421425701583650488762096448569470237382742425803974514,100601403375759064195258946539497424308391876113719775996124634348183556250024,3579687427427459069974335426959508808461923918647704402293925102387200652691,97113733480288696092322898458545537851336488749795256506728843684697484984565)
def mAN:List UInt8:=leb 32 mAR.2.2.2
def mAD:DB:=blkD s1K mA0 mAR.2.1 mAR.2.2.1
theorem mA_ok:blkOk s1H s1K 38748270507491543869280182973643753799655646515636239770492563660028217171792 mA0 mAR.1 mAR.2.1 mAR.2.2.1 mAR.2.2.2=true:=by kernel_rfl
theorem mA_len:mAN.length=32:=Ai 32 _
theorem mA_f:BlkF s1B s1K mA0 mAR.2.1 mAR.2.2.1 mAR.2.2.2:=blk_facts (H:=s1H) rfl s1_h s1_n s1_k dE dE ⟨rfl,by rfl,rfl,fun l hl=>(by first|(cases hl;done)|(rw[La1.1 hl];rfl))⟩ mA_ok
def mB0:DB:={ DB.zero with seq:=1,prev:=mAN }
def mBR:Nat×Nat×Nat×Nat:=(1042854690461855033549293643297295419211154182590953024946931292553013138148,65806961080161634906959505977140487317327363723346420782109779725411984570611,7208915343660222524937526513360399956949480183635538504188365353118992172452,46058863218359618658494336369744020781322587224099048705861084924914012010741)
def mBN:List UInt8:=leb 32 mBR.2.2.2
def mBD:DB:=blkD s1K mB0 mBR.2.1 mBR.2.2.1
theorem mB_ok:blkOk s1H s1K 38748270507491543869280182973643753799655646515636239770492563660028217171792 mB0 mBR.1 mBR.2.1 mBR.2.2.1 mBR.2.2.2=true:=by kernel_rfl
theorem mB_len:mBN.length=32:=Ai 32 _
theorem mB_f:BlkF s1B s1K mB0 mBR.2.1 mBR.2.2.1 mBR.2.2.2:=blk_facts (H:=s1H) rfl s1_h s1_n s1_k dE dE ⟨rfl,by rfl,rfl,fun l hl=>(by first|(cases hl;done)|(rw[La1.1 hl];rfl))⟩ mB_ok
def mL0:DB:={ DB.zero with ls:=[mAN] }
def mLR:Nat×Nat×Nat×Nat:=(7069382373975793937875983969631401300928334206707799924608693727060737855406,89380441118362541782232043895724461995795574022816857334645768520515379073692,1378832678657371214062331319605579238817782231700001298769674763842384625692,60935820018387094301093397927544635555409945960002560190348470472531323507425)
def mLN:List UInt8:=leb 32 mLR.2.2.2
def mLD:DB:=blkD s2K mL0 mLR.2.1 mLR.2.2.1
theorem mL_ok:blkOk s2H s2K 29237320919612452970742533751157944247979243399322251012381788756161947821720 mL0 mLR.1 mLR.2.1 mLR.2.2.1 mLR.2.2.2=true:=by kernel_rfl
theorem mL_len:mLN.length=32:=Ai 32 _
theorem mL_f:BlkF s2B s2K mL0 mLR.2.1 mLR.2.2.1 mLR.2.2.2:=blk_facts (H:=s2H) rfl s2_h s2_n s2_k dE dE ⟨rfl,by rfl,rfl,fun l hl=>(by first|(cases hl;done)|(rw[La1.1 hl];rfl))⟩ mL_ok
end Go.Proofs.YtpogmfngccolbaaGreat
namespace Go.Proofs.YtpogmfngccolbaaGreat
open Go Hw _root_.Go.Proofs.Tryz
open Ed
variable{D:DB}{L:List (List UInt8)}{T:TypeId}{X:PD}{a b c:Block}{m q:Nat}{n:List UInt8}{w:World}
theorem s1B_length:s1B.length=32:=rfl
theorem s2B_length:s2B.length=32:=rfl
theorem kitS1  :Mv 165 [i64 1] (fun _=>True) (agg (Aa s1B)):=by
 intro W hW;refine Ac func165 J 9 ntmps165 J (G2 ?_);refine .alloc (cs:=(Aa (List.replicate 32 0))) J Zr33 J ?_;intro n2 hn2 hf2;refine G5 ?_;refine .conv J J J Y3.h Y5.h (show Value.int .u8 (IntKind.u8.wrap 1)=u8 1 from rfl) (G1 ?_)
 refine .shrN 1 8 J J J J J dE (.conv J J J Y3.h Y5.h (show Value.int .u8 (IntKind.u8.wrap ((1/2^8:Nat):Int))=u8 0 from rfl) (.build (cs:=Aa s1B) J J J (fun w=>by kernel_rfl) ?_));refine .sA J J J J zE Sz33 (by(simp[s1B_length];done)) Z0 sP zU ?_;refine G2 ?_;refine G2 ?_;refine⟨_,[],Ao J J Y33.h J Sz33 Z0 (by simp[s1B_length]),sP,sP,?_,rfl⟩;rfl
theorem kitS2  :Mv 165 [i64 2] (fun _=>True) (agg (Aa s2B)):=by
 intro W hW;refine Ac func165 J 9 ntmps165 J (G2 ?_);refine .alloc (cs:=(Aa (List.replicate 32 0))) J Zr33 J ?_;intro n2 hn2 hf2;refine G5 ?_;refine .conv J J J Y3.h Y5.h (show Value.int .u8 (IntKind.u8.wrap 2)=u8 2 from rfl) (G1 ?_)
 refine .shrN 2 8 J J J J J dE (.conv J J J Y3.h Y5.h (show Value.int .u8 (IntKind.u8.wrap ((2/2^8:Nat):Int))=u8 0 from rfl) (.build (cs:=Aa s2B) J J J (fun w=>by kernel_rfl) ?_));refine .sA J J J J zE Sz33 (by(simp[s2B_length];done)) Z0 sP zU ?_;refine G2 ?_;refine G2 ?_;refine⟨_,[],Ao J J Y33.h J Sz33 Z0 (by simp[s2B_length]),sP,sP,?_,rfl⟩;rfl
def bl1(q:Nat):Block:={ Block.zero with fLinks:=⟨some ⟨q,0,none⟩,1,1⟩ }
theorem bl1_ok(q:Nat):(bl1 q).ok:=⟨rfl,rfl,rfl⟩
theorem bl1_is(hn:n.length=32)(h:Sees w q 0 (Aa n)):BlockIs w (bl1 q) { DB.zero with ls:=[n] }:=⟨bl1_ok q,rfl,rfl,rfl,row_one hn h,(zero_is w).ds,rfl⟩
def ChainS(Da Db Dc:DB)(v:Value)(out:List Blk):Prop:=∃(q:Nat) (Ba Bb Bc:Block) (bl:List Blk),SameB Ba Da∧SameB Bb Db∧SameB Bc Dc∧v= .slice (some ⟨q,0,none⟩) 3 3∧out=⟨q,tri Ba Bb Bc,50,(tri Ba Bb Bc).length⟩::bl∧∀W2,Lies bl W2→BlockIs W2 Ba Da∧BlockIs W2 Bb Db∧BlockIs W2 Bc Dc
theorem tri_sees(ha:a.ok)(hb:b.ok)(hc:c.ok)(h:BlkOk w ⟨q,tri a b c,T,m⟩):Sees w q (0+0*131) a.cells∧Sees w q (0+1*131) b.cells∧Sees w q (0+2*131) c.cells:=by
  have part:∀(o:Nat) (l:List Value),((tri a b c).drop o).take 131=l→Sees w q o l:=fun o l e=>sees_kok h fun j v hj=>by
    rw[←e]at hj;have h1:=(Laf.1 hj).1;rw[Lfg (by rw[Lag]at h1;omega),Lba]at hj;exact hj
  exact⟨part _ _ (tri_0 ha),part _ _ (tri_1 ha hb),part _ _ (tri_2 ha hb hc)⟩
theorem tri_blocks{Da Db Dc:DB}(h:BlkOk w ⟨q,tri a b c,T,m⟩)(hi:BlockIs w a Da∧BlockIs w b Db∧BlockIs w c Dc):BlocksAt w ⟨some ⟨q,0,none⟩,3,3⟩ [Da,Db,Dc]:=by
  obtain⟨ha,hb,hc⟩:=hi;refine⟨[a,b,c],rfl,rfl,fun i r d hr hd=>?_,fun r hr=>?_,Lac 3,?_,(by show 3≤maxLen;decide),fun e=>by cases e⟩
  · rcases i with _|_|_|i
    ·cases hr;cases hd;exact ha
    ·cases hr;cases hd;exact hb
    ·cases hr;cases hd;exact hc
    ·cases hr
  · simp only[Lak,Lbq,or_false]at hr
    rcases hr with rfl|rfl|rfl
    ·exact Block.length ha.ok
    ·exact Block.length hb.ok
    ·exact Block.length hc.ok
  · refine SeesP.of (sees_kok h fun j v hj=>?_)
    rw[Lb3];exact hj
theorem law19_signed(n:Int)(seed:List UInt8)(h32:seed.length=32)(B:Block)(hB:B.ok)(D D1:DB)(hD1:D1.ok)(cSeed:Mv 165 [i64 n] (fun _=>True) (agg (Aa seed)))(cS:∀B:Block,B.ok→Meets prog 164 [agg (Aa seed),agg B.cells] [] (fun W=>BlockIs W B D) (BlkR 0 D1)):Meets prog 120 [i64 n,agg B.cells] [] (fun W=>BlockIs W B D) (BlkV D1):=by
 intro W hW;refine Ac func120 J 15 ntmps120 J (G3 ?_);intro n3 hn3 hf3;refine .alloc (cs:=Block.zero.cells) J Block.zr J ?_;intro n4 hn4 hf4;refine G3 ?_;refine .draw (oP [0,102,301,303,4,5,6,207,408,9]) Ap zK (G1 ?_);refine .lA J J J Y50.h J Sz50 Z1 (Block.length (by exact hB)) ?_;refine .cV J J J J Body165 (cSeed) tV (.call J J J J Body164 (cS B hB) (BlkR.loose 0 D1 hD1) (fun w h=>hW.ext h J) ?_);rintro v11 out11 ⟨B11,h11,rfl,ho11⟩;refine G3 ?_;refine .alloc (cs:=Block.zero.cells) J Block.zr J ?_;intro n5 hn5 hf5;refine .sA J J J J (Block.isCell (by exact h11.ok)) Sz50 (Block.length (by exact h11.ok)) Z0 (Block.length (by exact Block.zero_ok)) zU ?_;refine G5 ?_;refine .lA J J J Y50.h J Sz50 Z0 (Block.length (by exact h11.ok)) ?_;refine .sA J J J J (Block.isCell (by exact h11.ok)) Sz50 (Block.length (by exact h11.ok)) mR (Block.length (by exact Block.zero_ok)) uU ?_;refine G2 ?_;refine G2 ?_;refine Az (out:=(out11++[])) (Ao J J Y50.h J Sz50 mR (by exact Block.length (by exact h11.ok))) (Ag sG Ak) ?_;exact⟨B11,h11,rfl,by simpa using ho11⟩
theorem law19_filled(s:Sl)(ds:List DB)(hn:s.n≤1000)(hsm:∀d∈ds,d.ls.length≤500000∧d.ds.length≤500000):Meets prog 30 [s.v] [] (fun W=>BlocksAt W s ds) (fun v out=>∃(p:Nat) (x:DD),v=ptr p 0∧out=x.blks p∧x.ok∧x.pl=fillP PD.new ds∧x.names.length+x.orp.length≤ds.length):=by
 intro W hW;obtain⟨rs,hs⟩:=hW;have hnd:=hs.nd;refine Ac func30 J 20 ntmps30 J (G7 ?_);refine .call4 J J J J J Body77 (dag_new2) tV ?_;rintro v5 out5 ⟨p,x0,rfl,rfl,hx0,hplx0,hnx0⟩;refine G10 ?_;refine .loop (ι:=Nat×DD) (fun r=>⟨[(0,s.v),(3,ptr p 0),(4,i64 (r.1:Int))],(r.2.blks p++[])⟩) (fun r=>r.1≤s.n∧r.2.ok∧r.2.pl=fillP PD.new (ds.take r.1)∧r.2.names.length+r.2.orp.length≤r.1) (fun r=>s.n-r.1) ((0,x0)) ?_ ?_ ?_
 ·exact⟨Lar _,hx0,hplx0,Lg4 hnx0⟩
 ·exact Aq wN (Ag sG Ak)
 rintro⟨k,x⟩ ⟨hk,hx,hplx,hnx⟩;simp only at hk hx hplx hnx ⊢;refine G9 ?_;refine .condP J (fun hc0=>?_) (fun hc0=>?_)
 ·
  have hk2:k<s.n:=by omega
  obtain⟨b,o,r,d,hsp,hr,hd,his,hlen,hsee⟩:=hs.at dE hk2;refine G8 ?_;refine .idxSlP 131 J J J hsp J Y22.h Sz50 k J oM (.loadEN r.cells J J J Y50.h J Sz50 sP hlen hsee (.call4 J J J J J Body42 (db_own r d (hsm d (Lck hd)).1 (hsm d (Lck hd)).2) (fun w h=>his.ext h J) ?_));rintro v17 out17 ⟨B17,h17,rfl,hb17⟩;refine .callL (L:=(x.blks p++out17)) J J J J J Body41 (dag_add x hx p B17 d out17 ⟨h17,hb17⟩ oM) (sg_two (by repeat(first|exact sg_here|apply sg_seg)) sG) (lent_ok J) (fun w h=>Lent.of h (sg_two (by repeat(first|exact sg_here|apply sg_seg)) sG)) ?_;rintro v18 out18 ⟨x1,⟨p18,n18,c18⟩,bl18,rfl,rfl,hx1,hac18,h3218,hplx1,hnx1⟩;simp only[La8];refine G9 ?_;exact⟨(k+1,x1),⟨by simp only;omega,hx1,by show x1.pl=_;rw[hplx1,hplx,take_snoc hd,fillP_snoc],by simp only;omega⟩,by simp only;omega,Aq wN (Ag sG Ak)⟩
 have hke:k=s.n:=by omega
 refine G11 ?_;refine G2 ?_;refine Az (out:=(x.blks p++[])) (Ah J J) (Ag sG Ak) ?_;refine⟨p,x,rfl,by simp,hx,?_,by omega⟩;rw[hke,La6 oM]at hplx;exact hplx
theorem law19_chain(Da Db Dc:DB)(na:List UInt8)(hDa:Da.ok)(hDb:Db.ok)(hDc:Dc.ok)(lna:na.length=32)(hna:Bi Da=na)(cSa:∀B:Block,B.ok→Meets prog 164 [agg (Aa s1B),agg B.cells] [] (fun W=>BlockIs W B DB.zero) (BlkR 0 Da))(cSb:∀B:Block,B.ok→Meets prog 164 [agg (Aa s1B),agg B.cells] [] (fun W=>BlockIs W B { DB.zero with seq:=1,prev:=na }) (BlkR 0 Db))(cSc:∀B:Block,B.ok→Meets prog 164 [agg (Aa s2B),agg B.cells] [] (fun W=>BlockIs W B { DB.zero with ls:=[na] }) (BlkR 0 Dc)):Meets prog 53 [] [] (fun _=>True) (ChainS Da Db Dc):=by
 intro W hW;refine Ac func53 J 16 ntmps53 J (G7 ?_);refine .build (cs:=Block.zero.cells) J J J (fun w=>by kernel_rfl) ?_;refine .call4 J J J J J Body120 (law19_signed 1 s1B J Block.zero Block.zero_ok DB.zero Da hDa kitS1 cSa) (fun w h=>zero_is w) ?_;rintro v4 out4 ⟨Ba,ha,rfl,hoa⟩;have cNa:=r15_Name Ba Da ha.ok;rw[hna]at cNa;refine .alloc (cs:=Block.zero.cells) J Block.zr J ?_;intro n1 hn1 hf1;refine .sA J J J J (Block.isCell (by exact ha.ok)) Sz50 (Block.length (by exact ha.ok)) Z0 (Block.length (by exact Block.zero_ok)) zU ?_;refine G4 ?_;refine .lA J J J Y50.h J Sz50 Z0 (Block.length (by exact ha.ok)) ?_;refine .cV J J J J Body54 (cNa) (fun w h=>hoa w (Lies.of h (by repeat(first|exact A3|refine A9 ?_)))) ?_;refine .alloc (cs:=(Aa (List.replicate 32 0))) J Ci J ?_;intro n2 hn2 hf2;refine .sA J J J J zE Sz34 (by(simp[lna];done)) Z0 sP zU ?_;refine G3 ?_;refine .drawZ (oP [100,101,2,104,303,205,6,307,208,9]) Ap zK (.lA J J J Y50.h J Sz50 Z1 (Block.length (by exact ha.ok)) ?_);refine .lA J J J Y34.h J Sz34 Z0 (by(simp[lna];done)) ?_;refine .build (cs:=({ Block.zero with fSeq:=1,fPrev:=na }:Block).cells) J J J (fun w=>build_sp 1 na lna w) (.lA J J J Y34.h J Sz34 Z0 (by(simp[lna];done)) ?_);refine .call J J J J Body120 (law19_signed 1 s1B J _ (sp_ok 1 lna) _ Db hDb kitS1 cSb) (BlkV.loose Db hDb) (fun w h=>sp_is w 1 lna) ?_;rintro v10 out10 ⟨Bb,hb,rfl,hob⟩;refine .mkRow2 (z:=agg (Aa (List.replicate 32 0))) [agg (Aa na)] (Aa na) J J Y30.h Sz34 Ci J J (by intro v hv;rw[La1.1 hv];simp[Value.cells,Aa,lna]) dE (by simp[Value.cells,agg]) ?_;intro q12;refine .build (cs:=(bl1 q12).cells) J J J (fun w=>by kernel_rfl) ?_;refine .call J J J J Body120 (law19_signed 2 s2B J (bl1 q12) (bl1_ok q12) _ Dc hDc kitS2 cSc) (BlkV.loose Dc hDc) (fun w h=>bl1_is lna (Am h Z0)) ?_;rintro v14 out14 ⟨Bc,hc,rfl,hoc⟩;refine .mkRow2 (z:=agg Block.zero.cells) [agg Ba.cells,agg Bb.cells,agg Bc.cells] (tri Ba Bb Bc) J J Y22.h Sz50 Block.zr J J (by intro v hv;simp only[Lak,Lbq,or_false]at hv;rcases hv with rfl|rfl|rfl;exact Block.length ha.ok;exact Block.length hb.ok;exact Block.length hc.ok) dE (by simp[Value.cells,agg,tri]) ?_;intro q15;refine G3 ?_;refine G2 ?_;refine Az (out:=(⟨q15,tri Ba Bb Bc,50,(tri Ba Bb Bc).length⟩::(out14++(out10++(out4++[]))))) (Ah J J) (Ab rM (Ag sG (Ag sG (Ag sG Ak)))) ?_;exact⟨q15,Ba,Bb,Bc,_,ha,hb,hc,rfl,rfl,fun W2 hl=>⟨hoa W2 (hl.sub (by repeat(first|exact A3|refine Cr ?_))),hob W2 (hl.sub (by repeat(first|exact A3|refine Cr ?_))),hoc W2 (hl.sub (by repeat(exact A3)))⟩⟩
theorem mA_g:dgood mAD=0:=mA_f.2.2.1
theorem mB_g:dgood mBD=0:=mB_f.2.2.1
theorem mL_g:dgood mLD=0:=mL_f.2.2.1
theorem mA_nm:Bi mAD=mAN:=mA_f.2.1
theorem mB_nm:Bi mBD=mBN:=mB_f.2.1
theorem mL_nm:Bi mLD=mLN:=mL_f.2.1
def cX1:PD:=PD.new.adm mAN mAD
def cX2:PD:=cX1.adm mBN mBD
def cX3:PD:=cX2.adm mLN mLD
theorem c_add1:PD.new.add mAD=(cX1,[mAN],0):=by
  have h:=add_fits (X:=PD.new) mA_g (by rw[mA_nm];kernel_rfl) zK;rw[mA_nm]at h;have e:PD.settle (PD.new.adm mAN mAD).orp.length (PD.new.adm mAN mAD)=(cX1,[]):=by kernel_rfl
  rw[h,e]
theorem c_add2:cX1.add mBD=(cX2,[mBN],0):=by
  have h:=add_fits (X:=cX1) mB_g (by rw[mB_nm];kernel_rfl) zK;rw[mB_nm]at h;have e:PD.settle (cX1.adm mBN mBD).orp.length (cX1.adm mBN mBD)=(cX2,[]):=by kernel_rfl
  rw[h,e]
theorem c_add3:cX2.add mLD=(cX3,[mLN],0):=by
  have h:=add_fits (X:=cX2) mL_g (by rw[mL_nm];kernel_rfl) zK;rw[mL_nm]at h;have e:PD.settle (cX2.adm mLN mLD).orp.length (cX2.adm mLN mLD)=(cX3,[]):=by kernel_rfl
  rw[h,e]
theorem c_fill:fillP PD.new [mAD,mBD,mLD]=cX3:=by
  simp only[fillP,Ld2,Lej,c_add1,c_add2,c_add3]
theorem c_inv:cX3.Inv:=by rw[←c_fill];exact PD.Inv.fill _ PD.Inv.new
theorem c_heads:cX3.heads=[mLN,mBN]:=by kernel_rfl
theorem rB_nil(X:PD)(n:List UInt8):rB X (-1) [] n=false:=by
  cases h:rB X (-1) [] n with
  |false=>rfl
  |true=>exact(reach_nil (rB_iff.1 h)).elim
theorem beneath_nil(X:PD):(beneath X []).length=0:=by
  unfold beneath;rw[Lft.2 fun n _=>by rw[rB_nil];decide];rfl
theorem reach_in(hI:X.Inv)(hn:n∈L)(hD:As X.P n=some D):X.Reach (-1) L n:= .base hn hD (by have:=hI.d0 n D hD;omega)
theorem beneath_pos(hI:X.Inv)(hn:n∈L)(hD:As X.P n=some D):0<(beneath X L).length:=
  List.length_pos_of_mem (Lc2.2 ⟨keys_in hD,rB_iff.2 (reach_in hI hn hD)⟩)
def cutP1(n:List UInt8):DCut:=⟨1,List.replicate 32 0,[n]⟩
def cutP2(n m:List UInt8):DCut:=⟨1,List.replicate 32 0,[n,m]⟩
theorem c_ext1:cX3.ext DCut.zero (List.replicate 32 0) 0 (cutP1 mAN)=0:=by
  have hD:As cX3.P mAN=some mAD:=by kernel_rfl
  have h1:(cutP1 mAN).check=0:=by kernel_rfl
  have h2:missB cX3 (cutP1 mAN).dHeads=false:=by kernel_rfl
  have h3:=beneath_pos c_inv (L:=(cutP1 mAN).dHeads) La7 hD;have h4:=beneath_nil cX3;have h5:parsOf cX3 (cutP1 mAN).dHeads=[]:=by kernel_rfl
  have h6:apartB cX3 (cutP1 mAN).dHeads=true:=by
    unfold apartB;rw[h5,Lez.2 fun n _=>by rw[rB_nil];decide];rfl
  unfold PD.ext;rw[if_neg dE,if_neg (not_not_intro h1),if_neg dE,if_neg dE,if_neg dE,if_neg (by rw[h2];decide),if_neg (by rw[show DCut.zero.dHeads=[]from rfl,h4];omega),if_neg (by rw[h6];decide)];rfl
theorem c_ext2:cX3.ext DCut.zero (List.replicate 32 0) 0 (cutP2 mBN mAN)=4:=by
  have hD:As cX3.P mAN=some mAD:=by kernel_rfl
  have h1:(cutP2 mBN mAN).check=0:=by kernel_rfl
  have h2:missB cX3 (cutP2 mBN mAN).dHeads=false:=by kernel_rfl
  have h5:(parsOf cX3 (cutP2 mBN mAN).dHeads).contains mAN=true:=by kernel_rfl
  have h6:apartB cX3 (cutP2 mBN mAN).dHeads=false:=by
    have ha:((cutP2 mBN mAN).dHeads.any fun h=>rB cX3 (-1) (parsOf cX3 (cutP2 mBN mAN).dHeads) h)=true:=Ld5.2 ⟨mAN,Lah _ La7,rB_iff.2 (reach_in c_inv (by simpa using h5) hD)⟩;unfold apartB;rw[ha];rfl
  unfold PD.ext;rw[if_neg dE,if_neg (not_not_intro h1),if_neg dE,if_neg dE,if_neg dE,if_neg (by rw[h2];decide),if_pos h6];split<;>rfl
theorem chain19_facts:∃(Da Db Dc:DB) (na nb nc:List UInt8) (X:PD),(Da.ok∧Db.ok∧Dc.ok)∧(na.length=32∧nb.length=32∧nc.length=32)∧(Bi Da=na∧Bi Db=nb∧Bi Dc=nc)
    ∧(∀B:Block,B.ok→Meets prog 164 [agg (Aa s1B),agg B.cells] [] (fun W=>BlockIs W B DB.zero) (BlkR 0 Da))∧(∀B:Block,B.ok→Meets prog 164 [agg (Aa s1B),agg B.cells] [] (fun W=>BlockIs W B { DB.zero with seq:=1,prev:=na }) (BlkR 0 Db))∧(∀B:Block,B.ok→Meets prog 164 [agg (Aa s2B),agg B.cells] [] (fun W=>BlockIs W B { DB.zero with ls:=[na] }) (BlkR 0 Dc))∧(∀d∈ [Da,Db,Dc],d.ls.length≤500000∧d.ds.length≤500000)
    ∧fillP PD.new [Da,Db,Dc]=X∧X.nxt0=(⟨1,List.replicate 32 0,[nc,nb]⟩,0)∧¬nc=nb∧Cp nc nb<0∧0<Cp na nb∧X.ext DCut.zero (List.replicate 32 0) 0 (cutP1 na)=0∧X.ext DCut.zero (List.replicate 32 0) 0 (cutP2 nb na)=4:=
  ⟨mAD,mBD,mLD,mAN,mBN,mLN,cX3,⟨mA_f.1,mB_f.1,mL_f.1⟩,⟨mA_len,mB_len,mL_len⟩,⟨mA_nm,mB_nm,mL_nm⟩,mA_f.2.2.2,mB_f.2.2.2,mL_f.2.2.2,
    (fun d hd=>by simp only[Lak,Lbq,or_false]at hd;rcases hd with rfl|rfl|rfl<;>exact of_decide_eq_true zK),c_fill,by unfold PD.nxt0;rw[c_heads];rfl,of_decide_eq_true zK,of_decide_eq_true zK,of_decide_eq_true zK,c_ext1,c_ext2⟩
theorem cut_ext_at(x:DD)(hx:x.ok)(hI:x.pl.Inv)(p:Nat)(C:Cut)(D:DCut)(e:Int)(he:x.pl.ext DCut.zero (List.replicate 32 0) 0 D=e):Mv 38 [ptr p 0, .slice none 0 0,agg C.cells] (fun W=>Lies (x.blks p) W∧CutIs W C D) (i64 e):=
  (cut_extends x hx hI p Sl.nil [] [] C D).imp (fun w h=>⟨h.1,SeqIs.none,h.2⟩) fun v out h=>by rw[←he];exact h
theorem rows_sees{W:World}{s:Sl}{ls:List (List UInt8)}{b o:Nat}(h:RowsAt W s 32 ls)(hp:s.p=some ⟨b,o,none⟩){k:Nat}(hk:k<ls.length):Sees W b (o+k*32) (Aa (ls.getD k [])):=
  B0 h.row (fun j v hj=>by obtain⟨b',o',e,e2⟩:=h.see j v hj;rw[hp]at e;cases e;exact e2) hk
theorem row_two{a b:List UInt8}(ha:a.length=32)(hb:b.length=32)(h:Sees w q 0 (Au [a,b])):RowsAt w ⟨some ⟨q,0,none⟩,2,2⟩ 32 [a,b]:=⟨rfl,two_32 ha hb,Lac 2,SeesP.of h,(by show 2≤maxLen;decide),fun e=>by cases e⟩
def cutQ(q n:Nat):Cut:={ Cut.zero with fHeight:=1,fHeads:=⟨some ⟨q,0,none⟩,n,n⟩ }
theorem cutQ_ok(q n:Nat):(cutQ q n).ok:=⟨rfl⟩
theorem law19_lives  :Mv 28 [] (fun _=>True) (.bool true):=by
 intro W hW;obtain⟨Da,Db,Dc,na,nb,nc,X,⟨hDa,hDb,hDc⟩,⟨lna,lnb,lnc⟩,⟨hna,hnb,hnc⟩,cSa,cSb,cSc,hsm,hfill,hnx,hne,hcb,hab,hx1,hx2⟩:=chain19_facts;refine Ac func28 J 93 ntmps28 J (G7 ?_);refine .call4 J J J J J Body53 (law19_chain Da Db Dc na hDa hDb hDc lna hna cSa cSb cSc) tV ?_;rintro v9 out9 ⟨q,Ba,Bb,Bc,bl,ha,hb,hc,rfl,rfl,hch⟩;have cNa:=r15_Name Ba Da ha.ok;have cNb:=r15_Name Bb Db hb.ok;have cNc:=r15_Name Bc Dc hc.ok;rw[hna]at cNa;rw[hnb]at cNb;rw[hnc]at cNc;refine G6 ?_;refine .call4 J J J J J Body30 (law19_filled ⟨some ⟨q,0,none⟩,3,3⟩ [Da,Db,Dc] (by show 3≤1000;omega) hsm) (fun w h=>tri_blocks (own_blk (B:=⟨q,tri Ba Bb Bc,50,(tri Ba Bb Bc).length⟩) h Z0) (hch w (Lies.of h (by repeat(first|exact A3|refine A9 ?_))))) ?_;rintro v11 out11 ⟨p,x,rfl,rfl,hx,hplx,hnx2⟩;have hI:x.pl.Inv:=by rw[hplx];exact PD.Inv.fill _ PD.Inv.new
 rw[hfill]at hplx;rw[←hplx]at hnx hx1 hx2;refine G4 ?_
 try simp only[Laj,Lad,La8]
 refine .withK (sp_x (sp_k (sp_x sp_n))) J (.draw (oP [0,1,2,4,5,6,8,9,10,303,307,311,212,213,214,415,416,417]) Ap zK ?_)
 try simp only[Laj,Lad,La8]
 refine G1 ?_;refine .idxSlP 131 J J J J J Y22.h Sz50 0 J dE (.kloadSN (n:=131) Ba.cells J J J Y50.h J Sz50 (Block.length ha.ok) (fun w h=>(tri_sees ha.ok hb.ok hc.ok (h ⟨q,tri Ba Bb Bc,50,(tri Ba Bb Bc).length⟩ (by simp[Cx.with]))).1) ?_);refine G1 ?_;refine .idxSlP 131 J J J J J Y22.h Sz50 1 J dE (.kloadSN (n:=131) Bb.cells J J J Y50.h J Sz50 (Block.length hb.ok) (fun w h=>(tri_sees ha.ok hb.ok hc.ok (h ⟨q,tri Ba Bb Bc,50,(tri Ba Bb Bc).length⟩ (by simp[Cx.with]))).2.1) ?_);refine G1 ?_;refine .idxSlP 131 J J J J J Y22.h Sz50 2 J dE (.kloadSN (n:=131) Bc.cells J J J Y50.h J Sz50 (Block.length hc.ok) (fun w h=>(tri_sees ha.ok hb.ok hc.ok (h ⟨q,tri Ba Bb Bc,50,(tri Ba Bb Bc).length⟩ (by simp[Cx.with]))).2.2) ?_);refine .cV J J J J Body54 (cNa) (fun w h=>(hch w (Lies.of h (by repeat(first|exact A3|refine A9 ?_|refine Cr ?_)))).1) ?_;refine .cV J J J J Body54 (cNb) (fun w h=>(hch w (Lies.of h (by repeat(first|exact A3|refine A9 ?_|refine Cr ?_)))).2.1) ?_;refine .cV J J J J Body54 (cNc) (fun w h=>(hch w (Lies.of h (by repeat(first|exact A3|refine A9 ?_|refine Cr ?_)))).2.2) ?_;refine .alloc (cs:=(Aa (List.replicate 32 0))) J Ci J ?_;intro n3 hn3 hf3;refine .alloc (cs:=(Aa (List.replicate 32 0))) J Ci J ?_;intro n4 hn4 hf4;refine .alloc (cs:=(Aa (List.replicate 32 0))) J Ci J ?_;intro n5 hn5 hf5;refine .sA J J J J zE Sz34 (by(simp[lna];done)) Z2 sP (by exact upd2) ?_;refine .sA J J J J zE Sz34 (by(simp[lnb];done)) Z1 sP zV ?_;refine .sA J J J J zE Sz34 (by(simp[lnc];done)) Z0 sP zU ?_;refine G4 ?_
 try simp only[Laj,Lad,La8]
 refine G1 ?_;refine .call4 J J J J J Body32 (cut_next0 x hx hI p) (fun w h=>Lies.of h (by repeat(first|exact A3|refine A9 ?_))) ?_;rintro v26 out26 ⟨C6,ok6,rfl,hC6⟩;rw[hnx]at hC6 ⊢;simp only at hC6 ⊢;refine G3 ?_;refine .alloc (cs:=Cut.zero.cells) J Cut.zr J ?_;intro n6 hn6 hf6;refine .sA J J J J (Cut.isCell (by exact ok6)) Sz57 (Cut.length (by exact ok6)) Z0 (Cut.length (by exact Cut.zero_ok)) zU ?_;refine G5 ?_;refine .know (F:=C6.fHeight=1∧C6.fHeads.n=2∧∃b o,C6.fHeads.p=some ⟨b,o,none⟩) (fun w h=>by have h9:=hC6 w (Lies.of h (by repeat(first|exact A3|refine A9 ?_)));obtain⟨b,o,e,_⟩:=h9.fHeads.see.at (by rw[Ay h9.fHeads.row];show 0<2*32;decide);exact⟨h9.fHeight,h9.fHeads.len.symm,b,o,e⟩) (fun hk=>?_);obtain⟨hkh,hkn,b6,o6,hp6⟩:=hk;have see0:∀w,Lies out26 w→Sees w b6 (o6+0*32) (Aa nc):=fun w hw=>rows_sees (hC6 w hw).fHeads hp6 (k:=0) (by show 0<2;decide);have see1:∀w,Lies out26 w→Sees w b6 (o6+1*32) (Aa nb):=fun w hw=>rows_sees (hC6 w hw).fHeads hp6 (k:=1) (by show 1<2;decide);refine .draw (oP [0,1,2,3,104,5,6,7,8,109,10,11,12,13,14,115,16,117,118,19,20,21,122,23,124,125,26,27,28,29,30,131,32,133,34,135,36,137,338,39,40]) Ap zK ?_
 try simp only[Laj,Lad,La8]
 refine G1 ?_;refine .nei J J J J (show(!decide _)=false from congrArg not (decide_eq_true (rfl))) (G2 ?_);refine .load1 J J J Y45.h J Z0 (by exact Cut.get_fHeight (by exact ok6)) ?_;refine .nei J J J J (show(!decide _)=false from congrArg not (decide_eq_true (by rw[hkh];rfl))) ?_;refine G3 ?_;refine .load1 J J J Y30.h J Z0 (by exact Cut.get_fHeads (by exact ok6)) ?_;refine G1 ?_;refine .nei J J J J (show(!decide _)=false from congrArg not (decide_eq_true (by rw[hkn];rfl))) ?_;refine G3 ?_;refine .load1 J J J Y30.h J Z0 (by exact Cut.get_fHeads (by exact ok6)) ?_;refine .idxSlP 32 J J J hp6 J Y30.h Sz34 0 J oM (.loadSN (n:=32) (Aa nc) J J J Y34.h J Sz34 (by rw[Aa,La0];exact lnc) (fun w h=>see0 w (Lies.of h (by repeat(first|exact A3|refine A9 ?_)))) ?_);refine .lA J J J Y34.h J Sz34 mR (by(simp[lnb];done)) ?_;refine .neq_bytes J J J J eqGuardType34 Y34.h Y5.h Sz5 (by(simp[lnc];done)) (by(simp[lnb];done)) (show(!decide _)=true from congrArg not (decide_eq_false (hne))) ?_;refine G2 ?_;refine .load1 J J J Y30.h J Z0 (by exact Cut.get_fHeads (by exact ok6)) ?_;refine .idxSlP 32 J J J hp6 J Y30.h Sz34 0 J oM (.loadSN (n:=32) (Aa nc) J J J Y34.h J Sz34 (by rw[Aa,La0];exact lnc) (fun w h=>see0 w (Lies.of h (by repeat(first|exact A3|refine A9 ?_)))) ?_);refine .lA J J J Y34.h J Sz34 mR (by(simp[lnc];done)) ?_;refine .neq_bytes J J J J eqGuardType34 Y34.h Y5.h Sz5 (by(simp[lnc];done)) (by(simp[lnc];done)) (show(!decide _)=false from congrArg not (decide_eq_true (rfl))) ?_;refine G4 ?_;refine .load1 J J J Y30.h J Z0 (by exact Cut.get_fHeads (by exact ok6)) ?_;refine .idxSlP 32 J J J hp6 J Y30.h Sz34 0 J oM (.loadSN (n:=32) (Aa nc) J J J Y34.h J Sz34 (by rw[Aa,La0];exact lnc) (fun w h=>see0 w (Lies.of h (by repeat(first|exact A3|refine A9 ?_)))) ?_);refine G1 ?_;refine .load1 J J J Y30.h J Z0 (by exact Cut.get_fHeads (by exact ok6)) ?_;refine .idxSlP 32 J J J hp6 J Y30.h Sz34 1 J oM (.loadSN (n:=32) (Aa nb) J J J Y34.h J Sz34 (by rw[Aa,La0];exact lnb) (fun w h=>see1 w (Lies.of h (by repeat(first|exact A3|refine A9 ?_)))) ?_);refine .cV J J J J Body25 (r15_cmp nc nb lnc lnb) tV (.geq J J J J (decide_eq_false oM) (G3 ?_));refine .cond_f J J (G4 ?_)
 try simp only[Laj,Lad,La8]
 refine .lA J J J Y34.h J Sz34 mR (by(simp[lna];done)) ?_;refine .lA J J J Y34.h J Sz34 mR (by(simp[lnb];done)) ?_;refine .mkRow (z:=agg (Aa (List.replicate 32 0))) [agg (Aa na),agg (Aa nb)] (Au [na,nb]) J J J Y30.h Sz34 Ci J J (by intro v hv;simp only[Lak,Lbq,or_false]at hv;rcases hv with rfl|rfl<;>simp[Value.cells,Aa,lna,lnb]) dE (by simp[Value.cells,agg,Au]) ?_;intro q72;refine G6 ?_;refine .lA J J J Y34.h J Sz34 mR (by(simp[lna];done)) ?_;refine .lA J J J Y34.h J Sz34 mR (by(simp[lnb];done)) ?_;refine .cV J J J J Body25 (r15_cmp na nb lna lnb) tV (.gtr J J J J (decide_eq_true oM) (G2 ?_));refine .cond_t J J (.region (.lA J J J Y34.h J Sz34 mR (by(simp[lnb];done)) ?_));refine .lA J J J Y34.h J Sz34 mR (by(simp[lna];done)) ?_;refine .mkRow (z:=agg (Aa (List.replicate 32 0))) [agg (Aa nb),agg (Aa na)] (Au [nb,na]) J J J Y30.h Sz34 Ci J J (by intro v hv;simp only[Lak,Lbq,or_false]at hv;rcases hv with rfl|rfl<;>simp[Value.cells,Aa,lna,lnb]) dE (by simp[Value.cells,agg,Au]) ?_;intro q79;refine G5 ?_
 try simp only[Laj,Lad,La8]
 refine G1 ?_;refine .lA J J J Y34.h J Sz34 mR (by(simp[lna];done)) ?_;refine .mkRow (z:=agg (Aa (List.replicate 32 0))) [agg (Aa na)] (Au [na]) J J J Y30.h Sz34 Ci J J (by intro v hv;simp only[Lak,Lbq,or_false]at hv;rcases hv with rfl<;>simp[Value.cells,Aa,lna]) dE (by simp[Value.cells,agg,Au]) ?_;intro q82;refine .build (cs:=(cutQ q82 1).cells) J J J (fun w=>by kernel_rfl) ?_;refine .cV J J J J Body38 (cut_ext_at x hx hI p (cutQ q82 1) (cutP1 na) 0 hx1) (fun w h=>⟨Lies.of h (by repeat(first|exact A3|refine A9 ?_|refine Cr ?_)),cutQ_ok _ _,rfl,rfl,row_one lna (by have h9:=Am (cs:=Au [na]) h Z0;simpa[Au]using h9)⟩) ?_;refine .eqi J J J J (decide_eq_true (rfl)) (G3 ?_);refine .build (cs:=(cutQ q79 2).cells) J J J (fun w=>by kernel_rfl) ?_;refine .cV J J J J Body38 (cut_ext_at x hx hI p (cutQ q79 2) (cutP2 nb na) 4 hx2) (fun w h=>⟨Lies.of h (by repeat(first|exact A3|refine A9 ?_|refine Cr ?_)),cutQ_ok _ _,rfl,rfl,row_two lnb lna (Am h Z1)⟩) ?_;refine .eqi J J J J (decide_eq_true (rfl)) (G4 ?_);refine G2 ?_;refine Az (out:=[]) (Ah J J) Ak ?_;exact⟨rfl,rfl⟩
end Go.Proofs.YtpogmfngccolbaaGreat
namespace Go.Proofs.YtpogmfngccolbaaGreat
open Go Hw _root_.Go.Proofs.Tryz
def sameC(a b:DCut):Bool:=decide ((a.dHeight.toNat:Int)=(b.dHeight.toNat:Int))&&(decide (a.dPrev=b.dPrev)&&decide (a.dHeads=b.dHeads))
variable{D:Type}{X:PD}{ds:List DCut}{k q:Nat}{w:World}{f:D→D→Bool}{xs ys:List D}
theorem cuts_one{C:Cut}{D:DCut}(hs:Sees w q 0 C.cells)(h:CutIs w C D):CutsAt w ⟨some ⟨q,0,none⟩,1,1⟩ [D]:=by
  refine⟨[C],rfl,rfl,fun i r d hr hd=>?_,fun r hr=>?_,Lac 1,SeesP.of (by simpa using hs),(by show 1≤maxLen;decide),fun e=>by cases e⟩
  · rcases i with _|i
    ·cases hr;cases hd;exact h
    ·cases hr
  ·rw[La1.1 hr];exact Cut.length h.ok
theorem cuts_two{A B:Cut}{a b:DCut}(hs:Sees w q 0 (A.cells++B.cells))(h:CutIs w A a)(h2:CutIs w B b):CutsAt w ⟨some ⟨q,0,none⟩,2,2⟩ [a,b]:=by
  refine⟨[A,B],rfl,rfl,fun i r d hr hd=>?_,fun r hr=>?_,Lac 2,SeesP.of (by simpa using hs),(by show 2≤maxLen;decide),fun e=>by cases e⟩
  · rcases i with _|_|i
    ·cases hr;cases hd;exact h
    ·cases hr;cases hd;exact h2
    ·cases hr
  · rcases Lak.1 hr with e|e
    ·rw[e];exact Cut.length h.ok
    ·rw[La1.1 e];exact Cut.length h2.ok
def sameL{D:Type}(f:D→D→Bool)(xs ys:List D):Bool:=decide (xs.length=ys.length)&&(xs.zip ys).all fun p=>f p.1 p.2
theorem sameL_yes(hl:xs.length=ys.length)(h:∀(j:Nat) (a b:D),j<xs.length→xs[j]? =some a→ys[j]? =some b→f a b=true):sameL f xs ys=true:=by
  have e:((xs.zip ys).all fun p=>f p.1 p.2)=true:=by
    rw[Lbu];rintro⟨a,b⟩ hm;obtain⟨j,hj⟩:=Lf3 hm;obtain⟨h1,h2⟩:=List.getElem?_zip_eq_some.1 hj;exact h j a b (Laf.1 h1).1 h1 h2
  rw[sameL,e,decide_eq_true hl];rfl
theorem sameL_no{a b:D}(ha:xs[k]? =some a)(hb:ys[k]? =some b)(h:f a b=false):sameL f xs ys=false:=by
  have e:((xs.zip ys).all fun p=>f p.1 p.2)=false:=by
    rw[List.all_eq_false];exact⟨(a,b),Lck (List.getElem?_zip_eq_some.2 ⟨ha,hb⟩),by rw[h];simp⟩
  rw[sameL,e,Bool.and_false]
theorem sameL_len(h:¬xs.length=ys.length):sameL f xs ys=false:=by rw[sameL,decide_eq_false h];rfl
theorem lin_eq(p q:Option Addr)(n m c1 c2:Nat)(xs ys:List (List UInt8))(hx:∀l∈xs,l.length=32)(hy:∀l∈ys,l.length=32)(h1:xs.length=n)(h2:ys.length=m)(hn:n≤1000000):Mv 51 [.slice p n c1, .slice q m c2] (fun W=>SeesP W p (Au xs)∧SeesP W q (Au ys)) (.bool (decide (xs=ys))):=by
 intro W hW;refine Ac func51 J 8 ntmps51 J (G9 ?_);refine .cV J J J J Body118 (seq_any p q n m c1 c2 xs ys hx hy h1 h2 hn) (fun w h=>⟨A2 h J hW.1,A2 h J hW.2⟩) (G3 ?_);refine G2 ?_;refine⟨_,[],Ah J J,sP,sP,?_,rfl⟩;rfl
theorem cut_same(A B:Cut)(a b:DCut)(hn:A.fHeads.n≤1000000):Mv 75 [agg A.cells,agg B.cells] (fun W=>CutIs W A a∧CutIs W B b) (.bool (sameC a b)):=by
 intro W hW;have hA:=hW.1.ok;have hB:=hW.2.ok;have e1:=hW.1.fHeight;have e2:=hW.2.fHeight;have e3:=hW.1.fPrev;have e4:=hW.2.fPrev;refine Ac func75 J 24 ntmps75 J (G3 ?_);intro n2 hn2 hf2;refine G1 ?_;intro n3 hn3 hf3;refine G9 ?_;refine two (fun r hr k=>Tr.eqi J J J J hr k) (fun hs1_40=>?_) (fun hs1_40=>?_)
 ·
  have hs1_4:=of_decide_eq_true hs1_40;refine G2 ?_;refine .lN (Aa _) J J J Y34.h J Sz34 Z1 (Cut.row_fPrev zA) (Cut.rl_fPrev zA) ?_;refine G1 ?_;refine .lN (Aa _) J J J Y34.h J Sz34 Z0 (Cut.row_fPrev zA) (Cut.rl_fPrev zA) ?_;refine two (fun r hr k=>Tr.eql_bytes J J J J eqGuardType34 Y34.h Y5.h Sz5 (by(simp[hA.l_fPrev];done)) (by(simp[hB.l_fPrev];done)) hr k) (fun hs1_100=>?_) (fun hs1_100=>?_)
  ·
   have hs1_10:=of_decide_eq_true hs1_100;refine G6 ?_;refine .cV J J J J Body51 (lin_eq _ _ _ _ _ _ a.dHeads b.dHeads hW.1.fHeads.row hW.2.fHeads.row hW.1.fHeads.len hW.2.fHeads.len hn) (fun w h=>⟨A2 h J hW.1.fHeads.see,A2 h J hW.2.fHeads.see⟩) (G4 ?_);refine G2 ?_;refine⟨_,[],Ah J J,sP,sP,?_,rfl⟩;unfold sameC;simp_all
  have hs1_10:=of_decide_eq_false hs1_100;refine G11 ?_;refine G2 ?_;refine⟨_,[],Ah J J,sP,sP,?_,rfl⟩;unfold sameC;simp_all
 have hs1_4:=of_decide_eq_false hs1_40;refine G17 ?_;refine G2 ?_;refine⟨_,[],Ah J J,sP,sP,?_,rfl⟩;unfold sameC;simp_all
theorem eqfg_cut(s u:Sl)(xs ys:List DCut)(hsm:∀d∈xs,d.dHeads.length≤1000000):Mv 163 [s.v,u.v, .func (.func 75) #[] #[]] (fun W=>CutsAt W s xs∧CutsAt W u ys) (.bool (sameL sameC xs ys)):=by
 intro W hW;obtain⟨⟨rs,hs⟩,⟨ru,hu⟩⟩:=hW;have hnd:=hs.nd;have hnu:=hu.nd;have hmax:=hs.max;have hmaxu:=hu.max;simp only[maxLen]at hmax hmaxu;refine Ac func163 J 32 ntmps163 J (G15 ?_);refine .condNP J (fun hc0=>?_) (fun hc0=>?_)
 ·
  refine G5 ?_;refine G3 ?_;refine⟨_,[],Ah J J,sP,sP,?_,rfl⟩;exact congrArg Value.bool (sameL_len (by rw[hnd,hnu];omega)).symm
 refine G11 ?_;refine .loop (ι:=Nat) (fun k=>⟨[(1,u.v),(2, .func (.func 75) #[] #[]),(15,s.v),(16,i64 (s.n:Int)),(17,i64 (k:Int))],[]⟩) (fun k=>k≤s.n∧s.n=u.n∧∀(j:Nat) (a b:DCut),j<k→xs[j]? =some a→ys[j]? =some b→sameC a b=true) (fun k=>s.n-k) (0) ?_ ?_ ?_
 ·exact⟨by omega,by omega,fun j a b hj=>by omega⟩
 ·exact Ad wN wh0 nD
 rintro k ⟨hk,hsu,hg⟩;refine G6 ?_;refine .condP J (fun hc1=>?_) (fun hc1=>?_)
 ·
  have hk2:k<s.n:=by omega
  obtain⟨b,o,r,d,hsp,hr,hd,his,hlen,hsee⟩:=hs.at dE hk2;obtain⟨b2,o2,r2,d2,hspu,hru,hdu,hiu,hlenu,hseeu⟩:=hu.at dE (show k<u.n by omega);refine G7 ?_;refine .idxSlP 34 J J J hsp J Y55.h Sz57 k J oM (.loadEN r.cells J J J Y57.h J Sz57 sP hlen hsee (.alloc (cs:=Cut.zero.cells) J Cut.zr J ?_));intro n8 hn8 hf8;refine G1 ?_;refine .sA J J J J (Cut.isCell (by exact his.ok)) Sz57 (Cut.length (by exact his.ok)) Z0 (Cut.length (by exact Cut.zero_ok)) zU ?_;refine G6 ?_;refine .idxSlP 34 J J J hspu J Y55.h Sz57 k J oM (.loadEN r2.cells J J J Y57.h J Sz57 sP hlenu hseeu (.alloc (cs:=Cut.zero.cells) J Cut.zr J ?_));intro n9 hn9 hf9;refine .sA J J J J (Cut.isCell (by exact hiu.ok)) Sz57 (Cut.length (by exact hiu.ok)) Z0 (Cut.length (by exact Cut.zero_ok)) zU ?_;refine G5 ?_;refine .lA J J J Y57.h J Sz57 Z1 (Cut.length (by exact his.ok)) ?_;refine .lA J J J Y57.h J Sz57 Z0 (Cut.length (by exact hiu.ok)) ?_;refine .cV J J J J Body75 (cut_same r r2 d d2 (by rw[←his.fHeads.len];exact hsm d (Lck hd))) (fun w h=>⟨his.ext h J,hiu.ext h J⟩) ?_;refine G3 ?_;refine .cond J (fun hc2=>?_) (fun hc2=>?_)
  ·
   refine G5 ?_;refine G7 ?_;refine⟨_,[],Ah J J,sP,sP,?_,rfl⟩;exact congrArg Value.bool (sameL_no hd hdu (by simp_all;done)).symm
  refine G8 ?_;exact⟨k+1,⟨by omega,hsu,fun j a b hj ha hb=>by rcases Lca.1 hj with h|rfl;exact hg j a b h ha hb;exact(by rw[hd]at ha;rw[hdu]at hb;cases ha;cases hb;simp_all)⟩,by omega,Ad (wk1 rfl (wk1 rfl (wk1 rfl (wk1 rfl (wk1 (by rw[Lcu];rfl) wk0))))) wh0 nD⟩
 obtain rfl:k=s.n:=by omega
 refine G10 ?_;refine G2 ?_;refine⟨_,[],Ah J J,sP,sP,?_,rfl⟩;exact congrArg Value.bool (sameL_yes (by rw[hnd,hnu];omega) (by rw[hnd];exact hg)).symm
theorem seq_takeC{R D:Type}{cells:R→List Value}{Is:World→R→D→Prop}{W:World}{s:Sl}{rs:List R}{ds:List D}(h:SeqIs cells k Is W s rs ds)(j:Nat)(hj:j≤s.n):SeqIs cells k Is W ⟨s.p,j,s.c⟩ (rs.take j) (ds.take j):=by
  refine⟨by rw[Lag,h.nr];exact Lc6 hj,by rw[Lag,h.nd];exact Lc6 hj,fun i r d h1 h2=>?_,fun r hr=>h.len r (Lbp hr),Lbm hj h.cap,?_,Lbm hj h.max,h.nil⟩
  · rw[Lbh]at h1 h2
    split at h1
    · rename_i hi
      rw[if_pos hi]at h2;exact h.is i r d h1 h2
    ·cases h1
  · intro i v hv
    refine h.see i v ?_;have e:(rs.map cells).flatten=((rs.take j).map cells).flatten++((rs.drop j).map cells).flatten:=by rw[←Lcx,←Lai,Lcd]
    rw[e,Law (Laf.1 hv).1];exact hv
theorem cut_begins(s u:Sl)(xs ys:List DCut)(hsm:∀d∈xs,d.dHeads.length≤1000000):Mv 117 [s.v,u.v, .func (.func 75) #[] #[]] (fun W=>CutsAt W s xs∧CutsAt W u ys) (.bool (sameL sameC (xs.take (min s.n u.n)) (ys.take (min s.n u.n)))):=by
 intro W hW;obtain⟨⟨rs,hs⟩,⟨ru,hu⟩⟩:=hW;have hcs:=hs.cap;have hcu:=hu.cap;refine Ac func117 J 21 ntmps117 J (G11 ?_);refine .min2 J J J J (congrArg i64 (show(if(u.n:Int)<(s.n:Int)then(u.n:Int)else(s.n:Int))=((min s.n u.n:Nat):Int)from(by split<;>omega))) ?_;refine G4 ?_;refine .draw (oP [0,1,2,3,4,5,6,307,8]) Ap zK (G2 ?_);refine .sliceHiA s (min s.n u.n) J J J J J oM Y55.h Sz57 (G2 ?_);refine .sliceHiA u (min s.n u.n) J J J J J oM Y55.h Sz57 (G1 ?_);refine .cV J J J J Body163 (eqfg_cut ⟨s.p,min s.n u.n,s.c⟩ ⟨u.p,min s.n u.n,u.c⟩ (xs.take (min s.n u.n)) (ys.take (min s.n u.n)) (fun d hd=>hsm d (Lbp hd))) (fun w h=>⟨Cuts_ext h J ⟨_,seq_takeC hs _ oM⟩,Cuts_ext h J ⟨_,seq_takeC hu _ oM⟩⟩) (G3 ?_);refine G2 ?_;refine⟨_,[],Ah J J,sP,sP,?_,rfl⟩;rfl
theorem cut_prefix(s u:Sl)(xs ys:List DCut)(hsm:∀d∈xs,d.dHeads.length≤1000000):Mv 48 [s.v,u.v] (fun W=>CutsAt W s xs∧CutsAt W u ys) (.bool (sameL sameC (xs.take (min s.n u.n)) (ys.take (min s.n u.n)))):=by
 intro W hW;refine Ac func48 J 8 ntmps48 J (G9 ?_);refine .cV J J J J Body117 (cut_begins s u xs ys hsm) (fun w h=>⟨Cuts_ext h J hW.1,Cuts_ext h J hW.2⟩) (G3 ?_);refine G2 ?_;refine⟨_,[],Ah J J,sP,sP,?_,rfl⟩;rfl
noncomputable def extAt(X:PD)(ds:List DCut)(i:Nat):Int:=X.ext (lastD (ds.take i)) (lastN (ds.take i)) (lastE (ds.take i)) (ds.getD i DCut.zero)
noncomputable def chainV(X:PD)(ds:List DCut):Int:=(((List.range ds.length).map (extAt X ds)).find? (· !=0)).getD 0
theorem chain_none(h:∀j,j<ds.length→extAt X ds j=0):chainV X ds=0:=by
  unfold chainV;rw[Leo.2]
  ·rfl
  · intro x hx
    obtain⟨j,hj,rfl⟩:=La9.1 hx;rw[h j (Lcb.1 hj)];decide
theorem chain_at{e:Int}(h:∀j,j<k→extAt X ds j=0)(hk:k<ds.length)(he:extAt X ds k=e)(h0:¬e=0):chainV X ds=e:=by
  unfold chainV;have e1:List.range ds.length=List.range k++k::(List.range (ds.length-(k+1))).map (k+1+ ·):=by
    rw[show ds.length=(k+1)+(ds.length-(k+1)) by omega,List.range_add,List.range_succ,La8];simp
  rw[e1,Lai,List.find?_append,Leo.2,Lam,he,List.find?_cons_of_pos (by simpa using h0)]
  ·rfl
  · intro x hx
    obtain⟨j,hj,rfl⟩:=La9.1 hx;rw[h j (Lcb.1 hj)];decide
theorem extAt_eq{d:DCut}(h:ds[k]? =some d):extAt X ds k=X.ext (lastD (ds.take k)) (lastN (ds.take k)) (lastE (ds.take k)) d:=by
  unfold extAt;rw[La2,h];rfl
theorem cut_chain(x:DD)(hx:x.ok)(hI:x.pl.Inv)(p:Nat)(s:Sl)(rs:List Cut)(ds:List DCut):Mv 36 [ptr p 0,s.v] (fun W=>Lies (x.blks p) W∧CutsIn W s rs ds) (i64 (chainV x.pl ds)):=by
 intro W hW;have hck:∀q∈x.P,q.2.check=0:=hI.ck;have h16:∀q∈x.P,q.2.ls.length≤16:=fun q hq=>(ck_small (hck q hq)).1;have hnd:=hW.2.nd;have hnr:=hW.2.nr;have hcap:=hW.2.cap;have hmax:=hW.2.max;simp only[maxLen]at hmax;refine Ac func36 J 27 ntmps36 J (G9 ?_);refine .cV J J J J Body86 (cut_none x hx h16 p) (fun w h=>Bm hW.1 h) (G2 ?_);refine .cond_f J J (G11 ?_);refine .loop (ι:=Nat) (fun k=>⟨[(0,ptr p 0),(1,s.v),(4,i64 0),(10,s.v),(11,i64 (s.n:Int)),(12,i64 (k:Int))],[]⟩) (fun k=>k≤s.n∧∀j,j<k→extAt x.pl ds j=0) (fun k=>s.n-k) (0) ?_ ?_ ?_
 ·exact⟨Lar _,fun j hj=>absurd hj (Le9 _)⟩
 ·exact Aq wN Ak
 rintro k ⟨hk,hg⟩;refine G6 ?_;refine .condP J (fun hc1=>?_) (fun hc1=>?_)
 ·
  have hk2:k<s.n:=by omega
  obtain⟨b,o,r,d,hsp,hr,hd,his,hlen,hsee⟩:=hW.2.at dE hk2;refine G7 ?_;refine .idxSlP 34 J J J hsp J Y55.h Sz57 k J oM (.loadEN r.cells J J J Y57.h J Sz57 sP hlen hsee (.alloc (cs:=Cut.zero.cells) J Cut.zr J ?_));intro n6 hn6 hf6;refine G1 ?_;refine .sA J J J J (Cut.isCell (by exact his.ok)) Sz57 (Cut.length (by exact his.ok)) Z0 (Cut.length (by exact Cut.zero_ok)) zU ?_;refine G3 ?_;refine .draw (oP [0,1,2,3,104,305,6]) Ap zK (G3 ?_);refine .sliceHiA s k J J J J J oM Y55.h Sz57 (.lA J J J Y57.h J Sz57 Z0 (Cut.length (by exact his.ok)) ?_);refine .cV J J J J Body38 (cut_extends x hx hI p ⟨s.p,k,s.c⟩ (rs.take k) (ds.take k) r d) (fun w h=>⟨Bm hW.1 h,seq_takeC (hW.2.ext h J fun r d hd=>hd.ext h J) k oM,his.ext h J⟩) (G9 ?_);refine .condNP J (fun hc2=>?_) (fun hc2=>?_)
  ·
   refine G6 ?_;refine G7 ?_;refine⟨_,[],Ah J J,sP,sP,?_,rfl⟩;exact congrArg i64 (chain_at hg oM (extAt_eq hd) hc2).symm
  refine G8 ?_;exact⟨k+1,⟨by omega,fun j hj=>by rcases Lca.1 hj with h|rfl;exact hg j h;rw[extAt_eq hd];simpa using hc2⟩,by omega,Aq wN Ak⟩
 obtain rfl:k=s.n:=by omega
 refine G10 ?_;refine G2 ?_;refine⟨_,[],Ah J J,sP,sP,?_,rfl⟩;exact congrArg i64 (chain_none fun j hj=>hg j oM).symm
open Ed
variable{D:DB}{L:List (List UInt8)}{e:Int}{n:List UInt8}
theorem reach_sub{X:PD}{a:Int}{L S:List (List UInt8)}(hL:∀n∈L,n∈S)(hp:∀n∈S,∀D,As X.P n=some D→∀m∈Ca D,m∈S)(h:X.Reach a L n):n∈S:=by
  induction h with
  |base h1 _ _=>exact hL _ h1
  |step _ hP hn _ _ ih=>exact hp _ ih _ hP _ hn
def cutA:DCut:=cutP1 mAN
noncomputable def cutB:DCut:=⟨2,cnameD cutA,[mLN,mBN]⟩
def d1B:List UInt8:=1::List.replicate 31 0
theorem d1_len:d1B.length=32:=rfl
theorem cutA_ck:cutA.check=0:=by kernel_rfl
theorem cutA_nz:¬cnameD cutA=(List.replicate 32 0):=by
  have h:cnameD cutA=(sumUp ((allN kN siN cutA.bytes).map UInt64.ofNat) 64).take 32:=by unfold cnameD;rw[if_pos cutA_ck,sha256_N]
  rw[h];exact of_decide_eq_true zK
theorem cutB_ck:cutB.check=0:=by
  have h1:cheadB cutB.dHeight cutB.dPrev cutB.dHeads.length=false:=by
    show cheadB 2 (cnameD cutA) 2=false;have hd:decide (cnameD cutA=(List.replicate 32 0))=false:=decide_eq_false cutA_nz;unfold cheadB;rw[hd];rfl
  exact cut_good (by rw[h1];decide) (by show headsBad [mLN,mBN]=false;kernel_rfl)
theorem hA3:As cX3.P mAN=some mAD:=by kernel_rfl
theorem hB3:As cX3.P mBN=some mBD:=by kernel_rfl
theorem hL3:As cX3.P mLN=some mLD:=by kernel_rfl
theorem pA3:Ca mAD=[]:=by kernel_rfl
theorem pL3:Ca mLD=[mAN]:=by kernel_rfl
theorem ld_self(h:As cX3.P n=some D):ldB cX3 n n=true:=rB_iff.2 (reach_in c_inv La7 h)
theorem reach_par{n m:List UInt8}{D E:DB}(hn:n∈L)(hD:As cX3.P n=some D)(hm:m∈Ca D)(hE:As cX3.P m=some E):cX3.Reach (-1) L m:= .step (reach_in c_inv hn hD) hD hm hE (by have:=c_inv.d0 m E hE;omega)
theorem ldLA:ldB cX3 mAN mLN=true:=rB_iff.2 (reach_par La7 hL3 (by rw[pL3];exact La7) hA3)
theorem ldLB:ldB cX3 mBN mLN=false:=by
  cases h:ldB cX3 mBN mLN with
  |false=>rfl
  | true=>
    exfalso;have h1:=reach_sub (S:=[mLN,mAN]) (fun n hn=>by rw[La1.1 hn];exact La7) (fun n hn D hD m hm=>by
      rcases Lak.1 hn with rfl|hn
      ·rw[hL3]at hD;cases hD;rw[pL3]at hm;exact Lah _ hm
      ·rw[La1.1 hn,hA3]at hD;cases hD;rw[pA3]at hm;cases hm) (rB_iff.1 h)
    exact absurd h1 (of_decide_eq_true zK)
theorem c_is:isort [mLN,mBN]=[mLN,mBN]:=by kernel_rfl
theorem c_ch1:cX3.choose [mAN]=[mLN,mBN]:=by
  have e:cX3.chsF [mAN]=([mLN],[mBN]):=by
    unfold PD.chsF;rw[c_heads,Ld2,Lej,chs1_yes sP (by simp[ldLA])];simp[List.findIdx_cons,ldLA]
  unfold PD.choose;rw[e];exact c_is
theorem c_ch2:cX3.choose [mLN,mBN]=[mLN,mBN]:=by
  have e:cX3.chsF [mLN,mBN]=([mLN,mBN],[]):=by
    unfold PD.chsF;rw[c_heads,Ld2,Ld2,Lej,chs1_yes (f:=ldB cX3 mLN) sP (by simp[ld_self hL3])];have e2:[mLN,mBN].findIdx (ldB cX3 mLN)=0:=by simp[List.findIdx_cons,ld_self hL3]
    rw[e2,chs1_yes (f:=ldB cX3 mBN) (by simp[ldLB]) (by simp[ld_self hB3])];simp[List.findIdx_cons,ld_self hB3]
  unfold PD.choose;rw[e];exact c_is
theorem c_nd(L:List (List UInt8)):(beneath cX3 L).Nodup:=c_inv.nd.filter _
theorem c_b1:(beneath cX3 [mAN]).length≤1:=nd_len (m:=[mAN]) (c_nd _) fun n hn=>by
  have h:=rB_iff.1 (Lc2.1 hn).2;exact reach_sub (fun n hn=>hn) (fun n hn D hD m hm=>by
    rw[La1.1 hn,hA3]at hD;cases hD;rw[pA3]at hm;cases hm) h
theorem c_b2:2≤(beneath cX3 [mLN,mBN]).length:=nd_len (l:=[mLN,mBN]) (of_decide_eq_true zK) fun n hn=>by
  simp only[Lak,Lbq,or_false]at hn;rcases hn with rfl|rfl
  ·exact Lc2.2 ⟨keys_in hL3,rB_iff.2 (reach_in c_inv La7 hL3)⟩
  ·exact Lc2.2 ⟨keys_in hB3,rB_iff.2 (reach_in c_inv (Lah _ La7) hB3)⟩
theorem c_nx1:cX3.nxt [cutA]=(cutB,0):=by
  have h1:lastE [cutA]=0:=cutA_ck;have h2:lastD [cutA]=cutA:=rfl;have h3:missB cX3 cutA.dHeads=false:=by kernel_rfl
  have h4:=c_b1;have h5:=c_b2;unfold PD.nxt;rw[if_neg (not_not_intro h1),h2,if_neg dE,if_neg (by rw[h3];decide),show cutA.dHeads=[mAN]from rfl,c_ch1,if_neg oM];rfl
theorem c_nx2:cX3.nxt [cutA,cutB]=(DCut.zero,6):=by
  have h2:lastD [cutA,cutB]=cutB:=rfl;have h1:lastE [cutA,cutB]=0:=by rw[lastE,if_neg sP,h2];exact cutB_ck
  have h3:missB cX3 [mLN,mBN]=false:=by kernel_rfl
  unfold PD.nxt;rw[if_neg (not_not_intro h1),h2,if_neg (by show ¬((2:UInt64).toNat:Int)=4294967295;decide),show cutB.dHeads=[mLN,mBN]from rfl,if_neg (by rw[h3];decide),c_ch2,if_pos (Lac _)]
theorem c_nx3:cX3.nxt [DCut.zero]=(DCut.zero,2):=by
  unfold PD.nxt;rw[if_pos (by show ¬DCut.zero.check=0;exact of_decide_eq_true zK)]
theorem c_extB:cX3.ext cutA (cnameD cutA) 0 cutB=0:=by
  have h2:missB cX3 cutA.dHeads=false:=by kernel_rfl
  have h3:missB cX3 [mLN,mBN]=false:=by kernel_rfl
  have h4:=c_b1;have h5:=c_b2;have hap:apartB cX3 [mLN,mBN]=true:=by
    have hp:parsOf cX3 [mLN,mBN]=[mAN,mAN]:=by kernel_rfl
    have hno:∀n∈ [mLN,mBN],¬rB cX3 (-1) [mAN,mAN] n=true:=fun n hn h=>by
      have h1:=reach_sub (S:=[mAN]) (fun n hn=>by simpa using hn) (fun n hn D hD m hm=>by
        rw[La1.1 hn,hA3]at hD;cases hD;rw[pA3]at hm;cases hm) (rB_iff.1 h)
      rw[La1.1 h1]at hn;exact absurd hn (of_decide_eq_true zK)
    unfold apartB;rw[hp,Lez.2 hno];rfl
  have hall:([mAN].all fun h=>rB cX3 (-1) [mLN,mBN] h)=true:=by
    rw[Lbu];intro n hn;rw[La1.1 hn];exact rB_iff.2 (reach_par La7 hL3 (by rw[pL3];exact La7) hA3)
  unfold PD.ext;rw[if_neg dE,if_neg (not_not_intro cutB_ck),if_neg (by show ¬((2:UInt64).toNat:Int)≠((1+1:UInt64).toNat:Int);decide),if_neg (fun h:cutB.dPrev≠cnameD cutA=>h rfl),if_neg (by rw[h2];decide),show cutB.dHeads=[mLN,mBN]from rfl,if_neg (by rw[h3];decide),show cutA.dHeads=[mAN]from rfl,if_neg oM,if_neg (by rw[hap];decide),if_neg (by rw[hall];decide)]
theorem c_extB0:cX3.ext DCut.zero (List.replicate 32 0) 0 cutB=4:=by
  unfold PD.ext;rw[if_neg dE,if_neg (not_not_intro cutB_ck),if_pos (by show((2:UInt64).toNat:Int)≠((0+1:UInt64).toNat:Int);decide)]
theorem c_ext6:cX3.ext DCut.zero (List.replicate 32 0) 0 (cutP1 d1B)=6:=by
  have h1:(cutP1 d1B).check=0:=by kernel_rfl
  have h2:missB cX3 (cutP1 d1B).dHeads=true:=by kernel_rfl
  unfold PD.ext;rw[if_neg dE,if_neg (not_not_intro h1),if_neg dE,if_neg dE,if_neg dE,if_pos h2]
theorem c_chn1:chainV cX3 [cutA,cutB]=0:=chain_none fun j hj=>by
  rcases j with _|_|j
  ·exact(extAt_eq (d:=cutA) rfl).trans c_ext1
  · refine(extAt_eq (d:=cutB) rfl).trans ?_
    show cX3.ext cutA (cnameD cutA) cutA.check cutB=0;rw[cutA_ck];exact c_extB
  ·simp at hj;omega
theorem c_chn2:chainV cX3 [cutB,cutA]=4:=chain_at (k:=0) (fun j hj=>absurd hj (Le9 _)) dE ((extAt_eq (d:=cutB) rfl).trans c_extB0) dE
theorem chain19n_facts:∃(Da Db Dc:DB) (na nb nc:List UInt8) (X:PD) (B:DCut),(Da.ok∧Db.ok∧Dc.ok)∧na.length=32∧Bi Da=na
    ∧(∀B:Block,B.ok→Meets prog 164 [agg (Aa s1B),agg B.cells] [] (fun W=>BlockIs W B DB.zero) (BlkR 0 Da))∧(∀B:Block,B.ok→Meets prog 164 [agg (Aa s1B),agg B.cells] [] (fun W=>BlockIs W B { DB.zero with seq:=1,prev:=na }) (BlkR 0 Db))∧(∀B:Block,B.ok→Meets prog 164 [agg (Aa s2B),agg B.cells] [] (fun W=>BlockIs W B { DB.zero with ls:=[na] }) (BlkR 0 Dc))∧(∀d∈ [Da,Db,Dc],d.ls.length≤500000∧d.ds.length≤500000)
    ∧fillP PD.new [Da,Db,Dc]=X∧(B.dHeight=2∧B.dPrev=cnameD (cutP1 na)∧B.dHeads.length=2)∧X.nxt [cutP1 na]=(B,0)∧X.nxt [cutP1 na,B]=(DCut.zero,6)∧X.nxt [DCut.zero]=(DCut.zero,2)∧chainV X [cutP1 na,B]=0∧chainV X [B,cutP1 na]=4∧X.ext DCut.zero (List.replicate 32 0) 0 (cutP1 d1B)=6:=
  ⟨mAD,mBD,mLD,mAN,mBN,mLN,cX3,cutB,⟨mA_f.1,mB_f.1,mL_f.1⟩,mA_len,mA_nm,mA_f.2.2.2,mB_f.2.2.2,mL_f.2.2.2,
    (fun d hd=>by simp only[Lak,Lbq,or_false]at hd;rcases hd with rfl|rfl|rfl<;>exact of_decide_eq_true zK),c_fill,⟨rfl,rfl,rfl⟩,c_nx1,c_nx2,c_nx3,c_chn1,c_chn2,c_ext6⟩
theorem cut_nextA(x:DD)(hx:x.ok)(hI:x.pl.Inv)(p:Nat)(s:Sl)(ds:List DCut){D:DCut}(h:x.pl.nxt ds=(D,e)):Meets prog 32 [ptr p 0,s.v] [] (fun W=>Lies (x.blks p) W∧CutsAt W s ds) (CutV D e):=fun W hW=>by
  obtain⟨h1,rs,h2⟩:=hW;have h3:=cut_next x hx hI p s rs ds W ⟨h1,h2⟩;rw[h]at h3;exact h3
theorem cut_chainA(x:DD)(hx:x.ok)(hI:x.pl.Inv)(p:Nat)(s:Sl)(ds:List DCut)(h:chainV x.pl ds=e):Mv 36 [ptr p 0,s.v] (fun W=>Lies (x.blks p) W∧CutsAt W s ds) (i64 e):=fun W hW=>by
  obtain⟨h1,rs,h2⟩:=hW;have h3:=cut_chain x hx hI p s rs ds W ⟨h1,h2⟩;rw[h]at h3;exact h3
theorem pfx_one(a b:DCut):sameL sameC ([a].take (min 1 2)) ([a,b].take (min 1 2))=true:=by
  show sameL sameC [a] [a]=true;simp[sameL,sameC]
theorem cut_prefix_one(q1 q2:Nat)(a b:DCut)(hs:a.dHeads.length≤1000000):Mv 48 [.slice (some ⟨q1,0,none⟩) 1 1, .slice (some ⟨q2,0,none⟩) 2 2] (fun W=>CutsAt W ⟨some ⟨q1,0,none⟩,1,1⟩ [a]∧CutsAt W ⟨some ⟨q2,0,none⟩,2,2⟩ [a,b]) (.bool true):=by
  have h:=cut_prefix ⟨some ⟨q1,0,none⟩,1,1⟩ ⟨some ⟨q2,0,none⟩,2,2⟩ [a] [a,b] (fun d hd=>by rw[La1.1 hd];exact hs);rw[pfx_one a b]at h;exact h
theorem one_row{q:Nat}{w:World}(hn:n.length=32)(h:Sees w q 0 (Au [n])):CutIs w (cutQ q 1) (cutP1 n):=⟨cutQ_ok _ _,rfl,rfl,row_one hn (by simpa[Au]using h)⟩
theorem law_cutnames  :Mv 10 [] (fun _=>True) (.bool true):=by
 intro W hW;obtain⟨Da,Db,Dc,na,nb,nc,X,B,⟨hDa,hDb,hDc⟩,lna,hna,cSa,cSb,cSc,hsm,hfill,⟨hBh,hBp,hBn⟩,hx1,hx2,hx3,hc1,hc2,he6⟩:=chain19n_facts;refine Ac func10 J 131 ntmps10 J (G7 ?_);refine .call4 J J J J J Body53 (law19_chain Da Db Dc na hDa hDb hDc lna hna cSa cSb cSc) tV ?_;rintro v9 out9 ⟨q,Ba,Bb,Bc,bl,ha,hb,hc,rfl,rfl,hch⟩;have cNa:=r15_Name Ba Da ha.ok;rw[hna]at cNa;refine G6 ?_;refine .call4 J J J J J Body30 (law19_filled ⟨some ⟨q,0,none⟩,3,3⟩ [Da,Db,Dc] (by show 3≤1000;omega) hsm) (fun w h=>tri_blocks (own_blk (B:=⟨q,tri Ba Bb Bc,50,(tri Ba Bb Bc).length⟩) h Z0) (hch w (Lies.of h (by repeat(first|exact A3|refine A9 ?_))))) ?_;rintro v11 out11 ⟨p,x,rfl,rfl,hx,hplx,hnx2⟩;have hI:x.pl.Inv:=by rw[hplx];exact PD.Inv.fill _ PD.Inv.new
 rw[hfill]at hplx;rw[←hplx]at hx1 hx2 hx3 hc1 hc2 he6;refine G4 ?_
 try simp only[Laj,Lad,La8]
 refine .region ?_
 try simp only[Laj,Lad,La8]
 refine G1 ?_;refine .idxSlP 131 J J J J J Y22.h Sz50 0 J dE (.loadSN (n:=131) Ba.cells J J J Y50.h J Sz50 (Block.length ha.ok) (fun w h=>(tri_sees ha.ok hb.ok hc.ok (own_blk (B:=⟨q,tri Ba Bb Bc,50,(tri Ba Bb Bc).length⟩) h mR)).1) ?_);refine .cV J J J J Body54 (cNa) (fun w h=>(hch w (Lies.of h (by repeat(first|exact A3|refine A9 ?_|refine Cr ?_)))).1) ?_;refine .alloc (cs:=(Aa (List.replicate 32 0))) J Ci J ?_;intro n3 hn3 hf3;refine .sA J J J J zE Sz34 (by(simp[lna];done)) Z0 sP zU ?_;refine G4 ?_
 try simp only[Laj,Lad,La8]
 refine .lA J J J Y34.h J Sz34 Z0 (by(simp[lna];done)) ?_;refine .mkRow (z:=agg (Aa (List.replicate 32 0))) [agg (Aa na)] (Au [na]) J J J Y30.h Sz34 Ci J J (by intro v hv;simp only[Lak,Lbq,or_false]at hv;rcases hv with rfl<;>simp[Value.cells,Aa,lna]) dE (by simp[Value.cells,agg,Au]) ?_;intro q21;refine .build (cs:=(cutQ q21 1).cells) J J J (fun w=>by kernel_rfl) ?_;refine .alloc (cs:=Cut.zero.cells) J Cut.zr J ?_;intro n4 hn4 hf4;refine .sA J J J J (Cut.isCell (by exact cutQ_ok _ _)) Sz57 (Cut.length (by exact cutQ_ok _ _)) Z0 (Cut.length (by exact Cut.zero_ok)) zU ?_;refine G4 ?_
 try simp only[Laj,Lad,La8]
 refine G1 ?_;refine .lA J J J Y57.h J Sz57 Z0 (Cut.length (by exact cutQ_ok _ _)) ?_;refine .mkRow (z:=agg Cut.zero.cells) [agg (cutQ q21 1).cells] (cutQ q21 1).cells J J J Y55.h Sz57 Cut.zr J J (by intro v hv;rw[La1.1 hv];exact Cut.length (cutQ_ok _ _)) dE (by simp[Value.cells]) ?_;intro q26;refine .call4 J J J J J Body32 (cut_nextA x hx hI p ⟨some ⟨q26,0,none⟩,1,1⟩ [cutP1 na] hx1) (fun w h=>⟨Lies.of h (by repeat(first|exact A3|refine A9 ?_)),cuts_one (Am h Z0) (one_row lna (Am (cs:=Au [na]) h Z2))⟩) ?_;rintro v27 out27 ⟨C5,ok5,rfl,hC5⟩;refine G3 ?_;refine .alloc (cs:=Cut.zero.cells) J Cut.zr J ?_;intro n5 hn5 hf5;refine .sA J J J J (Cut.isCell (by exact ok5)) Sz57 (Cut.length (by exact ok5)) Z0 (Cut.length (by exact Cut.zero_ok)) zU ?_;refine G5 ?_
 try simp only[Laj,Lad,La8]
 refine G1 ?_;refine .lA J J J Y57.h J Sz57 mR (Cut.length (by exact cutQ_ok _ _)) ?_;refine .lA J J J Y57.h J Sz57 Z0 (Cut.length (by exact ok5)) ?_;refine .mkRow (z:=agg Cut.zero.cells) [agg (cutQ q21 1).cells,agg (C5).cells] ((cutQ q21 1).cells++(C5).cells) J J J Y55.h Sz57 Cut.zr J J (by intro v hv;rcases Lak.1 hv with e|e;(rw[e];exact Cut.length (cutQ_ok _ _));(rw[La1.1 e];exact Cut.length ok5)) dE (by simp[Value.cells]) ?_;intro q34;refine .call4 J J J J J Body32 (cut_nextA x hx hI p ⟨some ⟨q34,0,none⟩,2,2⟩ [cutP1 na,B] hx2) (fun w h=>⟨Lies.of h (by repeat(first|exact A3|refine A9 ?_|refine Cr ?_)),cuts_two (Am h Z0) (one_row lna (Am (cs:=Au [na]) h mR)) (hC5 w (Lies.of h (by repeat(first|exact A3|refine A9 ?_))))⟩) ?_;rintro v35 out35 ⟨C6,ok6,rfl,hC6⟩;refine G3 ?_;refine .alloc (cs:=Cut.zero.cells) J Cut.zr J ?_;intro n7 hn7 hf7;refine .sA J J J J (Cut.isCell (by exact ok6)) Sz57 (Cut.length (by exact ok6)) Z0 (Cut.length (by exact Cut.zero_ok)) zU ?_;refine G5 ?_
 try simp only[Laj,Lad,La8]
 refine G1 ?_;refine .build (cs:=Cut.zero.cells) J J J (fun w=>by kernel_rfl) ?_;refine .mkRow (z:=agg Cut.zero.cells) [agg (Cut.zero).cells] (Cut.zero).cells J J J Y55.h Sz57 Cut.zr J J (by intro v hv;rw[La1.1 hv];exact Cut.length Cut.zero_ok) dE (by simp[Value.cells]) ?_;intro q41;refine .call4 J J J J J Body32 (cut_nextA x hx hI p ⟨some ⟨q41,0,none⟩,1,1⟩ [DCut.zero] hx3) (fun w h=>⟨Lies.of h (by repeat(first|exact A3|refine A9 ?_|refine Cr ?_)),cuts_one (Am h Z0) (cutz_is w)⟩) ?_;rintro v42 out42 ⟨C7,ok7,rfl,hC7⟩;refine G3 ?_;refine .alloc (cs:=Cut.zero.cells) J Cut.zr J ?_;intro n9 hn9 hf9;refine .sA J J J J (Cut.isCell (by exact ok7)) Sz57 (Cut.length (by exact ok7)) Z0 (Cut.length (by exact Cut.zero_ok)) zU ?_;refine G5 ?_
 try simp only[Laj,Lad,La8]
 refine .build (cs:=Aa d1B) J J J (fun w=>by kernel_rfl) ?_;refine .mkRow (z:=agg (Aa (List.replicate 32 0))) [agg (Aa d1B)] (Au [d1B]) J J J Y30.h Sz34 Ci J J (by intro v hv;simp only[Lak,Lbq,or_false]at hv;rcases hv with rfl<;>simp[Value.cells,Aa,d1_len]) dE (by simp[Value.cells,agg,Au]) ?_;intro q47;refine .build (cs:=(cutQ q47 1).cells) J J J (fun w=>by kernel_rfl) ?_;refine .call4 J J J J J Body55 (cut_bytes (cutQ q47 1) (cutP1 d1B)) (fun w h=>one_row d1_len (Am (cs:=Au [d1B]) h Z0)) ?_;rintro v49 out49 ⟨s49,rfl,hac49⟩;have hn49:=hac49.num;rw[show(cutR (cutP1 d1B)).length=66 by kernel_rfl]at hn49;refine G8 ?_;refine .know (F:=C5.fHeight=2∧C5.fPrev=cnameD (cutP1 na)∧C5.fHeads.n=2) (fun w h=>by have h9:=hC5 w (Lies.of h (by repeat(first|exact A3|refine A9 ?_|refine Cr ?_)));exact⟨h9.fHeight.trans hBh,h9.fPrev.trans hBp,by rw[←h9.fHeads.len];exact hBn⟩) (fun hk=>?_);obtain⟨hkh,hkp,hkn⟩:=hk;have hl5:C5.fPrev.length=32:=ok5.l_fPrev;refine .draw (oP [300,1,2,3,4,5,6,107,8,9,10,11,112,113,314,15,16,17,18,119,20,21,22,23,24,25,26,27,28,29,30,31,32,33,34,35,36,37,38,39,40,41,342,43,44,45,46,147,148,449,350,51,52,53,54,155,156,457,358,59,60,61,62,63,464,65,366,67,68,69,170,172,173,271,274,375,76,77,78,79]) Ap zK (.cV J J J J Body28 (law19_lives) tV (G2 ?_));refine .eqi J J J J (decide_eq_true (rfl)) (G3 ?_);refine .load1 J J J Y45.h J mR (by exact Cut.get_fHeight (by exact ok5)) ?_;refine .eqi J J J J (decide_eq_true (by rw[hkh];rfl)) ?_;refine G3 ?_;refine .lN (Aa _) J J J Y34.h J Sz34 mR (Cut.row_fPrev (by exact ok5)) (Cut.rl_fPrev (by exact ok5)) ?_;refine .lA J J J Y57.h J Sz57 mR (Cut.length (by exact cutQ_ok _ _)) ?_;refine .cV J J J J Body56 (cut_name (cutQ q21 1) (cutP1 na)) (fun w h=>(one_row lna (Am (cs:=Au [na]) h mR))) ?_;refine .eql_bytes J J J J eqGuardType34 Y34.h Y5.h Sz5 zA (by(simp[cnameD_length];done)) (decide_eq_true (hkp)) ?_;refine G3 ?_;refine .load1 J J J Y30.h J mR (by exact Cut.get_fHeads (by exact ok5)) ?_;refine G1 ?_;refine .eqi J J J J (decide_eq_true (by rw[hkn];rfl)) ?_;refine G3 ?_;refine .eqi J J J J (decide_eq_true (rfl)) (G3 ?_);refine .eqi J J J J (decide_eq_true (rfl)) (G3 ?_);refine .eqi J J J J (decide_eq_true zK) (G4 ?_);refine .eqi J J J J (decide_eq_true (by rw[hn49];rfl)) ?_;refine G2 ?_;refine .build (cs:=Cut.zero.cells) J J J (fun w=>by kernel_rfl) ?_;refine .cV J J J J Body57 (cut_check Cut.zero DCut.zero) (fun w h=>cutz_is w) (.eqi J J J J (decide_eq_true zK) (G3 ?_));refine .lA J J J Y57.h J Sz57 mR (Cut.length (by exact cutQ_ok _ _)) ?_;refine .lA J J J Y57.h J Sz57 mR (Cut.length (by exact ok5)) ?_
 refine .mkRow (z:=agg Cut.zero.cells) [agg (cutQ q21 1).cells,agg (C5).cells] ((cutQ q21 1).cells++(C5).cells) J J J Y55.h Sz57 Cut.zr J J (by intro v hv;rcases Lak.1 hv with e|e;(rw[e];exact Cut.length (cutQ_ok _ _));(rw[La1.1 e];exact Cut.length ok5)) dE (by simp[Value.cells]) ?_;intro q101;refine .cV J J J J Body36 (cut_chainA x hx hI p ⟨some ⟨q101,0,none⟩,2,2⟩ [cutP1 na,B] hc1) (fun w h=>⟨Lies.of h (by repeat(first|exact A3|refine A9 ?_|refine Cr ?_)),cuts_two (Am h Z0) (one_row lna (Am (cs:=Au [na]) h mR)) (hC5 w (Lies.of h (by repeat(first|exact A3|refine A9 ?_|refine Cr ?_))))⟩) ?_;refine .eqi J J J J (decide_eq_true (rfl)) (G3 ?_);refine .lA J J J Y57.h J Sz57 mR (Cut.length (by exact ok5)) ?_;refine .lA J J J Y57.h J Sz57 mR (Cut.length (by exact cutQ_ok _ _)) ?_;refine .mkRow (z:=agg Cut.zero.cells) [agg (C5).cells,agg (cutQ q21 1).cells] ((C5).cells++(cutQ q21 1).cells) J J J Y55.h Sz57 Cut.zr J J (by intro v hv;rcases Lak.1 hv with e|e;(rw[e];exact Cut.length ok5);(rw[La1.1 e];exact Cut.length (cutQ_ok _ _))) dE (by simp[Value.cells]) ?_;intro q109;refine .cV J J J J Body36 (cut_chainA x hx hI p ⟨some ⟨q109,0,none⟩,2,2⟩ [B,cutP1 na] hc2) (fun w h=>⟨Lies.of h (by repeat(first|exact A3|refine A9 ?_|refine Cr ?_)),cuts_two (Am h Z0) (hC5 w (Lies.of h (by repeat(first|exact A3|refine A9 ?_|refine Cr ?_)))) (one_row lna (Am (cs:=Au [na]) h mR))⟩) ?_;refine .eqi J J J J (decide_eq_true (rfl)) (G3 ?_);refine .build (cs:=Aa d1B) J J J (fun w=>by kernel_rfl) ?_;refine .mkRow (z:=agg (Aa (List.replicate 32 0))) [agg (Aa d1B)] (Au [d1B]) J J J Y30.h Sz34 Ci J J (by intro v hv;simp only[Lak,Lbq,or_false]at hv;rcases hv with rfl<;>simp[Value.cells,Aa,d1_len]) dE (by simp[Value.cells,agg,Au]) ?_;intro q116;refine .build (cs:=(cutQ q116 1).cells) J J J (fun w=>by kernel_rfl) ?_;refine .cV J J J J Body38 (cut_ext_at x hx hI p (cutQ q116 1) (cutP1 d1B) 6 he6) (fun w h=>⟨Lies.of h (by repeat(first|exact A3|refine A9 ?_|refine Cr ?_)),one_row d1_len (Am (cs:=Au [d1B]) h Z0)⟩) ?_;refine .eqi J J J J (decide_eq_true (rfl)) (G2 ?_);refine .lA J J J Y57.h J Sz57 mR (Cut.length (by exact cutQ_ok _ _)) ?_;refine .lA J J J Y57.h J Sz57 mR (Cut.length (by exact cutQ_ok _ _)) ?_;refine .lA J J J Y57.h J Sz57 mR (Cut.length (by exact ok5)) ?_;refine .mkRow2g (z:=agg Cut.zero.cells) [agg (cutQ q21 1).cells] (cutQ q21 1).cells J J J Y55.h Sz57 Cut.zr J J (by intro v hv;rw[La1.1 hv];exact Cut.length (cutQ_ok _ _)) dE (by simp[Value.cells]) ?_;intro q123
 refine .mkRow2g (z:=agg Cut.zero.cells) [agg (cutQ q21 1).cells,agg (C5).cells] ((cutQ q21 1).cells++(C5).cells) J J J Y55.h Sz57 Cut.zr J J (by intro v hv;rcases Lak.1 hv with e|e;(rw[e];exact Cut.length (cutQ_ok _ _));(rw[La1.1 e];exact Cut.length ok5)) dE (by simp[Value.cells]) ?_;intro q126;refine .cV J J J J Body48 (cut_prefix_one q123 q126 (cutP1 na) B (by show 1≤1000000;decide)) (fun w h=>⟨cuts_one (Am h Z1) (one_row lna (Am (cs:=Au [na]) h mR)),cuts_two (Am h Z0) (one_row lna (Am (cs:=Au [na]) h mR)) (hC5 w (Lies.of h (by repeat(first|exact A3|refine A9 ?_|refine Cr ?_))))⟩) ?_;refine G6 ?_;refine G2 ?_;refine Az (out:=[]) (Ah J J) Ak ?_;exact⟨rfl,rfl⟩
end Go.Proofs.YtpogmfngccolbaaGreat
namespace Go.Proofs.YtpogmfngccolbaaGreat
open Go Go.ChangeShapes Go.WideShapes Go.ChangeAt Go.RowKit
theorem ownCNams:ownKnob Tryz.prog.godebug=none:=by kernel_rfl
theorem walkCNam(w:World):Calls Tryz.prog 10 #[] w fun e w'=>e= .returned (.bool true)∧Below w.heap.size w w':=
  (law_cutnames w trivial).mono fun e w' ⟨v,out,he,⟨hv,ho⟩,hr⟩=>⟨by rw[he,hv],Hw.Keeps.below hr.keeps⟩
theorem liftedCNam(os:Os)(started:os.Started)(H:Type)(enc:TypeId×Value→H):
    ReturnsInHanded {} Tryz.checked os 10 .any (Rows.cutNamesSpec.pre6 enc Tryz.prog Tryz.f10 Rows.cutNamesRow.domain false) (Rows.cutNamesSpec.post enc Tryz.prog Tryz.f10 false true false false):=by
  refine returnsInHanded_of_change (C:=Tryz.checked) ownCNams started (by kernel_rfl) Tryz.func10
    (ChangeSpec.witness6 (enc:=enc) (C:=Tryz.checked) false ⟨#[], #[],[]⟩ 8 (by kernel_rfl) (by kernel_rfl) (by kernel_rfl) (by kernel_rfl)) ?_
  intro W base args ds gs before hval0 hW hcnd _;have hW':=hW;obtain⟨p,q,hA0,hV,rfl,hfz,hnd⟩:=hW;have hA:DataW.TrodAll enc Tryz.prog W 0 (fun _=>true) true Tryz.f10.params.toList args.toList ds p:=hA0;rw[Tryz.params10]at hA;obtain⟨hargs,rfl,rfl⟩:=trodAll_nil hA;obtain rfl:args= #[]:=by cases args;simp_all
  obtain⟨rfl,rfl⟩:=trodVars_none hV;clear hA0 hval0;refine(walkCNam W).mono fun e W' ⟨he,bel⟩=>?_;subst he;exact⟨_,rfl,_,_,_,[],_,[],hW',trodAll_mk1 (shut_bool Tryz.underlying4 _),trodAll_mk0,rfl,bel.frame _,fun h=>by cases h⟩
theorem cutNames_holds:Rows.CutNamesSaid:=
  OpenClaim.holds_of_wide 10 Tryz.f10 rfl rfl rfl rfl rfl rfl rfl ⟨rfl,rfl,rfl,rfl,rfl⟩ rfl rfl rfl rfl rfl (by kernel_rfl) Tryz.func10 closedCNam
    (of_decide_eq_true (by kernel_rfl)) (by unfold Func.isWrapper;first|(rw[if_pos (by decide+kernel)];kernel_rfl)|(rw[if_neg (by decide+kernel)];exact⟨rfl,rfl⟩))
    (fun os started H enc _=>liftedCNam os started H enc)
end Go.Proofs.YtpogmfngccolbaaGreat
end
