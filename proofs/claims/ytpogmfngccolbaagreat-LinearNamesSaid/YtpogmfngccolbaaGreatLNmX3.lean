/- Contracts of functions of the loaded program, and the lemmas that they need (part 3). It proves no statement by itself; it has no conditions. -/
import Derived.WalkKit
import Derived.Orders
import Derived.Deep.LoopGhost
import Derived.IntWalk
import Derived.Laws.StructEq
import Derived.ArgAppend
import Derived.Deep.AppendSrc
import Derived.Lib.Bytealg
import Derived.Lib.BytesEntry
import Derived.Laws.IdiomStrings
import Derived.WideKeyArr2
import Derived.ProofKit
import Derived.OpenShut
import Derived.Deep.Slices
import Derived.Laws.Pointers
import Derived.Laws.Cover3
import Derived.LaidEqlPtr
import Derived.LoopN
import Derived.RangeFuncLeaves
import Derived.RangeFuncSeq
import Derived.OrdersIn
import Derived.Maps.Keyed
import Derived.Maps.RangeRun
import Derived.DeepKeys4
import Derived.Below
import Derived.Test.YtpogmfngccolbaaGreatRows
import Derived.KernelRfl
import Derived.Laws.Externs
import Derived.Defers
import Derived.Laws.MathBits
import Derived.Shelf.SlSortCmp.WholeK
import Derived.Shelf.SlGeneric
import Derived.Test.YtpogmfngccolbaaGreatProg
import Derived.Shelf.SlSortCmp.NoneTotal
import Derived.Deep.QuietTactic
import Derived.BigQuiet
import Derived.ScopeJumps
import Derived.DeepKeys3
import Derived.ChangeOld
import Derived.JoinedOf
import Derived.Test.YtpogmfngccolbaaGreatLNmX2
set_option maxRecDepth 100000
set_option maxHeartbeats 8000000
set_option linter.unusedVariables false
set_option linter.unusedSimpArgs false
set_option linter.unusedSectionVars false
set_option linter.unnecessarySimpa false
section
namespace Ed
open Hw Go
def mr:List Nat→List Nat→Nat
  |w::ws,b::bs=>w+2^b*mr ws bs
  |_,_=>0
def dg(n:Nat):List Nat→List Nat
  |b::bs=>n%2^b::dg (n/2^b) bs
  | []=>[]
def carL(c:Nat):List Nat→List Nat→List Nat
  |w::ws,b::bs=>(w+c)%2^b::carL ((w+c)/2^b) ws bs
  |_,_=>[]
variable{i m:Nat}{w x y:List Nat}
theorem dg_length:∀(bs:List Nat) (n:Nat),(dg n bs).length=bs.length
  | [],_=>rfl
  |b::bs,n=>by simp[dg,dg_length bs]
theorem carL_dg:∀(bs ws:List Nat) (c:Nat),ws.length=bs.length→carL c ws bs=dg (mr ws bs+c) bs
  | [],ws,c,h=>by cases ws<;>simp_all[carL,dg]
  |b::bs,[],c,h=>by simp at h
  | b::bs,w::ws,c,h=>by
    have hp:0<2^b:=Lbq dE;have h1:mr (w::ws) (b::bs)+c=(w+c)+2^b*mr ws bs:=by rw[mr];omega
    rw[carL,dg,h1,Lbh,Lbj _ _ hp,carL_dg bs ws _ (by simpa using h),Le0 (mr ws bs)]
theorem mr_dg:∀(bs:List Nat) (n:Nat),mr (dg n bs) bs=n%2^bs.sum
  | [],n=>by simp[mr,dg,Lfd]
  | b::bs,n=>by
    rw[dg,mr,mr_dg bs,List.sum_cons,Lbc,Lgo]
def b10:List Nat:=[26,25,26,25,26,25,26,25,26,25]
theorem b10_sum:b10.sum=255:=rfl
def A6(i:Nat):Nat:=if i%2=0 then 26 else 25
def v10(w:List Nat):Nat:=mr w b10
def stepC(w:List Nat)(i:Nat):List Nat:=
  if i=9 then(w.set i (w.getD i 0%2^A6 i)).set 0 ((w.set i (w.getD i 0%2^A6 i)).getD 0 0+19*(w.getD i 0/2^A6 i))
  else(w.set i (w.getD i 0%2^A6 i)).set (i+1) ((w.set i (w.getD i 0%2^A6 i)).getD (i+1) 0+w.getD i 0/2^A6 i)
def Cq(w:List Nat):Nat→List Nat
  |0=>w
  |i+1=>stepC (Cq w i) i
def Cr(w:List Nat):List Nat:=(dg (v10 w) b10).set 0 (v10 w%2^26+19*(v10 w/2^255))
theorem len10(h:w.length=10):∃a b c d e f g i j k,w=[a,b,c,d,e,f,g,i,j,k]:=by
  match w,h with
  | [a,b,c,d,e,f,g,i,j,k],_=>exact⟨a,b,c,d,e,f,g,i,j,k,rfl⟩
def cout(c:Nat):List Nat→List Nat→Nat
  |w::ws,b::bs=>cout ((w+c)/2^b) ws bs
  |_,_=>c
theorem cout_eq:∀(bs ws:List Nat) (c:Nat),ws.length=bs.length→cout c ws bs=(mr ws bs+c)/2^bs.sum
  | [],ws,c,h=>by cases ws<;>simp_all[cout,mr]
  |b::bs,[],c,h=>by simp at h
  | b::bs,w::ws,c,h=>by
    have hp:0<2^b:=Lbq dE;have h1:mr (w::ws) (b::bs)+c=(w+c)+2^b*mr ws bs:=by rw[mr];omega
    rw[cout,h1,List.sum_cons,Lbc,←Law,Lbj _ _ hp,cout_eq bs ws _ (by simpa using h),Le0 (mr ws bs)]
theorem stepC_0(a b c d e f g i j k:Nat):stepC [a,b,c,d,e,f,g,i,j,k] 0=[a%2^26,b+a/2^26,c,d,e,f,g,i,j,k]:=rfl
theorem stepC_1(a b c d e f g i j k:Nat):stepC [a,b,c,d,e,f,g,i,j,k] 1=[a,b%2^25,c+b/2^25,d,e,f,g,i,j,k]:=rfl
theorem stepC_2(a b c d e f g i j k:Nat):stepC [a,b,c,d,e,f,g,i,j,k] 2=[a,b,c%2^26,d+c/2^26,e,f,g,i,j,k]:=rfl
theorem stepC_3(a b c d e f g i j k:Nat):stepC [a,b,c,d,e,f,g,i,j,k] 3=[a,b,c,d%2^25,e+d/2^25,f,g,i,j,k]:=rfl
theorem stepC_4(a b c d e f g i j k:Nat):stepC [a,b,c,d,e,f,g,i,j,k] 4=[a,b,c,d,e%2^26,f+e/2^26,g,i,j,k]:=rfl
theorem stepC_5(a b c d e f g i j k:Nat):stepC [a,b,c,d,e,f,g,i,j,k] 5=[a,b,c,d,e,f%2^25,g+f/2^25,i,j,k]:=rfl
theorem stepC_6(a b c d e f g i j k:Nat):stepC [a,b,c,d,e,f,g,i,j,k] 6=[a,b,c,d,e,f,g%2^26,i+g/2^26,j,k]:=rfl
theorem stepC_7(a b c d e f g i j k:Nat):stepC [a,b,c,d,e,f,g,i,j,k] 7=[a,b,c,d,e,f,g,i%2^25,j+i/2^25,k]:=rfl
theorem stepC_8(a b c d e f g i j k:Nat):stepC [a,b,c,d,e,f,g,i,j,k] 8=[a,b,c,d,e,f,g,i,j%2^26,k+j/2^26]:=rfl
theorem stepC_9(a b c d e f g i j k:Nat):stepC [a,b,c,d,e,f,g,i,j,k] 9=[a+19*(k/2^25),b,c,d,e,f,g,i,j,k%2^25]:=rfl
theorem carAt_car(h:w.length=10):Cq w 10=(carL 0 w b10).set 0 ((carL 0 w b10).getD 0 0+19*cout 0 w b10):=by
  obtain⟨a,b,c,d,e,f,g,i,j,k,rfl⟩:=len10 h;simp only[Cq,stepC_0,stepC_1,stepC_2,stepC_3,stepC_4,stepC_5,stepC_6,stepC_7,stepC_8,stepC_9,b10,carL,cout,Lbu,Le4,Ldc]
theorem carAt_eq(h:w.length=10):Cq w 10=Cr w:=by
  rw[carAt_car h,carL_dg b10 w 0 h,cout_eq b10 w 0 h,b10_sum];rfl
theorem car10_length(w:List Nat):(Cr w).length=10:=by simp[Cr,dg_length,b10]
structure Fit10(w:List Nat):Prop where
  len:w.length=10
  lo:w.getD 0 0<2^26+128
  hi:∀i,0<i→i<10→w.getD i 0<2^A6 i
theorem dg_lt:∀(bs:List Nat) (n i:Nat),i<bs.length→(dg n bs).getD i 0<2^bs.getD i 0
  |b::bs,n,0,_=>Lbo _ (Lbq dE)
  |b::bs,n,i+1,h=>dg_lt bs (n/2^b) i (by simpa using h)
theorem b10_at:∀i:_root_.Fin 10,b10.getD i.val 0=A6 i.val:=by decide
theorem car10_fit(h:v10 w<6*2^255):Fit10 (Cr w):=by
  refine⟨car10_length w,?_,fun i h1 h2=>?_⟩
  · show v10 w%2^26+19*(v10 w/2^255)<_
    have:v10 w/2^255<6:=Lea oM;have:=Lbo (v10 w) (show 0<2^26 by decide);omega
  · have h3:=dg_lt b10 (v10 w) i h2
    rw[b10_at ⟨i,h2⟩]at h3;rwa[Cr,La2,Lec oM,←La2]
theorem car10_val(w:List Nat):v10 (Cr w)=v10 w%2^255+19*(v10 w/2^255):=by
  have h1:dg (v10 w) b10=v10 w%2^26::dg (v10 w/2^26) [25,26,25,26,25,26,25,26,25]:=rfl;have h2:mr (dg (v10 w) b10) b10=v10 w%2^255:=mr_dg b10 (v10 w);rw[←h2,v10,Cr,h1];show(v10 w%2^26+19*(v10 w/2^255))+2^26*_=(v10 w%2^26+2^26*_)+_;generalize mr _ _=x;omega
theorem car10_v(w:List Nat):fe (v10 (Cr w))=fe (v10 w):=by
  rw[car10_val];have h4:v10 w=v10 w%2^255+2^255*(v10 w/2^255):=(Lf2 _ _).symm;generalize v10 w/2^255=q at*;generalize v10 w%2^255=r at*;rw[h4,fe_eq];have e:r+2^255*q=(r+19*q)+PF*q:=by
    have:(2:Nat)^255=19+PF:=by decide
    rw[this,Lcb];omega
  rw[e,Lbh]
def Bq(i:Nat):Nat:=(51*i+1)/2
def coef(i k:Nat):Nat:=(if i+k>9 then 19 else 1)*(if i%2=1∧k%2=1 then 2 else 1)
theorem coef_le(i k:Nat):coef i k≤38:=by
  unfold coef;split<;>split<;>omega
def coefOk(i k:Nat):Bool:=Nat.beq (2^Bq ((i+k)%10)*coef i k%PF) (2^Bq i*2^Bq k%PF)
def coefAll:Bool:=(List.range 10).all fun i=>(List.range 10).all fun k=>coefOk i k
theorem coef_all:coefAll=true:=by kernel_rfl
theorem coef_fe{i k:Nat}(hi:i<10)(hk:k<10):fe (2^Bq ((i+k)%10)*coef i k)=fe (2^Bq i)*fe (2^Bq k):=by
  have h:=coef_all;unfold coefAll at h;rw[Lbt]at h;have h1:=h i (Ld6.2 hi);rw[Lbt]at h1;have h2:=h1 k (Ld6.2 hk);rw[←fe_mul];exact fe_eq.2 (Lbz h2)
theorem mr_set(p:Nat):∀(bs w:List Nat) (m:Nat),w.length=bs.length→m<w.length→mr (w.set m (w.getD m 0+p)) bs=mr w bs+2^(bs.take m).sum*p
  | [],[],m,_,h=>by simp at h
  | b::bs,x::w,0,_,_=>by
    show(x+p)+2^b*mr w bs=(x+2^b*mr w bs)+2^0*p;omega
  | b::bs,x::w,m+1,h1,h2=>by
    have ih:=mr_set p bs w m (by simpa using h1) (by simpa using h2);show x+2^b*mr (w.set m (w.getD m 0+p)) bs=(x+2^b*mr w bs)+2^(b+(bs.take m).sum)*p;rw[ih,Lc5,Lbc,Lbl,Lcs]
theorem at_sum:∀m:_root_.Fin 10,(b10.take m.val).sum=Bq m.val:=by decide
theorem v10_set(h:w.length=10)(p:Nat)(hm:m<10):v10 (w.set m (w.getD m 0+p))=v10 w+2^Bq m*p:=by
  rw[v10,mr_set p b10 w m h oM,at_sum ⟨m,hm⟩];rfl
def tCell(x y:List Nat)(i k:Nat)(o:List Nat):List Nat:=o.set ((i+k)%10) (o.getD ((i+k)%10) 0+coef i k*(x.getD i 0*y.getD k 0))
def tRow(x y:List Nat)(i:Nat)(o:List Nat):Nat→List Nat
  |0=>o
  |k+1=>tCell x y i k (tRow x y i o k)
def tAll(x y:List Nat):Nat→List Nat
  |0=>List.replicate 10 0
  |i+1=>tRow x y i (tAll x y i) 10
theorem tRow_length(x y:List Nat)(i:Nat){o:List Nat}(h:o.length=10):∀k,(tRow x y i o k).length=10
  |0=>h
  |k+1=>by rw[tRow,tCell,Lbk,tRow_length x y i h k]
theorem tAll_length(x y:List Nat):∀i,(tAll x y i).length=10
  |0=>rfl
  |i+1=>tRow_length x y i (tAll_length x y i) 10
def pv(w:List Nat):Nat→Fp
  |0=>0
  |k+1=>pv w k+fe (2^Bq k)*fe (w.getD k 0)
theorem pv_all(h:w.length=10):pv w 10=fe (v10 w):=by
  obtain⟨a,b,c,d,e,f,g,i,j,k,rfl⟩:=len10 h;have e1:v10 [a,b,c,d,e,f,g,i,j,k]=2^Bq 0*a+2^Bq 1*b+2^Bq 2*c+2^Bq 3*d+2^Bq 4*e+2^Bq 5*f+2^Bq 6*g+2^Bq 7*i+2^Bq 8*j+2^Bq 9*k:=by
    simp only[v10,mr,b10,Bq,Lc5,←Lbl,←Lbc,Lfh,Lbu,←Lcs];simp
  rw[e1];simp only[fe_add,fe_mul,pv,Ldc,Ld1];grind
theorem tRow_v(x y:List Nat)(i:Nat)(hi:i<10){o:List Nat}(h:o.length=10):∀k,k≤10→fe (v10 (tRow x y i o k))=fe (v10 o)+fe (2^Bq i)*fe (x.getD i 0)*pv y k
  |0,_=>by simp only[tRow,pv];grind
  | k+1,hk=>by
    have ih:=tRow_v x y i hi h k oM;have hc:=coef_fe hi (show k<10 by omega);rw[tRow,tCell,v10_set (tRow_length x y i h k) _ (Lbo _ dE),fe_add,ih,←Lbl,fe_mul,hc,fe_mul,pv];generalize fe (2^Bq i)=A;generalize fe (2^Bq k)=B;grind
theorem tAll_v{x y:List Nat}(hy:y.length=10):∀i,i≤10→fe (v10 (tAll x y i))=pv x i*fe (v10 y)
  | 0,_=>by
    have e:fe (v10 (List.replicate 10 0))=0:=by kernel_rfl
    rw[tAll,e,pv];grind
  | i+1,hi=>by
    rw[tAll,tRow_v x y i oM (tAll_length x y i) 10 (Lai _),tAll_v hy i oM,pv_all hy,pv];grind
def ones:List Nat→Nat
  |b::bs=>1+2^b*ones bs
  | []=>0
theorem mr_le(B:Nat):∀bs w:List Nat,w.length=bs.length→(∀m,m<w.length→w.getD m 0≤B)→mr w bs≤B*ones bs
  | [],[],_,_=>Lar _
  | b::bs,x::w,h1,h2=>by
    have ih:=mr_le B bs w (by simpa using h1) (fun m hm=>h2 (m+1) (by simpa using hm));have hx:x≤B:=h2 0 sP;have h3:2^b*mr w bs≤2^b*(B*ones bs):=Lc4 _ ih;show x+2^b*mr w bs≤B*(1+2^b*ones bs);rw[Lc5,Lb5,Nat.mul_left_comm B];omega
theorem ones_lt:Nat.ble (ones b10+1) (2^231)=true:=by kernel_rfl
theorem v10_le(h:w.length=10)(B:Nat)(h2:∀m,m<10→w.getD m 0≤B):v10 w≤B*2^231:=
  Lbp (mr_le B b10 w h (by rw[h];exact h2)) (Lc4 _ (Nat.le_of_succ_le (Ld4 ones_lt)))
theorem getD_set'{l:List Nat}{i j v:Nat}(hi:i<l.length):(l.set i v).getD j 0=if j=i then v else l.getD j 0:=by
  rw[La2,Lcv];split
  ·rename_i e;subst e;rw[if_pos rfl];simp
  ·rename_i e;rw[if_neg (fun h=>e h.symm),La2]
theorem tRow_le{x y:List Nat}{B i:Nat}(hi:i<10)(hb:∀k,k<10→coef i k*(x.getD i 0*y.getD k 0)≤B){o:List Nat}(h:o.length=10):∀k,k≤10→∀m,m<10→(tRow x y i o k).getD m 0≤o.getD m 0+(if(m+10-i)%10<k then B else 0)
  |0,_,m,hm=>by rw[if_neg oM];exact Lai _
  | k +1,hk,m,hm=>by
    have ih:=tRow_le hi hb h k oM;have hl:=tRow_length x y i h k;rw[tRow,tCell,getD_set' (by rw[hl];exact Lbo _ dE)];split
    · rename_i e
      have h1:=ih m hm;have h2:=hb k oM;rw[if_neg oM]at h1;rw[if_pos oM,←e];omega
    · rename_i e
      have h1:=ih m hm;refine Lbp h1 (Nat.add_le_add_left ?_ _);split
      ·rw[if_pos oM];exact Lai _
      ·exact Lar _
theorem tAll_le{x y:List Nat}{B:Nat}(hb:∀i k,i<10→k<10→coef i k*(x.getD i 0*y.getD k 0)≤B):∀i,i≤10→∀m,m<10→(tAll x y i).getD m 0≤i*B
  | 0,_,m,hm=>by
    show(List.replicate 10 0).getD m 0≤_;rw[La2,Les hm,Lez];exact Lai _
  | i+1,hi,m,hm=>by
    have h1:=tRow_le oM (fun k hk=>hb i k oM hk) (tAll_length x y i) 10 (Lai _) m hm;have h2:=tAll_le hb i oM m hm;rw[if_pos (Lbo _ dE)]at h1;rw[tAll,Nat.succ_mul];omega
theorem Fit10.all(h:Fit10 w)(hm:m<10):w.getD m 0<2^27:=by
  by_cases h0:m=0
  ·subst h0;have:=h.lo;omega
  · have h1:=h.hi m oM hm
    refine Lbf h1 ?_;unfold A6;split<;>decide
theorem term_le(hx:Fit10 x)(hy:Fit10 y)(i k:Nat)(hi:i<10)(hk:k<10):coef i k*(x.getD i 0*y.getD k 0)≤38*(2^27*2^27):=
  Lco (coef_le i k) (Lco (Lfy (hx.all hi)) (Lfy (hy.all hk)))
def mulT(x y:List Nat):List Nat:=Cr (Cr (tAll x y 10))
theorem mulT_v(hx:x.length=10)(hy:y.length=10):fe (v10 (mulT x y))=fe (v10 x)*fe (v10 y):=by
  rw[mulT,car10_v,car10_v,tAll_v hy 10 (Lai _),pv_all hx]
theorem mr_lt:∀bs w:List Nat,w.length=bs.length→(∀m,m<w.length→w.getD m 0<2^bs.getD m 0)→mr w bs+1≤2^bs.sum
  | [],[],_,_=>Lai _
  | b::bs,x::w,h1,h2=>by
    have ih:=mr_lt bs w (by simpa using h1) (fun m hm=>h2 (m+1) (by simpa using hm));have hx:x<2^b:=h2 0 sP;have h3:2^b*(mr w bs+1)≤2^b*2^bs.sum:=Lc4 _ ih;rw[mr,List.sum_cons,Lbc];rw[Lc5,Lb5]at h3;omega
theorem Fit10.v(h:Fit10 w):v10 w<2^255+128:=by
  have hl:=h.len;have h0:=h.lo;have h1:=h.hi;cases w with
  |nil=>simp at hl
  | cons a t=>
    have h2:=mr_lt [25,26,25,26,25,26,25,26,25] t (by simpa using hl) (fun m hm=>by
      have h3:=h1 (m+1) oM (by simp at hl;omega);have h4:=b10_at ⟨m+1,by simp at hl;omega⟩;rw[←h4]at h3;exact h3)
    have h5:[25,26,25,26,25,26,25,26,25].sum=229:=rfl;rw[h5]at h2;have h6:a<2^26+128:=h0;show a+2^26*mr t _<_;omega
theorem Bf(hx:Fit10 x)(hy:Fit10 y):Fit10 (mulT x y):=by
  have h1:=tAll_le (term_le hx hy) 10 (Lai _);have h2:=v10_le (tAll_length x y 10) _ h1;refine car10_fit ?_;have h4:v10 (tAll x y 10)/2^255<2^40:=Lea oM;have h5:=Lbo (v10 (tAll x y 10)) (show 0<2^255 by decide);rw[car10_val];omega
theorem mulT_length(x y:List Nat):(mulT x y).length=10:=car10_length _
def addAt(x y:List Nat):Nat→List Nat
  |0=>x
  |i+1=>(addAt x y i).set i ((addAt x y i).getD i 0+y.getD i 0)
theorem addAt_length{x:List Nat}(y:List Nat)(h:x.length=10):∀i,(addAt x y i).length=10
  |0=>h
  |i+1=>by rw[addAt,Lbk,addAt_length y h i]
def npv(w:List Nat):Nat→Nat
  |0=>0
  |k+1=>npv w k+2^Bq k*w.getD k 0
theorem addAt_v{x y:List Nat}(h:x.length=10):∀i,i≤10→v10 (addAt x y i)=v10 x+npv y i
  |0,_=>rfl
  |i+1,hi=>by rw[addAt,v10_set (addAt_length y h i) _ oM,addAt_v h i oM,npv,Lcs]
theorem npv_all(h:w.length=10):npv w 10=v10 w:=by
  obtain⟨a,b,c,d,e,f,g,i,j,k,rfl⟩:=len10 h;simp only[v10,mr,b10,Bq,Lc5,←Lbl,←Lbc,Lfh,Lbu,←Lcs,npv,Ldc,Ld1];simp
def plusT(x y:List Nat):List Nat:=Cr (addAt x y 10)
theorem plusT_v(hx:x.length=10)(hy:y.length=10):fe (v10 (plusT x y))=fe (v10 x)+fe (v10 y):=by
  rw[plusT,car10_v,addAt_v hx 10 (Lai _),npv_all hy,fe_add]
theorem plusT_fit(hx:Fit10 x)(hy:Fit10 y):Fit10 (plusT x y):=by
  refine car10_fit ?_;rw[addAt_v hx.len 10 (Lai _),npv_all hy.len];have:=hx.v;have:=hy.v;omega
def p4(i:Nat):Nat:=4*(2^A6 i-1-(if i=0 then 18 else 0))
def subAt(x y:List Nat):Nat→List Nat
  |0=>x
  |i+1=>(subAt x y i).set i ((subAt x y i).getD i 0+(p4 i-y.getD i 0))
theorem subAt_length{x:List Nat}(y:List Nat)(h:x.length=10):∀i,(subAt x y i).length=10
  |0=>h
  |i+1=>by rw[subAt,Lbk,subAt_length y h i]
def p4v:Nat→Nat
  |0=>0
  |k+1=>p4v k+2^Bq k*p4 k
theorem p4v_all:p4v 10=4*PF:=by kernel_rfl
theorem p4_ge(hy:Fit10 y)(hi:i<10):y.getD i 0≤p4 i:=by
  unfold p4;by_cases h0:i=0
  · subst h0
    have:=hy.lo;rw[if_pos rfl];show _≤4*(2^26-1-18);omega
  · have h1:=hy.hi i oM hi
    rw[if_neg h0];have:1≤2^A6 i:=Lbq dE;omega
theorem subAt_v{x y:List Nat}(h:x.length=10)(hy:Fit10 y):∀i,i≤10→v10 (subAt x y i)+npv y i=v10 x+p4v i
  |0,_=>rfl
  | i +1,hi=>by
    have ih:=subAt_v h hy i oM;have h1:=p4_ge hy (show i<10 by omega);have h2:2^Bq i*(p4 i-y.getD i 0)+2^Bq i*y.getD i 0=2^Bq i*p4 i:=by
      rw[←Lc5,Nat.sub_add_cancel h1]
    rw[subAt,v10_set (subAt_length y h i) _ oM,npv,p4v];omega
def minusT(x y:List Nat):List Nat:=Cr (subAt x y 10)
theorem minusT_v(hx:x.length=10)(hy:Fit10 y):fe (v10 (minusT x y))=fe (v10 x)-fe (v10 y):=by
  have h:=congrArg fe (subAt_v hx hy 10 (Lai _));rw[npv_all hy.len,p4v_all,fe_add,fe_add,fe_four]at h;rw[minusT,car10_v];generalize fe (v10 (subAt x y 10))=u at*;generalize fe (v10 x)=a at*;generalize fe (v10 y)=b at*;grind
theorem minusT_fit(hx:Fit10 x)(hy:Fit10 y):Fit10 (minusT x y):=by
  refine car10_fit ?_;have h:=subAt_v hx.len hy 10 (Lai _);rw[p4v_all]at h;have h1:=hx.v;have h2:PF<2^255:=by decide
  omega
theorem car10_low(h:v10 w<2^255):Cr w=dg (v10 w) b10:=by
  rw[Cr,Lbb h,Lfh,Lbu];rfl
theorem v10_dg{n:Nat}(h:n<2^255):v10 (dg n b10)=n:=by rw[v10,mr_dg,b10_sum,Laf h]
def low10(w:List Nat):Nat:=v10 w%2^255+19*(v10 w/2^255)
theorem low10_fe(w:List Nat):fe (low10 w)=fe (v10 w):=by rw[low10,←car10_val,car10_v]
theorem low10_lt(h:Fit10 w):low10 w<2^255:=by
  have h1:=h.v;rw[low10];omega
theorem car10_four(h:Fit10 w):Cr (Cr (Cr (Cr w)))=dg (low10 w) b10:=by
  have h1:=low10_lt h;have h2:v10 (Cr w)=low10 w:=car10_val w;have h3:Cr (Cr w)=dg (low10 w) b10:=by rw[car10_low (by rw[h2];exact h1),h2]
  have h4:Cr (dg (low10 w) b10)=dg (low10 w) b10:=by rw[car10_low (by rw[v10_dg h1];exact h1),v10_dg h1]
  rw[h3,h4,h4]
end Ed
namespace Ed
open Hw Go
structure Mid10(w:List Nat):Prop where
  len:w.length=10
  le:∀m,m<10→w.getD m 0≤7205759403792793600
variable{N X d i k:Nat}{w x y:List Nat}
theorem bits_ge(i:Nat):33554432≤2^A6 i:=by unfold A6;split<;>decide
theorem bits_le(i:Nat):2^A6 i≤67108864:=by unfold A6;split<;>decide
theorem bits_26(i:Nat):A6 i≤26:=by unfold A6;split<;>decide
theorem carAt_length{w:List Nat}(h:w.length=10):∀i,(Cq w i).length=10
  |0=>h
  |i+1=>by rw[Cq,stepC];split<;>simp[carAt_length h i]
theorem div_bits(x i:Nat)(h:x≤7205759403792793600+274877906944):x/2^A6 i≤274877906944:=by
  have h1:x/2^A6 i≤x/33554432:=Nat.div_le_div_left (bits_ge i) dE;omega
theorem carAt_le{w:List Nat}(h:Mid10 w):∀i,i<10→∀m,m<10→(Cq w i).getD m 0≤(if m=i then 7205759403792793600+274877906944 else 7205759403792793600)
  | 0,_,m,hm=>by
    have:=h.le m hm;rw[Cq];split<;>omega
  | i + 1,hi,m,hm=>by
    have ih:=carAt_le h i oM;have hl:=carAt_length h.len i;have h2:=ih i oM;rw[if_pos rfl]at h2;rw[Cq,stepC,if_neg oM,getD_set' (by rw[Lbk,hl];omega)];split
    · rename_i e
      rw[getD_set' (by rw[hl];omega),if_neg oM];have h1:=ih (i+1) oM;rw[if_neg oM]at h1;have h3:=div_bits _ i h2;omega
    · rename_i e
      rw[getD_set' (by rw[hl];omega)];split
      · have h3:(Cq w i).getD i 0%2^A6 i<2^A6 i:=Lbo _ (Lbq dE)
        have h4:=bits_le i;omega
      · rename_i e2
        have h1:=ih m hm;rw[if_neg e2]at h1;exact h1
structure CarK(w:List Nat)(k:Nat):Prop where
  len:(Cq w k).length=10
  x:(Cq w k).getD k 0≤7480637310737687*1000
  q:(Cq w k).getD k 0/2^A6 k≤274877906944
  nx:k<9→((Cq w k).set k ((Cq w k).getD k 0%2^A6 k)).getD (k+1) 0≤7205759403792793600
  fs:k=9→((Cq w k).set k ((Cq w k).getD k 0%2^A6 k)).getD 0 0≤7205759403792793600
theorem carK(h:Mid10 w)(hk:k<10):CarK w k:=by
  have hl:=carAt_length h.len k;have h0:=carAt_le h k hk;have h1:=h0 k hk;rw[if_pos rfl]at h1;refine⟨hl,by omega,div_bits _ k h1,fun h9=>?_,fun h9=>?_⟩
  · rw[getD_set' (by rw[hl];omega),if_neg oM]
    have:=h0 (k+1) oM;rwa[if_neg oM]at this
  · rw[getD_set' (by rw[hl];omega),if_neg oM]
    have:=h0 0 oM;rwa[if_neg oM]at this
theorem car_cut(x n:Nat):x/2^n*2^n≤x∧x-x/2^n*2^n=x%2^n:=by
  have:=Lf2 x (2^n);rw[Lb8]at this;omega
theorem stepC_nine(h:k=9):stepC w k=(w.set k (w.getD k 0%2^A6 k)).set 0 ((w.set k (w.getD k 0%2^A6 k)).getD 0 0+19*(w.getD k 0/2^A6 k)):=if_pos h
theorem stepC_low(h:¬k=9):stepC w k=(w.set k (w.getD k 0%2^A6 k)).set (k+1) ((w.set k (w.getD k 0%2^A6 k)).getD (k+1) 0+w.getD k 0/2^A6 k):=if_neg h
theorem Fit10.mid(h:Fit10 w):Mid10 w:=⟨h.len,fun m hm=>by have:=h.all hm;omega⟩
theorem car10_mid(h:v10 w<2^300):Mid10 (Cr w):=by
  refine⟨car10_length w,fun m hm=>?_⟩;have hl:(dg (v10 w) b10).length=10:=by rw[dg_length];rfl
  rw[Cr,getD_set' (by rw[hl];decide)];split
  · have h1:v10 w/2^255<2^45:=Lea oM
    have h2:=Lbo (v10 w) (show 0<2^26 by decide);omega
  · have h3:=dg_lt b10 (v10 w) m hm
    rw[b10_at ⟨m,hm⟩]at h3;have:=bits_le m;simp only at h3;omega
theorem tAll_mid(hx:Fit10 x)(hy:Fit10 y):Mid10 (tAll x y 10):=
  ⟨tAll_length x y 10,fun m hm=>by have:=tAll_le (term_le hx hy) 10 (Lai _) m hm;omega⟩
theorem tAll_v10(hx:Fit10 x)(hy:Fit10 y):v10 (tAll x y 10)<2^300:=by
  have h1:=tAll_le (term_le hx hy) 10 (Lai _);have h2:=v10_le (tAll_length x y 10) _ h1;omega
theorem addAt_get{x y:List Nat}(h:x.length=10):∀i,i≤10→∀m,m<10→(addAt x y i).getD m 0=x.getD m 0+(if m<i then y.getD m 0 else 0)
  |0,_,m,hm=>by rw[addAt,if_neg oM];rfl
  | i +1,hi,m,hm=>by
    have ih:=addAt_get (y:=y) h i oM;have hl:=addAt_length y h i;rw[addAt,getD_set' (by rw[hl];omega)];split
    · rename_i e
      subst e;rw[ih m hm,if_neg oM,if_pos oM];rfl
    · rename_i e
      rw[ih m hm];by_cases h1:m<i
      ·rw[if_pos h1,if_pos oM]
      ·rw[if_neg h1,if_neg oM]
theorem addAt_mid(hx:Fit10 x)(hy:Fit10 y):Mid10 (addAt x y 10):=
  ⟨addAt_length y hx.len 10,fun m hm=>by
    rw[addAt_get hx.len 10 (Lai _) m hm,if_pos hm];have:=hx.all hm;have:=hy.all hm;omega⟩
theorem subAt_get{x y:List Nat}(h:x.length=10):∀i,i≤10→∀m,m<10→(subAt x y i).getD m 0=x.getD m 0+(if m<i then p4 m-y.getD m 0 else 0)
  |0,_,m,hm=>by rw[subAt,if_neg oM];rfl
  | i +1,hi,m,hm=>by
    have ih:=subAt_get (y:=y) h i oM;have hl:=subAt_length y h i;rw[subAt,getD_set' (by rw[hl];omega)];split
    · rename_i e
      subst e;rw[ih m hm,if_neg oM,if_pos oM];rfl
    · rename_i e
      rw[ih m hm];by_cases h1:m<i
      ·rw[if_pos h1,if_pos oM]
      ·rw[if_neg h1,if_neg oM]
theorem p4_le(m:Nat):p4 m≤268435456:=by
  have:=bits_le m;unfold p4;omega
theorem subAt_mid(hx:Fit10 x):Mid10 (subAt x y 10):=
  ⟨subAt_length y hx.len 10,fun m hm=>by
    rw[subAt_get hx.len 10 (Lai _) m hm,if_pos hm];have:=hx.all hm;have:=p4_le m;omega⟩
def o10:List Nat:=[26,25,26,25,26,25,26,25,26,26]
def opB(i:Nat):Nat:=if i=9 then 26 else A6 i
def opD(N:Nat):List Nat:=dg N o10
def opAt(N i:Nat):List Nat:=(opD N).take i++List.replicate (10-i) 0
theorem opD_length(N:Nat):(opD N).length=10:=by rw[opD,dg_length];rfl
theorem opAt_length(N i:Nat)(h:i≤10):(opAt N i).length=10:=by
  rw[opAt,La3,Lam,opD_length,Ld5];omega
theorem dg_get:∀(bs:List Nat) (n i:Nat),i<bs.length→(dg n bs).getD i 0=n/2^(bs.take i).sum%2^bs.getD i 0
  | b::bs,n,0,_=>by
    show n%2^b=n/2^0%2^b;rw[Ldg,Lel]
  | b::bs,n,i+1,h=>by
    have ih:=dg_get bs (n/2^b) i (by simpa using h);show(dg (n/2^b) bs).getD i 0=n/2^(b+(bs.take i).sum)%2^bs.getD i 0;rw[ih,Law,←Lbc]
theorem o10_at:∀i:_root_.Fin 10,o10.getD i.val 0=opB i.val∧(o10.take i.val).sum=Bq i.val:=by decide
theorem opD_get(N:Nat)(h:i<10):(opD N).getD i 0=N/2^Bq i%2^opB i:=by
  have h1:=o10_at ⟨i,h⟩;rw[opD,dg_get o10 N i h,h1.1,h1.2]
theorem opAt_set(N:Nat)(h:i<10):(opAt N i).set i (N/2^Bq i%2^opB i)=opAt N (i+1):=by
  rw[←opD_get N h];have hl:=opD_length N;have e:(opD N).take (i+1)=(opD N).take i++[(opD N).getD i 0]:=by
    rw[La2,La6 oM,Lbi];exact Laq oM
  rw[opAt,opAt,show 10-i=(10-(i+1))+1 by omega,Lfe,Ldi _ _ (by rw[Lam,hl];omega),Lam,hl,show i-min i 10=0 by omega,Le4,e,La9];rfl
theorem opAt_first(N:Nat)(h:i<10):(opAt N i).set i (N/2^Bq i%2^0)=opAt N i:=by
  have hl:=opD_length N;rw[Ldg,Lfd,opAt,show 10-i=(10-(i+1))+1 by omega,Lfe,Ldi _ _ (by rw[Lam,hl];omega),Lam,hl,show i-min i 10=0 by omega,Le4]
theorem opAt_ten(N:Nat):opAt N 10=opD N:=by
  rw[opAt,Lf0,List.replicate_zero,Lav,La5 (by rw[opD_length];exact Lai _)]
theorem opD_v(h:N<2^256):v10 (opD N)=N:=by
  have h1:v10 (opD N)=mr (dg N o10) o10:=by simp[v10,opD,o10,b10,dg,mr]
  rw[h1,mr_dg];exact Laf h
theorem opD_mid(N:Nat):Mid10 (opD N):=⟨opD_length N,fun m hm=>by
  rw[opD_get N hm];have h1:N/2^Bq m%2^opB m<2^opB m:=Lbo _ (Lbq dE);have h2:2^opB m≤67108864:=by
    unfold opB;split
    ·decide
    ·exact bits_le m
  omega⟩
def openT(N:Nat):List Nat:=Cr (opD N)
theorem openT_fit(h:N<2^256):Fit10 (openT N):=car10_fit (by rw[opD_v h];omega)
theorem openT_v(h:N<2^256):fe (v10 (openT N))=fe N:=by rw[openT,car10_v,opD_v h]
theorem openT_length(N:Nat):(openT N).length=10:=car10_length _
theorem op_bit(N i k:Nat):N/2^Bq i%2^(k+1)=N/2^Bq i%2^k+(if N.testBit (Bq i+k)then 2^k else 0):=by
  rw[mod_bit,Nat.testBit_div_two_pow,Le0 k]
theorem at_succ(h:i<10):Bq i+A6 i=Bq (i+1):=by
  have:∀i:_root_.Fin 10,Bq i.val+A6 i.val=Bq (i.val+1):=by decide
  exact this ⟨i,h⟩
theorem at_le(h:i<10):Bq i≤230:=by unfold Bq;omega
theorem at_op(h:i<10):Bq i+opB i≤256:=by
  have:∀i:_root_.Fin 10,Bq i.val+opB i.val≤256:=by decide
  exact this ⟨i,h⟩
theorem op_le(i:Nat):opB i≤26:=by
  unfold opB;split
  ·exact Lai _
  ·exact bits_26 i
theorem byte_hi{n i:Nat}(h:n<256^i):n/256^i=0:=Lbb h
theorem bit_set(X:Nat){m:Nat}(hm:m<256)(hb:X.testBit m=true):(leb 32 (X%2^m)).set (m/8) ((leb 32 (X%2^m)).getD (m/8) 0+shl8 1 (m%8))=leb 32 (X%2^(m+1)):=by
  have e1:X%2^(m+1)=X%2^m+2^m:=by rw[mod_bit,if_pos hb]
  have e2:(2:Nat)^m=256^(m/8)*2^(m%8):=by rw[pow256,←Lbc];congr 1;omega
  have hlt:X%2^m<2^m:=Lbo _ (Lbq dE);rw[e1];generalize X%2^m=A at*;have hc:2^(m%8)<256:=Nat.pow_lt_pow_of_lt (a:=2) (n:=m%8) (m:=8) dE oM;have hj:m/8<32:=by omega
  generalize m/8=j at*;apply Lcq;intro i;rcases Laz i 32 with hi|hi
  · rw [Lcv,Ai,leb_get 32 (A+2^m) i hi]
    split
    · rename_i e
      subst e;rw[leb_getD 32 A _ hj];congr 1;rw[shl8,show(1:UInt8).toNat=1 from rfl,Ldt,e2,Lbj _ _ (Lbq dE),←UInt8.ofNat_add]
    · rename_i e
      rw[leb_get 32 A i hi];congr 1;apply ofNat8;rcases Laz i j with h|h
      ·rw[e2,byte_low A _ j i h]
      · have h2:j+1≤i:=by omega
        have h3:A+2^m<256^i:=by
          have h4:(256:Nat)^(j+1)≤256^i:=Lc6 dE h2;have h5:(2:Nat)^m+2^m≤256^(j+1):=by
            rw[e2,Lb7,←Lc5];refine Lc4 _ ?_;have h6:2^(m%8)≤2^7:=Lc6 dE oM;omega
          omega
        rw[byte_hi h3,byte_hi oM]
  ·rw[Lau (by rw[Lbk,Ai];exact hi),Lau (by rw[Ai];exact hi)]
theorem bit_off(X m:Nat)(hb:X.testBit m=false):leb 32 (X%2^m)=leb 32 (X%2^(m+1)):=by
  rw[mod_bit,if_neg (by rw[hb];decide),Lbu]
theorem dg_bit(X:Nat)(hi:i<10)(hk:k<A6 i):((dg X b10).getD i 0).testBit k=X.testBit (Bq i+k):=by
  have h1:=b10_at ⟨i,hi⟩;have h2:=at_sum ⟨i,hi⟩;rw[dg_get b10 X i hi,h1,h2,Nat.testBit_mod_two_pow,Nat.testBit_div_two_pow,decide_eq_true hk,Bool.true_and,Le0 k]
theorem dg_bit_dec(X:Nat)(hi:i<10)(hk:k<A6 i):((((dg X b10).getD i 0/2^k:Nat):Int)%2=1)↔X.testBit (Bq i+k)=true:=by
  rw[←dg_bit X hi hk,Lc3,decide_eq_true_eq];omega
def topL(d:Nat):List UInt8:=UInt8.ofNat (237+d)::(List.replicate 30 255++[127])
theorem top_all:((List.range 19).all fun d=>leb 32 (PF+d)==topL d&&leb 32 d==UInt8.ofNat d::List.replicate 31 0)=true:=by kernel_rfl
theorem top_at(h:d<19):leb 32 (PF+d)=topL d∧leb 32 d=UInt8.ofNat d::List.replicate 31 0:=by
  have:=Lbt.1 top_all d (Ld6.2 h);rw[Lan]at this;exact⟨eq_of_beq this.1,eq_of_beq this.2⟩
theorem pf_19:PF+19=2^255:=by decide
theorem fb_low(h:X<PF):leb 32 X=fb (fe X):=by rw[fb_fe,Laf h]
theorem not_top(hX:X<2^255)(h:¬(237≤((leb 32 X).getD 0 0).toNat∧((leb 32 X).getD 31 0).toNat=127)):leb 32 X=fb (fe X):=by
  rcases Laz X PF with h1|h1
  ·exact fb_low h1
  · exfalso
    have h2:=pf_19;obtain⟨d,rfl⟩:∃d,X=PF+d:=⟨X-PF,by omega⟩;have hd:d<19:=by omega
    rw[(top_at hd).1]at h;refine h ⟨?_,rfl⟩;show 237≤(UInt8.ofNat (237+d)).toNat;rw[Lb1];omega
theorem not_mid(hX:X<2^255)(hi:0<i)(hi2:i<31)(h:¬((leb 32 X).getD i 0).toNat=255):leb 32 X=fb (fe X):=by
  rcases Laz X PF with h1|h1
  ·exact fb_low h1
  · exfalso
    have h2:=pf_19;obtain⟨d,rfl⟩:∃d,X=PF+d:=⟨X-PF,by omega⟩;have hd:d<19:=by omega
    rw[(top_at hd).1]at h;refine h ?_;obtain⟨j,rfl⟩:∃j,i=j+1:=⟨i-1,by omega⟩;show((List.replicate 30 (255:UInt8)++[127]).getD j 0).toNat=255;rw[La2,Lb4 (by rw[Ld5];omega),Les oM];rfl
theorem u8_eq(x y:UInt8)(h:x.toNat=y.toNat):x=y:=Lcy.1 h
theorem top_list{l:List UInt8}(hl:l.length=32)(hd19:d<19)(hd:(l.getD 0 0).toNat=237+d)(h31:(l.getD 31 0).toNat=127)(hm:∀i,0<i→i<31→(l.getD i 0).toNat=255):l=topL d:=by
  apply Lcq;intro i;rcases Laz i 32 with hi|hi
  · have g:l[i]? =some (l.getD i 0):=by
      rw[La2,La6 oM];rfl
    rw[g];by_cases h1:i=0
    · rw[h1]
      show _=some (UInt8.ofNat (237+d));refine congrArg some (u8_eq _ _ ?_);rw[hd,Lb1];exact(Laf oM).symm
    · obtain⟨j,rfl⟩:∃j,i=j+1:=⟨i-1,by omega⟩
      show _=(List.replicate 30 (255:UInt8)++[127])[j]?;by_cases h2:j=30
      · rw[h2]
        exact congrArg some (u8_eq _ _ h31)
      · rw[Lb4 (by rw[Ld5];omega),Les oM]
        exact congrArg some (u8_eq _ _ (hm (j+1) oM oM))
  ·rw[Lau oM,Lau (by simp only[topL,Lb0,La3,Ld5,Lef];omega)]
theorem top_sub:∀d:_root_.Fin 19,UInt8.ofNat (237+d.val)-237=UInt8.ofNat d.val:=by decide
theorem top_val(hX:X<2^255)(hd:d<19)(h:leb 32 X=topL d):X=PF+d:=by
  have h5:=(top_at hd).1;rw[←h]at h5;have h6:=congrArg le h5;have h7:=pf_19;rw[le_leb,le_leb]at h6;generalize PF=p at*;rw[Laf (Lbf (show p+d<2^255 by omega) (Lfy dE)),Laf (Lda hX dE)]at h6;exact h6.symm
theorem is_top(hX:X<2^255)(h0:237≤((leb 32 X).getD 0 0).toNat)(h31:((leb 32 X).getD 31 0).toNat=127)(hm:∀i,0<i→i<31→((leb 32 X).getD i 0).toNat=255):((leb 32 X).getD 0 0-237)::List.replicate 31 0=fb (fe X):=by
  have h3:=((leb 32 X).getD 0 0).toNat_lt;obtain⟨d,hd⟩:∃d,((leb 32 X).getD 0 0).toNat=237+d:=⟨((leb 32 X).getD 0 0).toNat-237,by omega⟩;have hd19:d<19:=by omega
  have e:=top_list (Ai 32 X) hd19 hd h31 hm;have e2:=top_val hX hd19 e;have e3:(leb 32 X).getD 0 0=UInt8.ofNat (237+d):=by rw[e];rfl
  have h7:fe X=fe d:=by rw[e2,fe_eq,Nat.add_mod_left]
  rw[h7,fb_fe,Laf (Lda hd19 dE),(top_at hd19).2,e3,top_sub ⟨d,hd19⟩]
theorem finv_mulF(a b:Fp):finv (a*b)=finv a*finv b:=mulpow dE
def cA:Fp:=fe 121666
def cB:Fp:=fe 121665
theorem cA_ne:cA≠0:=by
  intro h;have:=congrArg Fin.val h;revert this;decide
theorem fD_cA:fD*cA= -cB:=by kernel_rfl
theorem ref_quot(Y:Fp):cA*(Y*Y-1)*finv (cA-cB*(Y*Y))=(Y*Y-1)*finv (fD*(Y*Y)+1):=by
  have h1:cA-cB*(Y*Y)=cA*(fD*(Y*Y)+1):=by
    have:=fD_cA;generalize Y*Y=q at*;generalize cA=a at*;generalize cB=b at*;generalize fD=d at*;grind
  have h2:=finv_mul cA_ne;rw[h1,finv_mulF];generalize finv (fD*(Y*Y)+1)=u at*;generalize finv cA=v at*;generalize cA=a at*;grind
theorem ref_D: -cB*finv cA=fD:=by
  have h1:=fD_cA;have h2:=finv_mul cA_ne;generalize finv cA=v at*;generalize cA=a at*;generalize cB=b at*;generalize fD=d at*;grind
end Ed
namespace Ed
open Hw Go
def oneT:List Nat:=1::List.replicate 9 0
def powT(x:List Nat)(E:Nat):Nat→List Nat
  |0=>oneT
  |j+1=>if E.testBit (255-j)=true then mulT (mulT (powT x E j) (powT x E j)) x else mulT (powT x E j) (powT x E j)
variable{E i j:Nat}{x:List Nat}
theorem oneT_v:fe (v10 oneT)=1:=by kernel_rfl
theorem oneT_fit:Fit10 oneT:=⟨rfl,by decide,fun i h1 h2=>by
  have:∀i:_root_.Fin 10,oneT.getD i.val 0<2^A6 i.val:=by decide
  exact this ⟨i,h2⟩⟩
theorem test_div(E j:Nat)(b:Bool)(h:E.testBit j=b):E/2^j%2=(if b=true then 1 else 0):=by
  rw[←h,Lc3];simp only[decide_eq_true_eq];split<;>omega
theorem powT_ok{x:List Nat}(hx:Fit10 x){E:Nat}(hE:E<2^256):∀j,j≤256→Fit10 (powT x E j)∧fe (v10 (powT x E j))=Cm (fe (v10 x)) (E/2^(256-j))
  |0,_=>⟨oneT_fit,by rw[powT,oneT_v,show 256-0=256 from rfl,Lbb hE,fpow_zero]⟩
  | j +1,hj=>by
    obtain⟨h1,h2⟩:=powT_ok hx hE j oM;have h3:E/2^(256-(j+1))≤E:=Lcz _ _;rw[next_div E j oM]at h3 ⊢;rw[powT];cases hb:E.testBit (255-j)with
    | true=>
      have h4:=test_div E (255-j) true hb;rw[if_pos rfl]at h4;rw[h4]at h3 ⊢;rw[if_pos rfl];refine⟨Bf (Bf h1 h1) hx,?_⟩;rw[mulT_v (mulT_length _ _) hx.len,mulT_v h1.len h1.len,h2,fpow_succ oM,fpow_two oM]
    | false=>
      have h4:=test_div E (255-j) false hb;rw[if_neg dE]at h4;rw[h4]at h3 ⊢;rw[if_neg dE];refine⟨Bf h1 h1,?_⟩;rw[mulT_v h1.len h1.len,h2,Lbu,fpow_two oM]
theorem powT_all(hx:Fit10 x)(hE:E<2^256):fe (v10 (powT x E 256))=Cm (fe (v10 x)) E:=by
  have h:=(powT_ok hx hE 256 (Lai _)).2;rwa[Lf0,Ldg,Lel]at h
theorem powT_t(h:E.testBit (255-j)=true):powT x E (j+1)=mulT (mulT (powT x E j) (powT x E j)) x:=if_pos h
theorem powT_f(h:E.testBit (255-j)=false):powT x E (j+1)=mulT (powT x E j) (powT x E j):=if_neg (by rw[h];decide)
def Cd(M i:Nat):List UInt8:=(leb 32 (M/2)).take i++(leb 32 M).drop i
theorem halfAt_length(M i:Nat)(h:i≤32):(Cd M i).length=32:=by
  rw[Cd,La3,Lam,Lce,Ai,Ai];omega
theorem halfAt_zero(M:Nat):Cd M 0=leb 32 M:=rfl
theorem halfAt_end(M:Nat):Cd M 32=leb 32 (M/2):=by
  rw[Cd,La5 (by rw[Ai];exact Lai _),Lao (by rw[Ai];exact Lai _),Lav]
theorem halfAt_get(M:Nat)(hi:i≤j)(hj:j<32):(Cd M i).getD j 0=UInt8.ofNat (M/256^j):=by
  rw[Cd,La2,Lbd (by rw[Lam,Ai];omega),Lam,Ai,Lb6,show i+(j-min i 32)=j by omega,leb_get 32 M j hj];rfl
theorem half_byte(M i:Nat):M/2/256^i%256=M/256^i%256/2+128*(M/256^(i+1)%2):=by
  have e1:M/2/256^i=M/256^i/2:=by rw[Law,Law,Lb8]
  have e2:M/256^(i+1)=M/256^i/256:=by rw[Law,Lb7]
  rw[e1,e2];generalize M/256^i=x;omega
theorem halfAt_next(M:Nat)(h:i<32)(v:UInt8)(hv:v=UInt8.ofNat (M/2/256^i)):(Cd M i).set i v=Cd M (i+1):=by
  have hl:(leb 32 (M/2)).length=32:=Ai _ _;have hl2:(leb 32 M).length=32:=Ai _ _;have e:(leb 32 (M/2)).take (i+1)=(leb 32 (M/2)).take i++[v]:=by
    have e3:(leb 32 (M/2))[i]'oM=v:=by
      have:=leb_get 32 (M/2) i h;rw[La6 oM]at this;rw[hv];exact Lee this
    rw[←e3];exact Laq oM
  have e2:(leb 32 M).drop i=(leb 32 M)[i]'oM::(leb 32 M).drop (i+1):=Lby oM;rw[Cd,Cd,e,e2,Ldi _ _ (by rw[Lam,hl];omega),Lam,hl,show i-min i 32=0 by omega,Le4,La9];rfl
theorem half_odd(M:Nat)(h:i<31)(hb:(((Cd M i).set i (UInt8.ofNat (((Cd M i).getD i 0).toNat/2))).getD (i+1) 0).toNat%2=1):
    ((Cd M i).set i (UInt8.ofNat (((Cd M i).getD i 0).toNat/2))).set i (((Cd M i).set i (UInt8.ofNat (((Cd M i).getD i 0).toNat/2))).getD i 0+128)=Cd M (i+1):=by
  have hl:=halfAt_length M i oM;have g1:((Cd M i).set i (UInt8.ofNat (((Cd M i).getD i 0).toNat/2))).getD i 0=UInt8.ofNat (((Cd M i).getD i 0).toNat/2):=by
    rw[La2,Leu oM];rfl
  have g2:((Cd M i).set i (UInt8.ofNat (((Cd M i).getD i 0).toNat/2))).getD (i+1) 0=UInt8.ofNat (M/256^(i+1)):=by
    rw[La2,Lec oM,←La2,halfAt_get M oM oM]
  rw[g2,Lb1]at hb;rw[g1,List.set_set];refine halfAt_next M oM _ ?_;rw[halfAt_get M (Lai _) oM,show(128:UInt8)=UInt8.ofNat 128 from rfl,←UInt8.ofNat_add,Lb1];apply ofNat8;have:=half_byte M i;omega
theorem half_even(M:Nat)(h:i<31)(hb:¬(((Cd M i).set i (UInt8.ofNat (((Cd M i).getD i 0).toNat/2))).getD (i+1) 0).toNat%2=1):
    (Cd M i).set i (UInt8.ofNat (((Cd M i).getD i 0).toNat/2))=Cd M (i+1):=by
  have hl:=halfAt_length M i oM;have g2:((Cd M i).set i (UInt8.ofNat (((Cd M i).getD i 0).toNat/2))).getD (i+1) 0=UInt8.ofNat (M/256^(i+1)):=by
    rw[La2,Lec oM,←La2,halfAt_get M oM oM]
  rw[g2,Lb1]at hb;refine halfAt_next M oM _ ?_;rw[halfAt_get M (Lai _) oM,Lb1];apply ofNat8;have:=half_byte M i;omega
theorem half_last(M:Nat)(hM:M<2^256):(Cd M 31).set 31 (UInt8.ofNat (((Cd M 31).getD 31 0).toNat/2))=Cd M 32:=by
  refine halfAt_next M oM _ ?_;rw[halfAt_get M (Lai _) oM,Lb1];apply ofNat8;have:=half_byte M 31;have h2:M/256^(31+1)=0:=Lbb (Lbf hM dE);omega
theorem ones_leb(f l:UInt8):leb 32 (le (onesB f l))=onesB f l:=by
  have:=leb_le (onesB f l);rwa[onesB_length]at this
def expT(n k:Nat):List UInt8:=leb 32 (le (onesB (UInt8.ofNat (237-n)) 127)/2^k)
theorem expT_length(n k:Nat):(expT n k).length=32:=Ai _ _
theorem expT_inv:le (expT 2 0)=PF-2:=by kernel_rfl
theorem expT_root:le (expT 5 3)=(PF-5)/8:=by kernel_rfl
theorem expT_unit:le (expT 1 2)=(PF-1)/4:=by kernel_rfl
theorem root_step(X:Fp):Cm X ((PF-5)/8)*X=Cm X ((PF+3)/8):=by
  rw[←fpow_succ dE];rfl
end Ed
namespace Go.Proofs.YtpogmfngccolbaaGreat
open Go Hw _root_.Go.Proofs.Tryz
structure far where
  fX:List Nat
  fY:List Nat
  fZ:List Nat
def far.cells(x:far):List Value:=Bj x.fX++(Bj x.fY++(Bj x.fZ))
structure far.ok(x:far):Prop where
  l_fX:x.fX.length=10
  l_fY:x.fY.length=10
  l_fZ:x.fZ.length=10
variable{x:far}
theorem far.length(h:x.ok):x.cells.length=30:=by simp[far.cells,Aa,Bj,B3,h.l_fX,h.l_fY,h.l_fZ]
theorem far.isCell{x:far}(h:x.ok):∀u∈x.cells,isCell u=true:=by
  intro u hu;simp only[far.cells,Laa,La1,Aa,Bj,B3,La8]at hu;rcases hu with ⟨_,_,rfl⟩|⟨_,_,rfl⟩|⟨_,_,rfl⟩<;>rfl
theorem far.row_fX(h:x.ok):(x.cells.drop 0).take 10=Bj x.fX:=by simp[far.cells,Aa,Bj,B3,h.l_fX,h.l_fY,h.l_fZ,Lbn,Lbe,Lao,La5]
theorem far.rl_fX(h:x.ok):(Bj x.fX).length=10:=by simp[Aa,Bj,B3,h.l_fX]
theorem far.row_fY(h:x.ok):(x.cells.drop 10).take 10=Bj x.fY:=by simp[far.cells,Aa,Bj,B3,h.l_fX,h.l_fY,h.l_fZ,Lbn,Lbe,Lao,La5]
theorem far.rl_fY(h:x.ok):(Bj x.fY).length=10:=by simp[Aa,Bj,B3,h.l_fY]
theorem far.row_fZ(h:x.ok):(x.cells.drop 20).take 10=Bj x.fZ:=by simp[far.cells,Aa,Bj,B3,h.l_fX,h.l_fY,h.l_fZ,Lbn,Lbe,Lao,La5]
theorem far.rl_fZ(h:x.ok):(Bj x.fZ).length=10:=by simp[Aa,Bj,B3,h.l_fZ]
def far.zero:far:=⟨List.replicate 10 0,List.replicate 10 0,List.replicate 10 0⟩
theorem far.zero_ok:far.zero.ok:=by constructor<;>simp[far.zero]
theorem far.zr:Zr prog 265 (agg far.zero.cells):=by unfold Zr;kernel_rfl
end Go.Proofs.YtpogmfngccolbaaGreat
namespace Hw
open Go
def ev:List Nat→Nat
  | []=>0
  |x::l=>x+256*ev l
def addC(l:List Nat)(k v:Nat):List Nat:=l.set k (l.getD k 0+v)
theorem addC_length(l:List Nat)(k v:Nat):(addC l k v).length=l.length:=by simp[addC]
theorem ev_addC:∀(l:List Nat) (k v:Nat),k<l.length→ev (addC l k v)=ev l+v*256^k
  | [],_,_,h=>by simp at h
  |x::l,0,v,_=>by simp[addC,ev];omega
  | x::l,k+1,v,h=>by
    have:=ev_addC l k v (by simpa using h);simp only[addC,Lfl,Ld1,ev]at this ⊢;rw[this,Lb7,Lc5,Lcs,←Lbl v,Lb8 (v*256^k) 256]
def inn(a b:List UInt8)(i:Nat)(l:List Nat):Nat→List Nat
  |0=>l
  |q+1=>addC (inn a b i l q) (i+q) ((a.getD i 0).toNat*(b.getD q 0).toNat)
theorem inn_length(a b:List UInt8)(i:Nat)(l:List Nat):∀q,(inn a b i l q).length=l.length
  |0=>rfl
  |q+1=>by rw[inn,addC_length,inn_length a b i l q]
def out(a b:List UInt8):Nat→List Nat
  |0=>List.replicate 64 0
  |p+1=>inn a b p (out a b p) 32
theorem out_length(a b:List UInt8):∀p,(out a b p).length=64
  |0=>by simp[out]
  |p+1=>by rw[out,inn_length,out_length a b p]
theorem ev_inn(a b:List UInt8)(i:Nat)(l:List Nat)(hb:b.length=32)(hi:i<32)(hl:l.length=64):∀q,q≤32→ev (inn a b i l q)=ev l+(a.getD i 0).toNat*256^i*le (b.take q)
  |0,_=>by simp[inn,le]
  | q+1,h=>by
    rw[inn,ev_addC _ _ _ (by rw[inn_length];omega),ev_inn a b i l hb hi hl q oM,le_take_succ b q oM,Lc5,Lcs,Lbc];congr 2;rw[Lbl,Lbl,Lb8 (b.getD q 0).toNat,Lbl]
theorem ev_zeros:∀k,ev (List.replicate k 0)=0
  |0=>rfl
  |k+1=>by simp[List.replicate,ev,ev_zeros k]
theorem ev_out(a b:List UInt8)(ha:a.length=32)(hb:b.length=32):∀p,p≤32→ev (out a b p)=le (a.take p)*le b
  |0,_=>by rw[out,ev_zeros,Le7,le,Lez]
  | p+1,h=>by
    rw[out,ev_inn a b p _ hb oM (out_length a b p) 32 oM,ev_out a b ha hb p oM,le_take_succ a p oM,La5 (l:=b) oM,Lcb,Lb8 (256^p)]
theorem addC_le(l:List Nat)(k v M N:Nat)(h:∀j,l.getD j 0≤M)(hv:v≤N):∀j,(addC l k v).getD j 0≤M+N:=fun j=>by
  have hj:=h j;have hk:=h k;simp only[addC,La2,Lcv]at*;by_cases e:k=j
  · subst e
    rw[if_pos rfl];split
    ·simp only[Lbi];omega
    ·simp
  ·rw[if_neg e];omega
theorem inn_le'(a b:List UInt8)(i:Nat)(l:List Nat)(M K:Nat)(hK:K=255*255)(h:∀j,l.getD j 0≤M):∀q j,(inn a b i l q).getD j 0≤M+K*q
  |0,j=>by simpa[inn]using h j
  | q+1,j=>by
    have hx:=(a.getD i 0).toNat_lt;have hy:=(b.getD q 0).toNat_lt;have hm:(a.getD i 0).toNat*(b.getD q 0).toNat≤K:=by rw[hK];exact Lco oM oM
    have:=addC_le _ (i+q) _ _ _ (inn_le' a b i l M K hK h q) hm j;rw[inn,Lc5,Lb5,←Lcs];exact this
theorem inn_le(a b:List UInt8)(i:Nat)(l:List Nat)(M:Nat)(h:∀j,l.getD j 0≤M)(q j:Nat):(inn a b i l q).getD j 0≤M+65025*q:=inn_le' a b i l M 65025 rfl h q j
theorem out_le'(a b:List UInt8)(K:Nat)(hK:K=65025*32):∀p j,(out a b p).getD j 0≤K*p
  | 0,j=>by
    rw[out,La2,Lep];split
    ·rw[Lbi];exact Lar _
    ·rw[Lgr];exact Lar _
  | p+1,j=>by
    have:=inn_le a b p (out a b p) _ (out_le' a b K hK p) 32 j;rw[out,Lc5,Lb5];rw[←hK]at this;exact this
theorem out_le(a b:List UInt8)(p j:Nat):(out a b p).getD j 0≤2080800*p:=out_le' a b 2080800 rfl p j
theorem ev_take_succ:∀(l:List Nat) (k:Nat),k<l.length→ev (l.take (k+1))=ev (l.take k)+256^k*l.getD k 0
  | [],_,h=>by simp at h
  |x::l,0,_=>by simp[ev]
  | x::l,k+1,h=>by
    have:=ev_take_succ l k (by simpa using h);simp only[Len,ev,Ld1]at this ⊢;rw[this,Lc5,Lb7,Lcs,Lb8 (256^k) 256,Lbl]
theorem ev_take_le(l:List Nat)(M:Nat)(h:∀j,l.getD j 0≤M):∀k,ev (l.take k)/256^k≤M
  |0=>by simp[ev]
  | k +1=>by
    rcases Laz k l.length with hk|hk
    · rw[ev_take_succ l k hk,Lb7,←Law,Lbj _ _ (Lbq dE)]
      have h1:=ev_take_le l M h k;have h2:=h k;omega
    · have h1:=ev_take_le l M h k
      rw[La5 oM,Lb7,←Law];rw[La5 hk]at h1;exact Lbp (Lcz _ _) h1
def natsV(l:List Nat):List Value:=l.map fun(n:Nat)=>i64 (n:Int)
theorem natsV_length(l:List Nat):(natsV l).length=l.length:=by simp[natsV]
theorem get_nats{l:List Nat}{o:Nat}(h:o<l.length):(natsV l)[o]? =some (i64 ((l.getD o 0:Nat):Int)):=by
  simp[natsV,Lal,List.getD,h]
theorem set_nats(l:List Nat)(o v:Nat):(natsV l).set o (i64 (v:Int))=natsV (l.set o v):=by simp[natsV,Le1]
theorem addC_set(l:List Nat)(k x y:Nat):natsV (addC l k (x*y))=(natsV l).set k (i64 (((l.getD k 0:Nat):Int)+(x:Int)*(y:Int))):=by
  rw[addC,←set_nats,Lc1,Lg4]
theorem natsV_zeros(n:Nat):natsV (List.replicate n 0)=B3 (List.replicate n 0):=by simp[natsV,B3]
theorem natCast_mul_le{x y:Nat}(hx:x<256)(hy:y<256):(0:Int)≤(x:Int)*(y:Int)∧(x:Int)*(y:Int)≤65025:=by
  rw[←Lg4];have:x*y≤255*255:=Lco oM oM;omega
theorem le512{a b:List UInt8}(ha:a.length=32)(hb:b.length=32):le a*le b<256^64:=by
  have h1:=le_lt a;have h2:=le_lt b;rw[ha]at h1;rw[hb]at h2;exact Nat.lt_of_lt_of_eq (Nat.mul_lt_mul'' h1 h2) (Lbc 256 32 32).symm
theorem ev_all(a b:List UInt8)(ha:a.length=32)(hb:b.length=32):ev ((out a b 32).take 64)=le a*le b:=by
  rw[La5 (by rw[out_length];omega),ev_out a b ha hb 32 oM,La5 oM]
end Hw
namespace Hw
open Go
variable{x:Nat}
theorem or_one(x:Nat):x|||1=if x%2=0 then x+1 else x:=by
  have h:=Nat.or_mod_two_pow (a:=x) (b:=1) (n:=1);have h2:=Nat.or_div_two_pow (a:=x) (b:=1) (n:=1);simp only[Nat.pow_one]at h h2;have e:x%2=0∨x%2=1:=by omega
  have hm:(x|||1)%2=1:=by
    rw[h];rcases e with e|e<;>rw[e]<;>rfl
  have hd:(x|||1)/2=x/2:=by rw[h2];simp
  split<;>omega
theorem or_one_lt{x k:Nat}(hk:1≤k):(x|||1)<2^k↔x<2^k:=by
  rw[or_one];have:2^k=2*2^(k-1):=by rw[←Nat.pow_succ'];congr 1;omega
  split<;>omega
theorem szN_le{x s:Nat}(hs:1≤s)(h8:s≤8):szN x≤s↔x<2^(7*s):=by
  rw[←or_one_lt oM,←bLen_le];unfold szN;omega
theorem szN_hi(hs:szN x≤8):x<2^(7*szN x):=(szN_le (Ct x).1 hs).1 (Lai _)
end Hw
namespace Hw
open Go Go.RowKit
structure RowE(s:Sl)(bl:List Blk)(cells:List Value)(n:Nat):Prop where
  num:s.n=n
  cap:s.n≤s.c
  see:∀W,Lies bl W→SeesP W s.p cells
  nil:s.p=none→s.c=0
section
variable{C:Cx}{ops:Array Oper}{rest:List (Nat×Oper)}{sl:List (Nat×Value)}{hp hp':List Blk}{Q:St→Prop}{c d:Nat}{ty:TypeId}{pos:String}{af:Array Edge}{g:Option (Nat×Bool)}
theorem Tr.appendE{x y:Operand}{b m size by' c2:Nat}{T tx E E2:TypeId}{z:Value}{p:Option Addr}(news:List Value)(hg:Ak ops sl g=true)(hk:okG c d C.N=true)
    (hx:Ag sl x=some (.slice (some ⟨b,0,none⟩) 0 0)) (hy:Ag sl y=some (.slice p m c2)) (hu:C.P.underlying T=some (.slice E)) (hut:C.P.underlying tx=some (.slice E2)) (hs:Sz C.P E size) (hz:Zr C.P E z) (hb:By C.P E by') (hzc:z.cells.size=size)
    (hsee:∀w,HRep C hp w→SeesP w p news) (hpn:p=none→m=0) (hcell:∀u∈news,isCell u=true) (hbig:m≤1000000) (hfit:m*by'≤140737488355328) (hnl:news.length=m*size)
    (k:∀s bl,RowE s bl news m→Tr C ops rest ⟨(d,s.v)::sl,bl++hp⟩ Q):
    Tr C ops ((c,⟨some d, .call { callee:= .builtin .append,args:= #[x,y],argTypes:= #[T,tx] },ty,pos,af,g⟩)::rest) ⟨sl,hp⟩ Q:=by
  simp only[okG,Lan,Lc2]at hk;have hrow:∀q cap',m≤cap'→RowE ⟨some ⟨q,0,none⟩,m,cap'⟩ [⟨q,news,E,cap'*size⟩] news m:=fun q cap' h=>⟨rfl,h,fun W hw=>(Acc.some (E:=E) h hnl).see hw,fun e=>by cases e⟩;refine Tr.grow (ρ:=Sl×List Blk) (fun r=>RowE r.1 r.2 news m) (fun r=>r.1.v) (fun r=>r.2) (hk.1.imp nbeq' nbeq') (Ay hg) (B4 (nblt hk.2))
    ⟨by simpa[Known,Op.operands,Call.operands]using known2 hx hy,fun l hl=>?_,fun a w hf hh=>?_⟩ (fun r hr=>k r.1 r.2 hr)
  · obtain⟨q,_,hq⟩:=fresh_is 0 l
    refine⟨(⟨some ⟨q,0,none⟩,m,m⟩,[⟨q,news,E,m*size⟩]),hrow q m (Lai _),?_⟩;simp only[Lca,Lap,Lay];exact⟨fun h=>by obtain⟨b,hb,e⟩:=La8.1 h;exact hq b hb e,hl⟩
  · have h1:=hf x (by simp[Op.operands,Call.operands]);rw[hx]at h1
    have h2:=hf y (by simp[Op.operands,Call.operands]);rw[hy]at h2;simp only[La7]at h1 h2;unfold Sz at hs;unfold Zr at hz;unfold By at hb;cases hi:C.P.info? E with
    |none=>rw[hi]at hs;simp at hs
    | some i=>
      rw[hi]at hs hz hb;simp only[Lbg,La7,Lbs]at hs hz hb;subst hs;have hS:Src C.P i.size tx (.slice p m c2) m news w:=Src.ofP hut (hsee w hh) hpn hnl hcell;unfold Oper.wp;rcases Lg8 m with rfl|hm
      · obtain rfl:news=[]:=Lah (by rw[hnl];simp)
        have hrun:(Builtin.append_ #[T,tx] ty #[.slice (some ⟨b,0,none⟩) 0 0, .slice p 0 c2]).run C.P w= .ok (.slice (some ⟨b,0,none⟩) 0 0) w:=by
          rcases hS.kind with ⟨e',hk⟩|hk<;>simp[Builtin.append_,run_underlying hu,run_underlying hk,Go.sizeOf,typeInfo,hi,hS.len,hS.cells,storeCells]
        have hex:(execOp a.eval ⟨some d, .call { callee:= .builtin .append,args:= #[x,y],argTypes:= #[T,tx] },ty,pos,af,g⟩).run C.P w= .ok (.value (.slice (some ⟨b,0,none⟩) 0 0)) w:=by
          simp[execOp,resolve,invoke,builtin,←h1,←h2,hrun]
        rw[hex];exact⟨(⟨some ⟨b,0,none⟩,0,0⟩,[]),⟨rfl,Lai _,fun W _=>SeesP.nil,fun e=>by cases e⟩,rfl,⟨Keeps.refl _ _,by simp,by simp,by simp⟩⟩
      · have hold:(Builtin.firstCells i.size 0 (.slice (some ⟨b,0,none⟩) 0 0)).run C.P w.drew= .ok ([]:List Value).toArray w.drew:=
          run_firstCells_some w.drew i.size 0 ⟨b,0,none⟩ 0 0 [] sP (fun j u hj=>by simp at hj)
        have hrun:=run_append_grow_src (P:=C.P) w T tx ty E i z hu hi hz (some ⟨b,0,none⟩) 0 0 [] hold _ m news hS oM oM (growslice_fits oM (by rw[hb];simpa using hfit));simp only[Lb3,Lac]at hrun;have hge:=grownCap_ge w m 0 E;have hex:(execOp a.eval ⟨some d, .call { callee:= .builtin .append,args:= #[x,y],argTypes:= #[T,tx] },ty,pos,af,g⟩).run C.P w= .ok (.value (.slice (some ⟨w.heap.size,0,none⟩) m (grownCap w m 0 E))) (w.drew.alloc (.cells (news.toArray++Builtin.zeroCells z.cells (grownCap w m 0 E-m)) E)):=by
          simp[execOp,resolve,invoke,builtin,←h1,←h2,hrun]
        rw[hex];refine⟨(⟨some ⟨w.heap.size,0,none⟩,m,grownCap w m 0 E⟩,[⟨w.heap.size,news,E,grownCap w m 0 E*i.size⟩]),hrow _ _ hge,rfl,Ret.pushD _ _ _ _ ?_ sP⟩;have e:grownCap w m 0 E*i.size=m*i.size+(grownCap w m 0 E-m)*i.size:=by rw[←Lcb];congr 1;omega
        simp[Builtin.zeroCells,hnl,hzc,e]
end
end Hw
namespace Go.Proofs.YtpogmfngccolbaaGreat
open Go Go.Shelf Hw
def sortD_ren:Go.Shelf.Ren:=⟨fun|6=>140|15=>184|14=>183|28=>225|29=>210|20=>217|21=>218|22=>219|23=>220|24=>221|25=>222|26=>223|27=>224|46=>281|47=>282|48=>283|49=>284|50=>285|57=>315|n=>n,fun|22=>30|24=>34|25=>43|3=>3|39=>172|0=>0|53=>235|55=>45|4=>4|46=>229|45=>228|50=>127|5=>5|9=>9|66=>284|70=>287|76=>307|77=>308|n=>n,fun|n=>n⟩
theorem sortD:SlLaysF0.n6 Tryz.prog sortD_ren:={
  mixed:=by kernel_rfl
  f6:=⟨Tryz.f140.name,by decide,Tryz.func140.trans (congrArg some Hw.zK)⟩
  f14:=⟨Tryz.f183.name,by decide,Tryz.func183.trans (congrArg some Hw.zK)⟩
  f15:=Tryz.func184.trans (congrArg some Hw.zK)
  f20:=⟨Tryz.f217.name,by decide,Tryz.func217.trans (congrArg some Hw.zK)⟩
  f21:=⟨Tryz.f218.name,by decide,Tryz.func218.trans (congrArg some Hw.zK)⟩
  f22:=⟨Tryz.f219.name,by decide,Tryz.func219.trans (congrArg some Hw.zK)⟩
  f23:=⟨Tryz.f220.name,by decide,Tryz.func220.trans (congrArg some Hw.zK)⟩
  f24:=⟨Tryz.f221.name,by decide,Tryz.func221.trans (congrArg some Hw.zK)⟩
  f25:=⟨Tryz.f222.name,by decide,Tryz.func222.trans (congrArg some Hw.zK)⟩
  f26:=⟨Tryz.f223.name,by decide,Tryz.func223.trans (congrArg some Hw.zK)⟩
  f27:=⟨Tryz.f224.name,by decide,Tryz.func224.trans (congrArg some Hw.zK)⟩
  f28:=Tryz.func225.trans (congrArg some Hw.zK)
  f29:=Tryz.func210.trans (congrArg some Hw.zK)
  f46:=⟨Tryz.f281.name,by decide,Tryz.func281.trans (congrArg some Hw.zK)⟩
  f47:=Tryz.func282.trans (congrArg some Hw.zK)
  f48:=Tryz.func283.trans (congrArg some Hw.zK)
  f49:=⟨Tryz.f284.name,by decide,Tryz.func284.trans (congrArg some Hw.zK)⟩
  f50:=⟨Tryz.f285.name,by decide,Tryz.func285.trans (congrArg some Hw.zK)⟩
  f57:=⟨Tryz.f315.name,by decide,Tryz.func315.trans (congrArg some Hw.zK)⟩
  t0:=Tryz.underlying0
  a0:=Tryz.isAgg0
  z0:=Tryz.sizeOf0
  v0:=Tryz.zeroValue0
  t3:=Y3.h
  a3:=Tryz.isAgg3
  z3:=Tryz.sizeOf3
  v3:=Tryz.zeroValue3
  t4:=Y4
  a4:=Tryz.isAgg4
  z4:=Tryz.sizeOf4
  v4:=Tryz.zeroValue4
  t5:=Y5.h
  a5:=Tryz.isAgg5
  z5:=Tryz.sizeOf5
  v5:=Tryz.zeroValue5
  t9:=Tryz.underlying9
  a9:=Tryz.isAgg9
  z9:=Tryz.sizeOf9
  v9:=Tryz.zeroValue9
  t22:=Y30.h
  a22:=Tryz.isAgg30
  z22:=Tryz.sizeOf30
  v22:=Tryz.zeroValue30
  t25:=Tryz.underlying43
  a25:=Tryz.isAgg43
  z25:=Tryz.sizeOf43
  v25:=Tryz.zeroValue43
  t39:=Y172.h
  a39:=Tryz.isAgg172
  z39:=Tryz.sizeOf172
  v39:=Tryz.zeroValue172
  t45:=Tryz.underlying228
  a45:=Tryz.isAgg228
  z45:=Tryz.sizeOf228
  v45:=Tryz.zeroValue228
  t46:=Tryz.underlying229
  a46:=Tryz.isAgg229
  z46:=Tryz.sizeOf229
  v46:=Tryz.zeroValue229
  t50:=Tryz.underlying127
  a50:=Tryz.isAgg127
  z50:=Tryz.sizeOf127
  v50:=Tryz.zeroValue127
  t53:=Tryz.underlying235
  a53:=Tryz.isAgg235
  z53:=Tryz.sizeOf235
  v53:=Tryz.zeroValue235
  t55:=Y45.h
  a55:=Tryz.isAgg45
  z55:=Tryz.sizeOf45
  v55:=Tryz.zeroValue45
  t66:=Tryz.underlying284
  a66:=Tryz.isAgg284
  z66:=Tryz.sizeOf284
  v66:=Tryz.zeroValue284
  t70:=Tryz.underlying287
  a70:=Tryz.isAgg287
  z70:=Tryz.sizeOf287
  v70:=Tryz.zeroValue287
  t76:=Tryz.underlying307
  a76:=Tryz.isAgg307
  z76:=Tryz.sizeOf307
  v76:=Tryz.zeroValue307
  t77:=Tryz.underlying308
  a77:=Tryz.isAgg308
  z77:=Tryz.sizeOf308
  v77:=Tryz.zeroValue308 }
end Go.Proofs.YtpogmfngccolbaaGreat
namespace Hw
open Go Go.RowKit
def jumpQ(l:Nat)(N:St→Prop)(Q:Exit→St→Prop):Exit→St→Prop
  | .goto l',s=>l'=l∧N s
  |e,s=>Q e s
variable{C:Cx}{L:List Blk}{N:St→Prop}{P:Program}{Q:Exit→St→Prop}{T e k:TypeId}{f1 f2:Field}{l n:Nat}{s:St}
theorem jm_r(h:Q .ret s):jumpQ l N Q .ret s:=h
theorem jm_g(h:N s):jumpQ l N Q (.goto l) s:=⟨rfl,h⟩
theorem least(p:Nat→Prop)(h:∃n,p n):∃n,p n∧∀m,p m→n≤m:=by
  obtain⟨n,hn⟩:=h
  induction n using Nat.strongRecOn with
  | _ n ih=>
    by_cases h2:∃m,m<n∧p m
    · obtain⟨m,h3,h4⟩:=h2
      exact ih m h3 h4
    ·exact⟨n,hn,fun m hm=>by rcases Laz m n with h3|h3;exact absurd ⟨m,h3,hm⟩ h2;exact h3⟩
theorem Sat.again{x rest:Code}{ι:Type}(S:ι→St)(I:ι→Prop)(μ:ι→Nat)(hf:findLabel x l=none)
    (h1:Sat C x s (thenQ (fun s'=>∃i,I i∧Weak s' (S i)) (jumpQ l (fun _=>False) Q)))
    (pass:∀i,I i→Sat C rest (S i) (jumpQ l (fun s'=>∃j,I j∧μ j<μ i∧Weak s' (S j)) Q)):Sat C (.scope (.seq x (.seq (.label l) rest))) s Q:=by
  intro a w r;have hfl:findLabel (.seq x (.seq (.label l) rest)) l=some (.seq .skip rest):=by simp[findLabel,hf]
  let J:Act→World→Prop:=fun a w=>∃i,I i∧Rep C (S i) a w
  let V:Act→World→Nat→Prop:=fun a w n=>∃i,I i∧Rep C (S i) a w∧μ i=n
  have hV:∀a w,∃n,(∃n,V a w n)→V a w n∧∀m,V a w m→n≤m:=fun a w=>by
    by_cases h:∃n,V a w n
    · obtain⟨n,h2,h3⟩:=least _ h
      exact⟨n,fun _=>⟨h2,h3⟩⟩
    ·exact⟨0,fun h2=>absurd h2 h⟩
  let M:Act→World→Nat:=fun a w=>Classical.choose (hV a w)
  have hM:∀a w,(∃n,V a w n)→V a w (M a w)∧∀m,V a w m→M a w≤m:=fun a w=>Classical.choose_spec (hV a w);have hpass:∀i,I i→∀a w,Rep C (S i) a w→(Code.seq .skip rest).wp C.P (Exit.jump l (fun a' w'=>∃j,I j∧μ j<μ i∧Rep C (S j) a' w') (fun e a' w'=>∃s',Rep C s' a' w'∧Q e s')) a w:=fun i hi a w r=>by
    have h2:Sat C (.seq .skip rest) (S i) (jumpQ l (fun s'=>∃j,I j∧μ j<μ i∧Weak s' (S j)) Q):=Sat.seq (Sat.skip (pass i hi));refine wp_mono (h2 a w r) fun e a' w' ⟨s',r',q⟩=>?_;cases e with
    | goto l'=>
      obtain⟨e1,j,hj,hlt,hw⟩:=q;exact⟨e1,j,hj,hlt,r'.weak hw⟩
    |_=>exact⟨s',r',q⟩
  have up:∀ {i:ι},I i→∀ {a w},Rep C (S i) a w→M a w≤μ i:=fun {i} hi {a w} r=>(hM a w ⟨μ i,i,hi,r,rfl⟩).2 _ ⟨i,hi,r,rfl⟩;refine wp_scope_jumps l J M hfl ?_ ?_
  · have h2:Sat C (.seq x (.seq (.label l) rest)) s (jumpQ l (fun s'=>∃j,I j∧Weak s' (S j)) Q):=by
      refine Sat.seq (Sat.mono h1 fun e s1 h=>?_);cases e with
      | normal=>
        obtain⟨i,hi,hw⟩:=h;refine Sat.weak hw (Sat.seq (Sat.label ?_));refine Sat.mono (pass i hi) fun e s2 h=>?_;cases e with
        |goto l'=>obtain⟨e1,j,hj,_,hw⟩:=h;exact⟨e1,j,hj,hw⟩
        |_=>exact h
      |goto l'=>exact h.2.elim
      |_=>exact h
    refine wp_mono (h2 a w r) fun e a' w' ⟨s',r',q⟩=>?_;cases e with
    | goto l'=>
      obtain⟨e1,j,hj,hw⟩:=q;exact⟨e1,j,hj,r'.weak hw⟩
    |_=>exact⟨s',r',q⟩
  · rintro a w ⟨i0,hi0,r0⟩
    obtain⟨⟨i,hi,r,em⟩,_⟩:=hM a w ⟨μ i0,i0,hi0,r0,rfl⟩;refine wp_mono (hpass i hi a w r) fun e a' w' q=>?_;cases e with
    | goto l'=>
      obtain⟨e1,j,hj,hlt,rj⟩:=q;exact⟨e1,⟨j,hj,rj⟩,by have:=up hj rj;omega⟩
    |_=>exact q
def Lent(L:List Blk)(w:World):Prop:=Lies L w∧(L.map (·.n)).Nodup
theorem Lent.of{hp L keep:List Blk}{w:World}(h:HRep C hp w)(hp1:hp.Perm (L++keep)):Lent L w:=by
  refine⟨fun b hb=>h.cells b (hp1.symm.subset (Lak _ hb)),?_⟩;have:=(hp1.map (·.n)).nodup_iff.1 h.nodup;rw[Laj,Lb2]at this;exact this.1
theorem Lent.rep{W:World}{N:Nat}(h:Lent L W):HRep ⟨P,W,N,L.map (·.n),[],[]⟩ L W:=
  ⟨h.1,h.2,fun b hb=> .inr (La8.2 ⟨b,hb,rfl⟩),Keeps.refl _ _,fun _ h=>(by cases h),fun _ _ _ h=>(by cases h)⟩
def placeT{ν:Type}(n:Nat)(ev:ν→Value):MTy (List UInt8×UInt64) ν:=⟨fun k=>agg (Aa k.1++[u64 k.2]),ev,fun k=>k.1.length=n⟩
theorem place_inj{a b:List UInt8×UInt64}(h:agg (Aa a.1++[u64 a.2])=agg (Aa b.1++[u64 b.2])):a=b:=by
  simp only[agg,Value.agg.injEq]at h;have h1:Aa a.1++[u64 a.2]=Aa b.1++[u64 b.2]:=by simpa using congrArg Array.toList h
  have h2:=List.append_inj' h1 rfl;have e1:=bytesV_inj2 h2.1;have e2:u64 a.2=u64 b.2:=by simpa using h2.2
  simp only[u64,Value.int.injEq,true_and]at e2;exact Prod.ext e1 (Lbm.1 oM)
theorem keyLits_u64(he:P.underlying e=some (.int .u64))(D:Nat)(x:UInt64):∃ls,P.keyLits (D+1) e [u64 x]=some ls:=by
  refine⟨[.int .u64 (x.toNat:Int)],?_⟩;simp[Program.keyLits,he,u64,wf_u64]
theorem keyOf_place{fs:Array Field}(hu:P.underlying k=some (.struct fs))(hfs:fs.toList=[f1,f2])(hb:fs.all (·.name != "_")=true)(o1:f1.offset=0)(o2:f2.offset=n)(c1:P.cellsOf f1.type=n)(c2:P.cellsOf f2.type=1)(ck:P.cellsOf k=n+1)
    (A:WideMaps.ArrKey P f1.type e n) (he:P.underlying e=some (.int .u8)) (h2:P.underlying f2.type=some (.int .u64)) (hkt:P.keyType k=true) (hsz:∃m,P.types.size=m+2) {l:List UInt8} (hl:l.length=n) (x:UInt64):∃r,keyOf P k (agg (Aa l++[u64 x]))=some r:=by
  obtain⟨m,hm⟩:=hsz;have hlen:(Aa l).length=n:=by rw[Aa,La0,hl]
  obtain⟨la,ha⟩:=keyLits_arr A he m hl;obtain⟨lb,hb2⟩:=keyLits_u64 h2 (m+1) x;have hk:∃ls,P.keyLits (m+3) k (Aa l++[u64 x])=some ls:=by
    refine⟨[la,lb].flatten,?_⟩;unfold Program.keyLits;simp only[hu];rw[if_pos ⟨by rw[La3,hlen,ck];rfl,hb⟩,hfs];have e1:((Aa l++[u64 x]).drop f1.offset).take (P.cellsOf f1.type)=Aa l:=by rw[o1,c1,Let,Lc7 oM,La5 oM]
    have e2:((Aa l++[u64 x]).drop f2.offset).take (P.cellsOf f2.type)=[u64 x]:=by rw[o2,c2,Ldu oM,Lao oM];rfl
    simp only[List.mapM_cons,List.mapM_nil,e1,e2,ha,hb2];rfl
  obtain⟨ls,h⟩:=hk;refine⟨.string (keyBytes ls),?_⟩;unfold keyOf;simp only[hu];rw[if_pos (by simp[hkt,Value.formed,hu,ck,hlen,agg]),hm];simp only[agg,Value.cells];exact congrArg (Option.map _) h
theorem placeT_ok{T k E:TypeId}{ν:Type}(ev:ν→Value){z:Value}(hu:P.underlying T=some (.map k E))(hk:∀(l:List UInt8) (x:UInt64),l.length=n→∃r,keyOf P k (agg (Aa l++[u64 x]))=some r)(K:Maps.Keyed P k)(hz:∀w,(zeroValue E).run P w= .ok z w):
    MOk P T k E (placeT n ev) z:=⟨hu,K,fun a ha=>hk a.1 a.2 ha,fun a b _ _ h=>place_inj h,hz⟩
theorem putAll_app:∀(a b:List Value) (c:Array Value) (k:Nat),Cb c k (a++b)=Cb (Cb c k a) (k+a.length) b:=by
  intro a
  induction a with
  |nil=>intro b c k;rfl
  |cons x a ih=>intro b c k;rw[Lag,Cb,Cb,ih,Lb0];congr 1;omega
theorem run_build2{n m:Nat}{z ca cb:List Value}{a b:Value}(hz:Zr P T (agg z))(hu:P.underlying T=some (.struct #[f1,f2]))(o1:f1.offset=0)(o2:f2.offset=n)(s1:Sz P f1.type n)(s2:Sz P f2.type m)(hzl:z.length=n+m)
    (ha:a.cells.toList=ca) (hb:b.cells.toList=cb) (la:ca.length=n) (lb:cb.length=m) (w:World):(Instr.build T #[(0,a),(1,b)]).run P w= .ok (agg (ca++cb)) w:=by
  have r1:=Cf s1 w;have r2:=Cf s2 w;have na:a.cells.size=n:=by rw[←Ld3,ha,la]
  have nb:b.cells.size=m:=by rw[←Ld3,hb,lb]
  have f1':∀(off:Nat) (v:Value) (cells:Array Value),(v.cells.zipIdx.foldl (fun cs (x:Value×Nat)=>match x with|(c,j)=>cs.setIfInBounds (off+j) c) cells)=Cb cells off v.cells.toList:=fun off v cells=>by
    rw[←Array.foldl_toList,Array.toList_zipIdx];exact fold_put off v.cells.toList 0 cells
  have hfill:Instr.fill (fun i=>([(0,n),(n,m)]:List (Nat×Nat))[i]?) z.toArray [(0,a),(1,b)]=some (ca++cb).toArray:=by
    have e0:([(0,n),(n,m)]:List (Nat×Nat))[0]? =some (0,n):=rfl;have e1:([(0,n),(n,m)]:List (Nat×Nat))[1]? =some (n,m):=rfl;rw[Instr.fill];simp only[e0,na];rw[if_neg (by simp[hzl])];rw[Instr.fill];simp only[e1,nb];have hs:(Array.foldl (fun cs (x:Value×Nat)=>match x with|(c,j)=>cs.setIfInBounds (0+j) c) z.toArray a.cells.zipIdx)=Cb z.toArray 0 ca:=by rw[←ha];exact f1' 0 a z.toArray
    rw[hs,if_neg (by simp[putAll_size,hzl])];rw[f1' n b,hb,Instr.fill];congr 1;have h2:=putAll_app ca cb z.toArray 0;rw[Lb3,la]at h2;rw[←h2,putAll_all _ _ (by simp[la,lb,hzl])]
  unfold Zr at hz;cases hi:P.info? T with
  |none=>rw[hi]at hz;cases hz
  | some i=>
    rw[hi]at hz;simp only[Lbs]at hz;simp only[Instr.build,Sem.run_bind,zeroValue,typeInfo,hi,hz,run_underlying hu,Result.andThen_ok];simp[r1,r2,o1,o2,agg,zeroValue,typeInfo,hi,hz,run_underlying hu];have hf2:Instr.fill (fun x=>([(0,n),(n,m)]:List (Nat×Nat))[x]?) (Value.agg z.toArray).cells [(0,a),(1,b)]=some (ca++cb).toArray:=hfill;rw[hf2];simp[Sem.run]
section
variable{C:Cx}{ops:Array Oper}{rest:List (Nat×Oper)}{sl:List (Nat×Value)}{hp hp':List Blk}{Q:St→Prop}{c d:Nat}{ty:TypeId}{pos:String}{af:Array Edge}{g:Option (Nat×Bool)}{x:Operand}{xT:TypeId}
theorem Tr.field1{fs:Array Field}{f:Nat}{fd:Field}{td:TypeDesc}{cs:List Value}{v:Value}(hg:Ak ops sl g=true)(hk:okD c d C.N=true)(hx:Ag sl x=some (agg cs))(hu:C.P.underlying xT=some (.struct fs))(hf:fs[f]? =some fd)(hft:C.P.underlying fd.type=some td)(hp':B9 td=true)(hr:cs[fd.offset]? =some v)
    (k:Tr C ops rest ⟨(d,v)::sl,hp⟩ Q):Tr C ops ((c,⟨some d, .field xT x f,ty,pos,af,g⟩)::rest) ⟨sl,hp⟩ Q:=
  .pv hg hk ⟨known1 hx,fun ρ hfi w=>by
    have h1:=hfi x (by simp[Op.operands]);rw[hx]at h1;simp only[La7]at h1;have h2:=run_part1 (w:=w) hft hp' hr;simp[execOp,Instr.field,←h1,run_underlying hu,hf,agg,asAgg,h2]⟩ k
end
variable{A R X h1 hp:List Blk}
theorem Sat.know{C:Cx}{code:Code}{s:St}{Q:Exit→St→Prop}{F:Prop}(hf:∀w,HRep C s.hp w→F)(k:F→Sat C code s Q):Sat C code s Q:=fun a w r=>k (hf w r.rh) a w r
theorem wk_norm{sl:List (Nat×Value)}{hp hp2:List Blk}{s':St}(e:hp=hp2)(h:Weak ⟨sl,hp2⟩ s'):Weak ⟨sl,hp⟩ s':=by subst e;exact h
theorem sg_two{hp hp1 X Y R:List Blk}(h1:hp.Perm (X++hp1))(h2:hp1.Perm (Y++R)):hp.Perm ((X++Y)++R):=by
  rw[La9];exact h1.trans (Lcu X h2)
theorem perm_open(h:hp.Perm (X++h1))(k:X.Perm (A++R)):hp.Perm (A++(R++h1)):=by
  rw[←La9];exact h.trans (Lcc h1 k)
theorem pm_join{hp X A B h1 h3 l R:List Blk}(h:hp.Perm (A++h1))(h2:h1.Perm (B++h3))(e:X.Perm (A++B))(k:h3.Perm (l++R)):hp.Perm ((X++l)++R):=by
  refine h.trans ((Lcu A (h2.trans (Lcu B k))).trans ?_);rw[←La9,←La9];exact Lcc R (Lcc l e.symm)
section
variable{κ ν:Type}[DecidableEq κ]{T K E:TypeId}{t:MTy κ ν}{z:Value}{fs:List (κ×ν)}
variable{C:Cx}{ops:Array Oper}{rest:List (Nat×Oper)}{sl:List (Nat×Value)}{hp hp':List Blk}{Q:St→Prop}{c d b:Nat}{ty:TypeId}{pos:String}{af:Array Edge}{g:Option (Nat×Bool)}{x y:Operand}{k:κ}
theorem Tr.lookF(evf:ν→Value)(M:MOk C.P T K E t z)(hg:Ak ops sl g=true)(hd:okL c d C.N=true)(hx:Ag sl x=some (.map (some b)))(hy:Ag sl y=some (t.ek k))(hk:t.ok k)(hb:A0 b t fs∈hp)
    (k0:Ao fs k=none→Tr C ops rest ⟨(d, .tuple #[z, .bool false])::sl,hp⟩ Q) (k1:∀v,Ao fs k=some v→Tr C ops rest ⟨(d, .tuple #[evf v, .bool true])::sl,hp⟩ Q) (hev:∀v,t.ev v=evf v:=by intro _;rfl):
    Tr C ops ((c,⟨some d, .lookup T x y true,ty,pos,af,g⟩)::rest) ⟨sl,hp⟩ Q:=by
  refine Tr.lookOk M hg hd hx hy hk hb ?_;cases h:Ao fs k with
  |none=>exact k0 h
  |some v=>have:=k1 v h;rw[←hev v]at this;exact this
theorem Tr.lookG(evf:ν→Value)(M:MOk C.P T K E t z)(hg:Ak ops sl g=true)(hd:okL c d C.N=true)(hx:Ag sl x=some (.map (some b)))(hy:Ag sl y=some (t.ek k))(hk:t.ok k)(hb:A0 b t fs∈hp)
    (k0:Ao fs k=none→Tr C ops rest ⟨(d,z)::sl,hp⟩ Q) (k1:∀v,Ao fs k=some v→Tr C ops rest ⟨(d,evf v)::sl,hp⟩ Q) (hev:∀v,t.ev v=evf v:=by intro _;rfl):
    Tr C ops ((c,⟨some d, .lookup T x y false,ty,pos,af,g⟩)::rest) ⟨sl,hp⟩ Q:=by
  refine Tr.look1 M hg hd hx hy hk hb ?_;cases h:Ao fs k with
  |none=>exact k0 h
  |some v=>have:=k1 v h;rw[←hev v]at this;exact this
theorem Tr.lookS{v:ν}(evf:ν→Value)(M:MOk C.P T K E t z)(hv:Ao fs k=some v)(hg:Ak ops sl g=true)(hd:okL c d C.N=true)(hx:Ag sl x=some (.map (some b)))(hy:Ag sl y=some (t.ek k))(hk:t.ok k)(hb:A0 b t fs∈hp)
    (k1:Tr C ops rest ⟨(d,evf v)::sl,hp⟩ Q) (hev:∀v,t.ev v=evf v:=by intro _;rfl):Tr C ops ((c,⟨some d, .lookup T x y false,ty,pos,af,g⟩)::rest) ⟨sl,hp⟩ Q:=by
  refine Tr.look1 M hg hd hx hy hk hb ?_;rw[hv];have:=k1;rw[←hev v]at this;exact this
theorem Tr.lookFC(evf:ν→Value)(M:MOk C.P T K E t z)(hb:BlkOk C.W0 (A0 b t fs))(hbl:b∉C.lent)(hg:Ak ops sl g=true)(hd:okL c d C.N=true)(hx:Ag sl x=some (.map (some b)))(hy:Ag sl y=some (t.ek k))(hk:t.ok k)
    (k0:Ao fs k=none→Tr C ops rest ⟨(d, .tuple #[z, .bool false])::sl,hp⟩ Q) (k1:∀v,Ao fs k=some v→Tr C ops rest ⟨(d, .tuple #[evf v, .bool true])::sl,hp⟩ Q) (hev:∀v,t.ev v=evf v:=by intro _;rfl):
    Tr C ops ((c,⟨some d, .lookup T x y true,ty,pos,af,g⟩)::rest) ⟨sl,hp⟩ Q:=by
  refine Tr.lookOkC M hb hbl hg hd hx hy hk ?_;cases h:Ao fs k with
  |none=>exact k0 h
  |some v=>have:=k1 v h;rw[←hev v]at this;exact this
end
end Hw
namespace Go.Proofs.YtpogmfngccolbaaGreat
open Go Hw _root_.Go.Proofs.Tryz
structure DEnt where
  fBlock:Block
  fDepth:Int
def DEnt.cells(x:DEnt):List Value:=x.fBlock.cells++([i64 x.fDepth])
structure DEnt.ok(x:DEnt):Prop where
  o_fBlock:x.fBlock.ok
variable{x:DEnt}
theorem DEnt.length(h:x.ok):x.cells.length=132:=by simp[DEnt.cells,Aa,Block.length h.o_fBlock]
theorem DEnt.isCell{x:DEnt}(h:x.ok):∀u∈x.cells,isCell u=true:=by
  intro u hu;simp only[DEnt.cells,Laa,La1,Aa,La8]at hu;rcases hu with hu|rfl<;>first|rfl|exact Block.isCell h.o_fBlock u hu
theorem DEnt.row_fBlock(h:x.ok):(x.cells.drop 0).take 131=x.fBlock.cells:=by simp[DEnt.cells,Aa,Block.length h.o_fBlock,Lbn,Lbe,Lao,La5]
theorem DEnt.rl_fBlock(h:x.ok):(x.fBlock.cells).length=131:=by simp[Aa,Block.length h.o_fBlock]
theorem DEnt.see_fBlock(h:x.ok):∀(j:Nat) (v:Value),(x.fBlock.cells)[j]? =some v→x.cells[0+j]? =some v:=fun j v hj=>by
  rw[←DEnt.row_fBlock h,Lbv]at hj;split at hj
  ·rwa[Lb6]at hj
  ·cases hj
theorem DEnt.get_fDepth(h:x.ok):x.cells[131]? =some (i64 x.fDepth):=by simp[DEnt.cells,Aa,Block.length h.o_fBlock,Ldw]
def DEnt.zero:DEnt:=⟨Block.zero,0⟩
theorem DEnt.zero_ok:DEnt.zero.ok:=by constructor<;>first|exact Block.zero_ok|simp[DEnt.zero]
theorem DEnt.zr:Zr prog 164 (agg DEnt.zero.cells):=by unfold Zr;kernel_rfl
structure DPl where
  fWriter:List UInt8
  fSeq:UInt64
def DPl.cells(x:DPl):List Value:=Aa x.fWriter++([u64 x.fSeq])
structure DPl.ok(x:DPl):Prop where
  l_fWriter:x.fWriter.length=32
theorem DPl.length{x:DPl}(h:x.ok):x.cells.length=33:=by simp[DPl.cells,Aa,h.l_fWriter]
theorem DPl.isCell{x:DPl}(h:x.ok):∀u∈x.cells,isCell u=true:=by
  intro u hu;simp only[DPl.cells,Laa,La1,Aa,La8]at hu;rcases hu with ⟨_,_,rfl⟩|rfl<;>first|rfl
def DPl.zero:DPl:=⟨List.replicate 32 0,0⟩
theorem DPl.zero_ok:DPl.zero.ok:=by constructor<;>first|exact trivial|simp[DPl.zero]
theorem DPl.zr:Zr prog 177 (agg DPl.zero.cells):=by unfold Zr;kernel_rfl
theorem DPl.eg:prog.eqGuardType prog.depth 177=false:=by kernel_rfl
end Go.Proofs.YtpogmfngccolbaaGreat
namespace Hw
open Go
variable{C:Cx}{E:TypeId}{cs r:List Value}{hp:List Blk}{m q:Nat}
theorem HRep.trunc{w:World}(h:HRep C (⟨q,cs++r, .ty E,m⟩::hp) w):HRep C (⟨q,cs, .ty E,m⟩::hp) w:=by
  refine h.swap rfl ?_;obtain⟨full,fr,k⟩:=h.cells _ La4;exact⟨full,fr,k.heap,k.size,(List.prefix_append cs r).trans k.pre,k.free⟩
theorem Sat.trunc{code:Code}{sl:List (Nat×Value)}{hp hp':List Blk}{Q:Exit→St→Prop}(hp1:hp.Perm (⟨q,cs++r, .ty E,m⟩::hp'))(k:Sat C code ⟨sl,⟨q,cs, .ty E,m⟩::hp'⟩ Q):Sat C code ⟨sl,hp⟩ Q:=
  fun a w x=>k a w ⟨x.rs,(x.rh.perm hp1).trunc⟩
theorem snoc_of{α:Type}{l:List α}(h:0<l.length):∃a x,l=a++[x]:=⟨l.dropLast,l.getLast (List.length_pos_iff.1 h),(List.dropLast_concat_getLast _).symm⟩
section
variable{C:Cx}{ops:Array Oper}{rest:List (Nat×Oper)}{sl:List (Nat×Value)}{hp:List Blk}{Q:St→Prop}{c d:Nat}{ty:TypeId}{pos:String}{af:Array Edge}{g:Option (Nat×Bool)}
variable{x hi:Operand}{T E:TypeId}{kl:IntKind}{l:Int}
theorem Tr.sliceHiA{sz:Nat}(s:Sl)(j:Nat)(hg:Ak ops sl g=true)(hk:okD c d C.N=true)(hx:Ag sl x=some s.v)(hl:Ag sl hi=some (.int kl l))(hj:l=j)(hjn:j≤s.c)
    (hu:C.P.underlying T=some (.slice E)) (hs:Sz C.P E sz)
    (k:Tr C ops rest ⟨(d,Sl.v ⟨s.p,j,s.c⟩)::sl,hp⟩ Q):Tr C ops ((c,⟨some d, .slice T x none (some hi) none,ty,pos,af,g⟩)::rest) ⟨sl,hp⟩ Q:=
  .pv hg hk ⟨by simpa[Known,Op.operands]using known2 hx hl,fun ρ hfi w=>by
    have h1:=hfi x (by simp[Op.operands]);rw[hx]at h1;have h2:=hfi hi (by simp[Op.operands]);rw[hl]at h2;simp only[La7]at h1 h2;subst hj;obtain⟨p,n,cap⟩:=s;simp only[Sl.v]at h1 hjn ⊢;by_cases e:cap=0
    · subst e
      obtain rfl:j=0:=by omega
      simp[execOp,Instr.sliceAt,Instr.slice,←h1,←h2,run_underlying hu,Instr.sliceBounds,Instr.sliceBound,asIntOf,Cf hs,Addr.add]
    · have e2:(p.map fun a=>a.add 0)=p:=by cases p<;>simp[Addr.add]
      simp[execOp,Instr.sliceAt,Instr.slice,←h1,←h2,run_underlying hu,Instr.sliceBounds,Instr.sliceBound,asIntOf,Cf hs,e,hjn,e2]⟩ k
end
section
variable{κ ν:Type}[DecidableEq κ]{T K E:TypeId}{t:MTy κ ν}{fs:List (κ×ν)}
variable{C:Cx}{ops:Array Oper}{rest:List (Nat×Oper)}{sl:List (Nat×Value)}{hp hp':List Blk}{Q:St→Prop}{c d b:Nat}{ty:TypeId}{pos:String}{af:Array Edge}{g:Option (Nat×Bool)}{x:Operand}
end
section
variable{C:Cx}{ops:Array Oper}{rest:List (Nat×Oper)}{sl:List (Nat×Value)}{hp:List Blk}{Q:St→Prop}{c d b o:Nat}{T ty:TypeId}{td:TypeDesc}{pos:String}{af:Array Edge}{g:Option (Nat×Bool)}{x:Operand}
theorem Tr.kloadSN{n:Nat}(r:List Value)(hg:Ak ops sl g=true)(hk:okD c d C.N=true)(hx:Ag sl x=some (ptr b o))(hu:C.P.underlying T=some td)(hp':B9 td=false)(hs:Sz C.P T n)(hn:r.length=n)
    (hv:∀w,(∀b∈C.kb,BlkOk w b)→Sees w b o r)
    (k:Tr C ops rest ⟨(d,agg r)::sl,hp⟩ Q):Tr C ops ((c,⟨some d, .load T x,ty,pos,af,g⟩)::rest) ⟨sl,hp⟩ Q:=
  .kloadAny hg hk hx (fun w hh _=>by
    have:=run_row (P:=C.P) (w:=w) (b:=b) (o:=o) hn fun j v hj=>hv w hh j v hj;simp[loadVar,run_isAgg_arr hu hp',Cf hs,this]) k
end
end Hw
namespace Hw
open Go Go.RowKit
def also(j:Nat)(l:Nat→Bool):Nat→Bool:=fun i=>decide (j=i)||l i
variable{C:Cx}{Q:St→Prop}{id:Nat}{ops:Array Oper}{rest:List (Nat×Oper)}{s:St}{x y:Oper}
theorem wpAny_inv{perm:List (Nat×Nat)}(htopo:topoOk ops [] perm=true)(hall:(List.range ops.size).all (fun i=>(perm.map (·.2)).contains i)=true)(Q:St→Prop)(J:(Nat→Bool)→St→Prop)
    (hstep:∀l s j o,ops[j]? =some o→l j=false→(∀i,l i=true→∀k∈bindsIn ops i,l k=true)→(∀k∈bindsIn ops j,l k=true)→J l s→Tr C ops [(4,o)] s (J (also j l)))
    (hend:∀l s,(s.hp.map (·.n)).Nodup→(∀j,j<ops.size→l j=true)→J l s→Q s):
    ∀ (fuel:Nat) (listed:Array Bool) (s:St) (a:Act) (w:World),listed.size=ops.size→Shut ops listed→
      (perm.filter (fun p=> !listed.getD p.2 false)).length≤fuel→Rep C s a w→J (fun i=>listed.getD i false) s→wpAny C.P .any ops (Fin C Q) fuel listed a w:=by
  rw[Lbt]at hall;have hnd:=topo_nodup perm [] htopo;have allOf:∀(listed:Array Bool),perm.filter (fun p=> !listed.getD p.2 false)=[]→∀j,j<ops.size→listed.getD j false=true:=by
    intro listed hf j hj;have:=hall j (Ld6.2 hj);simp only[Ldx,decide_eq_true_eq]at this;obtain⟨p,hp,he⟩:=La8.1 this;have:=Lfs.1 hf p hp;rw[he]at this;simpa using this
  intro fuel
  induction fuel with
  | zero=>
    intro listed s a w hsz hs hlen r h;have h0:=allOf listed (Lah oM);refine⟨?_,rfl,s,r,hend _ s r.rh.nodup h0 h⟩;cases hr:Region.ready .any ops listed with
    |nil=>rfl
    | cons j l=>
      obtain⟨h1,h2,_⟩:=(mem_ready' hsz).1 (by rw[hr];exact La4);rw[h0 j h1]at h2;cases h2
  | succ fuel ih=>
    intro listed s a w hsz hs hlen r h;refine⟨fun hr=>⟨rfl,s,r,hend _ s r.rh.nodup (allOf listed ?_) h⟩,fun j hj=>?_⟩
    · cases hf:perm.filter (fun p=> !listed.getD p.2 false)with
      |nil=>rfl
      | cons p l'=>
        have:=topo_first hsz perm [] htopo sP p l' hf;rw[hr]at this;cases this
    · obtain⟨hjlt,hjun,hjb⟩:=(mem_ready' hsz).1 hj
      have hjl:j<listed.size:=by omega
      have hoj:ops[j]? =some ops[j]:=Ld0 hjlt;have hin:=hall j (Ld6.2 hjlt);simp only[Ldx,decide_eq_true_eq]at hin;obtain⟨q,hq0,hqj⟩:=La8.1 hin;obtain⟨l1,l2,hf⟩:=Lge (Lc0.2 ⟨hq0,by rw[hqj,hjun];rfl⟩:q∈perm.filter (fun p=> !listed.getD p.2 false));refine wpOp_mono (K:=fun a' w'=>∃s',Rep C s' a' w'∧J (also j fun i=>listed.getD i false) s') ?_ (Tr.step (i:=j) hoj (hstep _ s j _ hoj hjun hs hjb h) a w r _ (fun s' a' w' r' k=>⟨s',r',?_⟩) _)
      · rintro a' w' ⟨s',r',k⟩
        have hfs:=filter_set hjl perm l1 l2 q hqj hnd hf;have hlen2:=congrArg List.length hf;rw[La3,Lb0]at hlen2;refine ih (listed.setIfInBounds j true) s' a' w' (by simp[hsz]) (fun i hi k hk=>?_) (by rw[hfs,La3];omega) r' ?_
        · rw[getD_set _ _ _ hjl]at hi ⊢
          by_cases hij:j=i
          ·subst hij;rw[hjb k hk];simp
          · simp only[hij,decide_false,Bool.false_or]at hi
            rw[hs i hi k hk];simp
        · have e:(fun i=>(listed.setIfInBounds j true).getD i false)=also j fun i=>listed.getD i false:=funext fun i=>getD_set _ _ _ hjl
          rw[e];exact k
      · cases k with
        |nil k=>exact k
        |dup hn=>exact absurd r'.rh.nodup hn
theorem Sat.any{ops:List Oper}{Q:Exit→St→Prop}(perm:List (Nat×Nat))(hm:C.P.follows .mixedOrders=true)(htopo:topoOk ops.toArray [] perm=true)(hall:(List.range ops.toArray.size).all (fun i=>(perm.map (·.2)).contains i)=true)
    (hlen:Nat.ble perm.length ops.length=true) (J:(Nat→Bool)→St→Prop) (h0:J (fun _=>false) s)
    (hstep:∀l s j o,ops.toArray[j]? =some o→l j=false→(∀i,l i=true→∀k∈bindsIn ops.toArray i,l k=true)→(∀k∈bindsIn ops.toArray j,l k=true)→J l s→Tr C ops.toArray [(4,o)] s (J (also j l)))
    (hend:∀l s,(s.hp.map (·.n)).Nodup→(∀j,j<ops.toArray.size→l j=true)→J l s→Q .normal s):Sat C (.region id ops.toArray true) s Q:=by
  intro a w r;have e:∀i,(Array.replicate ops.toArray.size false).getD i false=false:=fun i=>by
    rw[Ld9,Ldr];split<;>rfl
  have:=wpAny_inv (C:=C) htopo hall (Q .normal) J hstep hend ops.toArray.size (Array.replicate ops.toArray.size false) s a { w with drawn:=w.drawn+1 } sP
    (fun j hj=>by rw[e]at hj;cases hj) (Lbp (Lf3 _ _) (by simpa using Ld4 hlen)) ⟨r.rs,r.rh.drew _⟩ (by rw[show(fun i=>(Array.replicate ops.toArray.size false).getD i false)=fun _=>false from funext e];exact h0)
  refine wp_mono (wp_region_any hm this) fun e a' w' ⟨he,s',r',q⟩=>?_;subst he;exact⟨s',r',q⟩
theorem Tr.inv0(h:Tr C ops ((0,y)::rest) s Q)(hn:(s.hp.map (·.n)).Nodup):
    ∃v,dstOk C.N y∧Tr C ops rest (s.put y.dst v) Q∧(wantS ops s.sl y=some false∧v=undef∨wantS ops s.sl y=some true∧KLoadV C s.sl y v):=by
  cases h with
  |dup h=>exact absurd hn h
  |skip hc hw hd k=>exact⟨_,hd,k, .inl ⟨hw,rfl⟩⟩
  |pure v hc hw hd hv k=>exact⟨v,hd,k, .inr ⟨hw,hv.known,fun ρ hf w _ _=>hv.run ρ hf w⟩⟩
  |kload v hc hw hd hv k=>exact⟨v,hd,k, .inr ⟨hw,hv⟩⟩
  |load v hc hc0 hw hd hv k=>exact absurd rfl hc0
  |new mk cs T hc hw hd hv k=>rcases hc with hc|hc<;>simp at hc
  |grow R val nw hc hw hd hv k=>rcases hc with hc|hc<;>simp at hc
  |lend R val nw lent L keep hc hw hd hsp hl hv k=>rcases hc with hc|hc<;>simp at hc
  |act R val hp hc hw hd hv k=>simp at hc
theorem Tr.re13(h:Tr C ops ((1,x)::rest) s Q):Tr C ops ((3,x)::rest) s Q:=by
  cases h with
  |dup h=>exact .dup h
  |skip hc hw hd k=>exact .skip dE hw hd k
  |pure v hc hw hd hv k=>exact .pure v dE hw hd hv k
  |kload v hc hw hd hv k=>exact .kload v dE hw hd hv k
  |load v hc hc0 hw hd hv k=>exact .load v dE dE hw hd hv k
  |new mk cs T hc hw hd hv k=>rcases hc with hc|hc<;>simp at hc
  |grow R val nw hc hw hd hv k=>rcases hc with hc|hc<;>simp at hc
  |lend R val nw lent L keep hc hw hd hsp hl hv k=>rcases hc with hc|hc<;>simp at hc
  |act R val hp hc hw hd hv k=>simp at hc
theorem Tr.swap30(hC:C.kb=[])(hap:x.apart ops y=true)(h:Tr C ops ((3,x)::(0,y)::rest) s Q):Tr C ops ((0,y)::(3,x)::rest) s (clQ Q):=by
  by_cases hnd:(s.hp.map (·.n)).Nodup
  case neg=>exact .dup hnd
  have soft:Tr C ops ((1,x)::(0,y)::rest) s Q→Tr C ops ((0,y)::(3,x)::rest) s (clQ Q):=fun h=>(h.swap dE hap).tail fun _ k=>k.re13;obtain⟨h1,h2,h3⟩:=Oper.apart_spec hap;cases h with
  |dup h=>exact absurd hnd h
  |skip hc hw hd k=>exact soft (.skip dE hw hd k)
  |pure v hc hw hd hv k=>exact soft (.pure v dE hw hd hv k)
  |kload v hc hw hd hv k=>exact soft (.kload v dE hw hd hv k)
  |load v hc hc0 hw hd hv k=>exact soft (.load v dE dE hw hd hv k)
  |new mk cs T hc hw hd hv k=>rcases hc with hc|hc<;>simp at hc
  |lend R val nw lent L keep hc hw hd hsp hl hv k=>rcases hc with hc|hc<;>simp at hc
  |act R val hp hc hw hd hv k=>simp at hc
  | grow R val nw hc hwx hd hv k=>
    obtain⟨r0,hr0,hn0⟩:=hv.some s.hp hnd;obtain⟨u,hdy,_,hy⟩:=(k r0 hr0).inv0 hn0;have ex:∀(u:Value),∀z∈x.op.operands,Ag (Bs s.sl y.dst u) z=Ag s.sl z:=fun u z hz=>evIn_put ((not_look (ops:=ops) h3).1 z hz);have back:∀u,(∀r,R r→((nw r++s.hp).map (·.n)).Nodup→Tr C ops rest (St.put ⟨Bs s.sl x.dst (val r),nw r++s.hp⟩ y.dst u) Q)→Tr C ops ((3,x)::rest) (s.put y.dst u) (clQ Q):=fun u kk=>by
      refine .grow R val nw (.inl rfl) (by show wantS ops (Bs s.sl y.dst _) x=_;rw[Br h3];exact hwx) hd ⟨fun z hz=>by show(Ag (Bs s.sl y.dst _) z).isSome;rw[ex _ z hz];exact hv.known z hz,hv.some,fun a w hf hh=>?_⟩ fun r hr=>?_
      · refine hv.run a w (fun z hz=>?_) hh
        have:=hf z hz;rw[←ex u z hz];exact this
      · by_cases hdn:((nw r++s.hp).map (·.n)).Nodup
        ·exact(kk r hr hdn).eqv _ ⟨fun t=>look_comm h2 _ _ t, .refl _⟩
        ·exact .dup hdn
    rcases hy with ⟨hw,rfl⟩|⟨hw,hk⟩
    · refine .skip dE (by rw[←Br (v:=val r0) h1];exact hw) hdy (back _ fun r hr hdn=>?_)
      obtain⟨u2,_,k2,h5⟩:=(k r hr).inv0 hdn;rcases h5 with ⟨_,rfl⟩|⟨hw2,_⟩
      ·exact k2
      · exfalso
        have e1:wantS ops (Bs s.sl x.dst (val r)) y=_:=Br h1;have e2:wantS ops (Bs s.sl x.dst (val r0)) y=_:=Br h1;simp only at hw hw2;rw[e1]at hw2;rw[e2,hw2]at hw;cases hw
    · refine .kload u dE (by rw[←Br (v:=val r0) h1];exact hw) hdy ⟨(known_put h1).1 hk.known,fun ρ hf=>hk.run ρ ((fits_put h1).2 hf)⟩ (back _ fun r hr hdn=>?_)
      obtain⟨u2,_,k2,h5⟩:=(k r hr).inv0 hdn;rcases h5 with ⟨hw2,_⟩|⟨_,hk2⟩
      · exfalso
        have e1:wantS ops (Bs s.sl x.dst (val r)) y=_:=Br h1;have e2:wantS ops (Bs s.sl x.dst (val r0)) y=_:=Br h1;simp only at hw hw2;rw[e1]at hw2;rw[e2,hw2]at hw;cases hw
      · have kn:Known s.sl y:=(known_put h1).1 hk.known
        let ρ:Operand→Value:=fun z=>(Ag s.sl z).getD undef
        have f:Fits s.sl y ρ:=fun z hz=>by
          have:=kn z hz;cases hv:Ag s.sl z with
          |none=>simp[hv]at this
          |some v=>simp[ρ,hv]
        have r1:=hk.run ρ ((fits_put h1).2 f) C.W0 (by rw[hC];intro _ h;cases h) (Keeps.refl _ _);rw[hk2.run ρ ((fits_put h1).2 f) C.W0 (by rw[hC];intro _ h;cases h) (Keeps.refl _ _)]at r1;injection r1 with r1 _;injection r1 with r1;rw[←r1];exact k2
def commZ(c e:Nat):Bool:=comm c e||(c==3&&e==0)
theorem Tr.frontZ(hC:C.kb=[]){e:Nat}{l1 l2:List (Nat×Oper)}(hc:∀p∈l1,commZ p.1 e=true∧p.2.apart ops y=true)
    (h:Tr C ops (l1++(e,y)::l2) s Q):Tr C ops ((e,y)::(l1++l2)) s (clQ Q):=by
  induction l1 generalizing s with
  |nil=>exact h.mono fun s q=>⟨s, .refl _,q⟩
  | cons p l1 ih=>
    obtain⟨c,x⟩:=p;have h1:Tr C ops ((c,x)::(e,y)::(l1++l2)) s (clQ Q):=h.tail fun s k=>ih (fun p hp=>hc p (Lae _ hp)) k;obtain⟨h2,h3⟩:=hc (c,x) La4;simp only[commZ,Lc2,Lan,beq_iff_eq]at h2;rcases h2 with h2|⟨rfl,rfl⟩
    ·exact(h1.swap h2 h3).mono fun s q=>clQ_cl q
    ·exact(h1.swap30 hC h3).mono fun s q=>clQ_cl q
theorem Tr.head{c:Nat}{o:Oper}(h:Tr C ops ((c,o)::rest) s Q):Tr C ops [(4,o)] s (fun s'=>Tr C ops rest s' Q):=by
  cases h with
  |dup h=>exact .dup h
  |skip hc hw hd k=>exact .skip dE hw hd (.nil k)
  |pure v hc hw hd hv k=>exact .pure v dE hw hd hv (.nil k)
  |kload v hc hw hd hv k=>exact .kload v dE hw hd hv (.nil k)
  |load v hc hc0 hw hd hv k=>exact .load v dE dE hw hd hv (.nil k)
  |new mk cs T hc hw hd hv k=>exact .new mk cs T (.inr rfl) hw hd hv fun n a b=> .nil (k n a b)
  |grow R val nw hc hw hd hv k=>exact .grow R val nw (.inr rfl) hw hd hv fun r hr=> .nil (k r hr)
  |lend R val nw lent L keep hc hw hd hsp hl hv k=>exact .lend R val nw lent L keep (.inr rfl) hw hd hsp hl hv fun r hr=> .nil (k r hr)
  |act R val hp hc hw hd hv k=>exact .act R val hp rfl hw hd hv fun r hr=> .nil (k r hr)
def pairZ(ops:Array Oper)(p q:Nat×Nat):Bool:=
  (commZ p.1 q.1&&(match ops[p.2]?,ops[q.2]? with|some x,some y=>x.apart ops y|_,_=>false))||reach ops ops.size q.2 p.2
def pairsZ(ops:Array Oper):List (Nat×Nat)→Bool
  | []=>true
  |p::l=>l.all (pairZ ops p)&&pairsZ ops l
theorem pairsZ_pw{ops:Array Oper}:∀ {l:List (Nat×Nat)},pairsZ ops l=true→l.Pairwise fun p q=>pairZ ops p q=true
  | [],_=> .nil
  | p::l,h=>by
    simp only[pairsZ,Lan,Lbt]at h;exact .cons h.1 (pairsZ_pw h.2)
def allIn(ops:Array Oper)(perm:List (Nat×Nat)):Bool:=(List.range ops.size).all fun i=>(perm.map (·.2)).contains i
theorem reach_l{ops:Array Oper}{l:Nat→Bool}(hs:∀j,l j=true→∀k∈bindsIn ops j,l k=true):∀n j i,(∀k∈bindsIn ops j,l k=true)→reach ops n j i=true→l i=true
  |0,_,_,_,h=>by simp[reach]at h
  | n +1,j,i,hj,h=>by
    simp only[reach,Lc2]at h;rcases h with h|h
    ·exact hj i (by simpa using h)
    · obtain⟨k,hk,hr⟩:=Lc9.1 h
      exact reach_l hs n k i (hs k (hj k hk)) hr
theorem filter_also{l:Nat→Bool}{j:Nat}(perm l1 l2:List (Nat×Nat))(q:Nat×Nat)(hq:q.2=j)(hn:(perm.map (·.2)).Nodup)
    (hf:perm.filter (fun p=> !l p.2)=l1++q::l2):perm.filter (fun p=> !also j l p.2)=l1++l2:=by
  have e:perm.filter (fun p=> !also j l p.2)=(perm.filter (fun p=> !l p.2)).filter fun p=> !decide (j=p.2):=by
    rw[Lgc];congr 1;funext p;unfold also;cases decide (j=p.2)<;>simp
  have hnf:((l1++q::l2).map (·.2)).Nodup:=by
    rw[←hf];exact List.Sublist.nodup (Lgu _ Lg3) hn
  rw[Laj,Lap,Lb2]at hnf;rw[e,hf,Lgd,Lc8];have h1:l1.filter (fun p=> !decide (j=p.2))=l1:=Lcm.2 fun p hp=>by
    have:=hnf.2.2 p.2 (La8.2 ⟨p,hp,rfl⟩) q.2 La4;simp;omega
  have h2:l2.filter (fun p=> !decide (j=p.2))=l2:=Lcm.2 fun p hp=>by
    have:=(Lay.1 hnf.2.1).1;simp only[decide_not,Lde,decide_eq_false_iff_not,Bool.not_eq_eq_eq_not,Bool.not_true];exact fun he=>this (by rw[hq,he];exact La8.2 ⟨p,hp,rfl⟩)
  rw[h1,h2];simp[hq]
theorem Sat.drawZ{ops:List Oper}{Q:Exit→St→Prop}(perm:List (Nat×Nat))(hm:C.P.follows .mixedOrders=true)(hok:(topoOk ops.toArray [] perm&&(allIn ops.toArray perm&&(Nat.ble perm.length ops.length&&pairsZ ops.toArray perm)))=true)
    (h:Tr C ops.toArray (items ops.toArray perm) s (Q .normal)) (hC:C.kb=[]:=by rfl):Sat C (.region id ops.toArray true) s Q:=by
  simp only[Lan]at hok;obtain⟨ht,ha,hl,hp⟩:=hok;have hpw:=pairsZ_pw hp;have hnd:=topo_nodup perm [] ht;have hall:∀i,i<ops.toArray.size→∃q∈perm,q.2=i:=fun i hi=>by
    have:=Lbt.1 ha i (Ld6.2 hi);simp only[Ldx,decide_eq_true_eq]at this;obtain⟨p,h1,h2⟩:=La8.1 this;exact⟨p,h1,h2⟩
  have key:Sat C (.region id ops.toArray true) s (fun e s=>clQ (Q e) s):=by
    refine Sat.any perm hm ht ha hl (fun l s=>Tr C ops.toArray (items ops.toArray (perm.filter fun p=> !l p.2)) s (clQ (Q .normal))) ?_ ?_ ?_
    · rw[show perm.filter (fun p=> !(fun _=>false) p.2)=perm from Lcm.2 fun _ _=>rfl]
      exact h.mono fun s q=>⟨s, .refl _,q⟩
    · intro l s j o hoj hlj hs hb hJ
      have hjs:j<ops.toArray.size:=(Lcj.1 hoj).1;obtain⟨q,hq,hqj⟩:=hall j hjs;obtain⟨l1,l2,hf⟩:=Lge (Lc0.2 ⟨hq,by rw[hqj,hlj];rfl⟩:q∈perm.filter fun p=> !l p.2);have hpf:=hpw.filter (fun p=> !l p.2);have hJ2:Tr C ops.toArray (items ops.toArray l1++(q.1,o)::items ops.toArray l2) s (clQ (Q .normal)):=by
        have hit:items ops.toArray (q::l2)=(q.1,o)::items ops.toArray l2:=by
          unfold items;rw[List.filterMap_cons,hqj,hoj];rfl
        rw[←hit,←items_append,←hf];exact hJ
      rw [hf,List.pairwise_append]at hpf;have h':=(Tr.frontZ hC (fun p hp=>by
        obtain⟨p0,hp0,he⟩:=Lga.1 hp;have hp1:=hpf.2.2 p0 hp0 q La4;have hun:l p0.2=false:=by
          have:p0∈perm.filter (fun p=> !l p.2):=by rw[hf];exact Laa.2 (.inl hp0)
          simpa using(Lc0.1 this).2
        cases hop:ops.toArray[p0.2]? with
        |none=>rw[hop]at he;cases he
        | some o1=>
          rw[hop]at he;simp only[Lbg,La7]at he;subst he;simp only[pairZ,Lc2,Lan]at hp1;rcases hp1 with hp1|hp1
          · rw[hop,hqj,hoj]at hp1
            exact hp1
          · have:=reach_l hs ops.toArray.size q.2 p0.2 (by rw[hqj];exact hb) hp1
            rw[hun]at this;cases this) hJ2).mono fun s q=>clQ_cl q
      refine h'.head.mono fun s' k=>?_;rw[filter_also perm l1 l2 q hqj hnd hf,items_append];exact k
    · intro l s hn hdone hJ
      have h0:perm.filter (fun p=> !l p.2)=[]:=Lfs.2 fun p hp=>by
        have:=(topo_mem perm [] ht p hp).1;rw[hdone _ (by simpa using this)];simp
      rw[h0]at hJ;cases hJ with
      |nil hJ=>exact hJ
      |dup hd=>exact absurd hn hd
  exact fun a w r=>wp_mono (key a w r) fun e a' w' ⟨s',r',s0,he,q⟩=>⟨s0,r'.eqv he.symm,q⟩
section
variable{C:Cx}{ops:Array Oper}{rest:List (Nat×Oper)}{sl:List (Nat×Value)}{hp hp':List Blk}{Q:St→Prop}{c d:Nat}{ty:TypeId}{pos:String}{af:Array Edge}{g:Option (Nat×Bool)}
theorem Tr.clearB{x:Operand}{b o n c2 size m:Nat}{T E:TypeId}{z:Value}{cs:List Value}(hg:Ak ops sl g=true)(hc:Nat.beq c 4=true)(hx:Ag sl x=some (.slice (some ⟨b,o,none⟩) n c2))(hu:C.P.underlying T=some (.slice E))(hz:Zr C.P E z)(hzs:z.cells.size=size)(hzc:∀u∈z.cells.toList,isCell u=true)
    (hp1:hp.Perm (⟨b,cs,E,m⟩::hp')) (hol:cs.length≤o) (hom:o+n*size≤m) (k:Tr C ops rest ⟨sl,⟨b,cs,E,m⟩::hp'⟩ Q):
    Tr C ops ((c,⟨none, .call { callee:= .builtin .clear,args:= #[x],argTypes:= #[T] },ty,pos,af,g⟩)::rest) ⟨sl,hp⟩ Q:=by
  refine Tr.act (ρ:=Unit) (fun _=>True) (fun _=> .tuple #[]) (fun _=>⟨b,cs,E,m⟩::hp') (nbeq' hc) (Ay hg) (fun _ h=>by cases h) ⟨by simpa[Known,Op.operands,Call.operands]using known1 hx,fun a w hf hh=>?_⟩ (fun _ _=>k);have h1:=hf x (by simp[Op.operands,Call.operands]);rw[hx]at h1;simp only[La7]at h1;have hh':=hh.perm hp1;obtain⟨full,fr,hbk⟩:=hh'.cells _ La4;have hlt:=(hh'.cells _ La4).lt;have hsz:=hbk.size;simp only at hsz;have hzr:∀w,(zeroValue E).run C.P w= .ok z w:=fun w=>by
    unfold Zr at hz;cases hi:C.P.info? E with
    |none=>rw[hi]at hz;simp at hz
    | some i=>
      rw[hi]at hz;simp only[Lbs]at hz;simp[zeroValue,typeInfo,hi,hz]
  unfold Oper.wp;rcases Lg8 n with h0|h0
  · subst h0
    have hex:(execOp a.eval ⟨none, .call { callee:= .builtin .clear,args:= #[x],argTypes:= #[T] },ty,pos,af,g⟩).run C.P w= .ok (.value (.tuple #[])) w:=by
      simp[execOp,resolve,invoke,builtin,←h1,Builtin.clear_,run_underlying hu]
    rw[hex];exact⟨(),trivial,rfl,hh'⟩
  · obtain⟨i,rfl⟩:∃i,n=i+1:=⟨n-1,by omega⟩
    obtain⟨vs,hvs⟩:∃vs,(Builtin.zeroCells z.cells (i+1)).toList=vs:=⟨_,rfl⟩;have hvl:vs.length=(i+1)*size:=by rw[←hvs];simp[Builtin.zeroCells,hzs]
    have hvc:∀u∈vs,isCell u=true:=fun u hu2=>by
      rw[←hvs]at hu2;obtain⟨j,hj1,rfl⟩:∃j,j<(i+1)*z.cells.size∧z.cells[j%z.cells.size]! =u:=by simpa[Builtin.zeroCells]using hu2
      have hsp:0<z.cells.size:=by
        rcases Lg8 z.cells.size with h|h
        ·rw[h]at hj1;omega
        ·exact h
      have hj:j%z.cells.size<z.cells.size:=Lbo _ hsp;refine hzc _ ?_;rw[getElem!_pos z.cells _ hj];exact Array.getElem_mem_toList hj
    have hst:=run_storeCells (P:=C.P) (b:=b) (o:=o) vs 0 w full hbk.heap oM (by rw[hsz];exact hbk.free) hvc;simp only[Lbu]at hst;have hex:(execOp a.eval ⟨none, .call { callee:= .builtin .clear,args:= #[x],argTypes:= #[T] },ty,pos,af,g⟩).run C.P w= .ok (.value (.tuple #[])) (setBlk w b (Cb full o vs) E fr):=by
      simp[execOp,resolve,invoke,builtin,←h1,Builtin.clear_,run_underlying hu,hzr,hvs,hst]
    rw[hex];refine⟨(),trivial,rfl,hh'.upd (.head (cs:=cs)) hlt (by rw[putAll_size];exact hsz) ?_ hbk.free⟩;refine prefix_iff.2 fun j u hj=>?_;have hjl:j<cs.length:=(Lad.1 hj).1;rw[Ldn,putAll_get _ _ _ _ oM,if_neg oM];simpa using prefix_iff.1 hbk.pre j u hj
end
end Hw
namespace Go.Proofs.YtpogmfngccolbaaGreat
open Hw (Lan)
open Go
theorem closedLNam:joinedFacts Tryz.pinned.checked.prog 11 Tryz.f11 Rows.linearNamesSpec Rows.linearNamesRow=true:=by
  unfold joinedFacts;simp only[Lan]
  repeat apply And.intro
  all_goals as_aux_lemma=>kernel_rfl
end Go.Proofs.YtpogmfngccolbaaGreat
namespace Hw
open Go Go.RowKit
class ST(P:Program)(T:TypeId)(n:outParam Nat):Prop where h:Sz P T n
variable{p q:Prop}
theorem sZ{P:Program}{T:TypeId}{n:Nat}[i:ST P T n]:Sz P T n:=i.h
theorem oG(h:p:=by first|exact oK):p:=h
theorem gF(h:p:=by first|exact Block.get_fLinks oG|exact Block.get_fSeq oG|exact Block.get_fData oG|rfl|exact get_words (by first|omega|(simp;done)|(simp;omega))|exact get_bytes (by first|omega|(simp;done)|(simp;omega))|exact get_ints (by first|omega|(simp;done)|(simp;omega))):p:=h
theorem gL(h:p:=by first|exact Block.length oG|exact DEnt.length oG|exact Point.length oG|rfl|(simp;done)|assumption|(rw[Aa,La0];assumption)):p:=h
theorem gC(h:p:=by first|exact Block.isCell oG|exact DEnt.isCell oG|exact Point.isCell oG|exact A1 _|(simp[isCell];done)):p:=h
theorem gV(h:p:=by first|exact cv_u8_u64 _|exact cv_u64_u8 _|exact cv_u8_i64 _|exact cv_i64_u64 _|exact cv_i64_u8 _):p:=h
theorem sY(h:p:=by first|exact sZ|exact Go.Proofs.YtpogmfngccolbaaGreat.Sz207|exact Go.Proofs.YtpogmfngccolbaaGreat.Sz30|exact Go.Proofs.YtpogmfngccolbaaGreat.Sz45|exact Go.Proofs.YtpogmfngccolbaaGreat.Sz5|exact Go.Proofs.YtpogmfngccolbaaGreat.Sz50|exact Go.Proofs.YtpogmfngccolbaaGreat.Sz262|exact Go.Proofs.YtpogmfngccolbaaGreat.Sz46|exact Go.Proofs.YtpogmfngccolbaaGreat.Sz34|exact Go.Proofs.YtpogmfngccolbaaGreat.Sz44|exact Go.Proofs.YtpogmfngccolbaaGreat.Sz131|exact Go.Proofs.YtpogmfngccolbaaGreat.Sz132|exact Go.Proofs.YtpogmfngccolbaaGreat.Sz210|exact Go.Proofs.YtpogmfngccolbaaGreat.Sz294|exact Go.Proofs.YtpogmfngccolbaaGreat.Sz164|exact Go.Proofs.YtpogmfngccolbaaGreat.Sz48|exact Go.Proofs.YtpogmfngccolbaaGreat.Sz114|exact Go.Proofs.YtpogmfngccolbaaGreat.Sz26|exact Go.Proofs.YtpogmfngccolbaaGreat.Sz133|exact Go.Proofs.YtpogmfngccolbaaGreat.Sz134|exact Go.Proofs.YtpogmfngccolbaaGreat.Sz3):p:=h
structure Kp(p:Prop):Prop where o:p
theorem G1(k:q)(h:Kp q→p:=by intro k;(first|refine Tr.nil ?_|with_reducible refine Bx ?_|with_reducible refine at_x ?_|with_reducible refine at_r ?_|with_reducible refine bl_n ?_|with_reducible refine bl_h ?_|with_reducible refine bl_r ?_|with_reducible refine en_n ?_|with_reducible refine en_r ?_|with_reducible refine Sat.seq ?_|with_reducible refine Sat.region ?_|with_reducible refine Sat.ret ?_|with_reducible refine Sat.skip ?_|with_reducible refine Sat.exit ?_|with_reducible refine Sat.block ?_|refine Tr.m rfl rfl rfl ?_|refine Tr.a rfl rfl rfl ?_|refine Tr.skp rfl rfl ?_|refine Tr.fld rfl rfl rfl uY rfl sY dE _ rfl ?_|refine Tr.load1 rfl rfl rfl uY rfl mM gF ?_|refine Tr.pick rfl rfl rfl rfl rfl rfl ?_|refine Tr.lenSl rfl rfl rfl uY ?_|refine Tr.aI rfl rfl rfl rfl oM ?_|refine Tr.sub_i64 rfl rfl rfl rfl oM ?_|refine Tr.eX rfl rfl rfl rfl ?_|refine Tr.nC rfl rfl rfl ?_|refine Tr.conv rfl rfl rfl uY uY gV ?_|refine Tr.lss rfl rfl rfl rfl rfl ?_|refine Tr.gtr rfl rfl rfl rfl rfl ?_|refine Tr.geq rfl rfl rfl rfl rfl ?_|refine Tr.leq rfl rfl rfl rfl rfl ?_|refine Tr.eqi rfl rfl rfl rfl rfl ?_|refine Tr.nei rfl rfl rfl rfl rfl ?_|refine Tr.not rfl rfl rfl ?_|refine Tr.boxA rfl rfl ?_|refine Tr.sliceArr rfl rfl rfl uY sZ ?_|refine Tr.add_u64 rfl rfl rfl rfl ?_|refine Tr.mul_u64 rfl rfl rfl rfl ?_|refine Tr.and_u64 rfl rfl rfl rfl ?_|refine Tr.or_u64 rfl rfl rfl rfl ?_|refine Tr.xor_u64 rfl rfl rfl rfl ?_|refine Tr.makeFunc rfl rfl rfl rfl ?_|refine Tr.lA rfl rfl rfl uY rfl sZ mM gL ?_|refine Tr.sA rfl rfl rfl rfl gC sZ gL mM gL uU ?_);exact k.o):p:=h ⟨k⟩
theorem G2(k:q)(h:Kp q→p:=by intro k;(iterate 2 (refine G1 ?_));exact k.o):p:=h ⟨k⟩
theorem G3(k:q)(h:Kp q→p:=by intro k;(iterate 3 (refine G1 ?_));exact k.o):p:=h ⟨k⟩
theorem G4(k:q)(h:Kp q→p:=by intro k;(iterate 4 (refine G1 ?_));exact k.o):p:=h ⟨k⟩
theorem G5(k:q)(h:Kp q→p:=by intro k;(iterate 5 (refine G1 ?_));exact k.o):p:=h ⟨k⟩
theorem G6(k:q)(h:Kp q→p:=by intro k;(iterate 6 (refine G1 ?_));exact k.o):p:=h ⟨k⟩
theorem G7(k:q)(h:Kp q→p:=by intro k;(iterate 7 (refine G1 ?_));exact k.o):p:=h ⟨k⟩
theorem G8(k:q)(h:Kp q→p:=by intro k;(iterate 8 (refine G1 ?_));exact k.o):p:=h ⟨k⟩
theorem G9(k:q)(h:Kp q→p:=by intro k;(iterate 9 (refine G1 ?_));exact k.o):p:=h ⟨k⟩
theorem G10(k:q)(h:Kp q→p:=by intro k;(iterate 10 (refine G1 ?_));exact k.o):p:=h ⟨k⟩
theorem G11(k:q)(h:Kp q→p:=by intro k;(iterate 11 (refine G1 ?_));exact k.o):p:=h ⟨k⟩
theorem G12(k:q)(h:Kp q→p:=by intro k;(iterate 12 (refine G1 ?_));exact k.o):p:=h ⟨k⟩
theorem G13(k:q)(h:Kp q→p:=by intro k;(iterate 13 (refine G1 ?_));exact k.o):p:=h ⟨k⟩
theorem G14(k:q)(h:Kp q→p:=by intro k;(iterate 14 (refine G1 ?_));exact k.o):p:=h ⟨k⟩
theorem G15(k:q)(h:Kp q→p:=by intro k;(iterate 15 (refine G1 ?_));exact k.o):p:=h ⟨k⟩
theorem G16(k:q)(h:Kp q→p:=by intro k;(iterate 16 (refine G1 ?_));exact k.o):p:=h ⟨k⟩
theorem G17(k:q)(h:Kp q→p:=by intro k;(iterate 17 (refine G1 ?_));exact k.o):p:=h ⟨k⟩
theorem G18(k:q)(h:Kp q→p:=by intro k;(iterate 18 (refine G1 ?_));exact k.o):p:=h ⟨k⟩
theorem G19(k:q)(h:Kp q→p:=by intro k;(iterate 19 (refine G1 ?_));exact k.o):p:=h ⟨k⟩
theorem G21(k:q)(h:Kp q→p:=by intro k;(iterate 21 (refine G1 ?_));exact k.o):p:=h ⟨k⟩
theorem G22(k:q)(h:Kp q→p:=by intro k;(iterate 22 (refine G1 ?_));exact k.o):p:=h ⟨k⟩
theorem G23(k:q)(h:Kp q→p:=by intro k;(iterate 23 (refine G1 ?_));exact k.o):p:=h ⟨k⟩
theorem G24(k:q)(h:Kp q→p:=by intro k;(iterate 24 (refine G1 ?_));exact k.o):p:=h ⟨k⟩
theorem G26(k:q)(h:Kp q→p:=by intro k;(iterate 26 (refine G1 ?_));exact k.o):p:=h ⟨k⟩
theorem G31(k:q)(h:Kp q→p:=by intro k;(iterate 31 (refine G1 ?_));exact k.o):p:=h ⟨k⟩
theorem G51(k:q)(h:Kp q→p:=by intro k;(iterate 51 (refine G1 ?_));exact k.o):p:=h ⟨k⟩
end Hw
namespace Go.Proofs.YtpogmfngccolbaaGreat
open Go Hw _root_.Go.Proofs.Tryz
instance:ST prog 207 32:=⟨Sz207⟩
instance:ST prog 30 1:=⟨Sz30⟩
instance:ST prog 45 1:=⟨Sz45⟩
instance:ST prog 5 1:=⟨Sz5⟩
instance:ST prog 50 131:=⟨Sz50⟩
instance:ST prog 262 10:=⟨Sz262⟩
instance:ST prog 46 1:=⟨Sz46⟩
instance:ST prog 34 32:=⟨Sz34⟩
instance:ST prog 44 32:=⟨Sz44⟩
instance:ST prog 131 1:=⟨Sz131⟩
instance:ST prog 132 1:=⟨Sz132⟩
instance:ST prog 210 64:=⟨Sz210⟩
instance:ST prog 294 5:=⟨Sz294⟩
instance:ST prog 164 132:=⟨Sz164⟩
instance:ST prog 48 64:=⟨Sz48⟩
instance:ST prog 114 1:=⟨Sz114⟩
instance:ST prog 26 1:=⟨Sz26⟩
instance:ST prog 133 1:=⟨Sz133⟩
instance:ST prog 134 1:=⟨Sz134⟩
instance:ST prog 3 1:=⟨Sz3⟩
end Go.Proofs.YtpogmfngccolbaaGreat
namespace Go.Proofs.YtpogmfngccolbaaGreat
open Go Hw _root_.Go.Proofs.Tryz
abbrev Mv(f:FuncId)(l:List Value)(p:World→Prop)(x:Value):Prop:=Meets prog f l [] p fun v o=>v=x∧o=[]
def CapM(W:World)(c b:Nat):Prop:=W.cell? ⟨c,0,none⟩=some (.map (some b))
variable{B:Block}{C:Cx}{E:TypeId}{W w:World}{bl hp:List Blk}{j k m n:Nat}{l prev:List UInt8}{ls:List (List UInt8)}{s:Sl}{x:UInt64}{z:Value}{α ν σ:Type}{fs todo:List (List UInt8×ν)}
theorem CapM.keep{c b:Nat}(h:CapM C.W0 c b)(hc:c<C.W0.heap.size)(hl:c∉C.lent)(hh:HRep C hp w):w.cell? ⟨c,0,none⟩=some (.map (some b)):=by
  have e:=hh.keeps.block c hc hl;unfold CapM at h;unfold World.cell? at h ⊢;rw[e];exact h
def KeySeq(P:Program)(gf:Nat)(lb:Array Value)(keys:List (List UInt8))(W:World):Prop:=
  ∀ (σ:Type) (X:σ→List Blk) (vis:σ→List (List UInt8)) (s0:σ) (names:List Nat) (l:Nat) (w1:World),Keeps [] W w1→(∀n∈names,W.heap.size≤n)→vis s0=[]→HRep ⟨P,w1,0,names,[],[]⟩ (X s0) w1→
    (∀s k,k.length=32→(vis s).length<keys.length→∀W2,HRep ⟨P,w1,0,names,[],[]⟩ (X s) W2→YieldAt Fence.wide 0 P l #[agg (Aa k)] W2 fun e W3=>e= .returned (.bool true)∧∃s',vis s'=vis s++[k]∧Ret ((X s).map (·.n)) (X s') W2 W3)→
    CallsIn Fence.wide 0 P gf (#[.func (.yield l) #[] #[]]++lb) w1 fun e W'=>(∃v,e= .returned v)∧∃s,(vis s).Perm keys∧HRep ⟨P,w1,0,names,[],[]⟩ (X s) W'
theorem key_at{ev:ν→Value}{es:Array MapEntry}{clock:Nat}{seen seen2:Array Nat}{k:List UInt8}{v:ν}(F:MFit (Al 32 ev) fs es clock)(hit:ItOk (Al 32 ev) es seen2 (todo.eraseIdx j))(hi:ItOk (Al 32 ev) es seen todo)(hj:todo[j]? =some (k,v)):k.length=32:=by
  have h1:((agg (Aa k)),ev v)∈(leftOf es seen).toList.map (fun e=>(e.key,e.val)):=by
    unfold ItOk at hi;rw[hi];exact La8.2 ⟨(k,v),Lcr hj,rfl⟩
  obtain⟨e,he,ee⟩:=La8.1 h1;simp only[Lgl]at ee;have he2:e∈es.toList:=by simp only[leftOf,Lfg]at he;exact(Lc0.1 he).1
  obtain⟨i,hi2⟩:=Lg1 he2;obtain⟨p,hp,e1,_⟩:=F.at hi2;have:agg (Aa p.1)=agg (Aa k):=e1.trans ee.1;rw[←agg_bytes_inj this];exact F.ok p (Lcr hp)
theorem vis_lt{vs:List (List UInt8)}{x:List UInt8×ν}(h:(vs++todo.map (·.1)).Perm (fs.map (·.1)))(hj:todo[j]? =some x):vs.length<fs.length:=by
  have h1:=h.length_eq;have h2:=(Lad.1 hj).1;simp only[La3,La0]at h1;omega
theorem perm_step{keys a todo:List α}{x:α}(h:(a++todo).Perm keys)(hj:todo[j]? =some x):((a++[x])++todo.eraseIdx j).Perm keys:=by
  refine List.Perm.trans ?_ h;rw[La9];refine Lcu a ?_;obtain⟨hl,he⟩:=Lad.1 hj;clear h hj
  induction todo generalizing j with
  |nil=>cases hl
  | cons y todo ih=>
    cases j with
    |zero=>simp only[List.getElem_cons_zero]at he;subst he;exact Lch _
    | succ j=>
      simp only[List.getElem_cons_succ]at he;rw[List.eraseIdx_cons_succ];exact(List.Perm.swap y x _).trans (List.Perm.cons y (ih (by simpa using hl) he))
theorem mk_keysB(b:Nat):Meets prog 196 [.map (some b)] [] (fun _=>True) (fun v out=>∃c,v= .func (.func 250) #[] #[ptr c 0]∧out=[⟨c,[.map (some b)],132,1⟩]):=by
 intro W hW;refine Ac func196 J 4 ntmps196 J (G2 ?_);refine .box1 J J J ?_;intro n1 hn1 hf1;refine G9 ?_;refine G2 ?_;refine Az (out:=(⟨n1,[.map (some b)],132,1⟩::[])) (Ah J J) (Ab rM Aj) ?_;exact⟨n1,rfl,rfl⟩
theorem keys_iterB{ev:ν→Value}(M:MOk prog 132 34 50 (Al 32 ev) z)(X:σ→List Blk)(vis:σ→List (List UInt8))(s0:σ)(names:List Nat)(l c b:Nat)(fs:List (List UInt8×ν))(es:Array MapEntry)(clock:Nat)(w1:World)(F:MFit (Al 32 ev) fs es clock)(hv0:vis s0=[])(hbn:b∉names)(hcn:c∉names):Meets prog 250 [.func (.yield l) #[] #[],ptr c 0] names (fun W=>W=w1∧HRep ⟨prog,w1,0,names,[],[]⟩ (X s0) W∧W.heap[b]? =some (.map es clock)∧CapM W c b∧c<W.heap.size∧∀s k,k.length=32→(vis s).length<fs.length→∀W2,HRep ⟨prog,w1,0,names,[],[]⟩ (X s) W2→YieldAt Fence.wide 0 prog l #[agg (Aa k)] W2 fun e W3=>e= .returned (.bool true)∧∃s',vis s'=vis s++[k]∧Ret ((X s).map (·.n)) (X s') W2 W3) (fun v out=>v= .tuple #[]∧∃s,(vis s).Perm (fs.map (·.1))∧out=X s):=by
  intro W hW;obtain⟨rfl,hW⟩:=hW;obtain⟨hH,hb,hcap,hclt,hY⟩:=hW;have hW:=And.intro hH trivial;refine calls_of (hp0:=X s0) func250 J 14 ntmps250 J (HRep.reN hW.1) (G2 ?_);refine .loadAny J J J (v:= .map (some b)) (fun w h=>?_) ?_
  · have hcc:=hcap.keep (C:=⟨prog,W,_,names,[],[]⟩) hclt hcn h
    simp[loadVar,run_isAgg_plain Y132.h rfl,load,Sem.run,hcc]
  refine .rangeMapC Y132.h hb hbn J J J J ?_;intro q;refine G3 ?_;refine .loop (ι:=Array Nat×List (List UInt8×ν)×σ) (fun p=>⟨[(0, .func (.yield l) #[] #[]),(1,ptr c 0),(5,ptr q 0)],(iblk q b clock p.1::(X p.2.2++[]))⟩) (fun p=>ItOk (Al 32 ev) es p.1 p.2.1∧((vis p.2.2)++(p.2.1.map (·.1))).Perm (fs.map (·.1))) (fun p=>p.2.1.length) ((#[],fs,s0)) ?_ ?_ ?_
  ·exact⟨ItOk.start F,by rw[hv0];exact Lch _⟩
  ·exact Aq wN (Ab rM (Ae (by repeat(exact sg_end)) Aj))
  rintro p ⟨hi,hpm⟩;refine G2 ?_;refine .nextMapC F hi hb hbn J J J J rM ?_ ?_
  ·
    intro htd;refine G4 ?_;refine .cond_f J J (G5 ?_);refine Az (out:=(X p.2.2++[])) (res_none J) (Ae sG Aj) ?_;rw[htd]at hpm;exact⟨rfl,p.2.2,by simpa using hpm,Lav _⟩
  intro j k v seen2 hj hit hat;have hk32:k.length=32:=key_at F hit hi hj;have hvl:(vis p.2.2).length<fs.length:=vis_lt hpm hj;refine G4 ?_;refine .cond_t J J (G5 ?_);refine .entryMapC F hat hb hbn J J J Z0 ?_;refine G1 ?_;refine .alloc (cs:=(Aa (List.replicate 32 0))) J B5 J ?_;intro n3 hn3 hf3;refine .sA J J J J zB Sz34 (by(rw[Aa,La0];assumption)) Z0 sP zU ?_;refine G3 ?_;refine .regionY 2 J zK (G1 ?_);refine .lA J J J Y34.h J Sz34 Z0 (by(rw[Aa,La0];assumption)) ?_;refine .nil (yopR (S:=fun s'=>vis s'=vis p.2.2++[k]) (hpF:=X) J J J sG (fun w h=>hY p.2.2 k hk32 hvl w h) ?_);intro s9 hs9;refine G3 ?_;refine .cond_f J J (G3 ?_);exact⟨(seen2,p.2.1.eraseIdx j,s9),⟨hit,by rw[hs9,ChangeMaps.map_eraseIdx];exact perm_step hpm (by rw[Lal,hj];rfl)⟩,by have h8:=(Lad.1 hj).1;simp only[Lg0,h8,if_true];omega,Aq wN (Ab rM (Ae sG Aj))⟩
theorem mk_keysU(b:Nat):Meets prog 187 [.map (some b)] [] (fun _=>True) (fun v out=>∃c,v= .func (.func 227) #[] #[ptr c 0]∧out=[⟨c,[.map (some b)],114,1⟩]):=by
 intro W hW;refine Ac func187 J 4 ntmps187 J (G2 ?_);refine .box1 J J J ?_;intro n1 hn1 hf1;refine G9 ?_;refine G2 ?_;refine Az (out:=(⟨n1,[.map (some b)],114,1⟩::[])) (Ah J J) (Ab rM Aj) ?_;exact⟨n1,rfl,rfl⟩
theorem keys_iterU{ev:ν→Value}(M:MOk prog 114 34 145 (Al 32 ev) z)(X:σ→List Blk)(vis:σ→List (List UInt8))(s0:σ)(names:List Nat)(l c b:Nat)(fs:List (List UInt8×ν))(es:Array MapEntry)(clock:Nat)(w1:World)(F:MFit (Al 32 ev) fs es clock)(hv0:vis s0=[])(hbn:b∉names)(hcn:c∉names):Meets prog 227 [.func (.yield l) #[] #[],ptr c 0] names (fun W=>W=w1∧HRep ⟨prog,w1,0,names,[],[]⟩ (X s0) W∧W.heap[b]? =some (.map es clock)∧CapM W c b∧c<W.heap.size∧∀s k,k.length=32→(vis s).length<fs.length→∀W2,HRep ⟨prog,w1,0,names,[],[]⟩ (X s) W2→YieldAt Fence.wide 0 prog l #[agg (Aa k)] W2 fun e W3=>e= .returned (.bool true)∧∃s',vis s'=vis s++[k]∧Ret ((X s).map (·.n)) (X s') W2 W3) (fun v out=>v= .tuple #[]∧∃s,(vis s).Perm (fs.map (·.1))∧out=X s):=by
  intro W hW;obtain⟨rfl,hW⟩:=hW;obtain⟨hH,hb,hcap,hclt,hY⟩:=hW;have hW:=And.intro hH trivial;refine calls_of (hp0:=X s0) func227 J 14 ntmps227 J (HRep.reN hW.1) (G2 ?_);refine .loadAny J J J (v:= .map (some b)) (fun w h=>?_) ?_
  · have hcc:=hcap.keep (C:=⟨prog,W,_,names,[],[]⟩) hclt hcn h
    simp[loadVar,run_isAgg_plain Y114.h rfl,load,Sem.run,hcc]
  refine .rangeMapC Y114.h hb hbn J J J J ?_;intro q;refine G3 ?_;refine .loop (ι:=Array Nat×List (List UInt8×ν)×σ) (fun p=>⟨[(0, .func (.yield l) #[] #[]),(1,ptr c 0),(5,ptr q 0)],(iblk q b clock p.1::(X p.2.2++[]))⟩) (fun p=>ItOk (Al 32 ev) es p.1 p.2.1∧((vis p.2.2)++(p.2.1.map (·.1))).Perm (fs.map (·.1))) (fun p=>p.2.1.length) ((#[],fs,s0)) ?_ ?_ ?_
  ·exact⟨ItOk.start F,by rw[hv0];exact Lch _⟩
  ·exact Aq wN (Ab rM (Ae (by repeat(exact sg_end)) Aj))
  rintro p ⟨hi,hpm⟩;refine G2 ?_;refine .nextMapC F hi hb hbn J J J J rM ?_ ?_
  ·
    intro htd;refine G4 ?_;refine .cond_f J J (G5 ?_);refine Az (out:=(X p.2.2++[])) (res_none J) (Ae sG Aj) ?_;rw[htd]at hpm;exact⟨rfl,p.2.2,by simpa using hpm,Lav _⟩
  intro j k v seen2 hj hit hat;have hk32:k.length=32:=key_at F hit hi hj;have hvl:(vis p.2.2).length<fs.length:=vis_lt hpm hj;refine G4 ?_;refine .cond_t J J (G5 ?_);refine .entryMapC F hat hb hbn J J J Z0 ?_;refine G1 ?_;refine .alloc (cs:=(Aa (List.replicate 32 0))) J B5 J ?_;intro n3 hn3 hf3;refine .sA J J J J zB Sz34 (by(rw[Aa,La0];assumption)) Z0 sP zU ?_;refine G3 ?_;refine .regionY 2 J zK (G1 ?_);refine .lA J J J Y34.h J Sz34 Z0 (by(rw[Aa,La0];assumption)) ?_;refine .nil (yopR (S:=fun s'=>vis s'=vis p.2.2++[k]) (hpF:=X) J J J sG (fun w h=>hY p.2.2 k hk32 hvl w h) ?_);intro s9 hs9;refine G3 ?_;refine .cond_f J J (G3 ?_);exact⟨(seen2,p.2.1.eraseIdx j,s9),⟨hit,by rw[hs9,ChangeMaps.map_eraseIdx];exact perm_step hpm (by rw[Lal,hj];rfl)⟩,by have h8:=(Lad.1 hj).1;simp only[Lg0,h8,if_true];omega,Aq wN (Ab rM (Ae sG Aj))⟩
def cmpI(a b:Int):Int:=if a<b then-1 else if b<a then 1 else 0
theorem nan_int(x:Int):Mv 185 [i64 x] (fun _=>True) (.bool false):=by
 intro W hW;refine Ac func185 J 6 ntmps185 J (.sr (.a J J J (.nsr (.m J J J (.m J J J (.nei J J J J (show(!decide _)=false from congrArg not (decide_eq_true (rfl))) (.a J J J (.na ?_))))))));refine .ret (en_r ?_);refine⟨_,[],Ah J J,sP,sP,?_,rfl⟩;rfl
theorem cmp_int(x y:Int):Mv 143 [i64 x,i64 y] (fun _=>True) (i64 (cmpI x y)):=by
 intro W hW;refine Ac func143 J 20 ntmps143 J (.sr (.a J J J (.nsr (.m J J J (.cV J J J J Body185 (nan_int _) tV (.a J J J (.nsr (.m J J J (.cV J J J J Body185 (nan_int _) tV (.a J J J (.na (.seq (.sr (.m J J J (.na (.cond_f J (rfl) (.skip (Bx (.seq (.sr (.m J J J (.na (.cond_f J (rfl) (.skip (Bx (.seq (.sr (.m J J J (.m J J J (.lss J J J J J (.na (.condP J (fun hc3=>?_) (fun hc3=>?_)))))))))))))))))))))))))))))))))
 ·
  refine .sr (.a J J J (.na ?_));refine .ret (at_r (en_r ?_));refine⟨_,[],Ah J J,sP,sP,?_,rfl⟩;simp[cmpI, *]
 refine .skip (Bx (.seq (.sr (.m J J J (.m J J J (.gtr J J J J J (.na (.condP J (fun hc4=>?_) (fun hc4=>?_)))))))))
 ·
  refine .sr (.a J J J (.na ?_));refine .ret (at_r (en_r ?_));refine⟨_,[],Ah J J,sP,sP,?_,rfl⟩;simp[cmpI, *]
 refine .skip (Bx (.sr (.a J J J (.na ?_))));refine .ret (en_r ?_);refine⟨_,[],Ah J J,sP,sP,?_,rfl⟩;simp[cmpI, *]
theorem bytealg_run{p q:Option Addr}{n m c1 c2:Nat}{a b:List UInt8}(ha:a.length=n)(hb:b.length=m)(h1:SeesP w p (Aa a))(h2:SeesP w q (Aa b)):
    (callFunc 188 [.slice p n c1, .slice q m c2].toArray).run prog w= .ok (.value (i64 (cmpB a b))) w:=by
  rw[run_callFunc_extern func188 zK zK zK (e:=Extern.BytealgCompare.compare) zK];rw[show[Value.slice p n c1,Value.slice q m c2].toArray= #[.slice p n c1, .slice q m c2]from rfl,run_compareB ha hb h1 h2];rfl
theorem bytes_cmp(p q:Option Addr)(c1 c2 n m:Nat)(a b:List UInt8)(ha:a.length=n)(hb:b.length=m):Mv 153 [.slice p n c1, .slice q m c2] (fun W=>SeesP W p (Aa a)∧SeesP W q (Aa b)) (i64 (cmpB a b)):=by
 intro W hW;refine Ac func153 J 8 ntmps153 J (G9 ?_);refine .extL J J J J (fun w h=>bytealg_run ha hb (A5 h J hW.1) (A5 h J hW.2)) (G3 ?_);refine G2 ?_;refine⟨_,[],Ah J J,sP,sP,?_,rfl⟩;rfl
def badAt(prev:List UInt8)(ls:List (List UInt8))(i:Nat):Bool:=decide (ls.getD i []=List.replicate 32 0)||(decide (ls.getD i []=prev)||(decide ((0:Int)<(i:Int))&&decide ((0:Int)≤cmpB (ls.getD (i-1) []) (ls.getD i []))))
def linksBad(prev:List UInt8)(ls:List (List UInt8)):Bool:=(List.range ls.length).any (badAt prev ls)
def bheadB(B:Block):Bool:=decide ((4294967295:Int)<(B.fSeq.toNat:Int))||(!decide (decide (B.fPrev=List.replicate 32 0)=decide ((B.fSeq.toNat:Int)=0))||(decide ((16:Int)<(B.fLinks.n:Int))||decide ((512:Int)<(B.fData.n:Int))))
def bhead(B:Block):Prop:=bheadB B=true
theorem linksBad_at(hk:k<ls.length)(h:badAt prev ls k=true):linksBad prev ls=true:=by
  rw[linksBad,Lc9];exact⟨k,Ld6.2 hk,h⟩
theorem linksBad_not(h:∀j,j<ls.length→badAt prev ls j=false):linksBad prev ls=false:=by
  rw[linksBad,List.any_eq_false];intro x hx;rw[h x (Ld6.1 hx)];simp
def bcheck(B:Block)(ls:List (List UInt8)):Int:=if bheadB B=true then 2 else(if linksBad B.fPrev ls=true then 2 else 0)
theorem bcheck_head(h:bhead B):bcheck B ls=2:=by unfold bcheck;unfold bhead at h;rw[if_pos h]
theorem bcheck_bad(h:¬bhead B)(hb:linksBad B.fPrev ls=true):bcheck B ls=2:=by unfold bcheck;unfold bhead at h;rw[if_neg h,if_pos hb]
theorem bcheck_ok(h:¬bhead B)(hb:linksBad B.fPrev ls=false):bcheck B ls=0:=by unfold bcheck;unfold bhead at h;rw[if_neg h,if_neg (by rw[hb];simp)]
theorem block_cmp(a b:List UInt8)(ha:a.length=32)(hb:b.length=32):Mv 95 [agg (Aa a),agg (Aa b)] (fun _=>True) (i64 (cmpB a b)):=by
 intro W hW;refine Ac func95 J 8 ntmps95 J (G3 ?_);intro n2 hn2 hf2;refine G1 ?_;intro n3 hn3 hf3;refine G4 ?_;refine .draw (oP [0,1,302,3]) Au zK (G2 ?_);refine .cV J J J J Body153 (bytes_cmp _ _ _ _ _ _ a b ha hb) (fun W2 h=>⟨SeesP.of (Ap h Z1),SeesP.of (Ap h Z0)⟩) ?_;refine G3 ?_;refine G2 ?_;refine⟨_,[],Ah J J,sP,sP,?_,rfl⟩;rfl
theorem block_check(B:Block)(hB:B.ok)(ls:List (List UInt8)):Mv 154 [agg B.cells] (fun W=>RowsAt W B.fLinks 32 ls) (i64 (bcheck B ls)):=by
 intro W hW;have hcx:B.fLinks.n≤maxLen:=hW.max;simp only[maxLen]at hcx;have hcn:=hW.cap;refine Ac func154 J 65 ntmps154 J (G3 ?_);intro n1 hn1 hf1;refine G5 ?_;refine .build (cs:=Aa (List.replicate 32 0)) J J J (fun w=>by kernel_rfl) ?_;refine .alloc (cs:=(Aa (List.replicate 32 0))) J B5 J ?_;intro n3 hn3 hf3;refine .sA J J J J zB Sz34 sP Z0 sP zU ?_;refine G4 ?_;refine .draw (oP [0,101,2,3,4,105,106,7,8,109,10,11,12,13,14,115,16,17,18,19,20,121,22,23,24]) Au zK (G2 ?_);refine two (fun r hr k=>Tr.gtr J J J J hr k) (fun hs2_20=>?_) (fun hs2_20=>?_)
 ·
  have hs2_2:=of_decide_eq_true hs2_20;refine G24 ?_;refine .cond_t J J (G5 ?_);refine G3 ?_;refine⟨_,[],Ah J J,sP,sP,?_,rfl⟩;exact congrArg i64 (bcheck_head (by unfold bhead bheadB;simp_all)).symm
 have hs2_2:=of_decide_eq_false hs2_20;refine G2 ?_;refine .lN (Aa _) J J J Y34.h J Sz34 Z1 (Block.row_fPrev zA) (Block.rl_fPrev zA) ?_;refine .lA J J J Y34.h J Sz34 Z0 sP ?_;refine .eql_bytes J J J J eqGuardType34 Y34.h Y5.h Sz5 (by(simp[hB.l_fPrev];done)) sP J ?_;refine G3 ?_;refine two (fun r hr k=>Tr.neb J J J J Y4 hr k) (fun hs2_110=>?_) (fun hs2_110=>?_)
 ·
  have hs2_11:=nd_t hs2_110;refine G15 ?_;refine .cond_t J J (G5 ?_);refine G3 ?_;refine⟨_,[],Ah J J,sP,sP,?_,rfl⟩;exact congrArg i64 (bcheck_head (by unfold bhead bheadB;simp_all)).symm
 have hs2_11:=nd_f hs2_110;refine G5 ?_;refine two (fun r hr k=>Tr.gtr J J J J hr k) (fun hs2_170=>?_) (fun hs2_170=>?_)
 ·
  have hs2_17:=of_decide_eq_true hs2_170;refine G9 ?_;refine .cond_t J J (G5 ?_);refine G3 ?_;refine⟨_,[],Ah J J,sP,sP,?_,rfl⟩;exact congrArg i64 (bcheck_head (by unfold bhead bheadB;simp_all)).symm
 have hs2_17:=of_decide_eq_false hs2_170;refine G9 ?_;refine .condP J (fun hc0=>?_) (fun hc0=>?_)
 ·
  refine G5 ?_;refine G3 ?_;refine⟨_,[],Ah J J,sP,sP,?_,rfl⟩;exact congrArg i64 (bcheck_head (by unfold bhead bheadB;simp_all)).symm
 have hnb:¬bhead B:=by unfold bhead bheadB;simp_all
 refine G12 ?_;refine .loop (ι:=Nat) (fun k=>⟨[(1,ptr n1 0),(3,ptr n3 0),(33,B.fLinks.v),(34,i64 (B.fLinks.n:Int)),(35,i64 (k:Int))],[⟨n3,Aa (List.replicate 32 0),34,32⟩,⟨n1,B.cells,50,B.cells.length⟩]⟩) (fun k=>k≤B.fLinks.n∧∀j,j<k→badAt B.fPrev ls j=false) (fun k=>B.fLinks.n-k) (0) ?_ ?_ ?_
 ·exact⟨by omega,fun j hj=>by omega⟩
 ·exact Ad wN (wh1 Z0 (wh1 Z1 wh0)) nD
 rintro k ⟨hk,hg⟩;refine G6 ?_;refine .condP J (fun hc1=>?_) (fun hc1=>?_)
 ·
  have hk2:k<B.fLinks.n:=by omega
  have hll:=hW.len;obtain⟨b,o,hbp,hbs⟩:=hW.see.at (by rw[Aw hW.row];omega);have hr0:(ls.getD k []).length=32:=Bo hW.row oM;have hr1:(ls.getD (k-1) []).length=32:=Bo hW.row oM;refine G2 ?_;refine .join (ι:=Unit) (fun _u=>⟨[(1,ptr n1 0),(3,ptr n3 0),(33,B.fLinks.v),(34,i64 (B.fLinks.n:Int)),(35,i64 (k:Int))],[⟨n3,Aa (List.replicate 32 0),34,32⟩,⟨n1,B.cells,50,B.cells.length⟩]⟩) (fun _u=>badAt B.fPrev ls k=false) ?_ ?_
  ·
   refine G4 ?_;refine .idxSlP 32 J J J hbp J Y30.h Sz34 k J oM (.loadEN (Aa (ls.getD (k) [])) J J J Y34.h J Sz34 sP (by rw[Aa,La0];exact Bo hW.row (by rw[hW.len];omega)) (Bv hW.row hbs (by rw[hW.len];omega)) ?_);refine .alloc (cs:=(Aa (List.replicate 32 0))) J B5 J ?_;intro n5 hn5 hf5;refine G1 ?_;refine .sA J J J J zB Sz34 (by(rw[Aa,La0];assumption)) Z0 sP zU ?_;refine G3 ?_;refine .draw (oP [100,101,2,3,104,5,106,7,8,9,10,11,12,13,114,15,16,17,118,119,320,21,22,23]) Au zK (.lA J J J Y34.h J Sz34 Z0 (by(rw[Aa,La0];assumption)) ?_);refine .lA J J J Y34.h J Sz34 Z1 sP ?_;refine two (fun r hr k=>Tr.eql_bytes J J J J eqGuardType34 Y34.h Y5.h Sz5 zA sP hr k) (fun hs7_20=>?_) (fun hs7_20=>?_)
   ·
    have hs7_2:=of_decide_eq_true hs7_20;refine G23 ?_;refine .cond_t J J (G5 ?_);refine G7 ?_;refine⟨_,[],Ah J J,sP,sP,?_,rfl⟩;exact congrArg i64 (bcheck_bad hnb (linksBad_at (k:=k) oM (by unfold badAt;simp_all))).symm
   have hs7_2:=of_decide_eq_false hs7_20;refine G1 ?_;refine .lA J J J Y34.h J Sz34 Z0 (by(rw[Aa,La0];assumption)) ?_;refine G1 ?_;refine .lN (Aa _) J J J Y34.h J Sz34 Z2 (Block.row_fPrev zA) (Block.rl_fPrev zA) ?_;refine two (fun r hr k=>Tr.eql_bytes J J J J eqGuardType34 Y34.h Y5.h Sz5 zA (by(simp[hB.l_fPrev];done)) hr k) (fun hs7_70=>?_) (fun hs7_70=>?_)
   ·
    have hs7_7:=of_decide_eq_true hs7_70;refine G18 ?_;refine .cond_t J J (G5 ?_);refine G7 ?_;refine⟨_,[],Ah J J,sP,sP,?_,rfl⟩;exact congrArg i64 (bcheck_bad hnb (linksBad_at (k:=k) oM (by unfold badAt;simp_all))).symm
   have hs7_7:=of_decide_eq_false hs7_70;refine G3 ?_;refine two (fun r hr k=>Tr.gtr J J J J hr k) (fun hs7_110=>?_) (fun hs7_110=>?_)
   ·
    have hs7_11:=of_decide_eq_true hs7_110;refine G5 ?_;refine .idxSlP 32 J J J hbp J Y30.h Sz34 (k-1) oM oM (.loadEN (Aa (ls.getD (k-1) [])) J J J Y34.h J Sz34 sP (by rw[Aa,La0];exact Bo hW.row (by rw[hW.len];omega)) (Bv hW.row hbs (by rw[hW.len];omega)) ?_);refine .lA J J J Y34.h J Sz34 Z0 (by(rw[Aa,La0];assumption)) ?_;refine .cV J J J J Body95 (block_cmp _ _ hr1 hr0) tV (G5 ?_);refine .condP J (fun hc2=>?_) (fun hc2=>?_)
    ·
     refine G5 ?_;refine G7 ?_;refine⟨_,[],Ah J J,sP,sP,?_,rfl⟩;exact congrArg i64 (bcheck_bad hnb (linksBad_at (k:=k) oM (by unfold badAt;simp_all))).symm
    refine G3 ?_;refine⟨(),by unfold badAt;simp_all,Ad wN (wh1 Z1 (wh1 Z2 wh0)) nD⟩
   have hs7_11:=of_decide_eq_false hs7_110;refine G14 ?_;refine .cond_f J J (G3 ?_);refine⟨(),by unfold badAt;simp_all,Ad wN (wh1 Z1 (wh1 Z2 wh0)) nD⟩
  intro _u hj;have hgk:=hj;refine G5 ?_;exact⟨k+1,⟨by omega,fun j hj=>by rcases Lcg.1 hj with h|rfl;exact hg j h;exact hgk⟩,by omega,Ad wN (wh1 Z0 (wh1 Z1 wh0)) nD⟩
 obtain rfl:k=B.fLinks.n:=by omega
 refine G10 ?_;refine G2 ?_;refine⟨_,[],Ah J J,sP,sP,?_,rfl⟩;exact congrArg i64 (bcheck_ok hnb (linksBad_not (by rw[hW.len];exact hg))).symm
theorem kit_names(s:Sl)(ls:List (List UInt8))(hn:s.n≤500000):Meets prog 22 [s.v] [] (fun W=>RowsAt W s 32 ls) (fun v out=>FreshRow v out (Am ls) 34 s.n 32):=by
 intro W hW;refine Ac func22 J 6 ntmps22 J (G7 ?_);refine .mkRow (z:=agg (Aa (List.replicate 32 0))) [] ([]) J J J Y30.h Sz34 B5 J J (by intro v hv;cases hv) dE (rfl) ?_;intro q0;refine G1 ?_;refine .appendSl (z:=agg (Aa (List.replicate 32 0))) (by':=32) (Am ls) J J J J J Y30.h Y30.h Sz34 B5 (by unfold By;kernel_rfl) J (fun w h=>A5 h J hW.see) (fun e=>by have:=hW.nil e;have:=hW.cap;omega) (flatB_cell ls) A3 J J oM oM oM (by rw[Aw hW.row,hW.len]) ?_;intro q1 c1 hq1;refine G3 ?_;refine G2 ?_;refine⟨_,[⟨q1,[]++Am ls,34,c1*32⟩],Ah J J,(by intro b hb;rw[La1.1 hb];exact B8),nodup1,⟨q1,c1,by rw[Lb3],by omega,rfl⟩⟩
theorem kit_own(s:Sl)(l:List UInt8)(hn:s.n≤500000):Meets prog 68 [s.v] [] (fun W=>BytesAt W s l) (fun v out=>FreshRow v out (Aa l) 5 s.n 1):=by
 intro W hW;refine Ac func68 J 6 ntmps68 J (G7 ?_);refine .mkRow (z:=u8 0) [] ([]) J J J Y46.h Sz5 Zr5 J J (by intro v hv;cases hv) dE (rfl) ?_;intro q0;refine G1 ?_;refine .appendSl (z:=u8 0) (by':=1) (Aa l) J J J J J Y46.h Y46.h Sz5 Zr5 (by unfold By;kernel_rfl) J (fun w h=>A5 h J hW.see) (fun e=>by have:=hW.nil e;have:=hW.cap;omega) (by simp[Aa,isCell,u8]) A3 J J oM oM oM (by rw[Aa,La0,hW.len,Lb5]) ?_;intro q1 c1 hq1;refine G3 ?_;refine G2 ?_;refine⟨_,[⟨q1,[]++Aa l,5,c1*1⟩],Ah J J,(by intro b hb;rw[La1.1 hb];exact B8),nodup1,⟨q1,c1,by rw[Lb3],by omega,rfl⟩⟩
def ownB(B:Block)(q1 c1 q2 c2:Nat):Block:={ B with fLinks:=⟨some ⟨q1,0,none⟩,B.fLinks.n,c1⟩,fData:=⟨some ⟨q2,0,none⟩,B.fData.n,c2⟩ }
theorem ownB_ok(h:B.ok)(q1 c1 q2 c2:Nat):(ownB B q1 c1 q2 c2).ok:=⟨h.l_fWriter,h.l_fPrev,h.l_fSig⟩
def OwnedBlock(B:Block)(ls:List (List UInt8))(l:List UInt8)(v:Value)(out:List Blk):Prop:=∃q1 c1 q2 c2,v=agg (ownB B q1 c1 q2 c2).cells∧B.fLinks.n≤c1∧B.fData.n≤c2∧out=[⟨q2,Aa l,5,c2*1⟩,⟨q1,Am ls,34,c1*32⟩]
theorem Cp(h:HRep C hp w)(hl:C.lent=[])(hr:RowsAt C.W0 s m ls):RowsAt w s m ls:=⟨hr.len,hr.row,hr.cap,A5 h hl hr.see,hr.max,hr.nil⟩
theorem bytes_ext(h:HRep C hp w)(hl:C.lent=[])(hr:BytesAt C.W0 s l):BytesAt w s l:=⟨hr.len,hr.cap,A5 h hl hr.see,hr.max,hr.nil⟩
theorem kit_own_block(B:Block)(hB:B.ok)(ls:List (List UInt8))(l:List UInt8)(hn:B.fLinks.n≤500000)(hd:B.fData.n≤500000):Meets prog 42 [agg B.cells] [] (fun W=>RowsAt W B.fLinks 32 ls∧BytesAt W B.fData l) (OwnedBlock B ls l):=by
 intro W hW;refine Ac func42 J 12 ntmps42 J (G3 ?_);intro n1 hn1 hf1;refine .alloc (cs:=Block.zero.cells) J Block.zr J ?_;intro n2 hn2 hf2;refine G3 ?_;refine .draw (oP [0,101,3,104,302,6,305,407,8,409]) Au zK (G4 ?_);refine .call J J J J Body22 (kit_names _ ls hn) (FreshRow.loose _ _ _ _) (fun w h=>Cp h J hW.1) ?_;rintro v1 out1 ⟨q1,c1,rfl,hc1,rfl⟩;refine G1 ?_;refine .call J J J J Body68 (kit_own _ l hd) (FreshRow.loose _ _ _ _) (fun w h=>bytes_ext h J hW.2) ?_;rintro v2 out2 ⟨q2,c2,rfl,hc2,rfl⟩;refine .s1 J J J J J Sz30 Z3 (by rw[Block.length zA];decide) (by exact Block.setS_fLinks zA _ _ _) (by exact upd3) ?_;refine G1 ?_;refine .s1 J J J J J Sz46 Z3 (by rw[Block.length (by exact⟨hB.l_fWriter,hB.l_fPrev,hB.l_fSig⟩)];decide) (by exact Block.setS_fData (by exact⟨hB.l_fWriter,hB.l_fPrev,hB.l_fSig⟩) _ _ _) (by exact upd3) ?_;refine G4 ?_;refine .lA J J J Y50.h J Sz50 Z3 (Block.length (by exact⟨hB.l_fWriter,hB.l_fPrev,hB.l_fSig⟩)) ?_;refine .sA J J J J (Block.isCell (by exact⟨hB.l_fWriter,hB.l_fPrev,hB.l_fSig⟩)) Sz50 (Block.length (by exact⟨hB.l_fWriter,hB.l_fPrev,hB.l_fSig⟩)) Z2 (Block.length (by exact Block.zero_ok)) (by exact upd2) ?_;refine G2 ?_;refine G2 ?_;refine⟨_,[⟨q2,Aa l,5,c2*1⟩,⟨q1,Am ls,34,c1*32⟩],As J J Y50.h J Sz50 Z2 (Block.length (ownB_ok hB q1 c1 q2 c2)),(by intro b hb;rcases Lab.1 hb with rfl|hb;exact B8;rw[La1.1 hb];exact mem1),(fun h=>h.sublist sP),⟨q1,c1,q2,c2,rfl,hc1,hc2,rfl⟩⟩
theorem parents_nil(B:Block)(hB:B.ok)(ls:List (List UInt8))(hn:B.fLinks.n≤500000)(hs:(B.fSeq.toNat:Int)=0)(h0:B.fLinks.n=0):Mv 116 [agg B.cells] (fun W=>RowsAt W B.fLinks 32 ls) (.slice none 0 0):=by
 intro W hW;have hl0:∃p c,B.fLinks.v= .slice p 0 c:=⟨_,_,by rw[Sl.v,h0]⟩;obtain⟨p9,c9,hl9⟩:=hl0;have hg9:=Block.get_fLinks hB;rw[hl9]at hg9;refine Ac func116 J 16 ntmps116 J (G3 ?_);intro n1 hn1 hf1;refine G13 ?_;refine .nei J J J J (show(!decide _)=false from congrArg not (decide_eq_true (hs))) (G2 ?_);refine .cond_f J (rfl) (G6 ?_);refine .load1 J J J Y30.h J Z0 hg9 ?_;refine .appendNilNil J J J J Y30.h Y30.h Sz34 (G3 ?_);refine G2 ?_;refine⟨_,[],Ah J J,sP,sP,?_,rfl⟩;rfl
theorem parents_0(B:Block)(hB:B.ok)(ls:List (List UInt8))(hn:B.fLinks.n≤500000)(hs:(B.fSeq.toNat:Int)=0)(h0:0<B.fLinks.n):Meets prog 116 [agg B.cells] [] (fun W=>RowsAt W B.fLinks 32 ls) (fun v out=>FreshRow v out (Am ls) 34 B.fLinks.n 32):=by
 intro W hW;refine Ac func116 J 16 ntmps116 J (G3 ?_);intro n1 hn1 hf1;refine G13 ?_;refine .nei J J J J (show(!decide _)=false from congrArg not (decide_eq_true (hs))) (G2 ?_);refine .cond_f J (rfl) (G7 ?_);refine .appendToNil (z:=agg (Aa (List.replicate 32 0))) (by':=32) (Am ls) J J J J Y30.h Y30.h Sz34 B5 (by unfold By;kernel_rfl) J (fun w h=>A5 h J hW.see) h0 (fun e=>by have:=hW.nil e;have:=hW.cap;omega) (flatB_cell ls) oM oM (by rw[Aw hW.row,hW.len]) ?_;intro q1 c1 hq1;refine G3 ?_;refine G2 ?_;refine⟨_,[⟨q1,Am ls,34,c1*32⟩],Ah J J,(by intro b hb;rw[La1.1 hb];exact B8),nodup1,⟨q1,c1,rfl,hq1,rfl⟩⟩
theorem parents_s(B:Block)(hB:B.ok)(ls:List (List UInt8))(hn:B.fLinks.n≤500000)(hs:¬(B.fSeq.toNat:Int)=0):Meets prog 116 [agg B.cells] [] (fun W=>RowsAt W B.fLinks 32 ls) (fun v out=>FreshRow v out (Am (B.fPrev::ls)) 34 (1+B.fLinks.n) 32):=by
 intro W hW;refine Ac func116 J 16 ntmps116 J (G3 ?_);intro n1 hn1 hf1;refine G13 ?_;refine .nei J J J J (show(!decide _)=true from congrArg not (decide_eq_false (hs))) (G2 ?_);refine .cond_t J (rfl) (G3 ?_);refine .lN (Aa _) J J J Y34.h J Sz34 Z0 (Block.row_fPrev zA) (Block.rl_fPrev zA) ?_;refine .mkRow (z:=agg (Aa (List.replicate 32 0))) [agg (Aa B.fPrev)] (Aa B.fPrev) J J J Y30.h Sz34 B5 J J (by intro v hv;rw[La1.1 hv];simp[Value.cells,hB.l_fPrev]) dE (by simp[Value.cells]) ?_;intro q0;refine .appendToNil (z:=agg (Aa (List.replicate 32 0))) (by':=32) (Aa B.fPrev) J J J J Y30.h Y30.h Sz34 B5 (by unfold By;kernel_rfl) J (fun w h=>SeesP.of (Ap h B8)) dE (fun e=>by cases e) (by simp[Aa,isCell,u8]) dE dE (by simp[hB.l_fPrev]) ?_;intro q1 c1 hq1;refine G8 ?_;refine .appendSl (z:=agg (Aa (List.replicate 32 0))) (by':=32) (Am ls) J J J J J Y30.h Y30.h Sz34 B5 (by unfold By;kernel_rfl) J (fun w h=>A5 h J hW.see) (fun e=>by have:=hW.nil e;have:=hW.cap;omega) (flatB_cell ls) A3 J (by simp[hB.l_fPrev]) hq1 oM oM (by rw[Aw hW.row,hW.len]) ?_;intro q2 c2 hq2;refine G3 ?_;refine G2 ?_;refine⟨_,[⟨q2,Aa B.fPrev++Am ls,34,c2*32⟩],Ah J J,(by intro b hb;rw[La1.1 hb];exact B8),nodup1,⟨q2,c2,rfl,hq2,rfl⟩⟩
theorem take_step{xs bs:List α}(d:α)(ha:k<xs.length)(hb:k<bs.length)(h:xs.take k=bs.take k)(he:xs.getD k d=bs.getD k d):xs.take (k+1)=bs.take (k+1):=by
  rw[Laq ha,Laq hb,h];have e1:xs.getD k d=xs[k]:=by simp[List.getD,ha]
  have e2:bs.getD k d=bs[k]:=by simp[List.getD,hb]
  rw[←e1,←e2,he]
theorem digests_eq(p q:Option Addr)(n c1 c2:Nat)(xs bs:List (List UInt8))(hra:∀l∈xs,l.length=32)(hrb:∀l∈bs,l.length=32)(ha:xs.length=n)(hb:bs.length=n)(hn:n≤1000000):Mv 23 [.slice p n c1, .slice q n c2] (fun W=>SeesP W p (Am xs)∧SeesP W q (Am bs)) (.bool (decide (xs=bs))):=by
 intro W hW;refine Ac func23 J 26 ntmps23 J (G12 ?_);refine .nei J J J J (show(!decide _)=false from congrArg not (decide_eq_true (rfl))) (G2 ?_);refine .cond_f J (rfl) (G9 ?_);refine .loop (ι:=Nat) (fun k=>⟨[(0, .slice p n c1),(1, .slice q n c2),(5,i64 (k:Int))],[]⟩) (fun k=>k≤n∧xs.take k=bs.take k) (fun k=>n-k) (0) ?_ ?_ ?_
 ·exact⟨by omega,rfl⟩
 ·exact Ad wN wh0 nD
 rintro k ⟨hk,hg⟩;refine G9 ?_;refine .condP J (fun hc1=>?_) (fun hc1=>?_)
 ·
  have hk2:k<n:=by omega
  obtain⟨b1,o1,hp1,hs1⟩:=hW.1.at (by rw[Aw hra];omega);obtain⟨b2,o2,hp2,hs2⟩:=hW.2.at (by rw[Aw hrb];omega);have r1:(xs.getD k []).length=32:=Bo hra oM;have r2:(bs.getD k []).length=32:=Bo hrb oM;refine G5 ?_;refine .draw (oP [0,1,2,103,4,5,6,107,8]) Au zK (G2 ?_);refine .idxSlP 32 J J J hp1 J Y30.h Sz34 k J oM (.loadEN (Aa (xs.getD k [])) J J J Y34.h J Sz34 sP (by rw[Aa,La0];exact Bo hra oM) (Bv hra hs1 oM) ?_);refine G2 ?_;refine .idxSlP 32 J J J hp2 J Y30.h Sz34 k J oM (.loadEN (Aa (bs.getD k [])) J J J Y34.h J Sz34 sP (by rw[Aa,La0];exact Bo hrb oM) (Bv hrb hs2 oM) ?_);refine .neq_bytes J J J J eqGuardType34 Y34.h Y5.h Sz5 zA zA J ?_;refine G2 ?_;refine .condNP J (fun hc2=>?_) (fun hc2=>?_)
  ·
   refine G5 ?_;refine G7 ?_;refine⟨_,[],Ah J J,sP,sP,?_,rfl⟩
   (rw[decide_eq_false (fun e=>hc2 (by rw[e]))];done)
  refine G9 ?_;exact⟨k+1,⟨by omega,take_step [] oM oM hg hc2⟩,by omega,Ad wN wh0 nD⟩
 obtain rfl:k=n:=by omega
 refine G10 ?_;refine G2 ?_;refine⟨_,[],Ah J J,sP,sP,?_,rfl⟩
 (rw[La5 oM,La5 oM]at hg;rw[decide_eq_true hg];done)
theorem digests_ne(p q:Option Addr)(n m c1 c2:Nat)(xs bs:List (List UInt8))(hra:∀l∈xs,l.length=32)(hrb:∀l∈bs,l.length=32)(ha:xs.length=n)(hb:bs.length=m)(hn:n≤1000000)(hnm:n≠m):Mv 23 [.slice p n c1, .slice q m c2] (fun W=>SeesP W p (Am xs)∧SeesP W q (Am bs)) (.bool (decide (xs=bs))):=by
 intro W hW;refine Ac func23 J 26 ntmps23 J (G12 ?_);refine .nei J J J J (show(!decide _)=true from congrArg not (decide_eq_false oM)) (G2 ?_);refine .cond_t J (rfl) (G5 ?_);refine G3 ?_;refine⟨_,[],Ah J J,sP,sP,?_,rfl⟩;rw[decide_eq_false (fun e=>hnm (by rw[←ha,←hb,e]))]
def len8S:ByteArray:=⟨#[0,1,2,2,3,3,3,3,4,4,4,4,4,4,4,4,5,5,5,5,5,5,5,5,5,5,5,5,5,5,5,5,6,6,6,6,6,6,6,6,6,6,6,6,6,6,6,6,6,6,6,6,6,6,6,6,6,6,6,6,6,6,6,6,7,7,7,7,7,7,7,7,7,7,7,7,7,7,7,7,7,7,7,7,7,7,7,7,7,7,7,7,7,7,7,7,7,7,7,7,7,7,7,7,7,7,7,7,7,7,7,7,7,7,7,7,7,7,7,7,7,7,7,7,7,7,7,7,8,8,8,8,8,8,8,8,8,8,8,8,8,8,8,8,8,8,8,8,8,8,8,8,8,8,8,8,8,8,8,8,8,8,8,8,8,8,8,8,8,8,8,8,8,8,8,8,8,8,8,8,8,8,8,8,8,8,8,8,8,8,8,8,8,8,8,8,8,8,8,8,8,8,8,8,8,8,8,8,8,8,8,8,8,8,8,8,8,8,8,8,8,8,8,8,8,8,8,8,8,8,8,8,8,8,8,8,8,8,8,8,8,8,8,8,8,8,8,8,8,8,8,8,8,8,8,8]⟩
theorem len8_all:∀n,n<256→len8S.data.toList[n]? =some (UInt8.ofNat (bLen n)):=by decide
theorem len8_get(x:UInt8):len8S[x.toNat]? =some (UInt8.ofNat (bLen x.toNat)):=by
  have h:=len8_all x.toNat x.toNat_lt;have h2:x.toNat<len8S.size:=x.toNat_lt;have e:len8S[x.toNat]? =len8S.data.toList[x.toNat]? :=by
    rw[getElem?_pos len8S x.toNat h2,La6 (by exact x.toNat_lt)];rfl
  rw[e];exact h
theorem len8_nat(x:UInt8):(UInt8.ofNat (bLen x.toNat)).toNat=bLen x.toNat:=by
  have:bLen x.toNat≤8:=bLen_le.2 x.toNat_lt;rw[Lb1,Laf oM]
theorem shr64_nat(x:UInt64)(n:Nat):(Av x n).toNat=x.toNat/2^n:=by
  have h:x.toNat/2^n≤x.toNat:=Lcz _ _;have:=x.toNat_lt;rw[Av,Lbw,Laf oM]
theorem bits_len64(x:UInt64):Mv 210 [u64 x] (fun _=>True) (i64 ((bLen x.toNat:Nat):Int)):=by
 intro W hW;have hx:=x.toNat_lt;refine Ac func210 J 25 ntmps210 J (G5 ?_);refine .join (ι:=UInt64×Nat) (fun p=>⟨[(0,u64 p.1),(2,i64 (p.2:Int))],[]⟩) (fun p=>bLen x.toNat=p.2+bLen p.1.toNat∧p.1.toNat<2^32∧p.2≤32) ?_ ?_
 ·
  refine G6 ?_;refine .condP J (fun hc0=>?_) (fun hc0=>?_)
  ·
   refine G3 ?_;refine .shr_u64 J J J J 32 J dE (G7 ?_);exact⟨(Av x 32,0+32),⟨by simp only[shr64_nat];have:=bLen_shr (n:=x.toNat) (k:=32) oM;omega,by simp only[shr64_nat];omega,by simp only[];omega⟩,Ad (wk1 rfl (wk1 (by rfl) wk0)) wh0 nD⟩
  refine G2 ?_;exact⟨(x,0),⟨by simp only[];omega,by simp only[];omega,by simp only[];omega⟩,Ad (wk1 rfl (wk1 (by rfl) wk0)) wh0 nD⟩
 intro p hj;obtain⟨y,n⟩:=p;obtain⟨hb,hy,hn⟩:=hj;simp only at hb hy hn ⊢;refine .join (ι:=UInt64×Nat) (fun p=>⟨[(0,u64 p.1),(2,i64 (p.2:Int))],[]⟩) (fun p=>bLen x.toNat=p.2+bLen p.1.toNat∧p.1.toNat<2^16∧p.2≤48) ?_ ?_
 ·
  refine G6 ?_;refine .condP J (fun hc1=>?_) (fun hc1=>?_)
  ·
   refine G3 ?_;refine .shr_u64 J J J J 16 J dE (G9 ?_);exact⟨(Av y 16,n+16),⟨by simp only[shr64_nat];have:=bLen_shr (n:=y.toNat) (k:=16) oM;omega,by simp only[shr64_nat];omega,by simp only[];omega⟩,Ad (wk1 rfl (wk1 (by rfl) wk0)) wh0 nD⟩
  refine G2 ?_;exact⟨(y,n),⟨by simp only[];omega,by simp only[];omega,by simp only[];omega⟩,Ad (wk1 rfl (wk1 (by rfl) wk0)) wh0 nD⟩
 intro p hj;obtain⟨y,n⟩:=p;obtain⟨hb,hy,hn⟩:=hj;simp only at hb hy hn ⊢;refine .join (ι:=UInt64×Nat) (fun p=>⟨[(0,u64 p.1),(2,i64 (p.2:Int))],[]⟩) (fun p=>bLen x.toNat=p.2+bLen p.1.toNat∧p.1.toNat<2^8∧p.2≤56) ?_ ?_
 ·
  refine G6 ?_;refine .condP J (fun hc2=>?_) (fun hc2=>?_)
  ·
   refine G3 ?_;refine .shr_u64 J J J J 8 J dE (G9 ?_);exact⟨(Av y 8,n+8),⟨by simp only[shr64_nat];have:=bLen_shr (n:=y.toNat) (k:=8) oM;omega,by simp only[shr64_nat];omega,by simp only[];omega⟩,Ad (wk1 rfl (wk1 (by rfl) wk0)) wh0 nD⟩
  refine G2 ?_;exact⟨(y,n),⟨by simp only[];omega,by simp only[];omega,by simp only[];omega⟩,Ad (wk1 rfl (wk1 (by rfl) wk0)) wh0 nD⟩
 intro p hj;obtain⟨y,n⟩:=p;obtain⟨hb,hy,hn⟩:=hj;simp only at hb hy hn ⊢;refine G5 ?_;refine .idxStr (s:=len8S) J J J J underlying9 _ J (len8_get y.toUInt8) ?_;have h8:y.toUInt8.toNat=y.toNat:=by simp;omega
 have h9:=len8_nat y.toUInt8;have h10:bLen y.toUInt8.toNat≤8:=bLen_le.2 (by rw[h8];omega);refine G5 ?_;refine G2 ?_;refine⟨_,[],Ah J J,sP,sP,?_,rfl⟩;rw[h9,h8,hb,Lc1]
theorem oct_size(x:UInt64):Mv 172 [u64 x] (fun _=>True) (i64 ((szN x.toNat:Nat):Int)):=by
 intro W hW;have hb:bLen (x|||1).toNat≤64:=bLen_le.2 (x|||1).toNat_lt;have ho:(x|||1).toNat=x.toNat|||1:=by rw[Led];rfl
 refine Ac func172 J 9 ntmps172 J (G8 ?_);refine .or_u64 J J J (show Ag _ _=some (u64 1)from rfl) (.cV J J J J Body210 (bits_len64 _) tV (G1 ?_));refine .quo_i64 J J J J oM (.min2 J J J J (rfl) (G3 ?_));refine G2 ?_;refine⟨_,[],Ah J J,sP,sP,?_,rfl⟩;rw[szN,←ho];congr 1;split<;>omega
theorem oct_grown(p:Option Addr)(n c m:Nat)(l:List UInt8)(hl:l.length=n)(hp:p=none→n=0)(hn:n≤100000)(hm:m≤100000):Meets prog 171 [.slice p n c,i64 (m:Int)] [] (fun W=>SeesP W p (Aa l)) (fun v out=>FreshRow v out (Aa l) 5 n 1):=by
 intro W hW;refine Ac func171 J 12 ntmps171 J (G11 ?_);refine .mkRoom (z:=u8 0) (by':=1) (n+m) J J J J oM Y46.h Sz5 Zr5 (by unfold By;kernel_rfl) J oM oM ?_;intro n9;refine G1 ?_;refine .appendSl (z:=u8 0) (by':=1) (Aa l) J J J J J Y46.h Y46.h Sz5 Zr5 (by unfold By;kernel_rfl) J (fun w h=>A5 h J hW) hp (by simp[Aa,isCell,u8]) A3 oM J oM oM oM (by simp[Aa,hl]) ?_;intro q1 c1 hq1;refine G3 ?_;refine G2 ?_;refine⟨_,[⟨q1,[]++Aa l,5,c1*1⟩],Ah J J,(by intro b hb;rw[La1.1 hb];exact B8),nodup1,⟨q1,c1,by rw[Lb3],by omega,rfl⟩⟩
theorem oct_number(q n c:Nat)(l:List UInt8)(x:UInt64)(hl:l.length=n)(hnc:n≤c)(hn:n≤200000):Meets prog 170 [.slice (some ⟨q,0,none⟩) n c,u64 x] [q] (fun W=>BlkOk W ⟨q,Aa (l),5,c*1⟩) (fun v out=>FreshRow v out (Aa (l++numB x)) 5 (n+szN x.toNat) 1):=by
 intro W hW;have hz:=Ct x.toNat;refine calls_of (hp0:=[⟨q,Aa (l),5,c*1⟩]) func170 J 37 ntmps170 J (HRep.one hW) (G8 ?_);refine .cV J J J J Body172 (oct_size _) tV (G4 ?_);refine .draw (oP [0,1,2,3,4,5,6,7,8,9,10,411,412,13]) Au zK (G3 ?_);refine .shl_u8 J J (show Ag _ _=some (u8 255)from rfl) J (9-szN x.toNat) oM oM (G3 ?_);refine .mul_i64 J J J J oM (.shr_u64 J J J J (8*(szN x.toNat-1)) oM oM (G1 ?_));refine .or_u8 J J J J (.mkRow (z:=u8 0) [u8 (headB x)] (Aa [headB x]) J J J Y46.h Sz5 Zr5 J J (by intro v hv;rw[La1.1 hv];rfl) dE J ?_);intro q20;refine .appendSl (z:=u8 0) (by':=1) (Aa [headB x]) J J J J J Y46.h Y46.h Sz5 Zr5 (by unfold By;kernel_rfl) J (fun w h=>SeesP.of (Ap h B8)) (fun e=>by cases e) (by simp[Aa,isCell,u8]) (rem_there A3) J (by simp[Aa,hl]) oM oM oM (by rfl) ?_;intro q1 c1 hq1;refine G12 ?_;refine .loop (ι:=Nat×Nat×Nat) (fun p=>⟨[(0, .slice (some ⟨p.2.1,0,none⟩) (n+1+p.1) p.2.2),(1,u64 x),(5,i64 ((szN x.toNat:Nat):Int)),(6,i64 (((szN x.toNat:Nat):Int)-2-(p.1:Int)))],[⟨p.2.1,Aa (l++numUp x p.1),5,p.2.2*1⟩]⟩) (fun p=>p.1≤szN x.toNat-1∧n+1+p.1≤p.2.2) (fun p=>szN x.toNat-1-p.1) ((0,q1,c1)) ?_ ?_ ?_
 ·exact⟨Lar _,hq1⟩
 ·exact Ad (wk1 rfl (wk1 rfl (wk1 rfl (wk1 (by rw[show(((szN x.toNat:Nat):Int)-2-((0:Nat):Int))=((szN x.toNat:Nat):Int)-2 by omega];rfl) wk0)))) (wh1 (by rw[numUp_zero];simp only[Aa,Laj];exact B8) wh0) nD
 rintro p ⟨hp1,hp2⟩;refine G7 ?_;refine .condP J (fun hc0=>?_) (fun hc0=>?_)
 ·
  have hp3:p.1<szN x.toNat-1:=by omega
  refine G8 ?_;refine .mul_i64 J J J J oM (.shr_u64 J J J J (8*(szN x.toNat-2-p.1)) oM oM (G1 ?_));refine .mkRow (z:=u8 0) [u8 ((Av x (8*(szN x.toNat-2-p.1))).toUInt8)] (Aa [(Av x (8*(szN x.toNat-2-p.1))).toUInt8]) J J J Y46.h Sz5 Zr5 J J (by intro v hv;rw[La1.1 hv];rfl) dE J ?_;intro q34;refine .appendSl (z:=u8 0) (by':=1) (Aa [(Av x (8*(szN x.toNat-2-p.1))).toUInt8]) J J J J J Y46.h Y46.h Sz5 Zr5 (by unfold By;kernel_rfl) J (fun w h=>SeesP.of (Ap h B8)) (fun e=>by cases e) (by simp[Aa,isCell,u8]) (rem_there A3) J (by rw[Aa,La0,La3,hl,numUp_length x p.1 oM];omega) oM oM oM (by rfl) ?_;intro q2 c2 hq2;refine G10 ?_;exact⟨(p.1+1,q2,c2),⟨by simp only[];omega,by simp only[];omega⟩,by simp only[];omega,Ad (wk1 (by rw[show n+1+(p.1+1)=n+1+p.1+1 by omega];rfl) (wk1 rfl (wk1 rfl (wk1 (by rw[show(((szN x.toNat:Nat):Int)-2-((p.1+1:Nat):Int))=((szN x.toNat:Nat):Int)-2-(p.1:Int)-1 by omega];rfl) wk0)))) (wh1 (by rw[numUp_step x p.1 oM,←La9];simp only[Aa,Laj];exact B8) wh0) nD⟩
 have hp3:p.1=szN x.toNat-1:=by omega
 refine G11 ?_;refine G2 ?_;refine⟨_,[⟨p.2.1,Aa (l++numB x),5,p.2.2*1⟩],Ah J J,(by intro b hb;rw[La1.1 hb,←numUp_all,←hp3];exact B8),nodup1,⟨p.2.1,p.2.2,by rw[show n+1+p.1=n+szN x.toNat by omega],by omega,rfl⟩⟩
theorem oct_Number(p:Option Addr)(n c:Nat)(l:List UInt8)(x:UInt64)(hl:l.length=n)(hp:p=none→n=0)(hn:n≤90000):Meets prog 123 [.slice p n c,u64 x] [] (fun W=>SeesP W p (Aa l)) (fun v out=>FreshRow v out (Aa (l++numB x)) 5 (n+szN x.toNat) 1):=by
 intro W hW;have hz:=Ct x.toNat;refine Ac func123 J 11 ntmps123 J (G9 ?_);refine .cV J J J J Body172 (oct_size _) tV (.call J J J J Body171 (oct_grown p n c (szN x.toNat) l hl hp oM oM) (FreshRow.loose _ _ _ _) (fun w h=>A5 h J hW) ?_);rintro v1 out1 ⟨q1,c1,rfl,hc1,rfl⟩;refine G1 ?_;refine .callL (L:=[⟨q1,Aa (l),5,c1*1⟩]) J J J J J Body170 (oct_number q1 (n) c1 (l) x (by simp[hl]) hc1 oM) A3 lO (fun w h=>Ca h Z0) ?_;rintro v2 out2 ⟨q2,c2,rfl,hc2,rfl⟩;refine G3 ?_;refine G2 ?_;refine⟨_,[⟨q2,Aa (l++numB x),5,c2*1⟩],Ah J J,(by intro b hb;rw[La1.1 hb];exact B8),nodup1,⟨q2,c2,rfl,hc2,rfl⟩⟩
theorem oct_Block(p r:Option Addr)(n c m d:Nat)(l ys:List UInt8)(hl:l.length=n)(hy:ys.length=m)(hp:p=none→n=0)(hr:r=none→m=0)(hn:n≤40000)(hm:m≤40000):Meets prog 249 [.slice p n c, .slice r m d] [] (fun W=>SeesP W p (Aa l)∧SeesP W r (Aa ys)) (fun v out=>FreshRow v out (Aa (l++numB (UInt64.ofNat m)++ys)) 5 (n+szN m+m) 1):=by
 intro W hW;have hz:=Ct m;have hw:wordOf (m:Int)=UInt64.ofNat m:=by simp only[wordOf];congr 1;omega
 have hmn:(UInt64.ofNat m).toNat=m:=by rw[Lbw,Laf oM]
 refine Ac func249 J 20 ntmps249 J (G10 ?_);rw[hw];refine G7 ?_;refine .cV J J J J Body172 (oct_size _) tV ?_;rw[hmn];refine G3 ?_;refine .call J J J J Body171 (oct_grown p n c (szN m+m) l hl hp oM oM) (FreshRow.loose _ _ _ _) (fun w h=>A5 h J hW.1) ?_;rintro v1 out1 ⟨q1,c1,rfl,hc1,rfl⟩;refine G1 ?_;refine .callL (L:=[⟨q1,Aa (l),5,c1*1⟩]) J J J J J Body170 (oct_number q1 n c1 l (UInt64.ofNat m) hl hc1 oM) A3 lO (fun w h=>Ca h Z0) ?_;rintro v2 out2 ⟨q2,c2,rfl,hc2,rfl⟩;rw[hmn]at hc2 ⊢;refine G1 ?_;refine .appendSl (z:=u8 0) (by':=1) (Aa ys) J J J J J Y46.h Y46.h Sz5 Zr5 (by unfold By;kernel_rfl) J (fun w h=>A5 h J hW.2) hr (by simp[Aa,isCell,u8]) A3 J (by rw[Aa,La0,La3,Bn,hl,hmn,Lb5]) oM oM oM (by simp[Aa,hy]) ?_;intro q3 c3 hq3;refine G3 ?_;refine G2 ?_;refine⟨_,[⟨q3,Aa (l++numB (UInt64.ofNat m)++ys),5,c3*1⟩],Ah J J,(by intro b hb;rw[La1.1 hb];simp only[Aa,Laj];exact B8),nodup1,⟨q3,c3,rfl,hq3,rfl⟩⟩
theorem res_none{fn:Func}{s:St}(hr:fn.results= #[]):Res C fn s (.tuple #[]):=fun a w r=>by
  simp[results,hr]
theorem BlkOk.keep{ex:List Nat}{w w':World}{b:Blk}(h:Keeps ex w w')(hb:BlkOk w b)(hn:b.n∉ex):BlkOk w' b:=hb.of_heap (h.block b.n hb.lt hn)
theorem clone_bytes(a:Addr)(n c:Nat)(l:List UInt8)(hl:l.length=n)(hn:n≤90000):Meets prog 158 [.slice (some a) n c] [] (fun W=>SeesP W (some a) (Aa l)) (fun v out=>FreshRow v out (Aa l) 5 n 1):=by
 intro W hW;refine Ac func158 J 8 ntmps158 J (G9 ?_);refine .eqNilS (r:=false) J J J J Y46.h J (G2 ?_);refine .cond_f J (rfl) (G4 ?_);refine .mkRow (z:=u8 0) [] [] rfl J J Y46.h Sz5 Zr5 J J (by intro v hv;cases hv) dE J ?_;intro q0;refine G1 ?_;refine .appendSl (z:=u8 0) (by':=1) (Aa l) J J J J J Y46.h Y46.h Sz5 Zr5 (by unfold By;kernel_rfl) J (fun w h=>A5 h J hW) (fun e=>by cases e) (by simp[Aa,isCell,u8]) A3 J J oM oM oM (by simp[Aa,hl]) ?_;intro q1 c1 hq1;refine G3 ?_;refine G2 ?_;refine⟨_,[⟨q1,[]++Aa l,5,c1*1⟩],Ah J J,(by intro b hb;rw[La1.1 hb];exact B8),nodup1,⟨q1,c1,by rw[Lb3],by omega,rfl⟩⟩
def bodyB(B:Block)(ls:List (List UInt8))(ds:List UInt8):List UInt8:=B.fWriter++numB B.fSeq++B.fPrev++numB (UInt64.ofNat B.fLinks.n)++ls.flatten++(numB (UInt64.ofNat B.fData.n)++ds)
theorem word_nat(h:n≤1000000):wordOf (n:Int)=UInt64.ofNat n:=by simp only[wordOf];congr 1;omega
theorem ofNat_nat(h:n≤1000000):(UInt64.ofNat n).toNat=n:=by rw[Lbw,Laf oM]
theorem flatten_take_step(hk:k<ls.length):(ls.take (k+1)).flatten=(ls.take k).flatten++ls.getD k []:=by
  rw[Laq hk,Ld2];simp[List.getD,hk]
theorem Cn(h:∀l∈ls,l.length=32)(hk:k≤ls.length):(ls.take k).flatten.length=k*32:=by
  rw[flatten_len 32 _ (fun l hl=>h l (Leb hl)),Lam,Lcn hk]
theorem block_body(B:Block)(hB:B.ok)(ls:List (List UInt8))(ds:List UInt8)(hn:B.fLinks.n≤40)(hd:B.fData.n≤2000):Meets prog 195 [agg B.cells] [] (fun W=>RowsAt W B.fLinks 32 ls∧BytesAt W B.fData ds) (fun v out=>∃N,N=(bodyB B ls ds).length∧N≤4000∧FreshRow v out (Aa (bodyB B ls ds)) 5 N 1):=by
 intro W hW;have hz1:=Ct B.fSeq.toNat;have hz2:=Ct (UInt64.ofNat B.fLinks.n).toNat;have hz3:=Ct B.fData.n;have hw2:=word_nat (n:=B.fLinks.n) oM;have hll:=hW.1.len;refine Ac func195 J 41 ntmps195 J (G3 ?_);intro n1 hn1 hf1;refine G7 ?_;refine .call J J J J Body158 (clone_bytes ⟨n1,0,none⟩ 32 32 B.fWriter hB.l_fWriter oM) (FreshRow.loose _ _ _ _) (fun W2 W2h=>(SeesP.of (sees_part W2h Z0 (Block.see_fWriter hB)))) ?_;rintro v1 out1 ⟨q1,c1,rfl,hc1,rfl⟩;refine G8 ?_;refine .call J J J J Body123 (oct_Number none 0 0 [] (B.fSeq) J (fun _=>rfl) oM) (FreshRow.loose _ _ _ _) (fun _ _=>SeesP.nil) ?_;rintro v2 out2 ⟨q2,c2,rfl,hc2,rfl⟩;refine .appendSl (z:=u8 0) (by':=1) (Aa ([]++numB B.fSeq)) J J J J J Y46.h Y46.h Sz5 Zr5 (by unfold By;kernel_rfl) J (fun w h=>SeesP.of (Ap h B8)) (fun e=>by cases e) (A1 _) (rem_there A3) J (by simp only[Aa,La0,La3,Bn,hB.l_fWriter,hB.l_fPrev,Lef];try omega) hc1 oM oM (by simp[Bn]) ?_;intro q3 c3 hq3;refine G8 ?_;refine .appendSl (z:=u8 0) (by':=1) (Aa B.fPrev) J J J J J Y46.h Y46.h Sz5 Zr5 (by unfold By;kernel_rfl) J (fun W2 W2h=>(SeesP.of (sees_part W2h Z2 (Block.see_fPrev hB)))) (fun e=>by cases e) (A1 _) A3 J (by simp only[Aa,La0,La3,Bn,hB.l_fWriter,hB.l_fPrev,Lef];try omega) hq3 oM oM (by simp[hB.l_fPrev]) ?_;intro q5 c5 hq5;refine G10 ?_;rw[hw2];refine .call J J J J Body123 (oct_Number none 0 0 [] (UInt64.ofNat B.fLinks.n) J (fun _=>rfl) oM) (FreshRow.loose _ _ _ _) (fun _ _=>SeesP.nil) ?_;rintro v4 out4 ⟨q4,c4,rfl,hc4,rfl⟩;refine .appendSl (z:=u8 0) (by':=1) (Aa ([]++numB (UInt64.ofNat B.fLinks.n))) J J J J J Y46.h Y46.h Sz5 Zr5 (by unfold By;kernel_rfl) J (fun w h=>SeesP.of (Ap h B8)) (fun e=>by cases e) (A1 _) (rem_there A3) J (by simp only[Aa,La0,La3,Bn,hB.l_fWriter,hB.l_fPrev,Lef];try omega) hq5 oM oM (by simp[Bn]) ?_;intro q6 c6 hq6;refine G13 ?_;refine .loop (ι:=Nat×Nat×Nat) (fun p=>⟨[(1,ptr n1 0),(3, .slice (some ⟨p.2.1,0,none⟩) (32+(0+szN B.fSeq.toNat)+32+(0+szN (UInt64.ofNat B.fLinks.n).toNat)+32*p.1) p.2.2),(26,B.fLinks.v),(27,i64 (B.fLinks.n:Int)),(28,i64 (p.1:Int))],[⟨p.2.1,Aa (B.fWriter++numB B.fSeq++B.fPrev++numB (UInt64.ofNat B.fLinks.n)++(ls.take p.1).flatten),5,p.2.2*1⟩,⟨n1,B.cells,50,B.cells.length⟩]⟩) (fun p=>p.1≤B.fLinks.n∧32+(0+szN B.fSeq.toNat)+32+(0+szN (UInt64.ofNat B.fLinks.n).toNat)+32*p.1≤p.2.2) (fun p=>B.fLinks.n-p.1) ((0,q6,c6)) ?_ ?_ ?_
 ·exact⟨Lar _,by simp only[];omega⟩
 ·exact Ad wN (wh1 (by simp only[Le7,Lgt,Lav,Aa,Laj,Lac];exact B8) (wh1 Z3 wh0)) nD
 rintro p ⟨hp1,hp2⟩;refine G6 ?_;refine .condP J (fun hc0=>?_) (fun hc0=>?_)
 ·
  have hp3:p.1<B.fLinks.n:=by omega
  obtain⟨b,o,hbp,hbs⟩:=hW.1.see.at (by rw[Aw hW.1.row];omega);have hrk:(ls.getD p.1 []).length=32:=Bo hW.1.row oM;refine G6 ?_;refine .idxSlP 32 J J J hbp J Y30.h Sz34 p.1 J oM (.loadEN (Aa (ls.getD p.1 [])) J J J Y34.h J Sz34 sP (by rw[Aa,La0];exact hrk) (Bv hW.1.row hbs oM) ?_);refine .alloc (cs:=(Aa (List.replicate 32 0))) J B5 J ?_;intro n5 hn5 hf5;refine .sA J J J J zE Sz34 (by(rw[Aa,La0];assumption)) Z0 sP zU ?_;refine G5 ?_;refine .appendSl (z:=u8 0) (by':=1) (Aa (ls.getD p.1 [])) J J J J J Y46.h Y46.h Sz5 Zr5 (by unfold By;kernel_rfl) J (fun w h=>SeesP.of (Ap h B8)) (fun e=>by cases e) (A1 _) (rem_there A3) J (by simp only[Aa,La0,La3,Bn,hB.l_fWriter,hB.l_fPrev,Cn hW.1.row (show p.1≤ls.length by omega)];omega) hp2 oM oM (by rw[Aa,La0,hrk]) ?_;intro q7 c7 hq7;refine G9 ?_;exact⟨(p.1+1,q7,c7),⟨by simp only[];omega,by simp only[];omega⟩,by simp only[];omega,Ad (wk1 rfl (wk1 (by rw[show 32+(0+szN B.fSeq.toNat)+32+(0+szN (UInt64.ofNat B.fLinks.n).toNat)+32*(p.1+1)=32+(0+szN B.fSeq.toNat)+32+(0+szN (UInt64.ofNat B.fLinks.n).toNat)+32*p.1+32 by omega];rfl) wN)) (wh1 (by rw[flatten_take_step oM,←La9];simp only[Aa,Laj];exact B8) (wh1 Z2 wh0)) nD⟩
 have hp3:p.1=B.fLinks.n:=by omega
 refine G10 ?_;refine .call J J J J Body249 (oct_Block none B.fData.p 0 0 B.fData.n B.fData.c [] ds J hW.2.len (fun _=>rfl) (fun e=>by have:=hW.2.nil e;have:=hW.2.cap;omega) oM oM) (FreshRow.loose _ _ _ _) (fun w h=>⟨SeesP.nil,A5 h J hW.2.see⟩) ?_;rintro v9 out9 ⟨q9,c9,rfl,hc9,rfl⟩;refine .appendSl (z:=u8 0) (by':=1) (Aa ([]++numB (UInt64.ofNat B.fData.n)++ds)) J J J J J Y46.h Y46.h Sz5 Zr5 (by unfold By;kernel_rfl) J (fun w h=>SeesP.of (Ap h B8)) (fun e=>by cases e) (A1 _) (rem_there A3) J (by simp only[Aa,La0,La3,Bn,hB.l_fWriter,hB.l_fPrev,Cn hW.1.row (show p.1≤ls.length by omega)];omega) hp2 oM oM (by simp[Bn,hW.2.len,ofNat_nat (show B.fData.n≤1000000 by omega)]) ?_;intro q8 c8 hq8;refine G3 ?_;refine G2 ?_;have hN:32+(0+szN B.fSeq.toNat)+32+(0+szN (UInt64.ofNat B.fLinks.n).toNat)+32*p.1+(0+szN B.fData.n+B.fData.n)=(bodyB B ls ds).length:=by
  have hfl:=Cn hW.1.row (Lai ls.length);rw[Leq]at hfl;simp only[bodyB,La3,Bn,hB.l_fWriter,hB.l_fPrev,hfl,hW.2.len,ofNat_nat (show B.fData.n≤1000000 by omega)];omega
 refine⟨_,[⟨q8,Aa (bodyB B ls ds),5,c8*1⟩],Ah J J,(by intro b hb;rw[La1.1 hb,show bodyB B ls ds=B.fWriter++numB B.fSeq++B.fPrev++numB (UInt64.ofNat B.fLinks.n)++(ls.take p.1).flatten++(numB (UInt64.ofNat B.fData.n)++ds) by rw[bodyB,La5 oM]];simp only[Aa,Laj,La9,Lac];exact B8),nodup1,⟨_,rfl,by omega,q8,c8,by rw[←hN],by omega,rfl⟩⟩
theorem check_small(h:bcheck B ls=0):B.fLinks.n≤16∧B.fData.n≤512:=by
  unfold bcheck at h;by_cases h1:bheadB B=true
  ·rw[if_pos h1]at h;cases h
  · unfold bheadB at h1
    simp at h1;omega
def bytesB(B:Block)(ls:List (List UInt8))(ds:List UInt8):List UInt8:=bodyB B ls ds++B.fSig
theorem body_small(B:Block)(hB:B.ok)(ls:List (List UInt8))(ds:List UInt8)(hr:∀l∈ls,l.length=32)(hl:ls.length=B.fLinks.n)(hd:ds.length=B.fData.n)(hn:B.fLinks.n≤40)(hd2:B.fData.n≤2000):(bodyB B ls ds).length≤4000:=by
  have hz1:=Ct B.fSeq.toNat;have hz2:=Ct (UInt64.ofNat B.fLinks.n).toNat;have hz3:=Ct (UInt64.ofNat B.fData.n).toNat;have hfl:=Cn hr (Lai ls.length);rw[Leq]at hfl;simp only[bodyB,La3,Bn,hB.l_fWriter,hB.l_fPrev,hfl,hd];omega
theorem bytes_bad(B:Block)(hB:B.ok)(ls:List (List UInt8))(ds:List UInt8)(hc:¬bcheck B ls=0):Mv 157 [agg B.cells] (fun W=>RowsAt W B.fLinks 32 ls∧BytesAt W B.fData ds) (.tuple #[.slice none 0 0,i64 (bcheck B ls)]):=by
 intro W hW;refine Ac func157 J 15 ntmps157 J (G3 ?_);intro n1 hn1 hf1;refine G8 ?_;refine .cV J J J J Body154 (block_check B hB ls) (fun w h=>Cp h J hW.1) (G6 ?_);refine .nei J J J J (show(!decide _)=true from congrArg not (decide_eq_false (hc))) (G2 ?_);refine .cond_t J (rfl) (G7 ?_);refine G3 ?_;refine⟨_,[],B6 J J J,sP,sP,?_,rfl⟩;rfl
theorem bytes_ok(B:Block)(hB:B.ok)(ls:List (List UInt8))(ds:List UInt8)(hc:bcheck B ls=0):Meets prog 157 [agg B.cells] [] (fun W=>RowsAt W B.fLinks 32 ls∧BytesAt W B.fData ds) (fun v out=>∃q c N,N=(bytesB B ls ds).length∧N≤5000∧v= .tuple #[.slice (some ⟨q,0,none⟩) N c,i64 0]∧N≤c∧out=[⟨q,Aa (bytesB B ls ds),5,c*1⟩]):=by
 intro W hW;have hsm:=check_small hc;refine Ac func157 J 15 ntmps157 J (G3 ?_);intro n1 hn1 hf1;refine G8 ?_;refine .cV J J J J Body154 (block_check B hB ls) (fun w h=>Cp h J hW.1) (G6 ?_);refine .nei J J J J (show(!decide _)=false from congrArg not (decide_eq_true (hc))) (G2 ?_);refine .cond_f J (rfl) (G3 ?_);refine .draw (oP [100,2,3,301,404,5,6]) Au zK (G3 ?_);refine .call J J J J Body195 (block_body B hB ls ds oM oM) (fun l hl=>by obtain⟨v,out,h1,h2⟩:=FreshRow.loose (Aa (bodyB B ls ds)) 5 (bodyB B ls ds).length 1 l hl;exact⟨v,out,⟨_,rfl,body_small B hB ls ds hW.1.row hW.1.len hW.2.len oM oM,h1⟩,h2⟩) (fun w h=>⟨Cp h J hW.1,bytes_ext h J hW.2⟩) ?_;rintro v1 out1 ⟨N1,hN1,hN2,q1,c1,rfl,hc1,rfl⟩;refine .appendSl (z:=u8 0) (by':=1) (Aa B.fSig) J J J J J Y46.h Y46.h Sz5 Zr5 (by unfold By;kernel_rfl) J (fun W2 W2h=>(SeesP.of (sees_part W2h Z1 (Block.see_fSig hB)))) (fun e=>by cases e) (A1 _) A3 J (by rw[Aa,La0,hN1,Lb5]) hc1 oM oM (by simp[hB.l_fSig]) ?_;intro q2 c2 hq2;refine G4 ?_;refine G2 ?_;refine⟨_,[⟨q2,Aa (bytesB B ls ds),5,c2*1⟩],B6 J J J,(by intro b hb;rw[La1.1 hb,bytesB];simp only[Aa,Laj];exact B8),nodup1,⟨q2,c2,N1+64,by rw[hN1,bytesB,La3,hB.l_fSig],by omega,rfl,hq2,rfl⟩⟩
theorem seq_eq(p q:Option Addr)(n c1 c2:Nat)(xs bs:List (List UInt8))(hra:∀l∈xs,l.length=32)(hrb:∀l∈bs,l.length=32)(ha:xs.length=n)(hb:bs.length=n)(hn:n≤1000000):Mv 118 [.slice p n c1, .slice q n c2] (fun W=>SeesP W p (Am xs)∧SeesP W q (Am bs)) (.bool (decide (xs=bs))):=by
 intro W hW;refine Ac func118 J 26 ntmps118 J (G12 ?_);refine .nei J J J J (show(!decide _)=false from congrArg not (decide_eq_true (rfl))) (G2 ?_);refine .cond_f J (rfl) (G11 ?_);refine .loop (ι:=Nat) (fun k=>⟨[(0, .slice p n c1),(1, .slice q n c2),(12,i64 (n:Int)),(13,i64 (k:Int))],[]⟩) (fun k=>k≤n∧xs.take k=bs.take k) (fun k=>n-k) (0) ?_ ?_ ?_
 ·exact⟨by omega,rfl⟩
 ·exact Ad wN wh0 nD
 rintro k ⟨hk,hg⟩;refine G6 ?_;refine .condP J (fun hc1=>?_) (fun hc1=>?_)
 ·
  have hk2:k<n:=by omega
  obtain⟨b1,o1,hp1,hs1⟩:=hW.1.at (by rw[Aw hra];omega);obtain⟨b2,o2,hp2,hs2⟩:=hW.2.at (by rw[Aw hrb];omega);have r1:(xs.getD k []).length=32:=Bo hra oM;have r2:(bs.getD k []).length=32:=Bo hrb oM;refine G11 ?_;refine .draw (oP [0,1,2,103,4,5,6,107,8]) Au zK (G2 ?_);refine .idxSlP 32 J J J hp1 J Y30.h Sz34 k J oM (.loadEN (Aa (xs.getD k [])) J J J Y34.h J Sz34 sP (by rw[Aa,La0];exact Bo hra oM) (Bv hra hs1 oM) ?_);refine G2 ?_;refine .idxSlP 32 J J J hp2 J Y30.h Sz34 k J oM (.loadEN (Aa (bs.getD k [])) J J J Y34.h J Sz34 sP (by rw[Aa,La0];exact Bo hrb oM) (Bv hrb hs2 oM) ?_);refine .neq_bytes J J J J eqGuardType34 Y34.h Y5.h Sz5 zA zA J ?_;refine G2 ?_;refine .condNP J (fun hc2=>?_) (fun hc2=>?_)
  ·
   refine G5 ?_;refine G7 ?_;refine⟨_,[],Ah J J,sP,sP,?_,rfl⟩
   (rw[decide_eq_false (fun e=>hc2 (by rw[e]))];done)
  refine G8 ?_;exact⟨k+1,⟨by omega,take_step [] oM oM hg hc2⟩,by omega,Ad wN wh0 nD⟩
 obtain rfl:k=n:=by omega
 refine G10 ?_;refine G2 ?_;refine⟨_,[],Ah J J,sP,sP,?_,rfl⟩
 (rw[La5 oM,La5 oM]at hg;rw[decide_eq_true hg];done)
theorem seq_ne(p q:Option Addr)(n m c1 c2:Nat)(xs bs:List (List UInt8))(hra:∀l∈xs,l.length=32)(hrb:∀l∈bs,l.length=32)(ha:xs.length=n)(hb:bs.length=m)(hn:n≤1000000)(hnm:n≠m):Mv 118 [.slice p n c1, .slice q m c2] (fun W=>SeesP W p (Am xs)∧SeesP W q (Am bs)) (.bool (decide (xs=bs))):=by
 intro W hW;refine Ac func118 J 26 ntmps118 J (G12 ?_);refine .nei J J J J (show(!decide _)=true from congrArg not (decide_eq_false oM)) (G2 ?_);refine .cond_t J (rfl) (G5 ?_);refine G3 ?_;refine⟨_,[],Ah J J,sP,sP,?_,rfl⟩;rw[decide_eq_false (fun e=>hnm (by rw[←ha,←hb,e]))]
theorem seq_any(p q:Option Addr)(n m c1 c2:Nat)(xs ys:List (List UInt8))(hx:∀l∈xs,l.length=32)(hy:∀l∈ys,l.length=32)(h1:xs.length=n)(h2:ys.length=m)(hn:n≤1000000):
    Mv 118 [.slice p n c1, .slice q m c2] (fun W=>SeesP W p (Am xs)∧SeesP W q (Am ys)) (.bool (decide (xs=ys))):=by
  by_cases h:n=m
  ·subst h;exact seq_eq p q n c1 c2 xs ys hx hy h1 h2 hn
  ·exact seq_ne p q n m c1 c2 xs ys hx hy h1 h2 hn h
theorem digests_any2(p q:Option Addr)(n m c1 c2:Nat)(xs ys:List (List UInt8))(hx:∀l∈xs,l.length=32)(hy:∀l∈ys,l.length=32)(h1:xs.length=n)(h2:ys.length=m)(hn:n≤1000000):
    Mv 23 [.slice p n c1, .slice q m c2] (fun W=>SeesP W p (Am xs)∧SeesP W q (Am ys)) (.bool (decide (xs=ys))):=by
  by_cases h:n=m
  ·subst h;exact digests_eq p q n c1 c2 xs ys hx hy h1 h2 hn
  ·exact digests_ne p q n m c1 c2 xs ys hx hy h1 h2 hn h
structure DB where
  w:List UInt8
  seq:UInt64
  prev:List UInt8
  ls:List (List UInt8)
  ds:List UInt8
  sg:List UInt8
deriving DecidableEq
def DB.zero:DB:=⟨List.replicate 32 0,0,List.replicate 32 0,[],[],List.replicate 64 0⟩
def DB.head(D:DB):Bool:=decide ((4294967295:Int)<(D.seq.toNat:Int))||(!decide (decide (D.prev=List.replicate 32 0)=decide ((D.seq.toNat:Int)=0))||(decide ((16:Int)<(D.ls.length:Int))||decide ((512:Int)<(D.ds.length:Int))))
def DB.check(D:DB):Int:=if D.head=true then 2 else(if linksBad D.prev D.ls=true then 2 else 0)
def DB.body(D:DB):List UInt8:=D.w++numB D.seq++D.prev++numB (UInt64.ofNat D.ls.length)++D.ls.flatten++(numB (UInt64.ofNat D.ds.length)++D.ds)
def DB.bytes(D:DB):List UInt8:=D.body++D.sg
structure DB.ok(D:DB):Prop where
  w:D.w.length=32
  prev:D.prev.length=32
  sg:D.sg.length=64
  ls:∀l∈D.ls,l.length=32
structure BlockIs(W:World)(B:Block)(D:DB):Prop where
  ok:B.ok
  w:B.fWriter=D.w
  seq:B.fSeq=D.seq
  prev:B.fPrev=D.prev
  ls:RowsAt W B.fLinks 32 D.ls
  ds:BytesAt W B.fData D.ds
  sg:B.fSig=D.sg
theorem BlockIs.dok{D:DB}(h:BlockIs W B D):D.ok:=⟨by rw[←h.w];exact h.ok.l_fWriter,by rw[←h.prev];exact h.ok.l_fPrev,by rw[←h.sg];exact h.ok.l_fSig,h.ls.row⟩
theorem BlockIs.check{D:DB}(h:BlockIs W B D):bcheck B D.ls=D.check:=by
  simp only[bcheck,bheadB,DB.check,DB.head,h.seq,h.prev,h.ls.len,h.ds.len]
theorem BlockIs.body{D:DB}(h:BlockIs W B D):bodyB B D.ls D.ds=D.body:=by
  simp only[bodyB,DB.body,h.w,h.seq,h.prev,h.ls.len,h.ds.len]
theorem BlockIs.bytes{D:DB}(h:BlockIs W B D):bytesB B D.ls D.ds=D.bytes:=by
  simp only[bytesB,DB.bytes,h.body,h.sg]
theorem acc_rows(h:Acc s bl (Am ls) E n 32)(hl:Lies bl w)(hr:∀l∈ls,l.length=32)(hn:ls.length=n)(hm:n≤1000000):RowsAt w s 32 ls:=
  ⟨by rw[h.num,hn],hr,h.cap,h.see hl,by rw[h.num];unfold maxLen;omega,h.nilc⟩
theorem acc_bytes(h:Acc s bl (Aa l) E n 1)(hl:Lies bl w)(hn:l.length=n)(hm:n≤1000000):BytesAt w s l:=
  ⟨by rw[h.num,hn],h.cap,h.see hl,by rw[h.num];unfold maxLen;omega,h.nilc⟩
theorem zero_is(W:World):BlockIs W Block.zero DB.zero:=⟨Block.zero_ok,rfl,rfl,rfl,⟨rfl,fun l hl=>(by cases hl),Lai _,SeesP.nil,Lar _,fun _=>rfl⟩,⟨rfl,Lai _,SeesP.nil,Lar _,fun _=>rfl⟩,rfl⟩
def kW:List UInt64:=[4794697086780616226,8158064640168781261,13096744586834688815,16840607885511220156,4131703408338449720,6480981068601479193,10538285296894168987,12329834152419229976,15566598209576043074,1334009975649890238,2608012711638119052,6128411473006802146,8268148722764581231,9286055187155687089,11230858885718282805,13951009754708518548,16472876342353939154,17275323862435702243,1135362057144423861,2597628984639134821,3308224258029322869,5365058923640841347,6679025012923562964,8573033837759648693,10970295158949994411,12119686244451234320,12683024718118986047,13788192230050041572,14330467153632333762,15395433587784984357,489312712824947311,1452737877330783856,2861767655752347644,3322285676063803686,5560940570517711597,5996557281743188959,7280758554555802590,8532644243296465576,9350256976987008742,10552545826968843579,11727347734174303076,12113106623233404929,14000437183269869457,14369950271660146224,15101387698204529176,15463397548674623760,17586052441742319658,1182934255886127544,1847814050463011016,2177327727835720531,2830643537854262169,3796741975233480872,4115178125766777443,5681478168544905931,6601373596472566643,7507060721942968483,8399075790359081724,8693463985226723168,9568029438360202098,10144078919501101548,10430055236837252648,11840083180663258601,13761210420658862357,14299343276471374635,14566680578165727644,15097957966210449927,16922976911328602910,17689382322260857208,500013540394364858,748580250866718886,1242879168328830382,1977374033974150939,2944078676154940804,3659926193048069267,4368137639120453308,4836135668995329356,5532061633213252278,6448918945643986474,6902733635092675308,7801388544844847127]
def startW:List UInt64:=[7640891576956012808,13503953896175478587,4354685564936845355,11912009170470909681,5840696475078001361,11170449401992604703,2270897969802886507,6620516959819538809]
theorem sha_K  :Mv 279 [] (fun _=>True) (agg (Af kW)):=by
 intro W hW;refine Ac func279 J 2 ntmps279 J (G2 ?_);refine .alloc (cs:=(Af (List.replicate 80 0))) J Zr276 J ?_;intro n0 hn0 hf0;refine G4 ?_;refine .build (cs:=Af kW) J J J (fun w=>by kernel_rfl) ?_;refine .sA J J J J zB Sz276 (by(simp[kW];done)) Z0 sP zU ?_;refine G2 ?_;refine G2 ?_;refine⟨_,[],As J J Y276 J Sz276 Z0 (by simp[kW]),sP,sP,?_,rfl⟩;rfl
theorem sha_Start  :Mv 214 [] (fun _=>True) (agg (Af startW)):=by
 intro W hW;refine Ac func214 J 2 ntmps214 J (G2 ?_);refine .alloc (cs:=(Af (List.replicate 8 0))) J Zr185 J ?_;intro n0 hn0 hf0;refine G4 ?_;refine .build (cs:=Af startW) J J J (fun w=>by kernel_rfl) ?_;refine .sA J J J J zB Sz185 (by(simp[startW];done)) Z0 sP zU ?_;refine G2 ?_;refine G2 ?_;refine⟨_,[],As J J Y185.h J Sz185 Z0 (by simp[startW]),sP,sP,?_,rfl⟩;rfl
theorem bits_rol(x:UInt64)(k:Int)(s:Nat)(hk: -64≤k∧k≤64)(hs:(wordOf k&&&63).toNat=s)(hs2:s≤63):Mv 280 [u64 x,i64 k] (fun _=>True) (u64 (rolW x s)):=by
 intro W hW;have h64:((64:UInt64)-(wordOf k&&&63)).toNat=64-s:=by rw[UInt64.toNat_sub_of_le _ _ (by rw[UInt64.le_iff_toNat_le,hs];show s≤64;omega),hs];rfl
 refine Ac func280 J 17 ntmps280 J (G2 ?_);refine .a J J (show Ag _ _=some (u64 0)from rfl) (G6 ?_);refine .and_u64 J J J (show Ag _ _=some (u64 63)from rfl) (G7 ?_);refine .shl_u64 J J J J s oM oM (G2 ?_);refine .sub_u64 J J (show Ag _ _=some (u64 64)from rfl) J (.shr_u64 J J J J (64-s) oM oM (G4 ?_));refine G2 ?_;refine⟨_,[],Ah J J,sP,sP,?_,rfl⟩;rfl
theorem sha_schedule(p:List UInt8)(hp:p.length=128)(A w:List UInt64)(hA:Hid (schA p 128=A))(hwp:Hid (schB A 64=w)):Mv 278 [agg (Aa p)] (fun _=>True) (agg (Af w)):=by
 intro W hW;have hA80:A.length=80:=by rw[←hA.out];exact schA_length p 128
 have hw80:w.length=80:=by rw[←hwp.out,schB_length];exact hA80
 refine Ac func278 J 72 ntmps278 J (G3 ?_);intro n1 hn1 hf1;refine .alloc (cs:=(Af (List.replicate 80 0))) J Zr276 J ?_;intro n2 hn2 hf2;refine G4 ?_;refine .alloc (cs:=(Af (List.replicate 80 0))) J Zr276 J ?_;intro n3 hn3 hf3;refine G5 ?_;refine .lA J J J underlying226 J Sz226 Z2 (by(simp[hp];done)) ?_;refine G4 ?_;refine .loop (ι:=Nat) (fun k=>⟨[(3,ptr n3 0),(2,ptr n2 0),(11,agg (Aa p)),(12,i64 (k:Int))],[⟨n3,Af (schA p k),276,80⟩,⟨n2,Af (List.replicate 80 0),276,80⟩]⟩) (fun k=>k≤128) (fun k=>128-k) (0) ?_ ?_ ?_
 ·omega
 ·exact Ad wN (wh1 Z0 (wh1 Z1 wh0)) nD
 rintro k hi;have hlk:=schA_length p k;refine G6 ?_;refine .condP J (fun hc0=>?_) (fun hc0=>?_)
 ·
  refine G7 ?_;refine .idxA1 J J J J underlying226 Sz5 Y5.h J _ J oM zG ?_;refine G6 ?_;refine .quo_i64 J J J J oM (G1 ?_);refine .quo_i64 J J J J oM (.i1 J J J J Y276 Sz45 (k/8) oM oM (G1 ?_));refine .shl_u64 J J J J 8 J dE (G3 ?_);refine .i1 J J J J Y276 Sz45 (k/8) oM oM (.s1 J J J J J Sz45 Z0 (by(simp[schA_length];omega)) (by exact Be _ _ _) zU ?_);refine G8 ?_;exact⟨k+1,by omega,by omega,Ad wN (wh1 Z0 (wh1 Z1 wh0)) nD⟩
 obtain rfl:k=128:=by omega
 rw[hA.out];clear hlk;refine G12 ?_;refine .loop (ι:=Nat) (fun j=>⟨[(3,ptr n3 0),(2,ptr n2 0),(6,i64 (16+(j:Int)))],[⟨n3,Af (schB A j),276,80⟩,⟨n2,Af (List.replicate 80 0),276,80⟩]⟩) (fun j=>j≤64) (fun j=>64-j) (0) ?_ ?_ ?_
 ·omega
 ·exact Ad wN (wh1 Z0 (wh1 Z1 wh0)) nD
 rintro j hi;have hlj:=schB_length A j;refine G7 ?_;refine .condP J (fun hc1=>?_) (fun hc1=>?_)
 ·
  refine G5 ?_;refine .draw (oP [0,1,2,103,4,5,6,107,8,9]) Au zK (G2 ?_);refine .i1 J J J J Y276 Sz45 (j+1) oM oM (G3 ?_);refine .i1 J J J J Y276 Sz45 (j+14) oM oM (G8 ?_);refine .cV J J J J Body280 (bits_rol _ (-1) 63 dE dE dE) tV (G1 ?_);refine .cV J J J J Body280 (bits_rol _ (-8) 56 dE dE dE) tV (G2 ?_);refine .shr_u64 J J J J 7 J dE (G7 ?_);refine .cV J J J J Body280 (bits_rol _ (-19) 45 dE dE dE) tV (G1 ?_);refine .cV J J J J Body280 (bits_rol _ (-61) 3 dE dE dE) tV (G2 ?_);refine .shr_u64 J J J J 6 J dE (G4 ?_);refine .draw (oP [0,1,2,3,104,5,6,7,8,9,110,11,12,13,14,415]) Au zK (G3 ?_);refine .i1 J J J J Y276 Sz45 j oM oM (G5 ?_);refine .i1 J J J J Y276 Sz45 (j+9) oM oM (G4 ?_);refine .i1 J J J J Y276 Sz45 (16+j) oM oM (.s1 J J J J J Sz45 Z0 (by(simp[schB_length,hA80];omega)) (by exact Be _ _ _) zU ?_);refine G9 ?_;exact⟨j+1,by omega,by omega,Ad (wk1 rfl (wk1 rfl (wk1 (congrArg (fun z=>some (i64 z)) oM) wk0))) (wh1 Z0 (wh1 Z1 wh0)) nD⟩
 obtain rfl:j=64:=by omega
 rw[hwp.out];clear hlj;refine G7 ?_;refine .lA J J J Y276 J Sz276 Z0 (by(simp[hw80];done)) ?_;refine .sA J J J J zB Sz276 (by(simp[hw80];done)) Z1 sP zV ?_;refine G2 ?_;refine G2 ?_;refine⟨_,[],As J J Y276 J Sz276 Z1 (by simp[hw80]),sP,sP,?_,rfl⟩;rfl
theorem sha_Kk(k:List UInt64)(hk:Hid (kW=k)):Mv 279 [] (fun _=>True) (agg (Af k)):=by
  rw[←hk.out];exact sha_K
theorem W8.l_length(R:W8):R.l.length=8:=rfl
theorem sha_Piece(st:List UInt64)(hst:st.length=8)(p:List UInt8)(hp:p.length=128)(A w k:List UInt64)(R:W8)(hA:Hid (schA p 128=A))(hwp:Hid (schB A 64=w))(hw:w.length=80)(hk:Hid (kW=k))(hk80:k.length=80)(hR:Hid (rnds k w (W8.of st) 80=R)):Mv 213 [agg (Af st),agg (Aa p)] (fun _=>True) (agg (Af (addUp st R.l 8))):=by
 intro W hW;refine Ac func213 J 127 ntmps213 J (G3 ?_);intro n2 hn2 hf2;refine G1 ?_;intro n3 hn3 hf3;refine .alloc (cs:=(Af (List.replicate 8 0))) J Zr185 J ?_;intro n4 hn4 hf4;refine G4 ?_;refine .lA J J J underlying226 J Sz226 Z1 (by(simp[hp];done)) ?_;refine .cV J J J J Body278 (sha_schedule p hp A w hA hwp) tV (.cV J J J J Body279 (sha_Kk k hk) tV (.alloc (cs:=(Af (List.replicate 80 0))) J Zr276 J ?_));intro n5 hn5 hf5;refine .alloc (cs:=(Af (List.replicate 80 0))) J Zr276 J ?_;intro n6 hn6 hf6;refine .sA J J J J zB Sz276 (by(simp[hw];done)) Z1 sP zV ?_;refine .sA J J J J zB Sz276 (by(simp[hk80];done)) Z0 sP zU ?_;refine G3 ?_;refine .draw (oP [0,101,2,103,4,105,6,107,8,9,10,11]) Au zK (.i1 J J J J Y185.h Sz45 0 J dE (G1 ?_));refine .i1 J J J J Y185.h Sz45 1 J dE (G1 ?_);refine .i1 J J J J Y185.h Sz45 2 J dE (G1 ?_);refine .i1 J J J J Y185.h Sz45 3 J dE (G8 ?_);refine .draw (oP [0,101,2,103,4,105,6,107,8,9,10,11]) Au zK (.i1 J J J J Y185.h Sz45 4 J dE (G1 ?_));refine .i1 J J J J Y185.h Sz45 5 J dE (G1 ?_);refine .i1 J J J J Y185.h Sz45 6 J dE (G1 ?_);refine .i1 J J J J Y185.h Sz45 7 J dE (G14 ?_);refine .loop (ι:=Nat) (fun t=>⟨[(2,ptr n2 0),(4,ptr n4 0),(5,ptr n5 0),(6,ptr n6 0),(7,u64 (rnds k w (W8.of st) t).a),(8,u64 (rnds k w (W8.of st) t).b),(9,u64 (rnds k w (W8.of st) t).c),(10,u64 (rnds k w (W8.of st) t).d),(11,u64 (rnds k w (W8.of st) t).e),(12,u64 (rnds k w (W8.of st) t).f),(13,u64 (rnds k w (W8.of st) t).g),(14,u64 (rnds k w (W8.of st) t).h),(41,i64 (t:Int))],[⟨n6,Af k,276,80⟩,⟨n5,Af w,276,80⟩,⟨n4,Af (List.replicate 8 0),185,8⟩,⟨n2,Af st,185,(Af st).length⟩]⟩) (fun t=>t≤80) (fun t=>80-t) (0) ?_ ?_ ?_
 ·omega
 ·exact Ad wN (wh1 Z0 (wh1 Z1 (wh1 Z2 (wh1 Z4 wh0)))) nD
 rintro t hi;refine G6 ?_;refine .condP J (fun hc0=>?_) (fun hc0=>?_)
 ·
  refine G13 ?_;refine .cV J J J J Body280 (bits_rol _ (-14) 50 dE dE dE) tV (G1 ?_);refine .cV J J J J Body280 (bits_rol _ (-18) 46 dE dE dE) tV (G2 ?_);refine .cV J J J J Body280 (bits_rol _ (-41) 23 dE dE dE) tV (G5 ?_);refine .draw (oP [0,1,2,3,4,5,6,7,8,9,10,11,12,13,114,15,16,17,118,19,20]) Au zK (G7 ?_);refine .not_u64 J J J (G5 ?_);refine .i1 J J J J Y276 Sz45 _ J oM (G3 ?_);refine .i1 J J J J Y276 Sz45 _ J oM (G8 ?_);refine .cV J J J J Body280 (bits_rol _ (-28) 36 dE dE dE) tV (G1 ?_);refine .cV J J J J Body280 (bits_rol _ (-34) 30 dE dE dE) tV (G2 ?_);refine .cV J J J J Body280 (bits_rol _ (-39) 25 dE dE dE) tV (G51 ?_);exact⟨t+1,by omega,by omega,Ad wN (wh1 Z0 (wh1 Z1 (wh1 Z2 (wh1 Z3 wh0)))) nD⟩
 obtain rfl:t=80:=by omega
 rw[hR.out];refine G16 ?_;refine .build (cs:=Af R.l) J J J (fun w=>by kernel_rfl) ?_;refine G4 ?_;refine .loop (ι:=Nat) (fun i=>⟨[(2,ptr n2 0),(4,ptr n4 0),(114,agg (Af R.l)),(115,i64 (i:Int))],[⟨n4,Af (List.replicate 8 0),185,8⟩,⟨n2,Af (addUp st R.l i),185,(Af st).length⟩]⟩) (fun i=>i≤8) (fun i=>8-i) (0) ?_ ?_ ?_
 ·omega
 ·exact Ad wN (wh1 Z2 (wh1 Z3 wh0)) nD
 rintro i hi;have hli:=B1 st R.l i;have hRl:=W8.l_length R;refine G6 ?_;refine .condP J (fun hc1=>?_) (fun hc1=>?_)
 ·
  refine G7 ?_;refine .idxA1 J J J J Y185.h Sz45 Y45.h J _ J oM (by exact get_words oM) ?_;refine G6 ?_;refine .i1 J J J J Y185.h Sz45 _ J oM (G3 ?_);refine .i1 J J J J Y185.h Sz45 _ J oM (.s1 J J J J J Sz45 Z1 (by(simp[hst,B1];omega)) (by exact Be _ _ _) zV ?_);refine G8 ?_;exact⟨i+1,by omega,by omega,Ad wN (wh1 Z0 (wh1 Z1 wh0)) nD⟩
 obtain rfl:i=8:=by omega
 refine G7 ?_;refine .lA J J J Y185.h J Sz185 Z1 (by(simp[hst,B1];done)) ?_;refine .sA J J J J zB Sz185 (by(simp[hst,B1];done)) Z0 sP zU ?_;refine G2 ?_;refine G2 ?_;refine⟨_,[],As J J Y185.h J Sz185 Z0 (by simp[hst,B1]),sP,sP,?_,rfl⟩;rfl
theorem sha_sum(st:List UInt64)(hst:st.length=8)(s:List UInt8)(hs:Hid (sumUp st 64=s)):Mv 173 [agg (Af st)] (fun _=>True) (agg (Aa s)):=by
 intro W hW;have hs64:s.length=64:=by rw[←hs.out];exact Ck st 64
 refine Ac func173 J 22 ntmps173 J (G3 ?_);intro n1 hn1 hf1;refine .alloc (cs:=(Aa (List.replicate 64 0))) J Zr47 J ?_;intro n2 hn2 hf2;refine G4 ?_;refine .alloc (cs:=(Aa (List.replicate 64 0))) J Zr47 J ?_;intro n3 hn3 hf3;refine G9 ?_;refine .loop (ι:=Nat) (fun k=>⟨[(1,ptr n1 0),(2,ptr n2 0),(3,ptr n3 0),(5,i64 (k:Int))],[⟨n3,Aa (sumUp st k),47,64⟩,⟨n2,Aa (List.replicate 64 0),47,64⟩,⟨n1,Af st,185,(Af st).length⟩]⟩) (fun k=>k≤64) (fun k=>64-k) (0) ?_ ?_ ?_
 ·omega
 ·exact Ad wN (wh1 Z0 (wh1 Z1 (wh1 Z2 wh0))) nD
 rintro k hi;have hlk:=Ck st k;refine G6 ?_;refine .condP J (fun hc0=>?_) (fun hc0=>?_)
 ·
  refine G13 ?_;refine .quo_i64 J J J J oM (.i1 J J J J Y185.h Sz45 (k/8) oM oM (G2 ?_));refine .rem_i64 J J J J oM (.mul_i64 J J J J oM (G1 ?_));refine .shr_u64 J J J J (56-8*(k%8)) oM oM (G1 ?_);refine .i1 J J J J Y47.h Sz5 _ J oM (.s1 J J J J J Sz5 Z0 (by(simp[Ck];omega)) (by exact Bi _ _ _) zU ?_);refine G8 ?_;exact⟨k+1,by omega,by omega,Ad wN (wh1 Z0 (wh1 Z1 (wh1 Z2 wh0))) nD⟩
 obtain rfl:k=64:=by omega
 rw[hs.out];clear hlk;refine G7 ?_;refine .lA J J J Y47.h J Sz47 Z0 (by(simp[hs64];done)) ?_;refine .sA J J J J zE Sz47 (by(simp[hs64];done)) Z1 sP zV ?_;refine G2 ?_;refine G2 ?_;refine⟨_,[],As J J Y47.h J Sz47 Z1 (by simp[hs64]),sP,sP,?_,rfl⟩;rfl
theorem and_low(h:x.toNat<4294967296):x&&&4294967295=x:=by
  apply Lbm.1;rw[Lfb];show x.toNat&&&(2^32-1)=x.toNat;rw[Lci,Laf oM]
theorem shr_small(h:x.toNat<2^n):Av x n=0:=by
  apply Lbm.1;rw[shr64_nat,Lbb h];rfl
theorem mul8_nat(h:x.toNat<536870912):(x*8).toNat=x.toNat*8:=by
  rw[Lds];show x.toNat*8%18446744073709551616=_;omega
theorem bits_mul8(x:UInt64)(hx:x.toNat<536870912):Mv 277 [u64 x,u64 8] (fun _=>True) (.tuple #[u64 0,u64 (x*8)]):=by
 intro W hW;have h1:=and_low (x:=x) oM;have h2:=shr_small (x:=x) (n:=32) oM;have h3:=mul8_nat hx;have h4:=shr_small (x:=x*8) (n:=32) oM;refine Ac func277 J 51 ntmps277 J (G2 ?_);refine .a J J (show Ag _ _=some (u64 0)from rfl) (.a J J (show Ag _ _=some (u64 0)from rfl) (G5 ?_));refine .and_u64 J J J (show Ag _ _=some (u64 4294967295)from rfl) (G6 ?_);refine .shr_u64 J J J J 32 oM oM (G6 ?_);refine .and_u64 J J J (show Ag _ _=some (u64 4294967295)from rfl) (G6 ?_);refine .shr_u64 J J (show Ag _ _=some (u64 8)from rfl) J 32 oM oM (G17 ?_);refine .shr_u64 J J J J 32 J dE (G7 ?_);refine .and_u64 J J J (show Ag _ _=some (u64 4294967295)from rfl) (G6 ?_);refine .shr_u64 J J J J 32 J dE (G21 ?_);refine .shr_u64 J J J J 32 J dE (G12 ?_);refine G2 ?_;refine⟨_,[],B6 J J J,sP,sP,?_,rfl⟩;simp only[h1,h2,show Av 8 32=0 from rfl,show(8:UInt64)&&&4294967295=8 from rfl];rw[h4,UInt64.mul_zero (a:=x)];rfl
theorem bytesV_app(a b:List UInt8):Aa (a++b)=Aa a++Aa b:=Laj
theorem sl_get{ss:List Sl}(h:j<ss.length):(ss.map Sl.v)[j]? =some (ss.getD j Sl.nil).v:=by simp[La6 h,List.getD]
theorem take_flat(h:j<ls.length):(ls.take (j+1)).flatten=(ls.take j).flatten++ls.getD j []:=by
  rw[Laq h,Ld2];simp[List.getD,h]
theorem take_flat_le(ls:List (List UInt8))(j:Nat):(ls.take j).flatten.length≤ls.flatten.length:=by
  have:ls.flatten=(ls.take j).flatten++(ls.drop j).flatten:=by rw[←Ld2,Lct]
  rw[this,La3];omega
theorem sha_padded(p:Option Addr)(n c:Nat)(ss:List Sl)(ls:List (List UInt8))(hss:ss.length=n)(hls:ls.length=n)(hsl:∀j,j<n→(ss.getD j Sl.nil).n=(ls.getD j []).length∧((ss.getD j Sl.nil).p=none→(ss.getD j Sl.nil).n=0))(F:List UInt8)(hF:ls.flatten=F)(htot:F.length≤90000)(hn:n≤1000000):Meets prog 212 [.slice p n c] [] (fun W=>SeesP W p (ss.map Sl.v)∧∀j,j<n→SeesP W (ss.getD j Sl.nil).p (Aa (ls.getD j []))) (fun v out=>∃s,v=s.v∧Acc s out (Aa (padB F)) 5 (padB F).length 1):=by
 intro W hW;have hz:=padZ_lt F.length;have hle:=take_flat_le ls;rw[hF]at hle;refine Ac func212 J 76 ntmps212 J (G19 ?_);refine .loop (ι:=Nat) (fun k=>⟨[(0, .slice p n c),(3,i64 ((ls.take k).flatten.length:Int)),(14, .slice p n c),(15,i64 (n:Int)),(16,i64 (k:Int))],[]⟩) (fun k=>k≤n) (fun k=>n-k) (0) ?_ ?_ ?_
 ·omega
 ·exact Aq wN Aj
 rintro k hi;refine G6 ?_;refine .condP J (fun hc0=>?_) (fun hc0=>?_)
 ·
  have hk3:k<n:=by omega
  obtain⟨b,o,hbp,hbs⟩:=hW.1.at (by rw[La0];omega);have hv:W.cell? ⟨b,o+k*1,none⟩=some (ss.getD k Sl.nil).v:=by rw[Lb5];exact hbs k _ (sl_get oM)
  have hstep:=hle (k+1);rw[take_flat oM,La3,←(hsl k oM).1]at hstep;refine G6 ?_;refine .idxSlP 1 J J J hbp J Y183.h Sz46 k J oM (.loadE J J J Y46.h J sP (hv) (G17 ?_));exact⟨k+1,by omega,by omega,Aq (wk1 rfl (wk1 (congrArg (fun z=>some (i64 z)) (by rw[take_flat oM,La3,(hsl k oM).1];simp)) wN)) Aj⟩
 have hk3:k=n:=by omega
 rw[hk3,La5 oM,hF];refine G9 ?_;refine .quo_i64 J J J J oM (.mul_i64 J J J J oM (G1 ?_));refine .mkRoom (z:=u8 0) (by':=1) ((F.length+16)/128*128+128) J J J J oM Y46.h Sz5 Zr5 (by unfold By;kernel_rfl) J oM oM ?_;intro q30;refine G12 ?_;refine .loop (ι:=Nat×Sl×List Blk) (fun x=>⟨[(3,i64 (F.length:Int)),(6,x.2.1.v),(31, .slice p n c),(32,i64 (n:Int)),(33,i64 (x.1:Int))],(x.2.2++[])⟩) (fun x=>x.1≤n∧Acc x.2.1 x.2.2 (Aa (ls.take x.1).flatten) 5 (ls.take x.1).flatten.length 1) (fun x=>n-x.1) ((0,⟨some ⟨q30,0,none⟩,0,(F.length+16)/128*128+128⟩,[⟨q30,[],5,((F.length+16)/128*128+128)*1⟩])) ?_ ?_ ?_
 ·exact⟨Lar _,Acc.some (Lar _) rfl⟩
 ·exact Aq wN (pm_consE rM rfl (Lb5 _).symm Aj)
 rintro x ⟨hx,hax⟩;refine G6 ?_;refine .condP J (fun hc1=>?_) (fun hc1=>?_)
 ·
  have hx3:x.1<n:=by omega
  obtain⟨b,o,hbp,hbs⟩:=hW.1.at (by rw[La0];omega);have hv:W.cell? ⟨b,o+x.1*1,none⟩=some (ss.getD x.1 Sl.nil).v:=by rw[Lb5];exact hbs x.1 _ (sl_get oM)
  have hstep:=hle (x.1+1);rw[take_flat oM,La3,←(hsl x.1 oM).1]at hstep;refine G6 ?_;refine .idxSlP 1 J J J hbp J Y183.h Sz46 x.1 J oM (.loadE J J J Y46.h J sP (hv) (G6 ?_));refine .appendAcc (z:=u8 0) (by':=1) (Aa (ls.getD x.1 [])) J J J J J Y46.h Y46.h Sz5 Zr5 (by unfold By;kernel_rfl) J hax sG (fun w h=>A5 h J (hW.2 x.1 oM)) (hsl x.1 oM).2 (A1 _) oM oM (by rw[Aa,La0,Lb5];exact(hsl x.1 oM).1.symm) ?_;intro s39 bl39 hac39;refine G9 ?_;refine⟨(x.1+1,s39,bl39),⟨by simp only[];omega,?_⟩,by simp only[];omega,Aq wN (Ae sG Aj)⟩;rw[take_flat oM,La3,←(hsl x.1 oM).1];simpa[Aa]using hac39
 have hx3:x.1=n:=by omega
 rw[hx3,La5 oM,hF]at hax;refine G8 ?_;refine .mkRow (z:=u8 0) [u8 (128)] (Aa [128]) J J J Y46.h Sz5 Zr5 J J (by intro v hv;rw[La1.1 hv];rfl) dE J ?_;intro q42;refine .appendAcc (z:=u8 0) (by':=1) (Aa [128]) J J J J J Y46.h Y46.h Sz5 Zr5 (by unfold By;kernel_rfl) J hax sG (fun w h=>SeesP.of (Ap h Z0)) (fun e=>by cases e) (A1 _) oM oM (by rfl) ?_;intro s43 bl43 hac43;refine G5 ?_;refine .loop (ι:=Nat×Sl×List Blk) (fun z=>⟨[(3,i64 (F.length:Int)),(6,z.2.1.v)],(z.2.2++[])⟩) (fun z=>z.1≤padZ F.length∧Acc z.2.1 z.2.2 (Aa (F++[128]++List.replicate z.1 0)) 5 (F.length+1+z.1) 1) (fun z=>padZ F.length-z.1) ((0,s43,bl43)) ?_ ?_ ?_
 ·exact⟨Lar _,by simpa[Aa]using hac43⟩
 ·exact Aq wN (Ae sG Aj)
 rintro z ⟨hz1,haz⟩;have hzn:=haz.num;have hpz:=padZ_at F.length z.1 hz1;refine G5 ?_;refine .rem_i64 J J J J oM (G3 ?_);refine .condNP J (fun hc2=>?_) (fun hc2=>?_)
 ·
  have hz3:z.1<padZ F.length:=by omega
  refine G5 ?_;refine .mkRow (z:=u8 0) [u8 (0)] (Aa [0]) J J J Y46.h Sz5 Zr5 J J (by intro v hv;rw[La1.1 hv];rfl) dE J ?_;intro q49;refine .appendAcc (z:=u8 0) (by':=1) (Aa [0]) J J J J J Y46.h Y46.h Sz5 Zr5 (by unfold By;kernel_rfl) J haz sG (fun w h=>SeesP.of (Ap h Z0)) (fun e=>by cases e) (A1 _) oM oM (by rfl) ?_;intro s50 bl50 hac50;refine G4 ?_;refine⟨(z.1+1,s50,bl50),⟨by simp only[];omega,?_⟩,by simp only[];omega,Aq wN (Ae sG Aj)⟩;rw[Lf7,←La9];simpa[Aa,Lcs]using hac50
 have hz3:z.1=padZ F.length:=by omega
 rw[hz3]at haz;refine G9 ?_;rw[word_nat (n:=F.length) oM];refine .cV J J J J Body277 (bits_mul8 (UInt64.ofNat F.length) (by rw[ofNat_nat oM];omega)) tV ?_;refine G12 ?_;refine .build (cs:=[u64 0,u64 (UInt64.ofNat F.length*8)]) J J J (fun w=>by kernel_rfl) ?_;refine G4 ?_;refine .rounds 3 (SRounds.more (G6 ?_));refine .cond_t J (rfl) (G6 ?_);refine .idxA1 J J J J underlying282 Sz45 Y45.h J 0 J oM J (G9 ?_);refine .loop (ι:=Nat×Sl×List Blk) (fun y=>⟨[(3,i64 (F.length:Int)),(6,y.2.1.v),(12,u64 (0)),(13,i64 (56-8*(y.1:Int))),(59,agg [u64 0,u64 (UInt64.ofNat F.length*8)]),(60,i64 0)],(y.2.2++[])⟩) (fun y=>y.1≤8∧Acc y.2.1 y.2.2 (Aa (F++[128]++List.replicate (padZ F.length) 0++beUp (0) y.1)) 5 ((F.length+1+padZ F.length)+y.1) 1) (fun y=>8-y.1) ((0,z.2.1,z.2.2)) ?_ ?_ ?_
 ·exact⟨Lar _,by simpa[beUp]using haz⟩
 ·exact Aq wN (Ae sG Aj)
 rintro y ⟨hy,hay⟩;refine G7 ?_;refine .condP J (fun hc4=>?_) (fun hc4=>?_)
 ·
  have hy3:y.1≤7:=by omega
  refine G8 ?_;refine .shr_u64 J J J J (56-8*y.1) oM oM (G1 ?_);refine .mkRow (z:=u8 0) [u8 ((Av 0 (56-8*y.1)).toUInt8)] (Aa [(Av 0 (56-8*y.1)).toUInt8]) J J J Y46.h Sz5 Zr5 J J (by intro v hv;rw[La1.1 hv];rfl) dE J ?_;intro q72;refine .appendAcc (z:=u8 0) (by':=1) (Aa [(Av 0 (56-8*y.1)).toUInt8]) J J J J J Y46.h Y46.h Sz5 Zr5 (by unfold By;kernel_rfl) J hay sG (fun w h=>SeesP.of (Ap h Z0)) (fun e=>by cases e) (A1 _) oM oM (by rfl) ?_;intro s73 bl73 hac73;refine G10 ?_;refine⟨(y.1+1,s73,bl73),⟨by simp only[];omega,?_⟩,by simp only[];omega,Aq (wk1 J (wk1 J (wk1 J (wk1 (congrArg (fun z=>some (i64 z)) oM) wN)))) (Ae sG Aj)⟩;rw[show beUp (0) (y.1+1)=beUp (0) y.1++[(Av (0) (56-8*y.1)).toUInt8]from rfl,←La9,bytesV_app];exact hac73
 have hy3:y.1=8:=by omega
 rw[hy3]at hay;refine G10 ?_;refine Bx (SRounds.more (G6 ?_));refine .cond_t J (rfl) (G6 ?_);refine .idxA1 J J J J underlying282 Sz45 Y45.h J 1 J oM J (G9 ?_);refine .loop (ι:=Nat×Sl×List Blk) (fun y=>⟨[(3,i64 (F.length:Int)),(6,y.2.1.v),(12,u64 (UInt64.ofNat F.length*8)),(13,i64 (56-8*(y.1:Int))),(59,agg [u64 0,u64 (UInt64.ofNat F.length*8)]),(60,i64 (0+1))],(y.2.2++[])⟩) (fun y=>y.1≤8∧Acc y.2.1 y.2.2 (Aa (F++[128]++List.replicate (padZ F.length) 0++beUp 0 8++beUp (UInt64.ofNat F.length*8) y.1)) 5 ((F.length+1+padZ F.length+8)+y.1) 1) (fun y=>8-y.1) ((0,y.2.1,y.2.2)) ?_ ?_ ?_
 ·exact⟨Lar _,by simpa[beUp]using hay⟩
 ·exact Aq wN (Ae sG Aj)
 rintro y ⟨hy,hay⟩;refine G7 ?_;refine .condP J (fun hc4=>?_) (fun hc4=>?_)
 ·
  have hy3:y.1≤7:=by omega
  refine G8 ?_;refine .shr_u64 J J J J (56-8*y.1) oM oM (G1 ?_);refine .mkRow (z:=u8 0) [u8 ((Av (UInt64.ofNat F.length*8) (56-8*y.1)).toUInt8)] (Aa [(Av (UInt64.ofNat F.length*8) (56-8*y.1)).toUInt8]) J J J Y46.h Sz5 Zr5 J J (by intro v hv;rw[La1.1 hv];rfl) dE J ?_;intro q72;refine .appendAcc (z:=u8 0) (by':=1) (Aa [(Av (UInt64.ofNat F.length*8) (56-8*y.1)).toUInt8]) J J J J J Y46.h Y46.h Sz5 Zr5 (by unfold By;kernel_rfl) J hay sG (fun w h=>SeesP.of (Ap h Z0)) (fun e=>by cases e) (A1 _) oM oM (by rfl) ?_;intro s73 bl73 hac73;refine G10 ?_;refine⟨(y.1+1,s73,bl73),⟨by simp only[];omega,?_⟩,by simp only[];omega,Aq (wk1 J (wk1 J (wk1 J (wk1 (congrArg (fun z=>some (i64 z)) oM) wN)))) (Ae sG Aj)⟩;rw[show beUp (UInt64.ofNat F.length*8) (y.1+1)=beUp (UInt64.ofNat F.length*8) y.1++[(Av (UInt64.ofNat F.length*8) (56-8*y.1)).toUInt8]from rfl,←La9,bytesV_app];exact hac73
 have hy3:y.1=8:=by omega
 rw[hy3]at hay;refine G10 ?_;refine Bx (SRounds.more (G6 ?_));refine .cond_f J (rfl) (G11 ?_);refine G2 ?_;refine Az (out:=(y.2.2++[])) (Ah J J) (Ae sG Aj) ?_;refine⟨y.2.1,rfl,?_⟩;have e8:UInt64.ofNat F.length*8=UInt64.ofNat (8*F.length):=by
  apply Lbm.1;rw[mul8_nat (by rw[ofNat_nat oM];omega),ofNat_nat oM,ofNat_nat oM];omega
 rw[e8]at hay;rw[padB_length,padB];simpa[Lcs,Le0,Nat.add_left_comm]using hay
theorem mk_chunk(p:Option Addr)(n c:Nat):Meets prog 211 [.slice p n c,i64 128] [] (fun _=>True) (fun v out=>∃b1 b2,v= .func (.func 276) #[] #[ptr b1 0,ptr b2 0]∧out=[⟨b1,[.slice p n c],46,1⟩,⟨b2,[i64 128],3,1⟩]):=by
 intro W hW;refine Ac func211 J 9 ntmps211 J (G2 ?_);refine .box1 J J J ?_;intro n2 hn2 hf2;refine .box1 J J J ?_;intro n3 hn3 hf3;refine G10 ?_;refine .cond_f J dE (G8 ?_);refine G2 ?_;refine Az (out:=(⟨n2,[.slice p n c],46,1⟩::(⟨n3,[i64 128],3,1⟩::[]))) (Ah J J) (Ab rM (Ab rM Aj)) ?_;exact⟨n2,n3,rfl,by simp⟩
def encC(q i:Nat):Value:= .slice (some ⟨q,128*i,none⟩) 128 128
theorem encC_eq(q i:Nat):(.slice (some ⟨q,if 128*i+128=128*i then 0 else 0+128*i*1,none⟩) (128*i+128-128*i) (128*i+128-128*i):Value)=encC q i:=by
  have e1:128*i+128-128*i=128:=by omega
  have e2:0+128*i*1=128*i:=by omega
  rw[if_neg oM,e1,e2];rfl
theorem chunk_iter(l b1 b2 q n c K:Nat)(X:Nat→List Blk)(names:List Nat)(hnk:n=128*K)(hnc:n≤c)(hbig:n≤1000000):Meets prog 276 [.func (.yield l) #[] #[],ptr b1 0,ptr b2 0] names (fun W=>HRep ⟨prog,W,0,names,[],[]⟩ (⟨b1,[.slice (some ⟨q,0,none⟩) n c],46,1⟩::⟨b2,[i64 128],3,1⟩::X 0) W∧∀i,i<K→∀W2,HRep ⟨prog,W,0,names,[],[]⟩ (⟨b1,[.slice (some ⟨q,0,none⟩) n c],46,1⟩::⟨b2,[i64 128],3,1⟩::X i) W2→YieldAt Fence.wide 0 prog l #[encC q i] W2 fun e W3=>e= .returned (.bool true)∧HRep ⟨prog,W,0,names,[],[]⟩ (⟨b1,[.slice (some ⟨q,0,none⟩) n c],46,1⟩::⟨b2,[i64 128],3,1⟩::X (i+1)) W3) (fun v out=>v= .tuple #[]∧out=⟨b1,[.slice (some ⟨q,0,none⟩) n c],46,1⟩::⟨b2,[i64 128],3,1⟩::X K):=by
 intro W hW;refine calls_of (hp0:=⟨b1,[.slice (some ⟨q,0,none⟩) n c],46,1⟩::⟨b2,[i64 128],3,1⟩::X 0) func276 J 31 ntmps276 J (HRep.reN hW.1) (G6 ?_);refine .loop (ι:=Nat) (fun i=>⟨[(0, .func (.yield l) #[] #[]),(1,ptr b1 0),(2,ptr b2 0),(4,i64 (128*(i:Int)))],(⟨b1,[.slice (some ⟨q,0,none⟩) n c],46,1⟩::(⟨b2,[i64 128],3,1⟩::(X i++[])))⟩) (fun i=>i≤K) (fun i=>K-i) (0) ?_ ?_ ?_
 ·exact Lar _
 ·exact Aq wN (Ab rM (Ab rM (Ae (by repeat(exact sg_end)) Aj)))
 rintro i hi;refine G9 ?_;refine .condP J (fun hc0=>?_) (fun hc0=>?_)
 ·
  have hi3:i<K:=by omega
  refine G5 ?_;refine .draw (oP [100,101,2,3,4,5,6]) Au zK (G3 ?_);refine .sliceLoN (128*i) J J J J oM oM oM Y46.h Sz5 (G1 ?_);refine .min2 J J J J (show Value.int .i64 (if((n-128*i:Nat):Int)<(128:Int)then((n-128*i:Nat):Int)else(128:Int))=i64 128 from by rw[if_neg oM]) ?_;refine G4 ?_;refine .regionY 10 J zK (G9 ?_);refine .slice3 (128*i) (128*i+128) (128*i+128) J J J J J J oM oM oM oM oM oM Y46.h Sz5 (.nil (yop J J (congrArg some (encC_eq q i)) (fun w h=>hW.2 i hi3 w (by rw[Lav]at h;exact h)) ?_));refine G3 ?_;refine .cond_f J (rfl) (G10 ?_);exact⟨i+1,by omega,by omega,Aq (wk1 rfl (wk1 rfl (wk1 rfl (wk1 (congrArg (fun z=>some (i64 z)) oM) wk0)))) (Ab rM (Ab rM (Ae (by repeat(exact sg_end)) Aj)))⟩
 have hi3:i=K:=by omega
 refine G5 ?_;refine Az (out:=(⟨b1,[.slice (some ⟨q,0,none⟩) n c],46,1⟩::(⟨b2,[i64 128],3,1⟩::(X i++[])))) (res_none J) (Ab rM (Ab rM (Ae sG Aj))) ?_;rw[hi3];exact⟨rfl,by simp⟩
theorem chunk_seq{l b1 b2 q n c K:Nat}{X:Nat→List Blk}{names:List Nat}(hnk:n=128*K)(hnc:n≤c)(hbig:n≤1000000)(hnm:∀i,(⟨b1,[.slice (some ⟨q,0,none⟩) n c],46,1⟩::⟨b2,[i64 128],3,1⟩::X i).map (·.n)=names)(w1:World)(hh:HRep ⟨prog,w1,0,names,[],[]⟩ (⟨b1,[.slice (some ⟨q,0,none⟩) n c],46,1⟩::⟨b2,[i64 128],3,1⟩::X 0) w1)
    (hy:∀i,i<K→∀W2,HRep ⟨prog,w1,0,names,[],[]⟩ (⟨b1,[.slice (some ⟨q,0,none⟩) n c],46,1⟩::⟨b2,[i64 128],3,1⟩::X i) W2→YieldAt Fence.wide 0 prog l #[encC q i] W2 fun e W3=>e= .returned (.bool true)∧HRep ⟨prog,w1,0,names,[],[]⟩ (⟨b1,[.slice (some ⟨q,0,none⟩) n c],46,1⟩::⟨b2,[i64 128],3,1⟩::X (i+1)) W3):
    CallsIn Fence.wide 0 prog 276 (#[.func (.yield l) #[] #[]]++ #[ptr b1 0,ptr b2 0]) w1 fun e W'=>(∃v,e= .returned v)∧HRep ⟨prog,w1,0,names,[],[]⟩ (⟨b1,[.slice (some ⟨q,0,none⟩) n c],46,1⟩::⟨b2,[i64 128],3,1⟩::X K) W':=
  callsIn_wide.2 ((chunk_iter l b1 b2 q n c K X names hnk hnc hbig w1 ⟨hh,hy⟩).mono fun e W' ⟨v,out,he,⟨_,ho⟩,hr⟩=>⟨⟨v,he⟩,by subst ho;exact HRep.ofRet hr (hnm K)⟩)
theorem take_len{xs:List UInt8}{i K:Nat}(h:xs.length=128*K)(hi:i<K):((xs.drop (128*i)).take 128).length=128:=by simp;omega
theorem sha_whole(st:List UInt64)(hst:st.length=8)(k:List UInt64)(hk:Hid (kW=k))(hk80:k.length=80)(p:Option Addr)(n c:Nat)(ss:List Sl)(ls:List (List UInt8))(hss:ss.length=n)(hls:ls.length=n)(hsl:∀j,j<n→(ss.getD j Sl.nil).n=(ls.getD j []).length∧((ss.getD j Sl.nil).p=none→(ss.getD j Sl.nil).n=0))(F:List UInt8)(hF:ls.flatten=F)(htot:F.length≤90000)(hn:n≤1000000)  :Mv 174 [agg (Af st), .slice p n c] (fun W=>SeesP W p (ss.map Sl.v)∧∀j,j<n→SeesP W (ss.getD j Sl.nil).p (Aa (ls.getD j []))) (agg (Af (allW k st F))):=by
  intro W hW;have hpl:=padB_length F;have hpz:=padZ_lt F.length;have hpm:=padB_mod F;have hst2:(runW k st (padB F) ((padB F).length/128)).length=8:=by rw[runW_length];exact hst
  refine calls_range func174 rfl 16 ntmps174 rfl ?_;refine G2 ?_;intro n2 hn2 hf2;refine Tr.alloc (cs:=(Af (List.replicate 8 0))) rfl Zr185 rfl ?_;intro n4 hn4 hf4;refine G4 ?_;refine Tr.call4 rfl rfl rfl rfl rfl Body212 (sha_padded p n c ss ls hss hls hsl F hF htot hn) (fun w h=>⟨A5 h rfl hW.1,fun j hj=>A5 h rfl (hW.2 j hj)⟩) ?_;rintro v7 out7 ⟨s7,rfl,hac7⟩;obtain⟨q7,c7,rfl,hc7,rfl⟩:=acc_pos hac7 oM;refine Tr.call4 rfl rfl rfl rfl rfl Body211 (mk_chunk (some ⟨q7,0,none⟩) (padB F).length c7) tV ?_;rintro v8 out8 ⟨b1,b2,rfl,rfl⟩;refine G2 ?_;refine⟨_,_,fun i=>⟨b1,[.slice (some ⟨q7,0,none⟩) (padB F).length c7],46,1⟩::⟨b2,[i64 128],3,1⟩::[⟨q7,Aa (padB F),5,c7*1⟩,⟨n4,Af (List.replicate 8 0),185,(Af (List.replicate 8 0)).length⟩,⟨n2,Af (runW k st (padB F) i),185,(Af st).length⟩],[b1,b2,q7,n4,n2],encC q7,((padB F).length/128),fun sl i=>(5,encC q7 i)::(9,encC q7 i)::sl,rfl,rfl,Body276,dE,fun _=>rfl,?_,?_,?_,?_⟩
  ·
    intro l w1 hh hy;exact chunk_seq (X:=fun i=>[⟨q7,Aa (padB F),5,c7*1⟩,⟨n4,Af (List.replicate 8 0),185,(Af (List.replicate 8 0)).length⟩,⟨n2,Af (runW k st (padB F) i),185,(Af st).length⟩]) hpm hc7 oM (fun _=>rfl) w1 hh hy
  ·
    intro i hi l W2 hh;refine SatI.region zK ?_;refine G2 ?_;exact⟨rfl,rfl⟩
  ·
    intro i hi l W2 hh;obtain⟨A,hA⟩:∃A,Hid (schA ((padB F).drop (128*i)|>.take 128) 128=A):=⟨_,⟨rfl⟩⟩;obtain⟨w,hwp⟩:∃w,Hid (schB A 64=w):=⟨_,⟨rfl⟩⟩;obtain⟨R,hR⟩:∃R,Hid (rnds k w (W8.of (runW k st (padB F) i)) 80=R):=⟨_,⟨rfl⟩⟩;have hw:w.length=80:=by rw[←hwp.out,schB_length,←hA.out];exact schA_length _ 128
    have e1:addUp (runW k st (padB F) i) R.l 8=runW k st (padB F) (i+1):=by rw[runW,pieceW,schW,hA.out,hwp.out,hR.out]
    refine SatI.block ?_;refine SatI.draw (oP [100,1,2,103,304,405]) Au zK zK ?_;refine Tr.lA rfl rfl rfl Y185.h rfl Sz185 Z4 (by rw[La0,runW_length];exact hst) ?_;refine G1 ?_;refine Tr.s2a rfl rfl rfl underlying226 oM ?_;refine Tr.lN (Aa ((padB F).drop (128*i)|>.take 128)) rfl rfl rfl underlying226 rfl Sz226 Z2 (by rw[←Leo,←Lck]) (by rw[La0];exact take_len hpm hi) ?_;refine Tr.cV rfl rfl rfl rfl Body213 (sha_Piece (runW k st (padB F) i) (by rw[runW_length];exact hst) ((padB F).drop (128*i)|>.take 128) (take_len hpm hi) A w k R hA hwp hw hk hk80 hR) tV ?_;refine Tr.sA rfl rfl rfl rfl zB Sz185 (by(rw[La0,B1,runW_length];exact hst)) Z4 (by(rw[La0,runW_length];exact hst)) (by exact upd4) ?_;refine Tr.nil ?_;rw[e1];rfl
  intro D W2;refine G2 ?_;refine Tr.lA rfl rfl rfl Y185.h rfl Sz185 Z4 (by(simp[hst2];done)) ?_;refine Tr.sA rfl rfl rfl rfl zB Sz185 (by(simp[hst2];done)) Z3 sP (by exact upd3) ?_;refine G2 ?_;refine Sat.ret ?_;refine enA_r ?_;refine⟨_,[],fun W names=>As rfl rfl Y185.h rfl Sz185 Z3 (by simp[hst2]),sP,sP,?_⟩;exact⟨rfl,rfl⟩
theorem startW_length:startW.length=8:=rfl
def xorUp:Nat→List UInt64
  |0=>startW
  |i+1=>(xorUp i).set i ((xorUp i).getD i 0^^^11936128518282651045)
theorem xorUp_length:∀i,(xorUp i).length=8
  |0=>rfl
  |i+1=>by rw[xorUp,Lbk,xorUp_length i]
def shaTag:List UInt8:=[83,72,65,45,53,49,50,47,50,53,54]
def shaI:List UInt64:=allW kW (xorUp 8) shaTag
theorem shaI_length:shaI.length=8:=by rw[shaI,allW_length,xorUp_length]
def sha256(l:List UInt8):List UInt8:=(sumUp (allW kW shaI l) 64).take 32
theorem sha256_length(l:List UInt8):(sha256 l).length=32:=by rw[sha256,Lam,Ck];rfl
theorem sha_StartShort(k s0 i0:List UInt64)(G:List UInt8)(hk:Hid (kW=k))(hk80:k.length=80)(hs0:Hid (xorUp 8=s0))(hs8:s0.length=8)(hG:Hid (shaTag=G))(hGl:G.length=11)(hi0:Hid (allW k s0 G=i0))(hi8:i0.length=8)  :Mv 175 [] (fun _=>True) (agg (Af i0)):=by
 intro W hW;refine Ac func175 J 18 ntmps175 J (G2 ?_);refine .alloc (cs:=(Af (List.replicate 8 0))) J Zr185 J ?_;intro n0 hn0 hf0;refine G4 ?_;refine .cV J J J J Body214 (sha_Start) tV (.alloc (cs:=(Af (List.replicate 8 0))) J Zr185 J ?_);intro n1 hn1 hf1;refine .sA J J J J zB Sz185 (by(simp[startW_length];done)) Z0 sP zU ?_;refine G9 ?_;refine .loop (ι:=Nat) (fun j=>⟨[(0,ptr n0 0),(1,ptr n1 0),(4,i64 (j:Int))],[⟨n1,Af (xorUp j),185,8⟩,⟨n0,Af (List.replicate 8 0),185,8⟩]⟩) (fun j=>j≤8) (fun j=>8-j) (0) ?_ ?_ ?_
 ·omega
 ·exact Aq wN (Ab rM (Ab rM Aj))
 rintro j hi;have hlj:=xorUp_length j;refine G6 ?_;refine .condP J (fun hc0=>?_) (fun hc0=>?_)
 ·
  refine G12 ?_;refine .i1 J J J J Y185.h Sz45 _ J oM (G1 ?_);refine .xor_u64 J J J (show Ag _ _=some (u64 11936128518282651045)from rfl) (.i1 J J J J Y185.h Sz45 _ J oM (.s1 J J J J J Sz45 Z0 (by(simp[xorUp_length];omega)) (by exact Be _ _ _) zU ?_));refine G8 ?_;exact⟨j+1,by omega,by omega,Aq wN (Ab rM (Ab rM Aj))⟩
 obtain rfl:j=8:=by omega
 rw[hs0.out];clear hlj;refine G7 ?_;refine .lA J J J Y185.h J Sz185 Z0 (by(simp[hs8];done)) ?_;refine .mkRow (z:=u8 0) [u8 83,u8 72,u8 65,u8 45,u8 53,u8 49,u8 50,u8 47,u8 50,u8 53,u8 54] (Aa shaTag) J J J Y46.h Sz5 Zr5 J J (by intro v hv;simp only[Lab,Las,or_false]at hv;rcases hv with rfl|rfl|rfl|rfl|rfl|rfl|rfl|rfl|rfl|rfl|rfl<;>rfl) dE J ?_;intro q14;rw[hG.out];refine .constB J J J J Y46.h Y5.h Z0 ?_;refine .mkRow (z:= .slice none 0 0) [.slice (some ⟨q14,0,none⟩) 11 11] [.slice (some ⟨q14,0,none⟩) 11 11] rfl J J Y183.h Sz46 Zr46 J J (by intro v hv;rw[La1.1 hv];rfl) dE J ?_;intro q16;refine .cV J J J J Body174 (sha_whole s0 hs8 k hk hk80 (some ⟨q16,0,none⟩) 1 1 [⟨some ⟨q14,0,none⟩,11,11⟩] [G] rfl J (fun j hj=>(by obtain rfl:j=0:=oM;exact⟨by simp[hGl],fun e=>by cases e⟩)) G sP oM dE) (fun w h=>⟨SeesP.of (Ap h Z0),fun j hj=>(by obtain rfl:j=0:=oM;exact SeesP.of (Ap h Z1))⟩) ?_;rw[hi0.out];refine .sA J J J J zB Sz185 (by(simp[hi8];done)) Z3 sP (by exact upd3) ?_;refine G2 ?_;refine G2 ?_;refine⟨_,[],As J J Y185.h J Sz185 Z3 (by simp[hi8]),sP,sP,?_,rfl⟩;rfl
theorem sha_Sum(k s0 i0:List UInt64)(G:List UInt8)(hk:Hid (kW=k))(hk80:k.length=80)(hs0:Hid (xorUp 8=s0))(hs8:s0.length=8)(hG:Hid (shaTag=G))(hGl:G.length=11)(hi0:Hid (allW k s0 G=i0))(hi8:i0.length=8)(p:Option Addr)(n c:Nat)(ss:List Sl)(ls:List (List UInt8))(hss:ss.length=n)(hls:ls.length=n)(hsl:∀j,j<n→(ss.getD j Sl.nil).n=(ls.getD j []).length∧((ss.getD j Sl.nil).p=none→(ss.getD j Sl.nil).n=0))(F:List UInt8)(hF:ls.flatten=F)(htot:F.length≤90000)(hn:n≤1000000)(r:List UInt64)(hr:Hid (allW k i0 F=r))(s:List UInt8)(hs:Hid (sumUp r 64=s))  :Mv 124 [.slice p n c] (fun W=>SeesP W p (ss.map Sl.v)∧∀j,j<n→SeesP W (ss.getD j Sl.nil).p (Aa (ls.getD j []))) (agg (Aa (s.take 32))):=by
 intro W hW;have hr8:r.length=8:=by rw[←hr.out,allW_length];exact hi8
 have hs64:s.length=64:=by rw[←hs.out];exact Ck r 64
 have hs32:(s.take 32).length=32:=by rw[Lam,hs64];rfl
 refine Ac func124 J 11 ntmps124 J (G2 ?_);refine .alloc (cs:=(Aa (List.replicate 32 0))) J B5 J ?_;intro n2 hn2 hf2;refine G4 ?_;refine .cV J J J J Body175 (sha_StartShort k s0 i0 G hk hk80 hs0 hs8 hG hGl hi0 hi8) tV (G1 ?_);refine .cV J J J J Body174 (sha_whole i0 hi8 k hk hk80 p n c ss ls hss hls hsl F hF htot hn) (fun w h=>⟨A5 h J hW.1,fun j hj=>A5 h J (hW.2 j hj)⟩) ?_;rw[hr.out];refine .cV J J J J Body173 (sha_sum r hr8 s hs) tV (.alloc (cs:=(Aa (List.replicate 64 0))) J Zr47 J ?_);intro n3 hn3 hf3;refine .sA J J J J zE Sz47 (by(simp[hs64];done)) Z0 sP zU ?_;refine G4 ?_;refine .sliceArrHi 32 J J J J J dE dE Y47.h Sz5 (.s2a J J J Y34.h oM (.lN (Aa (s.take 32)) J J J Y34.h J Sz34 Z0 (by rw[Let,←Lck]) (by rw[La0];exact hs32) ?_));refine .sA J J J J zE Sz34 (by(simp[hs64];done)) Z1 sP zV ?_;refine G2 ?_;refine G2 ?_;refine⟨_,[],As J J Y34.h J Sz34 Z1 (by simp[hs64]),sP,sP,?_,rfl⟩;rfl
theorem DB.head_small{D:DB}(h:D.check=0):D.ls.length≤16∧D.ds.length≤512:=by
  unfold DB.check at h;by_cases h1:D.head=true
  ·rw[if_pos h1]at h;cases h
  · unfold DB.head at h1
    simp at h1;omega
theorem DB.bytes_small{D:DB}(h:D.check=0)(hd:D.ok):D.bytes.length≤5000:=by
  have hs:=D.head_small h;have hz1:=Ct D.seq.toNat;have hz2:=Ct (UInt64.ofNat D.ls.length).toNat;have hz3:=Ct (UInt64.ofNat D.ds.length).toNat;have hfl:=Cn hd.ls (Lai D.ls.length);rw[Leq]at hfl;simp only[DB.bytes,DB.body,La3,Bn,hd.w,hd.prev,hd.sg,hfl];omega
def bytesR(D:DB):List UInt8:=if D.check=0 then D.bytes else[]
theorem db_check(B:Block)(D:DB):Mv 154 [agg B.cells] (fun W=>BlockIs W B D) (i64 D.check):=
  fun W hW=>by rw[←hW.check];exact block_check B hW.ok D.ls W hW.ls
theorem db_bytes(B:Block)(D:DB):Meets prog 157 [agg B.cells] [] (fun W=>BlockIs W B D) (fun v out=>∃s,v= .tuple #[s.v,i64 D.check]∧Acc s out (Aa (bytesR D)) 5 (bytesR D).length 1):=fun W hW=>by
  unfold bytesR;by_cases h:D.check=0
  · rw[if_pos h]
    refine(bytes_ok B hW.ok D.ls D.ds (by rw[hW.check];exact h) W ⟨hW.ls,hW.ds⟩).mono fun e W' ⟨v,out,h1,⟨q,c,N,h2,h3,h4,h5,h6⟩,h7⟩=>⟨v,out,h1,⟨⟨some ⟨q,0,none⟩,N,c⟩,?_,?_⟩,h7⟩
    ·rw[h];exact h4
    · rw[h6]
      rw[hW.bytes]at h2 ⊢;rw[←h2];exact Acc.some h5 (by rw[Aa,La0,←h2];omega)
  · rw[if_neg h]
    refine(bytes_bad B hW.ok D.ls D.ds (by rw[hW.check];exact h) W ⟨hW.ls,hW.ds⟩).mono fun e W' ⟨v,out,h1,⟨h2,h3⟩,h7⟩=>⟨v,out,h1,⟨Sl.nil,?_,?_⟩,h7⟩
    ·rw[h2,hW.check];rfl
    ·rw[h3];exact Acc.none
def Bh(D:DB):List UInt8:=if D.check=0 then sha256 D.bytes else List.replicate 32 0
theorem nameD_length(D:DB):(Bh D).length=32:=by
  unfold Bh;split
  ·exact sha256_length _
  ·rfl
theorem BlockIs.ext{D:DB}(hh:HRep C hp w)(hl:C.lent=[])(h:BlockIs C.W0 B D):BlockIs w B D:=
  ⟨h.ok,h.w,h.seq,h.prev,Cp hh hl h.ls,bytes_ext hh hl h.ds,h.sg⟩
theorem db_name(B:Block)(D:DB):Mv 98 [agg B.cells] (fun W=>BlockIs W B D) (agg (Aa (Bh D))):=by
 intro W hW;have hok:=hW.ok;obtain⟨k,hk⟩:∃k,Hid (kW=k):=⟨_,⟨rfl⟩⟩;obtain⟨s0,hs0⟩:∃s0,Hid (xorUp 8=s0):=⟨_,⟨rfl⟩⟩;obtain⟨G,hG⟩:∃G,Hid (shaTag=G):=⟨_,⟨rfl⟩⟩;obtain⟨i0,hi0⟩:∃i0,Hid (allW k s0 G=i0):=⟨_,⟨rfl⟩⟩;have hk80:k.length=80:=by rw[←hk.out];rfl
 have hs8:s0.length=8:=by rw[←hs0.out];exact xorUp_length 8
 have hGl:G.length=11:=by rw[←hG.out];rfl
 have hi8:i0.length=8:=by rw[←hi0.out,allW_length];exact hs8
 obtain⟨r,hr⟩:∃r,Hid (allW k i0 (D.bytes)=r):=⟨_,⟨rfl⟩⟩;obtain⟨s,hs⟩:∃s,Hid (sumUp r 64=s):=⟨_,⟨rfl⟩⟩;have hsd:Hid (s.take 32=sha256 (D.bytes)):=⟨by rw[←hs.out,←hr.out,←hi0.out,←hG.out,←hs0.out,←hk.out];rfl⟩;have hs64:s.length=64:=by rw[←hs.out];exact Ck r 64
 have hs32:(s.take 32).length=32:=by rw[Lam,hs64];rfl
 refine Ac func98 J 16 ntmps98 J (G3 ?_);intro n1 hn1 hf1;refine .alloc (cs:=(Aa (List.replicate 32 0))) J B5 J ?_;intro n2 hn2 hf2;refine G5 ?_;refine .call4 J J J J J Body157 (db_bytes B D) (fun w h=>hW.ext h J) ?_;rintro v7 out7 ⟨s7,rfl,hac7⟩;refine G11 ?_;refine two (fun r hr k=>Tr.nei J J J J hr k) (fun hs2_10=>?_) (fun hs2_10=>?_)
 ·
  have hs2_1:=nd_t hs2_10;skip;refine G2 ?_;refine .cond_t J J (G2 ?_);refine .build (cs:=Aa (List.replicate 32 0)) J J J (fun w=>by kernel_rfl) ?_;refine .sA J J J J zE Sz34 sP mR sP (by(repeat(first|exact upd0|apply Upd.seg))) ?_;refine G2 ?_;refine G3 ?_;refine⟨_,[],As J J Y34.h J Sz34 mR sP,sP,sP,?_,rfl⟩
  (rw[Bh,if_neg hs2_1];done)
 have hs2_1:=nd_f hs2_10;have h0:D.check=0:=by omega
 have hb7:bytesR D=D.bytes:=if_pos h0;refine G2 ?_;refine .cond_f J J (G5 ?_);refine .mkRow (z:= .slice none 0 0) [s7.v] [s7.v] rfl J J Y183.h Sz46 Zr46 J J (by intro v hv;rw[La1.1 hv];rfl) dE J ?_;intro q14;refine .cV J J J J Body124 (sha_Sum k s0 i0 G hk hk80 hs0 hs8 hG hGl hi0 hi8 (some ⟨q14,0,none⟩) 1 1 [s7] [D.bytes] rfl J (fun j hj=>(by obtain rfl:j=0:=oM;exact⟨by simp[hac7.num,hb7],fun e=>hac7.nil e⟩)) D.bytes sP (by have:=D.bytes_small h0 hW.dok;omega) dE r hr s hs) (fun w h=>⟨SeesP.of (Ap h Z0),fun j hj=>(by obtain rfl:j=0:=oM;exact(by have:=hac7.see (Lies.of h (by repeat(first|exact A4|refine A9 ?_)));rw[hb7]at this;exact this))⟩) ?_;refine .sA J J J J zE Sz34 (by(simp[hs64];done)) mR sP uU ?_;refine G2 ?_;refine G2 ?_;refine⟨_,[],As J J Y34.h J Sz34 mR (by simp[hs64]),sP,sP,?_,rfl⟩
 (rw[Bh,if_pos h0,hsd.out];done)
section
variable{H:Type}{enc:TypeId×Value→H}{P:Program}{W:World}{base:Nat}{sp:Nat→Bool}{held:Bool}
end
section
variable{H:Type}{enc:TypeId×Value→H}{W:World}{base:Nat}{sp:Nat→Bool}{held:Bool}
end
section
variable{H:Type}{enc:TypeId×Value→H}{W:World}{base:Nat}{sp:Nat→Bool}{held:Bool}
end
def BlocksAt(W:World)(s:Sl)(ds:List DB):Prop:=∃rs,SeqIs Block.cells 131 BlockIs W s rs ds
section
variable{H:Type}{enc:TypeId×Value→H}{W:World}{base:Nat}{sp:Nat→Bool}{held:Bool}
end
section
variable{H:Type}{enc:TypeId×Value→H}{W:World}{base:Nat}{sp:Nat→Bool}{held:Bool}
end
section
variable{H:Type}{enc:TypeId×Value→H}{W:World}{base:Nat}{sp:Nat→Bool}{held:Bool}
end
section
variable{H:Type}{enc:TypeId×Value→H}{W:World}{base:Nat}{sp:Nat→Bool}{held:Bool}
end
def fstBad{D:Type}(f:D→Bool)(ds:List D):Int:=if ds.any f=true then((ds.findIdx f:Nat):Int)else-1
variable{D:Type}{k m:Nat}{ds:List D}{f:D→Bool}
theorem fstBad_none(h:∀j,j<ds.length→(ds.map f)[j]? =some false):fstBad f ds= -1:=by
  refine if_neg fun e=>?_;obtain⟨x,hx,hf⟩:=Lc9.1 e;obtain⟨j,hj,rfl⟩:=Lcl hx;have:=h j hj;rw[Lal,La6 hj]at this;simp[hf]at this
theorem fstBad_at(h:∀j,j<k→(ds.map f)[j]? =some false)(hk:(ds.map f)[k]? =some true):fstBad f ds=(k:Int):=by
  rw[Lal]at hk;obtain⟨x,hx,hf⟩:=Option.map_eq_some_iff.1 hk;obtain⟨hlt,rfl⟩:=Lad.1 hx;unfold fstBad;rw[if_pos (Lc9.2 ⟨_,Lcf hlt,hf⟩)];congr 1;rw[List.findIdx_eq hlt];refine⟨hf,fun j hj=>?_⟩;have:=h j hj;rw[Lal,La6 oM]at this;simpa using this
theorem fstBad_ge(f:D→Bool)(ds:List D):decide ((0:Int)≤fstBad f ds)=ds.any f:=by
  unfold fstBad;split
  · rename_i h
    rw[h];simp
  · rename_i h
    rw[Lgv]at h;rw[h];simp
theorem take_snoc{d:D}(h:ds[k]? =some d):ds.take (k+1)=ds.take k++[d]:=by
  obtain⟨hk,rfl⟩:=Lad.1 h;rw[Laq hk]
theorem rows_none{W:World}:RowsAt W Sl.nil m []:=⟨rfl,fun l h=>(by cases h),Lai _,SeesP.nil,by decide,fun _=>rfl⟩
theorem sees_kok{w:World}{b o:Nat}{cs l:List Value}{T:TypeId}(hb:BlkOk w ⟨b,cs,T,m⟩)(hs:∀(j:Nat) (v:Value),l[j]? =some v→cs[o+j]? =some v):Sees w b o l:=fun j v hj=>hb.cell (o:=o+j) (hs j v hj)
theorem scalar_modulus  :Mv 230 [] (fun _=>True) (agg (Af modW)):=by
 intro W hW;refine Ac func230 J 2 ntmps230 J (G2 ?_);refine .alloc (cs:=(Af (List.replicate 4 0))) J Zr238 J ?_;intro n0 hn0 hf0;refine G4 ?_;refine .build (cs:=Af modW) J J J (fun w=>by kernel_rfl) ?_;refine .sA J J J J zB Sz238 (by(simp[modW_length];done)) Z0 sP zU ?_;refine G2 ?_;refine G2 ?_;refine⟨_,[],As J J Y238.h J Sz238 Z0 (by simp[modW_length]),sP,sP,?_,rfl⟩;rfl
theorem scalar_doubled(w:List UInt64)(b:UInt64)(hw:w.length=4):Mv 322 [agg (Af w),u64 b] (fun _=>True) (agg (Af (dblW w b))):=by
 intro W hW;refine Ac func322 J 32 ntmps322 J (G3 ?_);intro n2 hn2 hf2;refine .alloc (cs:=(Af (List.replicate 4 0))) J Zr238 J ?_;intro n4 hn4 hf4;refine G4 ?_;refine .i1 J J J J Y238.h Sz45 0 J dE (G1 ?_);refine .shl_u64 J J J J 1 J dE (.i1 J J J J Y238.h Sz45 1 J dE (G1 ?_));refine .shr_u64 J J J J 63 J dE (G1 ?_);refine .i1 J J J J Y238.h Sz45 1 J dE (G1 ?_);refine .shl_u64 J J J J 1 J dE (.i1 J J J J Y238.h Sz45 2 J dE (G1 ?_));refine .shr_u64 J J J J 63 J dE (G1 ?_);refine .i1 J J J J Y238.h Sz45 2 J dE (G1 ?_);refine .shl_u64 J J J J 1 J dE (.i1 J J J J Y238.h Sz45 3 J dE (G1 ?_));refine .shr_u64 J J J J 63 J dE (G1 ?_);refine .i1 J J J J Y238.h Sz45 3 J dE (G1 ?_);refine .shl_u64 J J J J 1 J dE (G2 ?_);refine .build (cs:=Af (dblW w b)) J J J (fun w=>by kernel_rfl) ?_;refine .sA J J J J zB Sz238 (by(simp[dblW_length];done)) Z0 sP zU ?_;refine G2 ?_;refine G2 ?_;refine⟨_,[],As J J Y238.h J Sz238 Z0 (by simp[dblW_length]),sP,sP,?_,rfl⟩;rfl
theorem scalar_load(a:List UInt8)(ha:a.length=32):Mv 228 [agg (Aa a)] (fun _=>True) (agg (Af (ldW a 32))):=by
 intro W hW;refine Ac func228 J 24 ntmps228 J (G3 ?_);intro n1 hn1 hf1;refine .alloc (cs:=(Af (List.replicate 4 0))) J Zr238 J ?_;intro n2 hn2 hf2;refine G4 ?_;refine .alloc (cs:=(Af (List.replicate 4 0))) J Zr238 J ?_;intro n3 hn3 hf3;refine G9 ?_;refine .loop (ι:=Nat) (fun k=>⟨[(1,ptr n1 0),(2,ptr n2 0),(3,ptr n3 0),(5,i64 (k:Int))],[⟨n3,Af (ldW a k),238,4⟩,⟨n2,Af (List.replicate 4 0),238,4⟩,⟨n1,Aa a,207,(Aa a).length⟩]⟩) (fun k=>k≤32) (fun k=>32-k) (0) ?_ ?_ ?_
 ·omega
 ·exact Ad wN (wh1 Z0 (wh1 Z1 (wh1 Z2 wh0))) nD
 rintro k hi;have hlk:=ldW_length a k;refine G6 ?_;refine .condP J (fun hc0=>?_) (fun hc0=>?_)
 ·
  refine G10 ?_;refine .draw (oP [0,1,2,3,4,105,6,7,8,9,110,11,12,13,414]) Au zK (G1 ?_);refine .quo_i64 J J J J oM (G1 ?_);refine .quo_i64 J J J J oM (.i1 J J J J Y238.h Sz45 (k/8) oM oM (G1 ?_));refine .shl_u64 J J J J 8 J dE (G2 ?_);refine .i1 J J J J Y207.h Sz5 (31-k) oM oM (G3 ?_);refine .i1 J J J J Y238.h Sz45 (k/8) oM oM (.s1 J J J J J Sz45 Z0 (by(simp[ldW_length];omega)) (by exact Be _ _ _) zU ?_);refine G8 ?_;exact⟨k+1,by omega,by omega,Ad wN (wh1 Z0 (wh1 Z1 (wh1 Z2 wh0))) nD⟩
 obtain rfl:k=32:=by omega
 refine G7 ?_;refine .lA J J J Y238.h J Sz238 Z0 (by(simp[ldW_length];done)) ?_;refine .sA J J J J zB Sz238 (by(simp[ldW_length];done)) Z1 sP zV ?_;refine G2 ?_;refine G2 ?_;refine⟨_,[],As J J Y238.h J Sz238 Z1 (by simp[ldW_length]),sP,sP,?_,rfl⟩;rfl
theorem scalar_store(w:List UInt64)(hw:w.length=4):Mv 324 [agg (Af w)] (fun _=>True) (agg (Aa (stB w 32))):=by
 intro W hW;refine Ac func324 J 23 ntmps324 J (G3 ?_);intro n1 hn1 hf1;refine .alloc (cs:=(Aa (List.replicate 32 0))) J A8 J ?_;intro n2 hn2 hf2;refine G4 ?_;refine .alloc (cs:=(Aa (List.replicate 32 0))) J A8 J ?_;intro n3 hn3 hf3;refine G9 ?_;refine .loop (ι:=Nat) (fun k=>⟨[(1,ptr n1 0),(2,ptr n2 0),(3,ptr n3 0),(5,i64 (k:Int))],[⟨n3,Aa (stB w k),207,32⟩,⟨n2,Aa (List.replicate 32 0),207,32⟩,⟨n1,Af w,238,(Af w).length⟩]⟩) (fun k=>k≤32) (fun k=>32-k) (0) ?_ ?_ ?_
 ·omega
 ·exact Ad wN (wh1 Z0 (wh1 Z1 (wh1 Z2 wh0))) nD
 rintro k hi;have hlk:=stB_length w k;refine G6 ?_;refine .condP J (fun hc0=>?_) (fun hc0=>?_)
 ·
  refine G14 ?_;refine .quo_i64 J J J J oM (.i1 J J J J Y238.h Sz45 (k/8) oM oM (G2 ?_));refine .rem_i64 J J J J oM (.mul_i64 J J J J oM (G1 ?_));refine .shr_u64 J J J J (56-8*(k%8)) oM oM (G1 ?_);refine .i1 J J J J Y207.h Sz5 (31-k) oM oM (.s1 J J J J J Sz5 Z0 (by(simp[stB_length];omega)) (by exact Bi _ _ _) zU ?_);refine G8 ?_;exact⟨k+1,by omega,by omega,Ad wN (wh1 Z0 (wh1 Z1 (wh1 Z2 wh0))) nD⟩
 obtain rfl:k=32:=by omega
 refine G7 ?_;refine .lA J J J Y207.h J Sz207 Z0 (by(simp[stB_length];done)) ?_;refine .sA J J J J zB Sz207 (by(simp[stB_length];done)) Z1 sP zV ?_;refine G2 ?_;refine G2 ?_;refine⟨_,[],As J J Y207.h J Sz207 Z1 (by simp[stB_length]),sP,sP,?_,rfl⟩;rfl
theorem sub64_run(x y b:UInt64)(hb:b.toNat≤1)(w:World):(callFunc 328 [u64 x,u64 y,u64 b].toArray).run prog w= .ok (.value (.tuple #[u64 (w64 (x.toNat+2^64-y.toNat-b.toNat)),u64 (if x.toNat<y.toNat+b.toNat then 1 else 0)])) w:=by
  rw[run_callFunc_extern func328 zK zK zK (e:=sub64E) zK];have h:(sub64E [u64 x,u64 y,u64 b].toArray).run prog w= .ok (.tuple #[.int .u64 (((x.toNat+18446744073709551616-y.toNat-b.toNat)%18446744073709551616:Nat):Int), .int .u64 ((if x.toNat<y.toNat+b.toNat then 1 else 0:Nat):Int)]) w:=by
    have:b.toNat=0∨b.toNat=1:=by omega
    rcases this with h|h<;>simp only[u64,h]<;>rfl
  rw[h];simp only[Result.andThen,u64,Bp];congr 5;split<;>rfl
theorem add64_run(x y b:UInt64)(hb:b.toNat≤1)(w:World):(callFunc 327 [u64 x,u64 y,u64 b].toArray).run prog w= .ok (.value (.tuple #[u64 (w64 (x.toNat+y.toNat+b.toNat)),u64 (w64 ((x.toNat+y.toNat+b.toNat)/2^64))])) w:=by
  rw[run_callFunc_extern func327 zK zK zK (e:=add64Entry) zK];have hx:=x.toNat_lt;have hy:=y.toNat_lt;have h:=run_add64 (P:=prog) (x.toNat:Int) y.toNat b.toNat oM oM oM oM w;have e:[u64 x,u64 y,u64 b].toArray= #[.int .u64 x.toNat, .int .u64 y.toNat, .int .u64 b.toNat]:=rfl;have e1:((x.toNat:Int)+y.toNat+b.toNat)%18446744073709551616=((w64 (x.toNat+y.toNat+b.toNat)).toNat:Int):=by rw[Bp];omega
  have e2:((x.toNat:Int)+y.toNat+b.toNat)/18446744073709551616=((w64 ((x.toNat+y.toNat+b.toNat)/2^64)).toNat:Int):=by rw[Bp];omega
  rw[e,h,e1,e2];rfl
theorem isNaN_u64(x:UInt64):Mv 316 [u64 x] (fun _=>True) (.bool false):=by
 intro W hW;refine Ac func316 J 6 ntmps316 J (G9 ?_);refine .nei J J J J (show(!decide _)=false from congrArg not (decide_eq_true (rfl))) (G3 ?_);refine G2 ?_;refine⟨_,[],Ah J J,sP,sP,?_,rfl⟩;rfl
theorem cmp_u64(x y:UInt64):Mv 288 [u64 x,u64 y] (fun _=>True) (i64 (cmp1 x y)):=by
 intro W hW;refine Ac func288 J 20 ntmps288 J (G8 ?_);refine .cV J J J J Body316 (isNaN_u64 _) tV (G6 ?_);refine .cV J J J J Body316 (isNaN_u64 _) tV (G9 ?_);refine .cond_f J (rfl) (G8 ?_);refine .cond_f J (rfl) (G10 ?_);refine .condP J (fun hc3=>?_) (fun hc3=>?_)
 ·
  refine G5 ?_;refine G3 ?_;refine⟨_,[],Ah J J,sP,sP,?_,rfl⟩;unfold cmp1;rw[if_pos oM]
 refine G10 ?_;refine .condP J (fun hc4=>?_) (fun hc4=>?_)
 ·
  refine G5 ?_;refine G3 ?_;refine⟨_,[],Ah J J,sP,sP,?_,rfl⟩;unfold cmp1;rw[if_neg oM,if_pos oM]
 refine G7 ?_;refine G2 ?_;refine⟨_,[],Ah J J,sP,sP,?_,rfl⟩;unfold cmp1;rw[if_neg oM,if_neg oM]
theorem cmpFunc_u64(b1 o1 c1 b2 o2 c2 n:Nat)(xs ys:List UInt64)(hx:xs.length=n)(hy:ys.length=n)(hn:n≤1000000):Mv 287 [.slice (some ⟨b1,o1,none⟩) n c1, .slice (some ⟨b2,o2,none⟩) n c2, .func (.func 288) #[] #[]] (fun W=>Sees W b1 o1 (Af xs)∧Sees W b2 o2 (Af ys)) (i64 (cmpW xs ys)):=by
 intro W hW;refine Ac func287 J 39 ntmps287 J (G14 ?_);refine .loop (ι:=Nat) (fun k=>⟨[(0, .slice (some ⟨b1,o1,none⟩) n c1),(1, .slice (some ⟨b2,o2,none⟩) n c2),(2, .func (.func 288) #[] #[]),(11, .slice (some ⟨b1,o1,none⟩) n c1),(12,i64 (n:Int)),(13,i64 (k:Int))],[]⟩) (fun k=>k≤n∧∀j,j<k→xs.getD j 0=ys.getD j 0) (fun k=>n-k) (0) ?_ ?_ ?_
 ·exact⟨by omega,fun j hj=>by omega⟩
 ·exact Ad wN wh0 nD
 rintro k ⟨hk,hi⟩;refine G6 ?_;refine .condP J (fun hc0=>?_) (fun hc0=>?_)
 ·
  refine G7 ?_;refine .idxSlO J J J J Y291.h Sz45 _ J oM (.loadE J J J Y45.h J sP (hW.1 _ _ (get_words oM)) (G13 ?_));refine .cond_f J (by simp;omega) ?_;refine G6 ?_;refine .idxSlO J J J J Y291.h Sz45 _ J oM (.loadE J J J Y45.h J sP (hW.2 _ _ (get_words oM)) (G8 ?_));refine .cV J J J J Body288 (cmp_u64 _ _) tV (G9 ?_);refine .condNP J (fun hc2=>?_) (fun hc2=>?_)
  ·
   refine G6 ?_;refine G7 ?_;refine⟨_,[],Ah J J,sP,sP,?_,rfl⟩;exact congrArg i64 (cmpW_at _ _ _ hi oM oM hc2).symm
  refine G8 ?_;exact⟨k+1,⟨by omega,fun j hj=>if h:j<k then hi j h else(show j=k by omega)▸cmp1_eq hc2⟩,by omega,Ad wN wh0 nD⟩
 obtain rfl:k=n:=by omega
 refine G15 ?_;refine .cond_f J sP (G7 ?_);refine G2 ?_;refine⟨_,[],Ah J J,sP,sP,?_,rfl⟩;exact congrArg i64 (cmpW_all _ _ oM (by rw[hx];exact hi)).symm
theorem scalar_below(w m:List UInt64)(hw:w.length=4)(hm:m.length=4):Mv 229 [agg (Af w),agg (Af m)] (fun _=>True) (.bool (decide (wv w<wv m))):=by
 intro W hW;refine Ac func229 J 9 ntmps229 J (G3 ?_);intro n2 hn2 hf2;refine G1 ?_;intro n3 hn3 hf3;refine G4 ?_;refine .draw (oP [0,1,302,3,4]) Au zK (G2 ?_);refine .cV J J J J Body287 (cmpFunc_u64 _ _ _ _ _ _ 4 w m hw hm oM) (fun W h=>⟨Ap h Z1,Ap h Z0⟩) ?_;refine G4 ?_;refine G2 ?_;refine⟨_,[],Ah J J,sP,sP,?_,rfl⟩;exact congrArg Value.bool (by simp only[cmpW_lt hw hm])
theorem scalar_minus(w m:List UInt64)(hw:w.length=4)(hm:m.length=4):Mv 323 [agg (Af w),agg (Af m)] (fun _=>True) (agg (Af (mnsW w m 4).1)):=by
 intro W hW;refine Ac func323 J 25 ntmps323 J (G3 ?_);intro n2 hn2 hf2;refine G1 ?_;intro n3 hn3 hf3;refine .alloc (cs:=(Af (List.replicate 4 0))) J Zr238 J ?_;intro n4 hn4 hf4;refine G4 ?_;refine .a J J (show Ag _ _=some (u64 0)from rfl) (G9 ?_);refine .loop (ι:=Nat) (fun k=>⟨[(2,ptr n2 0),(3,ptr n3 0),(4,ptr n4 0),(5,u64 (mnsW w m k).2),(6,i64 (3-(k:Int)))],[⟨n4,Af (List.replicate 4 0),238,4⟩,⟨n3,Af m,238,(Af m).length⟩,⟨n2,Af (mnsW w m k).1,238,(Af w).length⟩]⟩) (fun k=>k≤4) (fun k=>4-k) (0) ?_ ?_ ?_
 ·omega
 ·exact Ad wN (wh1 Z0 (wh1 Z1 (wh1 Z2 wh0))) nD
 rintro k hi;have hl:=mnsW_length w m k;refine G7 ?_;refine .condP J (fun hc0=>?_) (fun hc0=>?_)
 ·
  have hk4:k<4:=by omega
  refine G4 ?_;refine .draw (oP [0,1,2,103,4,5,106,7,8,9,10,11,12,413,14]) Au zK (G2 ?_);refine .i1 J J J J Y238.h Sz45 (3-k) oM oM (G2 ?_);refine .i1 J J J J Y238.h Sz45 (3-k) oM oM (G2 ?_);refine .ext J J J J (sub64_run _ _ _ (mnsW_borrow w m k)) (G3 ?_);refine .i1 J J J J Y238.h Sz45 (3-k) oM oM (.s1 J J J J J Sz45 Z2 (by(simp[mnsW_length,hw];omega)) (by exact Be _ _ _) (by exact upd2) ?_);refine G10 ?_;exact⟨k+1,by omega,by omega,Ad (wk1 rfl (wk1 rfl (wk1 rfl (wk1 rfl (wk1 (by rw[show(3-((k+1:Nat):Int))=3-(k:Int)-1 by omega];rfl) wk0))))) (wh1 Z0 (wh1 Z1 (wh1 Z2 wh0))) nD⟩
 obtain rfl:k=4:=by omega
 refine G7 ?_;refine .lA J J J Y238.h J Sz238 Z2 (by(simp[mnsW_length,hw];done)) ?_;refine .sA J J J J zB Sz238 (by(simp[mnsW_length,hw];done)) Z0 sP zU ?_;refine G2 ?_;refine G2 ?_;refine⟨_,[],As J J Y238.h J Sz238 Z0 (by simp[mnsW_length,hw]),sP,sP,?_,rfl⟩;rfl
theorem mul64_ok(x y:UInt64):Mv 277 [u64 x,u64 y] (fun _=>True) (.tuple #[u64 (mulHi x y),u64 (x*y)]):=by
 intro W hW;refine Ac func277 J 51 ntmps277 J (G2 ?_);refine .a J J (show Ag _ _=some (u64 0)from rfl) (.a J J (show Ag _ _=some (u64 0)from rfl) (G5 ?_));refine .and_u64 J J J (show Ag _ _=some (u64 4294967295)from rfl) (G6 ?_);refine .shr_u64 J J J J 32 J dE (G6 ?_);refine .and_u64 J J J (show Ag _ _=some (u64 4294967295)from rfl) (G6 ?_);refine .shr_u64 J J J J 32 J dE (G17 ?_);refine .shr_u64 J J J J 32 J dE (G7 ?_);refine .and_u64 J J J (show Ag _ _=some (u64 4294967295)from rfl) (G6 ?_);refine .shr_u64 J J J J 32 J dE (G21 ?_);refine .shr_u64 J J J J 32 J dE (G12 ?_);refine G2 ?_;refine⟨_,[],B6 J J J,sP,sP,?_,rfl⟩;rfl
theorem scalar_load_n(a:List UInt8)(ha:a.length=32):Mv 228 [agg (Aa a)] (fun _=>True) (agg (Af (Bt (le a)))):=by
  rw[←ldW_eq ha];exact scalar_load a ha
theorem scalar_store_n(n:Nat):Mv 324 [agg (Af (Bt n))] (fun _=>True) (agg (Aa (leb 32 n))):=by
  rw[←stB_eq n];exact scalar_store (Bt n) rfl
theorem scalar_modulus_n:Mv 230 [] (fun _=>True) (agg (Af (Bt L))):=by
  rw[←modW_eq];exact scalar_modulus
theorem scalar_doubled_n(n:Nat)(b:UInt64)(hb:b.toNat≤1):Mv 322 [agg (Af (Bt n)),u64 b] (fun _=>True) (agg (Af (Bt (2*n+b.toNat)))):=by
  rw[←dblW_eq n b hb];exact scalar_doubled (Bt n) b rfl
theorem scalar_below_n(n m:Nat)(hn:n<2^256)(hm:m<2^256):Mv 229 [agg (Af (Bt n)),agg (Af (Bt m))] (fun _=>True) (.bool (decide (n<m))):=by
  have:=scalar_below (Bt n) (Bt m) rfl rfl;rw[wv_words4,wv_words4,Laf hn,Laf hm]at this;exact this
theorem scalar_minus_n(n m:Nat)(hn:n<2^256)(hm:m≤n):Mv 323 [agg (Af (Bt n)),agg (Af (Bt m))] (fun _=>True) (agg (Af (Bt (n-m)))):=by
  have:=scalar_minus (Bt n) (Bt m) rfl rfl;rw[mnsW_eq rfl rfl,wv_words4,wv_words4,Laf hn,Laf (Lew hm hn)]at this;have e:Bt (n+2^256-m)=Bt (n-m):=by rw[←words4_mod,show(n+2^256-m)%2^256=(n-m)%2^256 by omega,words4_mod]
  rw[←e,←words4_mod n,Laf hn];exact this
theorem bit_le(x:UInt64)(n:Nat):(Av x n&&&1).toNat=x.toNat/2^n%2:=by
  rw[Lfb,A7];exact Lci _ 1
theorem words4_start(xs:List UInt64):Bt (wv (List.take 0 xs)%L)=List.replicate 4 0:=by
  rw[Le7];decide
theorem res_bd(m:Nat)(x:UInt64)(n:Nat)(h:m<L):2*m+(Av x n&&&1).toNat<2^256:=by
  have hL:L<2^254:=by decide
  rw[bit_le];omega
theorem scalar_residue(b o c n:Nat)(xs:List UInt64)(hx:xs.length=n)(hn:n≤1000000):Mv 299 [.slice (some ⟨b,o,none⟩) n c] (fun W=>Sees W b o (Af xs)) (agg (Aa (leb 32 (wv xs%L)))):=by
 intro W hW;have hL:L<2^256:=by decide
 refine Ac func299 J 35 ntmps299 J (G2 ?_);refine .alloc (cs:=(Aa (List.replicate 32 0))) J A8 J ?_;intro n2 hn2 hf2;refine G4 ?_;refine .alloc (cs:=(Af (List.replicate 4 0))) J Zr238 J ?_;intro n3 hn3 hf3;refine G4 ?_;refine .cV J J J J Body230 (scalar_modulus_n) tV (.alloc (cs:=(Af (List.replicate 4 0))) J Zr238 J ?_);intro n4 hn4 hf4;refine .sA J J J J zB Sz238 (by(simp[Cs];done)) Z0 sP zU ?_;refine G11 ?_;refine .loop (ι:=Nat) (fun k=>⟨[(2,ptr n2 0),(3,ptr n3 0),(4,ptr n4 0),(9, .slice (some ⟨b,o,none⟩) n c),(10,i64 (n:Int)),(11,i64 (k:Int))],[⟨n4,Af (Bt L),238,4⟩,⟨n3,Af (Bt (wv (xs.take k)%L)),238,4⟩,⟨n2,Aa (List.replicate 32 0),207,32⟩]⟩) (fun k=>k≤n) (fun k=>n-k) (0) ?_ ?_ ?_
 ·omega
 ·exact Ad wN (wh1 Z0 (wh1 (by rw[words4_start];exact mem1) (wh1 Z2 wh0))) nD
 rintro k hi;refine G6 ?_;refine .condP J (fun hc0=>?_) (fun hc0=>?_)
 ·
  refine G6 ?_;refine .idxSlO J J J J Y291.h Sz45 _ J oM (.loadE J J J Y45.h J sP (hW _ _ (get_words oM)) (G9 ?_));refine .loop (ι:=Nat) (fun t=>⟨[(2,ptr n2 0),(3,ptr n3 0),(4,ptr n4 0),(6,u64 (xs.getD k 0)),(7,i64 (63-(t:Int))),(9, .slice (some ⟨b,o,none⟩) n c),(10,i64 (n:Int)),(11,i64 (k:Int))],[⟨n4,Af (Bt L),238,4⟩,⟨n3,Af (Bt ((wv (xs.take k)*2^(t)+(xs.getD k 0).toNat/2^(64-(t)))%L)),238,4⟩,⟨n2,Aa (List.replicate 32 0),207,32⟩]⟩) (fun t=>t≤64) (fun t=>64-t) (0) ?_ ?_ ?_
  ·omega
  ·exact Ad wN (wh1 Z0 (wh1 (by rw[Ldg,Lb5,Lbb (Ley _),Lbu];exact mem1) (wh1 Z2 wh0))) nD
  rintro t hi;refine G7 ?_;refine .condP J (fun hc1=>?_) (fun hc1=>?_)
  ·
   have ht:t<64:=by omega
   have hmL:(wv (xs.take k)*2^t+(xs.getD k 0).toNat/2^(64-t))%L<L:=Lbo _ dE;refine G2 ?_;refine .join (ι:=Unit) (fun _u=>⟨[(2,ptr n2 0),(3,ptr n3 0),(4,ptr n4 0),(6,u64 (xs.getD k 0)),(7,i64 (63-(t:Int))),(9, .slice (some ⟨b,o,none⟩) n c),(10,i64 (n:Int)),(11,i64 (k:Int))],[⟨n4,Af (Bt L),238,4⟩,⟨n3,Af (Bt ((wv (xs.take k)*2^(t+1)+(xs.getD k 0).toNat/2^(64-(t+1)))%L)),238,4⟩,⟨n2,Aa (List.replicate 32 0),207,32⟩]⟩) (fun _u=>True) ?_ ?_
   ·
    refine G2 ?_;refine .draw (oP [100,1,2,3,4,305,406]) Au zK (.lA J J J Y238.h J Sz238 Z1 (by(simp[Cs];done)) ?_);refine G2 ?_;refine .shr_u64 J J J J (63-t) oM oM (.and_u64 J J J (show Ag _ _=some (u64 1)from rfl) (.cV J J J J Body322 (scalar_doubled_n _ _ (by rw[bit_le];omega)) tV ?_));refine .sA J J J J zB Sz238 (by(simp[Cs];done)) Z1 (by(simp[Cs];done)) zV ?_;refine G4 ?_;refine .lA J J J Y238.h J Sz238 Z1 (by(simp[Cs];done)) ?_;refine .lA J J J Y238.h J Sz238 Z0 (by(simp[Cs];done)) ?_;refine .cV J J J J Body229 (scalar_below_n _ _ (res_bd _ _ _ hmL) hL) tV (G3 ?_);refine .condNP J (fun hc2=>?_) (fun hc2=>?_)
    ·
     refine .region (.lA J J J Y238.h J Sz238 Z1 (by(simp[Cs];done)) ?_);refine .lA J J J Y238.h J Sz238 Z0 (by(simp[Cs];done)) ?_;refine .cV J J J J Body323 (scalar_minus_n _ _ (res_bd _ _ _ hmL) (Nat.le_of_not_lt hc2)) tV (.sA J J J J zB Sz238 (by(simp[Cs];done)) Z1 (by(simp[Cs];done)) zV ?_);refine G3 ?_;have hst:=res_step (wv (xs.take k)) (xs.getD k 0).toNat t (Ley _) ht;simp only[]at hst;refine⟨(),trivial,Ad wN (wh1 Z0 (wh1 (by rw[show 64-(t+1)=63-t by omega,←hst,←bit_le];simp only[hc2,if_true,if_false];exact mem1) (wh1 Z2 wh0))) nD⟩
    refine G3 ?_;have hst:=res_step (wv (xs.take k)) (xs.getD k 0).toNat t (Ley _) ht;simp only[]at hst;refine⟨(),trivial,Ad wN (wh1 Z0 (wh1 (by rw[show 64-(t+1)=63-t by omega,←hst,←bit_le];simp only[hc2,if_true,if_false];exact mem1) (wh1 Z2 wh0))) nD⟩
   intro _u hj;skip;refine G6 ?_;exact⟨t+1,by omega,by omega,Ad (wk1 rfl (wk1 rfl (wk1 rfl (wk1 rfl (wk1 (by rw[show(63-((t+1:Nat):Int))=63-(t:Int)-1 by omega];rfl) wN))))) (wh1 Z0 (wh1 Z1 (wh1 Z2 wh0))) nD⟩
  obtain rfl:t=64:=by omega
  refine G11 ?_;exact⟨k+1,by omega,by omega,Ad wN (wh1 Z0 (wh1 (by rw[wv_take_succ xs k oM,show(64-64:Nat)=0 from rfl,Ldg,Lel];exact mem1) (wh1 Z2 wh0))) nD⟩
 obtain rfl:k=n:=by omega
 refine G7 ?_;refine .lA J J J Y238.h J Sz238 Z1 (by(simp[Cs];done)) ?_;refine .cV J J J J Body324 (scalar_store_n _) tV (.sA J J J J zB Sz207 (by(simp[Ai];done)) Z2 sP (by exact upd2) ?_);refine G2 ?_;refine G2 ?_;refine⟨_,[],As J J Y207.h J Sz207 Z2 (by simp[Ai]),sP,sP,?_,rfl⟩;rw[La5 oM]
end Go.Proofs.YtpogmfngccolbaaGreat
end
