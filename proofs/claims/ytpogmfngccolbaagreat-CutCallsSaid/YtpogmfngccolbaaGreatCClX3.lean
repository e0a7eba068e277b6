/- Contracts of functions of the loaded program, and the lemmas that they need (part 3). It proves no statement by itself; it has no conditions. -/
import Derived.WalkKit
import Derived.Orders
import Derived.Deep.LoopGhost
import Derived.IntWalk
import Derived.Laws.StructEq
import Derived.ArgAppend
import Derived.Deep.AppendSrc
import Derived.Lib.Bytealg
import Derived.Lib.BytesEntry
import Derived.Laws.IdiomStrings
import Derived.WideKeyArr2
import Derived.ProofKit
import Derived.OpenShut
import Derived.Deep.Slices
import Derived.Laws.Pointers
import Derived.Laws.Cover3
import Derived.LaidEqlPtr
import Derived.LoopN
import Derived.RangeFuncLeaves
import Derived.RangeFuncSeq
import Derived.OrdersIn
import Derived.Maps.Keyed
import Derived.Maps.RangeRun
import Derived.DeepKeys4
import Derived.Below
import Derived.Test.YtpogmfngccolbaaGreatRows
import Derived.KernelRfl
import Derived.Laws.Externs
import Derived.Defers
import Derived.Laws.MathBits
import Derived.Shelf.SlSortCmp.WholeK
import Derived.Shelf.SlGeneric
import Derived.Test.YtpogmfngccolbaaGreatProg
import Derived.Shelf.SlSortCmp.NoneTotal
import Derived.Deep.QuietTactic
import Derived.BigQuiet
import Derived.ScopeJumps
import Derived.DeepKeys3
import Derived.ChangeOld
import Derived.JoinedOf
import Derived.Test.YtpogmfngccolbaaGreatCClX2
set_option maxRecDepth 100000
set_option maxHeartbeats 8000000
set_option linter.unusedVariables false
set_option linter.unusedSimpArgs false
set_option linter.unusedSectionVars false
set_option linter.unnecessarySimpa false
section
namespace Hw
open Go
def padW(N n k:Nat):List UInt8:=leb k n++List.replicate (N-k) 0
variable{a b:List UInt8}{i:Nat}
theorem padW_length(N n k:Nat)(h:k≤N):(padW N n k).length=N:=by simp[padW,Ak];omega
theorem padW_zero(N n:Nat):padW N n 0=List.replicate N 0:=by simp[padW,leb]
theorem padW_all(N n:Nat):padW N n N=leb N n:=by simp[padW]
theorem leb_getD(k n i:Nat)(h:i<k):(leb k n).getD i 0=UInt8.ofNat (n/256^i):=by
  rw[La2,leb_get k n i h];rfl
theorem ofNat8{m n:Nat}(h:m%256=n%256):UInt8.ofNat m=UInt8.ofNat n:=by
  apply Lce.1;rw[Lb1,Lb1];exact h
theorem byte_low(A m k i:Nat)(h:i<k):(A+256^k*m)/256^i%256=A/256^i%256:=by
  have e:256^k*m=256^i*(256*(256^(k-i-1)*m)):=by
    rw[←Lbo,←Lbo,←Lb8,←Lbd];congr 2;omega
  rw[e,Lbp _ _ (Lbe dE),Lbm]
theorem leb_low(A m k:Nat):leb k (A+256^k*m)=leb k A:=by
  apply Lcs;intro i;rcases Lax i k with h|h
  · rw[leb_get _ _ i h,leb_get _ _ i h]
    congr 1;exact ofNat8 (byte_low A m k i h)
  ·rw[Laq (by rw[Ak];exact h),Laq (by rw[Ak];exact h)]
theorem leb_succ'(k n:Nat):leb (k+1) n=leb k n++[UInt8.ofNat (n/256^k)]:=by
  apply Lcs;intro i;rcases Nat.lt_trichotomy i k with h|h|h
  ·rw[leb_get _ _ i oM,Lau (by rw[Ak];exact h),leb_get _ _ i h]
  · subst h
    rw[leb_get _ _ i oM,Law (by rw[Ak];omega),Ak,Lew];rfl
  ·rw[Laq (by rw[Ak];omega),Laq (by simp[Ak];omega)]
theorem byteOf_mod(s:Int):byteOf (s%256)=byteOf s:=by simp[byteOf]
theorem byteOf_nat(n:Nat):byteOf (n:Int)=UInt8.ofNat n:=by
  apply ofNat8;omega
theorem set_end{α:Type}(l:List α)(x y:α)(r:List α)(k:Nat)(h:l.length=k):(l++x::r).set k y=l++[y]++r:=by
  subst h;simp
theorem padW_step(N A m k:Nat)(hk:k<N)(s:Int)(hs:s=((A/256^k+m:Nat):Int)):
    (padW N A k).set k (byteOf s)=padW N (A+256^k*m) (k+1):=by
  subst hs;have e:List.replicate (N-k) (0:UInt8)=0::List.replicate (N-(k+1)) 0:=by
    rw[show N-k=(N-(k+1))+1 by omega];rfl
  rw[padW,e,set_end _ _ _ _ _ (Ak k A),padW,leb_succ',leb_low,Lbp _ _ (Lbe dE),byteOf_nat]
theorem carry_step(A m k:Nat)(s:Int)(hs:s=((A/256^k+m:Nat):Int)):s/256=(((A+256^k*m)/256^(k+1):Nat):Int):=by
  subst hs;rw[Lb8,←Lav,Lbp _ _ (Lbe dE)];omega
theorem le_lt_at(ha:a.length=32)(hb:b.length=32)(hi:i<32)(hd:a.drop (i+1)=b.drop (i+1))(hne:(a.getD i 0).toNat≠(b.getD i 0).toNat):
    ((a.getD i 0).toNat<(b.getD i 0).toNat)↔le a<le b:=by
  have h1:=le_take_drop a (i+1) oM;have h2:=le_take_drop b (i+1) oM;rw[le_take_succ a i oM]at h1;rw[le_take_succ b i oM,←hd]at h2;have l1:=le_take_lt a i;have l2:=le_take_lt b i;generalize 256^(i+1)*le (a.drop (i+1))=X at h1 h2;generalize hP:256^i=P at h1 h2 l1 l2;generalize(a.getD i 0).toNat=x at*;generalize(b.getD i 0).toNat=y at*;rw[h1,h2];constructor
  · intro h
    have:P*(x+1)≤P*y:=Lbu _ h;rw[Lc9,Lb4]at this;omega
  · intro h
    apply Nat.lt_of_not_le;intro h';have:P*(y+1)≤P*x:=Lbu _ oM;rw[Lc9,Lb4]at this;omega
theorem drop_step(ha:a.length=32)(hb:b.length=32)(hi:i<32)(hd:a.drop (i+1)=b.drop (i+1))(he:(a.getD i 0).toNat=(b.getD i 0).toNat):a.drop i=b.drop i:=by
  rw[Lbx oM,Lbx (l:=b) oM,hd];congr 1;have:=Lce.1 he;rw[La2,La2,La3 oM,La3 oM]at this;exact this
def bor(D m k:Nat):Nat:=(D%256^k+m%256^k)/256^k
theorem bor_zero(D m:Nat):bor D m 0=0:=by simp[bor,Ley]
theorem mod_succ256(n k:Nat):n%256^(k+1)=n%256^k+256^k*(n/256^k%256):=by
  rw[Lb8,Lg8]
theorem bor_step(D m k:Nat):bor D m (k+1)=(D/256^k%256+m/256^k%256+bor D m k)/256:=by
  unfold bor;rw[mod_succ256,mod_succ256,Lb8,←Lav];have e:D%256^k+256^k*(D/256^k%256)+(m%256^k+256^k*(m/256^k%256))=(D%256^k+m%256^k)+256^k*(D/256^k%256+m/256^k%256):=by
    rw[Lc9];omega
  rw[e,Lbp _ _ (Lbe dE),Ldt (_/_)]
theorem bor_le(D m k:Nat):bor D m k≤1:=by
  unfold bor;have h1:D%256^k<256^k:=Lbs _ (Lbe dE);have h2:m%256^k<256^k:=Lbs _ (Lbe dE);rw[←Nat.lt_succ_iff,Ld4 (Lbe dE)];omega
theorem sum_byte(D m k:Nat):(D+m)/256^k%256=(D/256^k%256+m/256^k%256+bor D m k)%256:=by
  have e:D+m=(D%256^k+m%256^k)+256^k*(D/256^k+m/256^k):=by
    have h1:=Lez D (256^k);have h2:=Lez m (256^k);rw[Lc9];omega
  rw[e,Lbp _ _ (Lbe dE)];change(bor D m k+_)%256=_;omega
def subB(D m k:Nat):List UInt8:=leb k D++(leb 32 (D+m)).drop k
theorem subB_length(D m k:Nat)(h:k≤32):(subB D m k).length=32:=by simp[subB,Ak];omega
theorem subB_zero(D m:Nat):subB D m 0=leb 32 (D+m):=by simp[subB,leb]
theorem subB_all(D m:Nat):subB D m 32=leb 32 D:=by simp[subB,Ak]
theorem subB_get(D m k:Nat)(h:k<32):(subB D m k).getD k 0=UInt8.ofNat ((D+m)/256^k):=by
  rw[La2,subB,Law (by rw[Ak];omega),Ak,Lew,Lba,Lbt,leb_get _ _ _ h];rfl
theorem subB_step(D m k:Nat)(h:k<32)(d:Int)(hd:d=(((D+m)/256^k%256:Nat):Int)-((m/256^k%256:Nat):Int)+ -((bor D m k:Nat):Int)):
    (subB D m k).set k (byteOf (d+256))=subB D m (k+1):=by
  have e:(leb 32 (D+m)).drop k=UInt8.ofNat ((D+m)/256^k)::(leb 32 (D+m)).drop (k+1):=by
    rw[Lbx (by rw[Ak];omega)];congr 1;have:=leb_get 32 (D+m) k h;rw[La3 (by rw[Ak];omega)]at this;exact Lfm this
  rw[subB,e,set_end _ _ _ _ _ (Ak k D),subB,leb_succ' k D];congr 2;have hb:=sum_byte D m k;have hle:=bor_le D m k;generalize bor D m k=c at*;generalize(D+m)/256^k%256=x at*;have hm:m/256^k%256<256:=Lbs _ dE;generalize m/256^k%256=y at*;rw[show UInt8.ofNat (D/256^k)=UInt8.ofNat (D/256^k%256)from ofNat8 oM];have hz:D/256^k%256<256:=Lbs _ dE;generalize D/256^k%256=z at*;congr 1;apply ofNat8;subst hd;omega
theorem bor_next(D m k:Nat)(d:Int)(hd:d=(((D+m)/256^k%256:Nat):Int)-((m/256^k%256:Nat):Int)+ -((bor D m k:Nat):Int)):
    (d<0→bor D m (k+1)=1)∧(¬d<0→bor D m (k+1)=0):=by
  rw[bor_step];have hb:=sum_byte D m k;have hle:=bor_le D m k;generalize bor D m k=c at*;generalize(D+m)/256^k%256=x at*;have hm:m/256^k%256<256:=Lbs _ dE;generalize m/256^k%256=y at*;have hz:D/256^k%256<256:=Lbs _ dE;generalize D/256^k%256=z at*;subst hd;omega
theorem ofNat8_toNat(n:Nat):(UInt8.ofNat n).toNat=n%256:=by rw[Lb1]
theorem Cg(n:Int)(h:0≤n∧n<18446744073709551616):((B5 n).toNat:Int)=n:=by
  rw[B5,Laz];omega
theorem zero_set(n:UInt64)(k:Nat)(hk:k<8):(padW 32 n.toNat k).set k (Ar n (8*k)).toUInt8=padW 32 n.toNat (k+1):=by
  have e:List.replicate (32-k) (0:UInt8)=0::List.replicate (32-(k+1)) 0:=by
    rw[show 32-k=(32-(k+1))+1 by omega];rfl
  rw[padW,e,set_end _ _ _ _ _ (Ak k _),padW,leb_succ'];congr 3;apply Lce.1;rw[Lfa,A7,Lb1,pow256]
theorem pad_small(n:UInt64):padW 32 n.toNat 8=leb 32 n.toNat:=by
  have h:=n.toNat_lt;apply Lcs;intro i;rw[padW];rcases Lax i 8 with hi|hi
  ·rw[Lau (by rw[Ak];exact hi),leb_get _ _ _ hi,leb_get _ _ _ oM]
  · rw[Law (by rw[Ak];exact hi),Ak]
    rcases Lax i 32 with h2|h2
    · rw[leb_get _ _ _ h2,Lel,if_pos oM,Lb0];rfl
      refine Lbi h ?_;rw[pow256];exact Lbv dE oM
    ·rw[Lel,if_neg oM,Laq (by rw[Ak];exact h2)]
theorem div_bit(n j:Nat):n/2^j=2*(n/2^(j+1))+(if n.testBit j then 1 else 0):=by
  rw[Lb8,←Lav,Lc7];by_cases h:n/2^j%2=1
  ·rw[if_pos (decide_eq_true h)];omega
  ·rw[if_neg (by simpa using h)];omega
theorem le_one':le ((List.replicate 32 0).set 0 1)=1:=by decide
theorem dbl_mod(m:Nat):(m%L+m%L)%L=(2*m)%L:=by
  rw[←Lek,Lgn]
theorem dbl_mod1(m:Nat):((m%L+m%L)%L+1)%L=(2*m+1)%L:=by
  rw[←Lek,Nat.mod_add_mod,Lgn]
theorem le_zero_div(xs:List UInt8)(n:Nat)(h:xs.length=n):le xs/2^(8*n)=0:=by
  apply Lb0;rw[←pow256,←h];exact le_lt xs
theorem leb_zero32:leb 32 0=List.replicate 32 0:=by decide
theorem zero_modL:0%L=0:=Nat.zero_mod L
theorem mod_bit(n k:Nat):n%2^(k+1)=n%2^k+(if n.testBit k then 2^k else 0):=by
  rw[Lb8,Lg8,Lc7];by_cases h:n/2^k%2=1
  ·rw[if_pos (decide_eq_true h),h,Lb4]
  ·rw[if_neg (by simpa using h),show n/2^k%2=0 by omega,Lfj]
end Hw
namespace Ed
open Hw Go
def BB:Nat:=115792089237316195423570985008687907853269984665640564039457584007913129639936
def pk(x y z t:Nat):Nat:=(x+BB*(y+BB*(z+BB*t)))+1
def ux(s:Nat):Nat:=(s-1)%BB
def uy(s:Nat):Nat:=(s-1)/BB%BB
def uz(s:Nat):Nat:=(s-1)/BB/BB%BB
def ut(s:Nat):Nat:=(s-1)/BB/BB/BB
def wdN(s:Nat):Wd Fp:=⟨fe (ux s),fe (uy s),fe (uz s),fe (ut s)⟩
def subN(a b:Nat):Nat:=(a+(PF-b%PF))%PF
def finN(e f g h:Nat):Nat:=pk (e*f%PF) (g*h%PF) (f*g%PF) (e*h%PF)
def dblN(s:Nat):Nat:=
  finN (subN (ux s*ux s+uy s*uy s) ((ux s+uy s)*(ux s+uy s))) ((uz s*uz s+uz s*uz s+subN (ux s*ux s) (uy s*uy s))%PF) (subN (ux s*ux s) (uy s*uy s)) ((ux s*ux s+uy s*uy s)%PF)
def twoDN:Nat:=2*fD.val
def addN(s p:Nat):Nat:=
  finN (subN ((uy s+ux s)*(uy p+ux p)) (subN (uy s) (ux s)*subN (uy p) (ux p))) (subN (uz s*uz p+uz s*uz p) (ut s*twoDN%PF*ut p)) ((uz s*uz p+uz s*uz p+ut s*twoDN%PF*ut p)%PF) (((uy s+ux s)*(uy p+ux p)+subN (uy s) (ux s)*subN (uy p) (ux p))%PF)
variable{a x y:Fp}{n:Nat}
theorem fe_neg(n:Nat):fe (PF-n%PF)= -fe n:=by
  have h:fe (PF-n%PF)+fe n=0:=by
    rw[←fe_add];refine Lfh ?_;rw[fe_val];show _=0;have h1:n%PF<PF:=Lbs _ dE;have e:(PF-n%PF+n)=PF*(n/PF+1):=by
      have:=Lez n PF;rw[Lc9,Lb4];generalize PF*(n/PF)=q at*;omega
    rw[e,Nat.mul_mod_right]
  grind
theorem fe_subN(a b:Nat):fe (subN a b)=fe a-fe b:=by
  rw[subN,fe_mod,fe_add,fe_neg];grind
theorem pk_lt(e:Nat):e%PF<BB:=Ld9 (Lbs _ dE) dE
theorem wd_pk(x y z t:Nat)(hx:x<BB)(hy:y<BB)(hz:z<BB):wdN (pk x y z t)=⟨fe x,fe y,fe z,fe t⟩:=by
  have e1:ux (pk x y z t)=x:=by
    rw[ux,pk,Lge,Lbm,Lab hx]
  have d1:(pk x y z t-1)/BB=y+BB*(z+BB*t):=by
    rw[pk,Lge,Lbp _ _ dE,Lb0 hx,Las]
  have d2:(pk x y z t-1)/BB/BB=z+BB*t:=by
    rw[d1,Lbp _ _ dE,Lb0 hy,Las]
  have e2:uy (pk x y z t)=y:=by rw[uy,d1,Lbm,Lab hy]
  have e3:uz (pk x y z t)=z:=by rw[uz,d2,Lbm,Lab hz]
  have e4:ut (pk x y z t)=t:=by rw[ut,d2,Lbp _ _ dE,Lb0 hz,Las]
  rw[wdN,e1,e2,e3,e4]
theorem wd_fin(e f g h:Nat):wdN (finN e f g h)=Wd.fin (fe e) (fe f) (fe g) (fe h):=by
  rw[finN,wd_pk _ _ _ _ (pk_lt _) (pk_lt _) (pk_lt _)];simp only[Wd.fin,fe_mod,fe_mul]
theorem wd_dbl(s:Nat):wdN (dblN s)=Wd.dbl (wdN s):=by
  rw[dblN,wd_fin];simp only[Wd.dbl,wdN,fe_subN,fe_mod,fe_add,fe_mul]
theorem fe_twoD:fe twoDN=fD+fD:=by
  rw[twoDN,Lgn,fe_add,fe_of]
theorem wd_add(s p:Nat):wdN (addN s p)=Wd.add fD (wdN s) (wdN p):=by
  rw[addN,wd_fin];simp only[Wd.add,wdN,fe_subN,fe_mod,fe_add,fe_mul,fe_twoD]
def force(s:Nat)(f:Nat→Nat):Nat:=Nat.casesOn (motive:=fun _=>Nat) s (f 0) (fun m=>f (m+1))
theorem force_eq(s:Nat)(f:Nat→Nat):force s f=f s:=by cases s<;>rfl
def stepN(p:Nat)(s:Nat)(b:Bool):Nat:=force s fun s=>bif b then addN (dblN s) p else dblN s
def loopN(p:Nat)(bs:List Bool)(s:Nat):Nat:=bs.foldl (stepN p) s
theorem stepN_t(p s:Nat):stepN p s true=addN (dblN s) p:=by rw[stepN,force_eq];rfl
theorem stepN_f(p s:Nat):stepN p s false=dblN s:=by rw[stepN,force_eq];rfl
theorem loopN_eq(p:Nat)(bs:List Bool):∀s:Nat,wdN (loopN p bs s)=mulW fD (wdN p) bs (wdN s):=by
  induction bs with
  |nil=>intro s;rfl
  | cons b bs ih=>
    intro s;rw[loopN,Lf1,←loopN,ih];cases b
    ·rw[stepN_f,wd_dbl,mulW_f]
    ·rw[stepN_t,wd_add,wd_dbl,mulW_t]
def bN:Nat:=pk bP.x.val bP.y.val 1 (bP.x*bP.y).val
theorem bN_wd:wdN bN=Wd.of bP:=by
  rw[bN,wd_pk _ _ _ _ (Ld9 bP.x.isLt dE) (Ld9 bP.y.isLt dE) dE,fe_of,fe_of,fe_of];rfl
def zN:Nat:=pk 0 1 1 0
theorem zN_wd:wdN zN=Wd.of zero:=by
  rw[zN,wd_pk _ _ _ _ dE dE dE];have e:(Wd.of zero:Wd Fp)=⟨0,1,1,0*1⟩:=rfl;rw[e];have h:(0:Fp)*1=0:=by kernel_rfl
  rw[h];rfl
def fastN(n:Nat):Nat:=loopN bN (toBits 256 n) zN
theorem fastN_rep(hn:n<2^256):(wdN (fastN n)).rep (cv.mul n bP):=by
  have h0:(wdN zN).rep (cv.mul 0 bP):=by rw[zN_wd];exact cv.rep_of zero
  have h:=cv.mulW_rep bP_on (cv.rep_of bP) (toBits 256 n) (wdN zN) 0 h0;rw[toBits_v,Leg,Las,Lab hn]at h;have e:wdN (fastN n)=mulW cv.d (Wd.of bP) (toBits 256 n) (wdN zN):=by
    rw[fastN,loopN_eq,bN_wd];rfl
  rw[e];exact h
theorem fastN_pt(hn:n<2^256){X Y:Fp}(hx:(wdN (fastN n)).x*finv (wdN (fastN n)).z=X)(hy:(wdN (fastN n)).y*finv (wdN (fastN n)).z=Y):cv.mul n bP=⟨X,Y⟩:=by
  have h:(⟨(wdN (fastN n)).x*finv (wdN (fastN n)).z,(wdN (fastN n)).y*finv (wdN (fastN n)).z⟩:Pt Fp)=cv.mul n bP:=cv.rep_pt (fastN_rep hn);rw[hx,hy]at h;exact h.symm
theorem order_x:ux (fastN L)%PF=0:=by kernel_rfl
theorem order_y:uy (fastN L)=uz (fastN L):=by kernel_rfl
theorem bP_order:cv.mul L bP=zero:=by
  have h:=fastN_rep (n:=L) dE;have h1:fe (ux (fastN L))=(cv.mul L bP).x*fe (uz (fastN L)):=h.x;have h2:fe (uy (fastN L))=(cv.mul L bP).y*fe (uz (fastN L)):=h.y;have h3:fe (uz (fastN L))≠0:=h.z;have hx:fe (ux (fastN L))=0:=Lfh order_x;rw[hx]at h1;rw[order_y]at h2;generalize fe (uz (fastN L))=z at*;generalize cv.mul L bP=Q at*;obtain⟨x,y⟩:=Q;simp only at h1 h2;have e1:x=0:=by
    rcases cv.zero_or h1.symm with e|e
    ·exact e
    ·exact absurd e h3
  have e2:y=1:=by
    refine cv.cancel h3 ?_;have e3:z*y=y*z:=by grind
    have e4:z*1=z:=by grind
    rw[e3,e4];exact h2.symm
  rw[e1,e2];rfl
theorem fp_cases(h:a*a=1):a=1∨a= -1:=by
  have h1:(a-1)*(a+1)=0:=by grind
  rcases cv.zero_or h1 with e|e
  ·exact .inl (by grind)
  ·exact .inr (by grind)
theorem sq_cases{a b:Fp}(h:a*a=b*b):a=b∨a= -b:=by
  have h1:(a-b)*(a+b)=0:=by grind
  rcases cv.zero_or h1 with e|e
  ·exact .inl (by grind)
  ·exact .inr (by grind)
def unit2:Fp:=Cy (fe 2) ((PF-1)/4)
theorem unit2_sq:unit2*unit2= -1:=by kernel_rfl
theorem fpow_one'(a:Fp):Cy a 1=a:=by
  rw[show(1:Nat)=0+1 from rfl,fpow_succ dE,fpow_zero];grind
theorem fpow_sq2(x:Fp):x*x=Cy x 2:=by
  rw[show(2:Nat)=2*1 from rfl,fpow_two dE,fpow_one']
theorem root_pow(x:Fp):Cy (x*x) ((PF+3)/8)*Cy (x*x) ((PF+3)/8)=x*x*Cy x ((PF-1)/2):=by
  rw[←fpow_two dE,fpow_sq2,fpow_mul dE dE dE,←fpow_add dE];rfl
theorem half_cases(h:x≠0):Cy x ((PF-1)/2)=1∨Cy x ((PF-1)/2)= -1:=by
  refine fp_cases ?_;rw[←fpow_two dE];exact ferm h
theorem fRoot1_sq(x:Fp):fRoot1 (x*x)*fRoot1 (x*x)=x*x:=by
  have h0:=root_pow x;have hu:=unit2_sq;unfold fRoot1;change(if Cy (x*x) ((PF+3)/8)*Cy (x*x) ((PF+3)/8)=x*x then Cy (x*x) ((PF+3)/8)else Cy (x*x) ((PF+3)/8)*unit2)*(if Cy (x*x) ((PF+3)/8)*Cy (x*x) ((PF+3)/8)=x*x then Cy (x*x) ((PF+3)/8)else Cy (x*x) ((PF+3)/8)*unit2)=x*x;have hc:Cy (x*x) ((PF+3)/8)*Cy (x*x) ((PF+3)/8)=x*x∨Cy (x*x) ((PF+3)/8)*Cy (x*x) ((PF+3)/8)= -(x*x):=by
    by_cases hx:x=0
    · left
      rw[h0,hx];grind
    · rcases half_cases hx with e|e
      ·left;rw[h0,e];grind
      ·right;rw[h0,e];grind
  revert hc;generalize Cy (x*x) ((PF+3)/8)=r;generalize unit2=u at*;intro hc;clear h0;by_cases h1:r*r=x*x
  ·rw[if_pos h1];exact h1
  · rw[if_neg h1]
    rcases hc with e|e
    ·exact absurd e h1
    · have:r*u*(r*u)=r*r*(u*u):=by grind
      rw[this,e,hu];grind
theorem val_neg(h:x≠0):(-x).val+x.val=PF:=by
  have h1:fe ((-x).val+x.val)=0:=by
    rw[fe_add,fe_of,fe_of];grind
  have h2:((-x).val+x.val)%PF=0:=congrArg Fin.val h1;have h3:=(-x).isLt;have h4:=x.isLt;have h5:x.val≠0:=fun e=>h (Lfh e);have h6:PF∣(-x).val+x.val:=Lfz h2;obtain⟨k,hk⟩:=h6;generalize(-x).val=a at*;generalize x.val=b at*;clear h h1 h2;have hP:0<PF:=by decide
  generalize PF=q at*;have h7:k=1:=by
    rcases Lax k 1 with h|h
    · obtain rfl:k=0:=by omega
      rw[Lfj]at hk;omega
    · rcases Lax 1 k with h9|h9
      · have:q*2≤q*k:=Lbu _ h9
        omega
      ·omega
  rw[h7,Lb4]at hk;exact hk
theorem neg_neg'(x:Fp): - -x=x:=by grind
theorem fRoot_eq(x:Fp):fRoot (x*x)=((if x.val%2=1 then-x else x),true):=by
  have h1:=fRoot1_sq x;have h2:=sq_cases h1;unfold fRoot;generalize fRoot1 (x*x)=r at*;rw[if_pos h1];congr 1;by_cases hx:x=0
  · have:r=0:=by rcases h2 with e|e<;>rw[e,hx]<;>grind
    rw[this,hx]
  · have hv:=val_neg hx
    have hodd:PF%2=1:=by decide
    rcases h2 with e|e
    ·rw[e]
    · rw[e]
      have hn: -x≠0:=fun e2=>hx (by grind);by_cases h3:x.val%2=1
      ·rw[if_pos h3,if_neg oM]
      ·rw[if_neg h3,if_pos oM,neg_neg']
theorem on_xsq(h:cv.on ⟨x,y⟩):(y*y-1)*finv (fD*(y*y)+1)=x*x:=by
  have h1:=finv_mul (cv.below_ne y);have h2:=(cv.on_iff ⟨x,y⟩).1 h;have h3:y*y-x*x=1+fD*(x*x*(y*y)):=h2;have h4:(cv.d*(y*y)+1)*finv (cv.d*(y*y)+1)=1:=h1;change(fD*(y*y)+1)*finv (fD*(y*y)+1)=1 at h4;generalize finv (fD*(y*y)+1)=u at*;generalize fD=d at*;have h5:y*y-1=x*x*(d*(y*y)+1):=by grind
  rw[h5];have:x*x*(d*(y*y)+1)*u=x*x*((d*(y*y)+1)*u):=by grind
  rw[this,h4];grind
theorem xOf_eq(h:cv.on ⟨x,y⟩):xOf y=((if x.val%2=1 then-x else x),true):=by
  rw[xOf,on_xsq h,fRoot_eq]
theorem fb_top(x:Fp):((fb x).getD 31 0).toNat<128:=by
  have h:(fb x).getD 31 0=UInt8.ofNat (x.val/256^31):=leb_getD 32 x.val 31 dE;have h1:=x.isLt;have h2:x.val/256^31<128:=by
    rw[Ld4 dE];exact Lbi h1 dE
  rw[h,Lb1];omega
theorem byte_clear:∀b:UInt8,b.toNat<128→(b&&&127)=b∧((b|||128)&&&127)=b∧(b&&&128)=0∧((b|||128)&&&128)=128:=by
  intro b hb;have h:∀n,n<128→((UInt8.ofNat n)&&&127)=UInt8.ofNat n∧((UInt8.ofNat n|||128)&&&127)=UInt8.ofNat n∧(UInt8.ofNat n&&&128)=0∧((UInt8.ofNat n|||128)&&&128)=128:=by decide
  have h2:=h b.toNat hb;rwa[Ldx]at h2
theorem set_same(l:List UInt8)(i:Nat)(hi:i<l.length):l.set i (l.getD i 0)=l:=by
  apply Le3 sP;intro j h1 h2;rw[List.getElem_set];split
  · rename_i e
    subst e;rw[La2,La3 hi];rfl
  ·rfl
theorem getD_set(l:List UInt8)(i:Nat)(v:UInt8)(hi:i<l.length):(l.set i v).getD i 0=v:=by
  rw[La2,Leo hi,Lbn]
theorem lowB_pb(P:Pt Fp):lowB (pb P)=fb P.y:=by
  have h:=byte_clear _ (fb_top P.y);have hl:=Aq P.y;unfold lowB pb;split
  ·rw[getD_set _ _ _ oM,h.2.1,List.set_set,set_same _ _ oM]
  ·rw[h.1,set_same _ _ oM]
theorem topB_pb(P:Pt Fp):topB (pb P)=decide (P.x.val%2=1):=by
  have h:=byte_clear _ (fb_top P.y);have hl:=Aq P.y;unfold topB pb;split
  · rename_i e
    rw[getD_set _ _ _ oM,h.2.2.2,decide_eq_true e];rfl
  · rename_i e
    rw[h.2.2.1,decide_eq_false e];rfl
theorem rdP_pb{P:Pt Fp}(h:cv.on P):rdP (pb P)=some P:=by
  obtain⟨x,y⟩:=P;have hx:=xOf_eq h;unfold rdP;rw[lowB_pb,topB_pb,fe_fb,if_pos rfl,hx];simp only;by_cases h1:x.val%2=1
  · have hx0:x≠0:=fun e=>by rw[e]at h1;revert h1;decide
    have hn: -x≠0:=fun e2=>hx0 (by grind);rw[if_pos h1,if_pos ⟨trivial,fun e=>hn e.2⟩,if_pos (decide_eq_true h1),neg_neg']
  ·rw[if_neg h1,if_pos ⟨trivial,fun e=>h1 (of_decide_eq_true e.1)⟩,if_neg (fun e=>h1 (of_decide_eq_true e))]
end Ed
namespace Hw
open Go Go.RowKit
def Bn(w:List Nat):List Value:=B9 (w.map Int.ofNat)
theorem Al(w:List Nat):(Bn w).length=w.length:=by simp[Bn,B9]
theorem get_wds{w:List Nat}{o:Nat}(h:o<w.length):(Bn w)[o]? =some (i64 ((w.getD o 0:Nat):Int)):=by
  rw[Bn,get_ints (by simpa using h)];congr 2;rw[La2,La2,Lan,La3 h];rfl
theorem set_wds(w:List Nat)(o v:Nat):(Bn w).set o (i64 (v:Int))=Bn (w.set o v):=by
  simp[Bn,B9,Ldv]
theorem Cp(w:List Nat):∀u∈Bn w,isCell u=true:=by
  intro u hu;simp only[Bn,B9,La7]at hu;obtain⟨x,_,rfl⟩:=hu;rfl
section
variable{C:Cx}{ops:Array Oper}{rest:List (Nat×Oper)}{sl:List (Nat×Value)}{hp:List Blk}{Q:St→Prop}{c d:Nat}{ty:TypeId}{pos:String}{af:Array Edge}{g:Option (Nat×Bool)}
variable{xT yT:TypeId}{x y:Operand}
variable{b:Int}{ky:IntKind}
theorem Tr.addN(a b:Nat)(hg:Aj ops sl g=true)(hk:okD c d C.N=true)(hx:Ag sl x=some (i64 (a:Int)))(hy:Ag sl y=some (i64 (b:Int)))(hr:a+b≤9223372036854775807)
    (k:Tr C ops rest ⟨(d,i64 ((a+b:Nat):Int))::sl,hp⟩ Q):Tr C ops ((c,⟨some d, .binOp .add xT x y yT,ty,pos,af,g⟩)::rest) ⟨sl,hp⟩ Q:=by
  refine Tr.aI hg hk hx hy oM ?_;rwa[show((a:Int)+b)=((a+b:Nat):Int) by omega]
theorem Tr.subN(a b:Nat)(hg:Aj ops sl g=true)(hk:okD c d C.N=true)(hx:Ag sl x=some (i64 (a:Int)))(hy:Ag sl y=some (i64 (b:Int)))(hr:b≤a∧a≤9223372036854775807)
    (k:Tr C ops rest ⟨(d,i64 ((a-b:Nat):Int))::sl,hp⟩ Q):Tr C ops ((c,⟨some d, .binOp .sub xT x y yT,ty,pos,af,g⟩)::rest) ⟨sl,hp⟩ Q:=by
  refine .sub_i64 hg hk hx hy oM ?_;rwa[show((a:Int)-b)=((a-b:Nat):Int) by omega]
theorem Tr.mulN(a b:Nat)(hg:Aj ops sl g=true)(hk:okD c d C.N=true)(hx:Ag sl x=some (i64 (a:Int)))(hy:Ag sl y=some (i64 (b:Int)))(hr:a*b≤9223372036854775807)
    (k:Tr C ops rest ⟨(d,i64 ((a*b:Nat):Int))::sl,hp⟩ Q):Tr C ops ((c,⟨some d, .binOp .mul xT x y yT,ty,pos,af,g⟩)::rest) ⟨sl,hp⟩ Q:=by
  have e:((a:Int)*b)=((a*b:Nat):Int):=(Lga a b).symm;refine .mul_i64 hg hk hx hy (by rw[e];omega) ?_;rwa[e]
theorem Tr.remN(a b:Nat)(hg:Aj ops sl g=true)(hk:okD c d C.N=true)(hx:Ag sl x=some (i64 (a:Int)))(hy:Ag sl y=some (i64 (b:Int)))(hr:1≤b)
    (k:Tr C ops rest ⟨(d,i64 ((a%b:Nat):Int))::sl,hp⟩ Q):Tr C ops ((c,⟨some d, .binOp .rem xT x y yT,ty,pos,af,g⟩)::rest) ⟨sl,hp⟩ Q:=by
  refine .rem_i64 hg hk hx hy oM ?_;rwa[show((a:Int)%b)=((a%b:Nat):Int)from rfl]
theorem Tr.quoN(a b:Nat)(hg:Aj ops sl g=true)(hk:okD c d C.N=true)(hx:Ag sl x=some (i64 (a:Int)))(hy:Ag sl y=some (i64 (b:Int)))(hr:1≤b∧a≤9223372036854775807)
    (k:Tr C ops rest ⟨(d,i64 ((a/b:Nat):Int))::sl,hp⟩ Q):Tr C ops ((c,⟨some d, .binOp .quo xT x y yT,ty,pos,af,g⟩)::rest) ⟨sl,hp⟩ Q:=by
  refine .quo_i64 hg hk hx hy oM ?_;rwa[show((a:Int)/b)=((a/b:Nat):Int)from rfl]
theorem Tr.shrN(a n:Nat)(hg:Aj ops sl g=true)(hk:okD c d C.N=true)(hx:Ag sl x=some (i64 (a:Int)))(hy:Ag sl y=some (.int ky b))(hn:b=n)(hr:n≤64)
    (k:Tr C ops rest ⟨(d,i64 ((a/2^n:Nat):Int))::sl,hp⟩ Q):Tr C ops ((c,⟨some d, .binOp .shr xT x y yT,ty,pos,af,g⟩)::rest) ⟨sl,hp⟩ Q:=
  .bin hg hk hx hy (fun w=>by
    subst hn;simp only[binOp,Op.shift,IntKind.bits];rw[if_neg oM,Ldz,Lcu hr];have e:((2:Int)^n)=((2^n:Nat):Int):=by simp
    rw[e,Lf9 _ (Ldk _)];rfl) k
theorem Tr.shlN(a n:Nat)(hg:Aj ops sl g=true)(hk:okD c d C.N=true)(hx:Ag sl x=some (i64 (a:Int)))(hy:Ag sl y=some (.int ky b))(hn:b=n)(hn2:n≤64)(hr:a*2^n≤9223372036854775807)
    (k:Tr C ops rest ⟨(d,i64 ((a*2^n:Nat):Int))::sl,hp⟩ Q):Tr C ops ((c,⟨some d, .binOp .shl xT x y yT,ty,pos,af,g⟩)::rest) ⟨sl,hp⟩ Q:=
  .bin hg hk hx hy (fun w=>by
    subst hn;simp only[binOp,Op.shift,IntKind.bits];rw[if_neg oM,Ldz,Lcu hn2];have e:((a:Int)*2^n)=((a*2^n:Nat):Int):=by simp
    rw[e,i64_wrap oM];rfl) k
theorem Tr.quo_u8{p:UInt8}(hg:Aj ops sl g=true)(hk:okD c d C.N=true)(hx:Ag sl x=some (u8 p))(hy:Ag sl y=some (.int .u8 b))(n:Nat)(hn:b=n)(h0:0<n)
    (k:Tr C ops rest ⟨(d,u8 (UInt8.ofNat (p.toNat/n)))::sl,hp⟩ Q):Tr C ops ((c,⟨some d, .binOp .quo xT x y yT,ty,pos,af,g⟩)::rest) ⟨sl,hp⟩ Q:=
  .bin hg hk hx hy (fun w=>by
    subst hn;simp[binOp,Op.intDiv,show ¬n=0 by omega];exact IntKind.wrap_u8 _) k
end
end Hw
namespace Ed
open Hw Go
def mr:List Nat→List Nat→Nat
  |w::ws,b::bs=>w+2^b*mr ws bs
  |_,_=>0
def dg(n:Nat):List Nat→List Nat
  |b::bs=>n%2^b::dg (n/2^b) bs
  | []=>[]
def carL(c:Nat):List Nat→List Nat→List Nat
  |w::ws,b::bs=>(w+c)%2^b::carL ((w+c)/2^b) ws bs
  |_,_=>[]
variable{i m:Nat}{w x y:List Nat}
theorem dg_length:∀(bs:List Nat) (n:Nat),(dg n bs).length=bs.length
  | [],_=>rfl
  |b::bs,n=>by simp[dg,dg_length bs]
theorem carL_dg:∀(bs ws:List Nat) (c:Nat),ws.length=bs.length→carL c ws bs=dg (mr ws bs+c) bs
  | [],ws,c,h=>by cases ws<;>simp_all[carL,dg]
  |b::bs,[],c,h=>by simp at h
  | b::bs,w::ws,c,h=>by
    have hp:0<2^b:=Lbe dE;have h1:mr (w::ws) (b::bs)+c=(w+c)+2^b*mr ws bs:=by rw[mr];omega
    rw[carL,dg,h1,Lbm,Lbp _ _ hp,carL_dg bs ws _ (by simpa using h),Ldt (mr ws bs)]
theorem mr_dg:∀(bs:List Nat) (n:Nat),mr (dg n bs) bs=n%2^bs.sum
  | [],n=>by simp[mr,dg,Ley]
  | b::bs,n=>by
    rw[dg,mr,mr_dg bs,List.sum_cons,Lbd,Lg8]
def b10:List Nat:=[26,25,26,25,26,25,26,25,26,25]
theorem b10_sum:b10.sum=255:=rfl
def A5(i:Nat):Nat:=if i%2=0 then 26 else 25
def v10(w:List Nat):Nat:=mr w b10
def stepC(w:List Nat)(i:Nat):List Nat:=
  if i=9 then(w.set i (w.getD i 0%2^A5 i)).set 0 ((w.set i (w.getD i 0%2^A5 i)).getD 0 0+19*(w.getD i 0/2^A5 i))
  else(w.set i (w.getD i 0%2^A5 i)).set (i+1) ((w.set i (w.getD i 0%2^A5 i)).getD (i+1) 0+w.getD i 0/2^A5 i)
def Cz(w:List Nat):Nat→List Nat
  |0=>w
  |i+1=>stepC (Cz w i) i
def C0(w:List Nat):List Nat:=(dg (v10 w) b10).set 0 (v10 w%2^26+19*(v10 w/2^255))
theorem len10(h:w.length=10):∃a b c d e f g i j k,w=[a,b,c,d,e,f,g,i,j,k]:=by
  match w,h with
  | [a,b,c,d,e,f,g,i,j,k],_=>exact⟨a,b,c,d,e,f,g,i,j,k,rfl⟩
def cout(c:Nat):List Nat→List Nat→Nat
  |w::ws,b::bs=>cout ((w+c)/2^b) ws bs
  |_,_=>c
theorem cout_eq:∀(bs ws:List Nat) (c:Nat),ws.length=bs.length→cout c ws bs=(mr ws bs+c)/2^bs.sum
  | [],ws,c,h=>by cases ws<;>simp_all[cout,mr]
  |b::bs,[],c,h=>by simp at h
  | b::bs,w::ws,c,h=>by
    have hp:0<2^b:=Lbe dE;have h1:mr (w::ws) (b::bs)+c=(w+c)+2^b*mr ws bs:=by rw[mr];omega
    rw[cout,h1,List.sum_cons,Lbd,←Lav,Lbp _ _ hp,cout_eq bs ws _ (by simpa using h),Ldt (mr ws bs)]
theorem stepC_0(a b c d e f g i j k:Nat):stepC [a,b,c,d,e,f,g,i,j,k] 0=[a%2^26,b+a/2^26,c,d,e,f,g,i,j,k]:=rfl
theorem stepC_1(a b c d e f g i j k:Nat):stepC [a,b,c,d,e,f,g,i,j,k] 1=[a,b%2^25,c+b/2^25,d,e,f,g,i,j,k]:=rfl
theorem stepC_2(a b c d e f g i j k:Nat):stepC [a,b,c,d,e,f,g,i,j,k] 2=[a,b,c%2^26,d+c/2^26,e,f,g,i,j,k]:=rfl
theorem stepC_3(a b c d e f g i j k:Nat):stepC [a,b,c,d,e,f,g,i,j,k] 3=[a,b,c,d%2^25,e+d/2^25,f,g,i,j,k]:=rfl
theorem stepC_4(a b c d e f g i j k:Nat):stepC [a,b,c,d,e,f,g,i,j,k] 4=[a,b,c,d,e%2^26,f+e/2^26,g,i,j,k]:=rfl
theorem stepC_5(a b c d e f g i j k:Nat):stepC [a,b,c,d,e,f,g,i,j,k] 5=[a,b,c,d,e,f%2^25,g+f/2^25,i,j,k]:=rfl
theorem stepC_6(a b c d e f g i j k:Nat):stepC [a,b,c,d,e,f,g,i,j,k] 6=[a,b,c,d,e,f,g%2^26,i+g/2^26,j,k]:=rfl
theorem stepC_7(a b c d e f g i j k:Nat):stepC [a,b,c,d,e,f,g,i,j,k] 7=[a,b,c,d,e,f,g,i%2^25,j+i/2^25,k]:=rfl
theorem stepC_8(a b c d e f g i j k:Nat):stepC [a,b,c,d,e,f,g,i,j,k] 8=[a,b,c,d,e,f,g,i,j%2^26,k+j/2^26]:=rfl
theorem stepC_9(a b c d e f g i j k:Nat):stepC [a,b,c,d,e,f,g,i,j,k] 9=[a+19*(k/2^25),b,c,d,e,f,g,i,j,k%2^25]:=rfl
theorem carAt_car(h:w.length=10):Cz w 10=(carL 0 w b10).set 0 ((carL 0 w b10).getD 0 0+19*cout 0 w b10):=by
  obtain⟨a,b,c,d,e,f,g,i,j,k,rfl⟩:=len10 h;simp only[Cz,stepC_0,stepC_1,stepC_2,stepC_3,stepC_4,stepC_5,stepC_6,stepC_7,stepC_8,stepC_9,b10,carL,cout,Lbt,Le5,Ldc]
theorem carAt_eq(h:w.length=10):Cz w 10=C0 w:=by
  rw[carAt_car h,carL_dg b10 w 0 h,cout_eq b10 w 0 h,b10_sum];rfl
theorem car10_length(w:List Nat):(C0 w).length=10:=by simp[C0,dg_length,b10]
structure Fit10(w:List Nat):Prop where
  len:w.length=10
  lo:w.getD 0 0<2^26+128
  hi:∀i,0<i→i<10→w.getD i 0<2^A5 i
theorem dg_lt:∀(bs:List Nat) (n i:Nat),i<bs.length→(dg n bs).getD i 0<2^bs.getD i 0
  |b::bs,n,0,_=>Lbs _ (Lbe dE)
  |b::bs,n,i+1,h=>dg_lt bs (n/2^b) i (by simpa using h)
theorem b10_at:∀i:_root_.Fin 10,b10.getD i.val 0=A5 i.val:=by decide
theorem car10_fit(h:v10 w<6*2^255):Fit10 (C0 w):=by
  refine⟨car10_length w,?_,fun i h1 h2=>?_⟩
  · show v10 w%2^26+19*(v10 w/2^255)<_
    have:v10 w/2^255<6:=Lec oM;have:=Lbs (v10 w) (show 0<2^26 by decide);omega
  · have h3:=dg_lt b10 (v10 w) i h2
    rw[b10_at ⟨i,h2⟩]at h3;rwa[C0,La2,Led oM,←La2]
theorem car10_val(w:List Nat):v10 (C0 w)=v10 w%2^255+19*(v10 w/2^255):=by
  have h1:dg (v10 w) b10=v10 w%2^26::dg (v10 w/2^26) [25,26,25,26,25,26,25,26,25]:=rfl;have h2:mr (dg (v10 w) b10) b10=v10 w%2^255:=mr_dg b10 (v10 w);rw[←h2,v10,C0,h1];show(v10 w%2^26+19*(v10 w/2^255))+2^26*_=(v10 w%2^26+2^26*_)+_;generalize mr _ _=x;omega
theorem car10_v(w:List Nat):fe (v10 (C0 w))=fe (v10 w):=by
  rw[car10_val];have h4:v10 w=v10 w%2^255+2^255*(v10 w/2^255):=(Lez _ _).symm;generalize v10 w/2^255=q at*;generalize v10 w%2^255=r at*;rw[h4,fe_eq];have e:r+2^255*q=(r+19*q)+PF*q:=by
    have:(2:Nat)^255=19+PF:=by decide
    rw[this,Lc8];omega
  rw[e,Lbm]
def Bv(i:Nat):Nat:=(51*i+1)/2
def coef(i k:Nat):Nat:=(if i+k>9 then 19 else 1)*(if i%2=1∧k%2=1 then 2 else 1)
theorem coef_le(i k:Nat):coef i k≤38:=by
  unfold coef;split<;>split<;>omega
def coefOk(i k:Nat):Bool:=Nat.beq (2^Bv ((i+k)%10)*coef i k%PF) (2^Bv i*2^Bv k%PF)
def coefAll:Bool:=(List.range 10).all fun i=>(List.range 10).all fun k=>coefOk i k
theorem coef_all:coefAll=true:=by kernel_rfl
theorem coef_fe{i k:Nat}(hi:i<10)(hk:k<10):fe (2^Bv ((i+k)%10)*coef i k)=fe (2^Bv i)*fe (2^Bv k):=by
  have h:=coef_all;unfold coefAll at h;rw[Lbk]at h;have h1:=h i (Lcr.2 hi);rw[Lbk]at h1;have h2:=h1 k (Lcr.2 hk);rw[←fe_mul];exact fe_eq.2 (Lby h2)
theorem mr_set(p:Nat):∀(bs w:List Nat) (m:Nat),w.length=bs.length→m<w.length→mr (w.set m (w.getD m 0+p)) bs=mr w bs+2^(bs.take m).sum*p
  | [],[],m,_,h=>by simp at h
  | b::bs,x::w,0,_,_=>by
    show(x+p)+2^b*mr w bs=(x+2^b*mr w bs)+2^0*p;omega
  | b::bs,x::w,m+1,h1,h2=>by
    have ih:=mr_set p bs w m (by simpa using h1) (by simpa using h2);show x+2^b*mr (w.set m (w.getD m 0+p)) bs=(x+2^b*mr w bs)+2^(b+(bs.take m).sum)*p;rw[ih,Lc9,Lbd,Lbo,Lcc]
theorem at_sum:∀m:_root_.Fin 10,(b10.take m.val).sum=Bv m.val:=by decide
theorem v10_set(h:w.length=10)(p:Nat)(hm:m<10):v10 (w.set m (w.getD m 0+p))=v10 w+2^Bv m*p:=by
  rw[v10,mr_set p b10 w m h oM,at_sum ⟨m,hm⟩];rfl
def tCell(x y:List Nat)(i k:Nat)(o:List Nat):List Nat:=o.set ((i+k)%10) (o.getD ((i+k)%10) 0+coef i k*(x.getD i 0*y.getD k 0))
def tRow(x y:List Nat)(i:Nat)(o:List Nat):Nat→List Nat
  |0=>o
  |k+1=>tCell x y i k (tRow x y i o k)
def tAll(x y:List Nat):Nat→List Nat
  |0=>List.replicate 10 0
  |i+1=>tRow x y i (tAll x y i) 10
theorem tRow_length(x y:List Nat)(i:Nat){o:List Nat}(h:o.length=10):∀k,(tRow x y i o k).length=10
  |0=>h
  |k+1=>by rw[tRow,tCell,Lc0,tRow_length x y i h k]
theorem tAll_length(x y:List Nat):∀i,(tAll x y i).length=10
  |0=>rfl
  |i+1=>tRow_length x y i (tAll_length x y i) 10
def pv(w:List Nat):Nat→Fp
  |0=>0
  |k+1=>pv w k+fe (2^Bv k)*fe (w.getD k 0)
theorem pv_all(h:w.length=10):pv w 10=fe (v10 w):=by
  obtain⟨a,b,c,d,e,f,g,i,j,k,rfl⟩:=len10 h;have e1:v10 [a,b,c,d,e,f,g,i,j,k]=2^Bv 0*a+2^Bv 1*b+2^Bv 2*c+2^Bv 3*d+2^Bv 4*e+2^Bv 5*f+2^Bv 6*g+2^Bv 7*i+2^Bv 8*j+2^Bv 9*k:=by
    simp only[v10,mr,b10,Bv,Lc9,←Lbo,←Lbd,Lfj,Lbt,←Lcc];simp
  rw[e1];simp only[fe_add,fe_mul,pv,Ldc,Ld2];grind
theorem tRow_v(x y:List Nat)(i:Nat)(hi:i<10){o:List Nat}(h:o.length=10):∀k,k≤10→fe (v10 (tRow x y i o k))=fe (v10 o)+fe (2^Bv i)*fe (x.getD i 0)*pv y k
  |0,_=>by simp only[tRow,pv];grind
  | k+1,hk=>by
    have ih:=tRow_v x y i hi h k oM;have hc:=coef_fe hi (show k<10 by omega);rw[tRow,tCell,v10_set (tRow_length x y i h k) _ (Lbs _ dE),fe_add,ih,←Lbo,fe_mul,hc,fe_mul,pv];generalize fe (2^Bv i)=A;generalize fe (2^Bv k)=B;grind
theorem tAll_v{x y:List Nat}(hy:y.length=10):∀i,i≤10→fe (v10 (tAll x y i))=pv x i*fe (v10 y)
  | 0,_=>by
    have e:fe (v10 (List.replicate 10 0))=0:=by kernel_rfl
    rw[tAll,e,pv];grind
  | i+1,hi=>by
    rw[tAll,tRow_v x y i oM (tAll_length x y i) 10 (Lae _),tAll_v hy i oM,pv_all hy,pv];grind
def ones:List Nat→Nat
  |b::bs=>1+2^b*ones bs
  | []=>0
theorem mr_le(B:Nat):∀bs w:List Nat,w.length=bs.length→(∀m,m<w.length→w.getD m 0≤B)→mr w bs≤B*ones bs
  | [],[],_,_=>Laj _
  | b::bs,x::w,h1,h2=>by
    have ih:=mr_le B bs w (by simpa using h1) (fun m hm=>h2 (m+1) (by simpa using hm));have hx:x≤B:=h2 0 sP;have h3:2^b*mr w bs≤2^b*(B*ones bs):=Lbu _ ih;show x+2^b*mr w bs≤B*(1+2^b*ones bs);rw[Lc9,Lb4,Nat.mul_left_comm B];omega
theorem ones_lt:Nat.ble (ones b10+1) (2^231)=true:=by kernel_rfl
theorem v10_le(h:w.length=10)(B:Nat)(h2:∀m,m<10→w.getD m 0≤B):v10 w≤B*2^231:=
  Lbc (mr_le B b10 w h (by rw[h];exact h2)) (Lbu _ (Nat.le_of_succ_le (Lch ones_lt)))
theorem getD_set'{l:List Nat}{i j v:Nat}(hi:i<l.length):(l.set i v).getD j 0=if j=i then v else l.getD j 0:=by
  rw[La2,Lcx];split
  ·rename_i e;subst e;rw[if_pos rfl];simp
  ·rename_i e;rw[if_neg (fun h=>e h.symm),La2]
theorem tRow_le{x y:List Nat}{B i:Nat}(hi:i<10)(hb:∀k,k<10→coef i k*(x.getD i 0*y.getD k 0)≤B){o:List Nat}(h:o.length=10):∀k,k≤10→∀m,m<10→(tRow x y i o k).getD m 0≤o.getD m 0+(if(m+10-i)%10<k then B else 0)
  |0,_,m,hm=>by rw[if_neg oM];exact Lae _
  | k +1,hk,m,hm=>by
    have ih:=tRow_le hi hb h k oM;have hl:=tRow_length x y i h k;rw[tRow,tCell,getD_set' (by rw[hl];exact Lbs _ dE)];split
    · rename_i e
      have h1:=ih m hm;have h2:=hb k oM;rw[if_neg oM]at h1;rw[if_pos oM,←e];omega
    · rename_i e
      have h1:=ih m hm;refine Lbc h1 (Nat.add_le_add_left ?_ _);split
      ·rw[if_pos oM];exact Lae _
      ·exact Laj _
theorem tAll_le{x y:List Nat}{B:Nat}(hb:∀i k,i<10→k<10→coef i k*(x.getD i 0*y.getD k 0)≤B):∀i,i≤10→∀m,m<10→(tAll x y i).getD m 0≤i*B
  | 0,_,m,hm=>by
    show(List.replicate 10 0).getD m 0≤_;rw[La2,Len hm,Leg];exact Lae _
  | i+1,hi,m,hm=>by
    have h1:=tRow_le oM (fun k hk=>hb i k oM hk) (tAll_length x y i) 10 (Lae _) m hm;have h2:=tAll_le hb i oM m hm;rw[if_pos (Lbs _ dE)]at h1;rw[tAll,Nat.succ_mul];omega
theorem Fit10.all(h:Fit10 w)(hm:m<10):w.getD m 0<2^27:=by
  by_cases h0:m=0
  ·subst h0;have:=h.lo;omega
  · have h1:=h.hi m oM hm
    refine Lbi h1 ?_;unfold A5;split<;>decide
theorem term_le(hx:Fit10 x)(hy:Fit10 y)(i k:Nat)(hi:i<10)(hk:k<10):coef i k*(x.getD i 0*y.getD k 0)≤38*(2^27*2^27):=
  Lcq (coef_le i k) (Lcq (Lg4 (hx.all hi)) (Lg4 (hy.all hk)))
def mulT(x y:List Nat):List Nat:=C0 (C0 (tAll x y 10))
theorem mulT_v(hx:x.length=10)(hy:y.length=10):fe (v10 (mulT x y))=fe (v10 x)*fe (v10 y):=by
  rw[mulT,car10_v,car10_v,tAll_v hy 10 (Lae _),pv_all hx]
theorem mr_lt:∀bs w:List Nat,w.length=bs.length→(∀m,m<w.length→w.getD m 0<2^bs.getD m 0)→mr w bs+1≤2^bs.sum
  | [],[],_,_=>Lae _
  | b::bs,x::w,h1,h2=>by
    have ih:=mr_lt bs w (by simpa using h1) (fun m hm=>h2 (m+1) (by simpa using hm));have hx:x<2^b:=h2 0 sP;have h3:2^b*(mr w bs+1)≤2^b*2^bs.sum:=Lbu _ ih;rw[mr,List.sum_cons,Lbd];rw[Lc9,Lb4]at h3;omega
theorem Fit10.v(h:Fit10 w):v10 w<2^255+128:=by
  have hl:=h.len;have h0:=h.lo;have h1:=h.hi;cases w with
  |nil=>simp at hl
  | cons a t=>
    have h2:=mr_lt [25,26,25,26,25,26,25,26,25] t (by simpa using hl) (fun m hm=>by
      have h3:=h1 (m+1) oM (by simp at hl;omega);have h4:=b10_at ⟨m+1,by simp at hl;omega⟩;rw[←h4]at h3;exact h3)
    have h5:[25,26,25,26,25,26,25,26,25].sum=229:=rfl;rw[h5]at h2;have h6:a<2^26+128:=h0;show a+2^26*mr t _<_;omega
theorem Bh(hx:Fit10 x)(hy:Fit10 y):Fit10 (mulT x y):=by
  have h1:=tAll_le (term_le hx hy) 10 (Lae _);have h2:=v10_le (tAll_length x y 10) _ h1;refine car10_fit ?_;have h4:v10 (tAll x y 10)/2^255<2^40:=Lec oM;have h5:=Lbs (v10 (tAll x y 10)) (show 0<2^255 by decide);rw[car10_val];omega
theorem mulT_length(x y:List Nat):(mulT x y).length=10:=car10_length _
def addAt(x y:List Nat):Nat→List Nat
  |0=>x
  |i+1=>(addAt x y i).set i ((addAt x y i).getD i 0+y.getD i 0)
theorem addAt_length{x:List Nat}(y:List Nat)(h:x.length=10):∀i,(addAt x y i).length=10
  |0=>h
  |i+1=>by rw[addAt,Lc0,addAt_length y h i]
def npv(w:List Nat):Nat→Nat
  |0=>0
  |k+1=>npv w k+2^Bv k*w.getD k 0
theorem addAt_v{x y:List Nat}(h:x.length=10):∀i,i≤10→v10 (addAt x y i)=v10 x+npv y i
  |0,_=>rfl
  |i+1,hi=>by rw[addAt,v10_set (addAt_length y h i) _ oM,addAt_v h i oM,npv,Lcc]
theorem npv_all(h:w.length=10):npv w 10=v10 w:=by
  obtain⟨a,b,c,d,e,f,g,i,j,k,rfl⟩:=len10 h;simp only[v10,mr,b10,Bv,Lc9,←Lbo,←Lbd,Lfj,Lbt,←Lcc,npv,Ldc,Ld2];simp
def plusT(x y:List Nat):List Nat:=C0 (addAt x y 10)
theorem plusT_v(hx:x.length=10)(hy:y.length=10):fe (v10 (plusT x y))=fe (v10 x)+fe (v10 y):=by
  rw[plusT,car10_v,addAt_v hx 10 (Lae _),npv_all hy,fe_add]
theorem plusT_fit(hx:Fit10 x)(hy:Fit10 y):Fit10 (plusT x y):=by
  refine car10_fit ?_;rw[addAt_v hx.len 10 (Lae _),npv_all hy.len];have:=hx.v;have:=hy.v;omega
def p4(i:Nat):Nat:=4*(2^A5 i-1-(if i=0 then 18 else 0))
def subAt(x y:List Nat):Nat→List Nat
  |0=>x
  |i+1=>(subAt x y i).set i ((subAt x y i).getD i 0+(p4 i-y.getD i 0))
theorem subAt_length{x:List Nat}(y:List Nat)(h:x.length=10):∀i,(subAt x y i).length=10
  |0=>h
  |i+1=>by rw[subAt,Lc0,subAt_length y h i]
def p4v:Nat→Nat
  |0=>0
  |k+1=>p4v k+2^Bv k*p4 k
theorem p4v_all:p4v 10=4*PF:=by kernel_rfl
theorem p4_ge(hy:Fit10 y)(hi:i<10):y.getD i 0≤p4 i:=by
  unfold p4;by_cases h0:i=0
  · subst h0
    have:=hy.lo;rw[if_pos rfl];show _≤4*(2^26-1-18);omega
  · have h1:=hy.hi i oM hi
    rw[if_neg h0];have:1≤2^A5 i:=Lbe dE;omega
theorem subAt_v{x y:List Nat}(h:x.length=10)(hy:Fit10 y):∀i,i≤10→v10 (subAt x y i)+npv y i=v10 x+p4v i
  |0,_=>rfl
  | i +1,hi=>by
    have ih:=subAt_v h hy i oM;have h1:=p4_ge hy (show i<10 by omega);have h2:2^Bv i*(p4 i-y.getD i 0)+2^Bv i*y.getD i 0=2^Bv i*p4 i:=by
      rw[←Lc9,Nat.sub_add_cancel h1]
    rw[subAt,v10_set (subAt_length y h i) _ oM,npv,p4v];omega
def minusT(x y:List Nat):List Nat:=C0 (subAt x y 10)
theorem minusT_v(hx:x.length=10)(hy:Fit10 y):fe (v10 (minusT x y))=fe (v10 x)-fe (v10 y):=by
  have h:=congrArg fe (subAt_v hx hy 10 (Lae _));rw[npv_all hy.len,p4v_all,fe_add,fe_add,fe_four]at h;rw[minusT,car10_v];generalize fe (v10 (subAt x y 10))=u at*;generalize fe (v10 x)=a at*;generalize fe (v10 y)=b at*;grind
theorem minusT_fit(hx:Fit10 x)(hy:Fit10 y):Fit10 (minusT x y):=by
  refine car10_fit ?_;have h:=subAt_v hx.len hy 10 (Lae _);rw[p4v_all]at h;have h1:=hx.v;have h2:PF<2^255:=by decide
  omega
theorem car10_low(h:v10 w<2^255):C0 w=dg (v10 w) b10:=by
  rw[C0,Lb0 h,Lfj,Lbt];rfl
theorem v10_dg{n:Nat}(h:n<2^255):v10 (dg n b10)=n:=by rw[v10,mr_dg,b10_sum,Lab h]
def low10(w:List Nat):Nat:=v10 w%2^255+19*(v10 w/2^255)
theorem low10_fe(w:List Nat):fe (low10 w)=fe (v10 w):=by rw[low10,←car10_val,car10_v]
theorem low10_lt(h:Fit10 w):low10 w<2^255:=by
  have h1:=h.v;rw[low10];omega
theorem car10_four(h:Fit10 w):C0 (C0 (C0 (C0 w)))=dg (low10 w) b10:=by
  have h1:=low10_lt h;have h2:v10 (C0 w)=low10 w:=car10_val w;have h3:C0 (C0 w)=dg (low10 w) b10:=by rw[car10_low (by rw[h2];exact h1),h2]
  have h4:C0 (dg (low10 w) b10)=dg (low10 w) b10:=by rw[car10_low (by rw[v10_dg h1];exact h1),v10_dg h1]
  rw[h3,h4,h4]
end Ed
namespace Ed
open Hw Go
structure Mid10(w:List Nat):Prop where
  len:w.length=10
  le:∀m,m<10→w.getD m 0≤7205759403792793600
variable{N X d i k:Nat}{w x y:List Nat}
theorem bits_ge(i:Nat):33554432≤2^A5 i:=by unfold A5;split<;>decide
theorem bits_le(i:Nat):2^A5 i≤67108864:=by unfold A5;split<;>decide
theorem bits_26(i:Nat):A5 i≤26:=by unfold A5;split<;>decide
theorem carAt_length{w:List Nat}(h:w.length=10):∀i,(Cz w i).length=10
  |0=>h
  |i+1=>by rw[Cz,stepC];split<;>simp[carAt_length h i]
theorem div_bits(x i:Nat)(h:x≤7205759403792793600+274877906944):x/2^A5 i≤274877906944:=by
  have h1:x/2^A5 i≤x/33554432:=Nat.div_le_div_left (bits_ge i) dE;omega
theorem carAt_le{w:List Nat}(h:Mid10 w):∀i,i<10→∀m,m<10→(Cz w i).getD m 0≤(if m=i then 7205759403792793600+274877906944 else 7205759403792793600)
  | 0,_,m,hm=>by
    have:=h.le m hm;rw[Cz];split<;>omega
  | i + 1,hi,m,hm=>by
    have ih:=carAt_le h i oM;have hl:=carAt_length h.len i;have h2:=ih i oM;rw[if_pos rfl]at h2;rw[Cz,stepC,if_neg oM,getD_set' (by rw[Lc0,hl];omega)];split
    · rename_i e
      rw[getD_set' (by rw[hl];omega),if_neg oM];have h1:=ih (i+1) oM;rw[if_neg oM]at h1;have h3:=div_bits _ i h2;omega
    · rename_i e
      rw[getD_set' (by rw[hl];omega)];split
      · have h3:(Cz w i).getD i 0%2^A5 i<2^A5 i:=Lbs _ (Lbe dE)
        have h4:=bits_le i;omega
      · rename_i e2
        have h1:=ih m hm;rw[if_neg e2]at h1;exact h1
structure CarK(w:List Nat)(k:Nat):Prop where
  len:(Cz w k).length=10
  x:(Cz w k).getD k 0≤7480637310737687*1000
  q:(Cz w k).getD k 0/2^A5 k≤274877906944
  nx:k<9→((Cz w k).set k ((Cz w k).getD k 0%2^A5 k)).getD (k+1) 0≤7205759403792793600
  fs:k=9→((Cz w k).set k ((Cz w k).getD k 0%2^A5 k)).getD 0 0≤7205759403792793600
theorem carK(h:Mid10 w)(hk:k<10):CarK w k:=by
  have hl:=carAt_length h.len k;have h0:=carAt_le h k hk;have h1:=h0 k hk;rw[if_pos rfl]at h1;refine⟨hl,by omega,div_bits _ k h1,fun h9=>?_,fun h9=>?_⟩
  · rw[getD_set' (by rw[hl];omega),if_neg oM]
    have:=h0 (k+1) oM;rwa[if_neg oM]at this
  · rw[getD_set' (by rw[hl];omega),if_neg oM]
    have:=h0 0 oM;rwa[if_neg oM]at this
theorem car_cut(x n:Nat):x/2^n*2^n≤x∧x-x/2^n*2^n=x%2^n:=by
  have:=Lez x (2^n);rw[Lb3]at this;omega
theorem stepC_nine(h:k=9):stepC w k=(w.set k (w.getD k 0%2^A5 k)).set 0 ((w.set k (w.getD k 0%2^A5 k)).getD 0 0+19*(w.getD k 0/2^A5 k)):=if_pos h
theorem stepC_low(h:¬k=9):stepC w k=(w.set k (w.getD k 0%2^A5 k)).set (k+1) ((w.set k (w.getD k 0%2^A5 k)).getD (k+1) 0+w.getD k 0/2^A5 k):=if_neg h
theorem Fit10.mid(h:Fit10 w):Mid10 w:=⟨h.len,fun m hm=>by have:=h.all hm;omega⟩
theorem car10_mid(h:v10 w<2^300):Mid10 (C0 w):=by
  refine⟨car10_length w,fun m hm=>?_⟩;have hl:(dg (v10 w) b10).length=10:=by rw[dg_length];rfl
  rw[C0,getD_set' (by rw[hl];decide)];split
  · have h1:v10 w/2^255<2^45:=Lec oM
    have h2:=Lbs (v10 w) (show 0<2^26 by decide);omega
  · have h3:=dg_lt b10 (v10 w) m hm
    rw[b10_at ⟨m,hm⟩]at h3;have:=bits_le m;simp only at h3;omega
theorem tAll_mid(hx:Fit10 x)(hy:Fit10 y):Mid10 (tAll x y 10):=
  ⟨tAll_length x y 10,fun m hm=>by have:=tAll_le (term_le hx hy) 10 (Lae _) m hm;omega⟩
theorem tAll_v10(hx:Fit10 x)(hy:Fit10 y):v10 (tAll x y 10)<2^300:=by
  have h1:=tAll_le (term_le hx hy) 10 (Lae _);have h2:=v10_le (tAll_length x y 10) _ h1;omega
theorem addAt_get{x y:List Nat}(h:x.length=10):∀i,i≤10→∀m,m<10→(addAt x y i).getD m 0=x.getD m 0+(if m<i then y.getD m 0 else 0)
  |0,_,m,hm=>by rw[addAt,if_neg oM];rfl
  | i +1,hi,m,hm=>by
    have ih:=addAt_get (y:=y) h i oM;have hl:=addAt_length y h i;rw[addAt,getD_set' (by rw[hl];omega)];split
    · rename_i e
      subst e;rw[ih m hm,if_neg oM,if_pos oM];rfl
    · rename_i e
      rw[ih m hm];by_cases h1:m<i
      ·rw[if_pos h1,if_pos oM]
      ·rw[if_neg h1,if_neg oM]
theorem addAt_mid(hx:Fit10 x)(hy:Fit10 y):Mid10 (addAt x y 10):=
  ⟨addAt_length y hx.len 10,fun m hm=>by
    rw[addAt_get hx.len 10 (Lae _) m hm,if_pos hm];have:=hx.all hm;have:=hy.all hm;omega⟩
theorem subAt_get{x y:List Nat}(h:x.length=10):∀i,i≤10→∀m,m<10→(subAt x y i).getD m 0=x.getD m 0+(if m<i then p4 m-y.getD m 0 else 0)
  |0,_,m,hm=>by rw[subAt,if_neg oM];rfl
  | i +1,hi,m,hm=>by
    have ih:=subAt_get (y:=y) h i oM;have hl:=subAt_length y h i;rw[subAt,getD_set' (by rw[hl];omega)];split
    · rename_i e
      subst e;rw[ih m hm,if_neg oM,if_pos oM];rfl
    · rename_i e
      rw[ih m hm];by_cases h1:m<i
      ·rw[if_pos h1,if_pos oM]
      ·rw[if_neg h1,if_neg oM]
theorem p4_le(m:Nat):p4 m≤268435456:=by
  have:=bits_le m;unfold p4;omega
theorem subAt_mid(hx:Fit10 x):Mid10 (subAt x y 10):=
  ⟨subAt_length y hx.len 10,fun m hm=>by
    rw[subAt_get hx.len 10 (Lae _) m hm,if_pos hm];have:=hx.all hm;have:=p4_le m;omega⟩
def o10:List Nat:=[26,25,26,25,26,25,26,25,26,26]
def opB(i:Nat):Nat:=if i=9 then 26 else A5 i
def opD(N:Nat):List Nat:=dg N o10
def opAt(N i:Nat):List Nat:=(opD N).take i++List.replicate (10-i) 0
theorem opD_length(N:Nat):(opD N).length=10:=by rw[opD,dg_length];rfl
theorem opAt_length(N i:Nat)(h:i≤10):(opAt N i).length=10:=by
  rw[opAt,La4,Lag,opD_length,Ld5];omega
theorem dg_get:∀(bs:List Nat) (n i:Nat),i<bs.length→(dg n bs).getD i 0=n/2^(bs.take i).sum%2^bs.getD i 0
  | b::bs,n,0,_=>by
    show n%2^b=n/2^0%2^b;rw[Lde,Lej]
  | b::bs,n,i+1,h=>by
    have ih:=dg_get bs (n/2^b) i (by simpa using h);show(dg (n/2^b) bs).getD i 0=n/2^(b+(bs.take i).sum)%2^bs.getD i 0;rw[ih,Lav,←Lbd]
theorem o10_at:∀i:_root_.Fin 10,o10.getD i.val 0=opB i.val∧(o10.take i.val).sum=Bv i.val:=by decide
theorem opD_get(N:Nat)(h:i<10):(opD N).getD i 0=N/2^Bv i%2^opB i:=by
  have h1:=o10_at ⟨i,h⟩;rw[opD,dg_get o10 N i h,h1.1,h1.2]
theorem opAt_set(N:Nat)(h:i<10):(opAt N i).set i (N/2^Bv i%2^opB i)=opAt N (i+1):=by
  rw[←opD_get N h];have hl:=opD_length N;have e:(opD N).take (i+1)=(opD N).take i++[(opD N).getD i 0]:=by
    rw[La2,La3 oM,Lbn];exact Lar oM
  rw[opAt,opAt,show 10-i=(10-(i+1))+1 by omega,Le1,Ldf _ _ (by rw[Lag,hl];omega),Lag,hl,show i-min i 10=0 by omega,Le5,e,La8];rfl
theorem opAt_first(N:Nat)(h:i<10):(opAt N i).set i (N/2^Bv i%2^0)=opAt N i:=by
  have hl:=opD_length N;rw[Lde,Ley,opAt,show 10-i=(10-(i+1))+1 by omega,Le1,Ldf _ _ (by rw[Lag,hl];omega),Lag,hl,show i-min i 10=0 by omega,Le5]
theorem opAt_ten(N:Nat):opAt N 10=opD N:=by
  rw[opAt,Lew,List.replicate_zero,Lat,La5 (by rw[opD_length];exact Lae _)]
theorem opD_v(h:N<2^256):v10 (opD N)=N:=by
  have h1:v10 (opD N)=mr (dg N o10) o10:=by simp[v10,opD,o10,b10,dg,mr]
  rw[h1,mr_dg];exact Lab h
theorem opD_mid(N:Nat):Mid10 (opD N):=⟨opD_length N,fun m hm=>by
  rw[opD_get N hm];have h1:N/2^Bv m%2^opB m<2^opB m:=Lbs _ (Lbe dE);have h2:2^opB m≤67108864:=by
    unfold opB;split
    ·decide
    ·exact bits_le m
  omega⟩
def openT(N:Nat):List Nat:=C0 (opD N)
theorem openT_fit(h:N<2^256):Fit10 (openT N):=car10_fit (by rw[opD_v h];omega)
theorem openT_v(h:N<2^256):fe (v10 (openT N))=fe N:=by rw[openT,car10_v,opD_v h]
theorem openT_length(N:Nat):(openT N).length=10:=car10_length _
theorem op_bit(N i k:Nat):N/2^Bv i%2^(k+1)=N/2^Bv i%2^k+(if N.testBit (Bv i+k)then 2^k else 0):=by
  rw[mod_bit,Nat.testBit_div_two_pow,Ldt k]
theorem at_succ(h:i<10):Bv i+A5 i=Bv (i+1):=by
  have:∀i:_root_.Fin 10,Bv i.val+A5 i.val=Bv (i.val+1):=by decide
  exact this ⟨i,h⟩
theorem at_le(h:i<10):Bv i≤230:=by unfold Bv;omega
theorem at_op(h:i<10):Bv i+opB i≤256:=by
  have:∀i:_root_.Fin 10,Bv i.val+opB i.val≤256:=by decide
  exact this ⟨i,h⟩
theorem op_le(i:Nat):opB i≤26:=by
  unfold opB;split
  ·exact Lae _
  ·exact bits_26 i
theorem byte_hi{n i:Nat}(h:n<256^i):n/256^i=0:=Lb0 h
theorem bit_set(X:Nat){m:Nat}(hm:m<256)(hb:X.testBit m=true):(leb 32 (X%2^m)).set (m/8) ((leb 32 (X%2^m)).getD (m/8) 0+shl8 1 (m%8))=leb 32 (X%2^(m+1)):=by
  have e1:X%2^(m+1)=X%2^m+2^m:=by rw[mod_bit,if_pos hb]
  have e2:(2:Nat)^m=256^(m/8)*2^(m%8):=by rw[pow256,←Lbd];congr 1;omega
  have hlt:X%2^m<2^m:=Lbs _ (Lbe dE);rw[e1];generalize X%2^m=A at*;have hc:2^(m%8)<256:=Nat.pow_lt_pow_of_lt (a:=2) (n:=m%8) (m:=8) dE oM;have hj:m/8<32:=by omega
  generalize m/8=j at*;apply Lcs;intro i;rcases Lax i 32 with hi|hi
  · rw [Lcx,Ak,leb_get 32 (A+2^m) i hi]
    split
    · rename_i e
      subst e;rw[leb_getD 32 A _ hj];congr 1;rw[shl8,show(1:UInt8).toNat=1 from rfl,Ldl,e2,Lbp _ _ (Lbe dE),←UInt8.ofNat_add]
    · rename_i e
      rw[leb_get 32 A i hi];congr 1;apply ofNat8;rcases Lax i j with h|h
      ·rw[e2,byte_low A _ j i h]
      · have h2:j+1≤i:=by omega
        have h3:A+2^m<256^i:=by
          have h4:(256:Nat)^(j+1)≤256^i:=Lbv dE h2;have h5:(2:Nat)^m+2^m≤256^(j+1):=by
            rw[e2,Lb8,←Lc9];refine Lbu _ ?_;have h6:2^(m%8)≤2^7:=Lbv dE oM;omega
          omega
        rw[byte_hi h3,byte_hi oM]
  ·rw[Laq (by rw[Lc0,Ak];exact hi),Laq (by rw[Ak];exact hi)]
theorem bit_off(X m:Nat)(hb:X.testBit m=false):leb 32 (X%2^m)=leb 32 (X%2^(m+1)):=by
  rw[mod_bit,if_neg (by rw[hb];decide),Lbt]
theorem dg_bit(X:Nat)(hi:i<10)(hk:k<A5 i):((dg X b10).getD i 0).testBit k=X.testBit (Bv i+k):=by
  have h1:=b10_at ⟨i,hi⟩;have h2:=at_sum ⟨i,hi⟩;rw[dg_get b10 X i hi,h1,h2,Nat.testBit_mod_two_pow,Nat.testBit_div_two_pow,decide_eq_true hk,Bool.true_and,Ldt k]
theorem dg_bit_dec(X:Nat)(hi:i<10)(hk:k<A5 i):((((dg X b10).getD i 0/2^k:Nat):Int)%2=1)↔X.testBit (Bv i+k)=true:=by
  rw[←dg_bit X hi hk,Lc7,decide_eq_true_eq];omega
def topL(d:Nat):List UInt8:=UInt8.ofNat (237+d)::(List.replicate 30 255++[127])
theorem top_all:((List.range 19).all fun d=>leb 32 (PF+d)==topL d&&leb 32 d==UInt8.ofNat d::List.replicate 31 0)=true:=by kernel_rfl
theorem top_at(h:d<19):leb 32 (PF+d)=topL d∧leb 32 d=UInt8.ofNat d::List.replicate 31 0:=by
  have:=Lbk.1 top_all d (Lcr.2 h);rw[Lai]at this;exact⟨eq_of_beq this.1,eq_of_beq this.2⟩
theorem pf_19:PF+19=2^255:=by decide
theorem fb_low(h:X<PF):leb 32 X=fb (fe X):=by rw[fb_fe,Lab h]
theorem not_top(hX:X<2^255)(h:¬(237≤((leb 32 X).getD 0 0).toNat∧((leb 32 X).getD 31 0).toNat=127)):leb 32 X=fb (fe X):=by
  rcases Lax X PF with h1|h1
  ·exact fb_low h1
  · exfalso
    have h2:=pf_19;obtain⟨d,rfl⟩:∃d,X=PF+d:=⟨X-PF,by omega⟩;have hd:d<19:=by omega
    rw[(top_at hd).1]at h;refine h ⟨?_,rfl⟩;show 237≤(UInt8.ofNat (237+d)).toNat;rw[Lb1];omega
theorem not_mid(hX:X<2^255)(hi:0<i)(hi2:i<31)(h:¬((leb 32 X).getD i 0).toNat=255):leb 32 X=fb (fe X):=by
  rcases Lax X PF with h1|h1
  ·exact fb_low h1
  · exfalso
    have h2:=pf_19;obtain⟨d,rfl⟩:∃d,X=PF+d:=⟨X-PF,by omega⟩;have hd:d<19:=by omega
    rw[(top_at hd).1]at h;refine h ?_;obtain⟨j,rfl⟩:∃j,i=j+1:=⟨i-1,by omega⟩;show((List.replicate 30 (255:UInt8)++[127]).getD j 0).toNat=255;rw[La2,Lau (by rw[Ld5];omega),Len oM];rfl
theorem u8_eq(x y:UInt8)(h:x.toNat=y.toNat):x=y:=Lce.1 h
theorem top_list{l:List UInt8}(hl:l.length=32)(hd19:d<19)(hd:(l.getD 0 0).toNat=237+d)(h31:(l.getD 31 0).toNat=127)(hm:∀i,0<i→i<31→(l.getD i 0).toNat=255):l=topL d:=by
  apply Lcs;intro i;rcases Lax i 32 with hi|hi
  · have g:l[i]? =some (l.getD i 0):=by
      rw[La2,La3 oM];rfl
    rw[g];by_cases h1:i=0
    · rw[h1]
      show _=some (UInt8.ofNat (237+d));refine congrArg some (u8_eq _ _ ?_);rw[hd,Lb1];exact(Lab oM).symm
    · obtain⟨j,rfl⟩:∃j,i=j+1:=⟨i-1,by omega⟩
      show _=(List.replicate 30 (255:UInt8)++[127])[j]?;by_cases h2:j=30
      · rw[h2]
        exact congrArg some (u8_eq _ _ h31)
      · rw[Lau (by rw[Ld5];omega),Len oM]
        exact congrArg some (u8_eq _ _ (hm (j+1) oM oM))
  ·rw[Laq oM,Laq (by simp only[topL,Lb2,La4,Ld5,Lf0];omega)]
theorem top_sub:∀d:_root_.Fin 19,UInt8.ofNat (237+d.val)-237=UInt8.ofNat d.val:=by decide
theorem top_val(hX:X<2^255)(hd:d<19)(h:leb 32 X=topL d):X=PF+d:=by
  have h5:=(top_at hd).1;rw[←h]at h5;have h6:=congrArg le h5;have h7:=pf_19;rw[le_leb,le_leb]at h6;generalize PF=p at*;rw[Lab (Lbi (show p+d<2^255 by omega) (Lg4 dE)),Lab (Ld9 hX dE)]at h6;exact h6.symm
theorem is_top(hX:X<2^255)(h0:237≤((leb 32 X).getD 0 0).toNat)(h31:((leb 32 X).getD 31 0).toNat=127)(hm:∀i,0<i→i<31→((leb 32 X).getD i 0).toNat=255):((leb 32 X).getD 0 0-237)::List.replicate 31 0=fb (fe X):=by
  have h3:=((leb 32 X).getD 0 0).toNat_lt;obtain⟨d,hd⟩:∃d,((leb 32 X).getD 0 0).toNat=237+d:=⟨((leb 32 X).getD 0 0).toNat-237,by omega⟩;have hd19:d<19:=by omega
  have e:=top_list (Ak 32 X) hd19 hd h31 hm;have e2:=top_val hX hd19 e;have e3:(leb 32 X).getD 0 0=UInt8.ofNat (237+d):=by rw[e];rfl
  have h7:fe X=fe d:=by rw[e2,fe_eq,Nat.add_mod_left]
  rw[h7,fb_fe,Lab (Ld9 hd19 dE),(top_at hd19).2,e3,top_sub ⟨d,hd19⟩]
theorem finv_mulF(a b:Fp):finv (a*b)=finv a*finv b:=mulpow dE
def cA:Fp:=fe 121666
def cB:Fp:=fe 121665
theorem cA_ne:cA≠0:=by
  intro h;have:=congrArg Fin.val h;revert this;decide
theorem fD_cA:fD*cA= -cB:=by kernel_rfl
theorem ref_quot(Y:Fp):cA*(Y*Y-1)*finv (cA-cB*(Y*Y))=(Y*Y-1)*finv (fD*(Y*Y)+1):=by
  have h1:cA-cB*(Y*Y)=cA*(fD*(Y*Y)+1):=by
    have:=fD_cA;generalize Y*Y=q at*;generalize cA=a at*;generalize cB=b at*;generalize fD=d at*;grind
  have h2:=finv_mul cA_ne;rw[h1,finv_mulF];generalize finv (fD*(Y*Y)+1)=u at*;generalize finv cA=v at*;generalize cA=a at*;grind
theorem ref_D: -cB*finv cA=fD:=by
  have h1:=fD_cA;have h2:=finv_mul cA_ne;generalize finv cA=v at*;generalize cA=a at*;generalize cB=b at*;generalize fD=d at*;grind
end Ed
namespace Ed
open Hw Go
def oneT:List Nat:=1::List.replicate 9 0
def powT(x:List Nat)(E:Nat):Nat→List Nat
  |0=>oneT
  |j+1=>if E.testBit (255-j)=true then mulT (mulT (powT x E j) (powT x E j)) x else mulT (powT x E j) (powT x E j)
variable{E i j:Nat}{x:List Nat}
theorem oneT_v:fe (v10 oneT)=1:=by kernel_rfl
theorem oneT_fit:Fit10 oneT:=⟨rfl,by decide,fun i h1 h2=>by
  have:∀i:_root_.Fin 10,oneT.getD i.val 0<2^A5 i.val:=by decide
  exact this ⟨i,h2⟩⟩
theorem test_div(E j:Nat)(b:Bool)(h:E.testBit j=b):E/2^j%2=(if b=true then 1 else 0):=by
  rw[←h,Lc7];simp only[decide_eq_true_eq];split<;>omega
theorem powT_ok{x:List Nat}(hx:Fit10 x){E:Nat}(hE:E<2^256):∀j,j≤256→Fit10 (powT x E j)∧fe (v10 (powT x E j))=Cy (fe (v10 x)) (E/2^(256-j))
  |0,_=>⟨oneT_fit,by rw[powT,oneT_v,show 256-0=256 from rfl,Lb0 hE,fpow_zero]⟩
  | j +1,hj=>by
    obtain⟨h1,h2⟩:=powT_ok hx hE j oM;have h3:E/2^(256-(j+1))≤E:=Lco _ _;rw[next_div E j oM]at h3 ⊢;rw[powT];cases hb:E.testBit (255-j)with
    | true=>
      have h4:=test_div E (255-j) true hb;rw[if_pos rfl]at h4;rw[h4]at h3 ⊢;rw[if_pos rfl];refine⟨Bh (Bh h1 h1) hx,?_⟩;rw[mulT_v (mulT_length _ _) hx.len,mulT_v h1.len h1.len,h2,fpow_succ oM,fpow_two oM]
    | false=>
      have h4:=test_div E (255-j) false hb;rw[if_neg dE]at h4;rw[h4]at h3 ⊢;rw[if_neg dE];refine⟨Bh h1 h1,?_⟩;rw[mulT_v h1.len h1.len,h2,Lbt,fpow_two oM]
theorem powT_all(hx:Fit10 x)(hE:E<2^256):fe (v10 (powT x E 256))=Cy (fe (v10 x)) E:=by
  have h:=(powT_ok hx hE 256 (Lae _)).2;rwa[Lew,Lde,Lej]at h
theorem powT_t(h:E.testBit (255-j)=true):powT x E (j+1)=mulT (mulT (powT x E j) (powT x E j)) x:=if_pos h
theorem powT_f(h:E.testBit (255-j)=false):powT x E (j+1)=mulT (powT x E j) (powT x E j):=if_neg (by rw[h];decide)
def Ci(M i:Nat):List UInt8:=(leb 32 (M/2)).take i++(leb 32 M).drop i
theorem halfAt_length(M i:Nat)(h:i≤32):(Ci M i).length=32:=by
  rw[Ci,La4,Lag,Lc3,Ak,Ak];omega
theorem halfAt_zero(M:Nat):Ci M 0=leb 32 M:=rfl
theorem halfAt_end(M:Nat):Ci M 32=leb 32 (M/2):=by
  rw[Ci,La5 (by rw[Ak];exact Lae _),Lap (by rw[Ak];exact Lae _),Lat]
theorem halfAt_get(M:Nat)(hi:i≤j)(hj:j<32):(Ci M i).getD j 0=UInt8.ofNat (M/256^j):=by
  rw[Ci,La2,Law (by rw[Lag,Ak];omega),Lag,Ak,Lba,show i+(j-min i 32)=j by omega,leb_get 32 M j hj];rfl
theorem half_byte(M i:Nat):M/2/256^i%256=M/256^i%256/2+128*(M/256^(i+1)%2):=by
  have e1:M/2/256^i=M/256^i/2:=by rw[Lav,Lav,Lb3]
  have e2:M/256^(i+1)=M/256^i/256:=by rw[Lav,Lb8]
  rw[e1,e2];generalize M/256^i=x;omega
theorem halfAt_next(M:Nat)(h:i<32)(v:UInt8)(hv:v=UInt8.ofNat (M/2/256^i)):(Ci M i).set i v=Ci M (i+1):=by
  have hl:(leb 32 (M/2)).length=32:=Ak _ _;have hl2:(leb 32 M).length=32:=Ak _ _;have e:(leb 32 (M/2)).take (i+1)=(leb 32 (M/2)).take i++[v]:=by
    have e3:(leb 32 (M/2))[i]'oM=v:=by
      have:=leb_get 32 (M/2) i h;rw[La3 oM]at this;rw[hv];exact Lfm this
    rw[←e3];exact Lar oM
  have e2:(leb 32 M).drop i=(leb 32 M)[i]'oM::(leb 32 M).drop (i+1):=Lbx oM;rw[Ci,Ci,e,e2,Ldf _ _ (by rw[Lag,hl];omega),Lag,hl,show i-min i 32=0 by omega,Le5,La8];rfl
theorem half_odd(M:Nat)(h:i<31)(hb:(((Ci M i).set i (UInt8.ofNat (((Ci M i).getD i 0).toNat/2))).getD (i+1) 0).toNat%2=1):
    ((Ci M i).set i (UInt8.ofNat (((Ci M i).getD i 0).toNat/2))).set i (((Ci M i).set i (UInt8.ofNat (((Ci M i).getD i 0).toNat/2))).getD i 0+128)=Ci M (i+1):=by
  have hl:=halfAt_length M i oM;have g1:((Ci M i).set i (UInt8.ofNat (((Ci M i).getD i 0).toNat/2))).getD i 0=UInt8.ofNat (((Ci M i).getD i 0).toNat/2):=by
    rw[La2,Leo oM];rfl
  have g2:((Ci M i).set i (UInt8.ofNat (((Ci M i).getD i 0).toNat/2))).getD (i+1) 0=UInt8.ofNat (M/256^(i+1)):=by
    rw[La2,Led oM,←La2,halfAt_get M oM oM]
  rw[g2,Lb1]at hb;rw[g1,List.set_set];refine halfAt_next M oM _ ?_;rw[halfAt_get M (Lae _) oM,show(128:UInt8)=UInt8.ofNat 128 from rfl,←UInt8.ofNat_add,Lb1];apply ofNat8;have:=half_byte M i;omega
theorem half_even(M:Nat)(h:i<31)(hb:¬(((Ci M i).set i (UInt8.ofNat (((Ci M i).getD i 0).toNat/2))).getD (i+1) 0).toNat%2=1):
    (Ci M i).set i (UInt8.ofNat (((Ci M i).getD i 0).toNat/2))=Ci M (i+1):=by
  have hl:=halfAt_length M i oM;have g2:((Ci M i).set i (UInt8.ofNat (((Ci M i).getD i 0).toNat/2))).getD (i+1) 0=UInt8.ofNat (M/256^(i+1)):=by
    rw[La2,Led oM,←La2,halfAt_get M oM oM]
  rw[g2,Lb1]at hb;refine halfAt_next M oM _ ?_;rw[halfAt_get M (Lae _) oM,Lb1];apply ofNat8;have:=half_byte M i;omega
theorem half_last(M:Nat)(hM:M<2^256):(Ci M 31).set 31 (UInt8.ofNat (((Ci M 31).getD 31 0).toNat/2))=Ci M 32:=by
  refine halfAt_next M oM _ ?_;rw[halfAt_get M (Lae _) oM,Lb1];apply ofNat8;have:=half_byte M 31;have h2:M/256^(31+1)=0:=Lb0 (Lbi hM dE);omega
theorem ones_leb(f l:UInt8):leb 32 (le (onesB f l))=onesB f l:=by
  have:=leb_le (onesB f l);rwa[onesB_length]at this
def expT(n k:Nat):List UInt8:=leb 32 (le (onesB (UInt8.ofNat (237-n)) 127)/2^k)
theorem expT_length(n k:Nat):(expT n k).length=32:=Ak _ _
theorem expT_inv:le (expT 2 0)=PF-2:=by kernel_rfl
theorem expT_root:le (expT 5 3)=(PF-5)/8:=by kernel_rfl
theorem expT_unit:le (expT 1 2)=(PF-1)/4:=by kernel_rfl
theorem root_step(X:Fp):Cy X ((PF-5)/8)*X=Cy X ((PF+3)/8):=by
  rw[←fpow_succ dE];rfl
end Ed
namespace Go.Proofs.YtpogmfngccolbaaGreat
open Go Hw _root_.Go.Proofs.Tryz
structure far where
  fX:List Nat
  fY:List Nat
  fZ:List Nat
def far.cells(x:far):List Value:=Bn x.fX++(Bn x.fY++(Bn x.fZ))
structure far.ok(x:far):Prop where
  l_fX:x.fX.length=10
  l_fY:x.fY.length=10
  l_fZ:x.fZ.length=10
variable{x:far}
theorem far.length(h:x.ok):x.cells.length=30:=by simp[far.cells,Aa,Bn,B9,h.l_fX,h.l_fY,h.l_fZ]
theorem far.isCell{x:far}(h:x.ok):∀u∈x.cells,isCell u=true:=by
  intro u hu;simp only[far.cells,Lac,La0,Aa,Bn,B9,La7]at hu;rcases hu with ⟨_,_,rfl⟩|⟨_,_,rfl⟩|⟨_,_,rfl⟩<;>rfl
theorem far.row_fX(h:x.ok):(x.cells.drop 0).take 10=Bn x.fX:=by simp[far.cells,Aa,Bn,B9,h.l_fX,h.l_fY,h.l_fZ,Lbj,Lbh,Lap,La5]
theorem far.rl_fX(h:x.ok):(Bn x.fX).length=10:=by simp[Aa,Bn,B9,h.l_fX]
theorem far.row_fY(h:x.ok):(x.cells.drop 10).take 10=Bn x.fY:=by simp[far.cells,Aa,Bn,B9,h.l_fX,h.l_fY,h.l_fZ,Lbj,Lbh,Lap,La5]
theorem far.rl_fY(h:x.ok):(Bn x.fY).length=10:=by simp[Aa,Bn,B9,h.l_fY]
theorem far.row_fZ(h:x.ok):(x.cells.drop 20).take 10=Bn x.fZ:=by simp[far.cells,Aa,Bn,B9,h.l_fX,h.l_fY,h.l_fZ,Lbj,Lbh,Lap,La5]
theorem far.rl_fZ(h:x.ok):(Bn x.fZ).length=10:=by simp[Aa,Bn,B9,h.l_fZ]
def far.zero:far:=⟨List.replicate 10 0,List.replicate 10 0,List.replicate 10 0⟩
theorem far.zero_ok:far.zero.ok:=by constructor<;>simp[far.zero]
theorem far.zr:Zr prog 265 (agg far.zero.cells):=by unfold Zr;kernel_rfl
structure Rdr where
  fB:Sl
  fE:Int
def Rdr.cells(x:Rdr):List Value:=[x.fB.v]++([i64 x.fE])
structure Rdr.ok(x:Rdr):Prop where
  t:True
theorem Rdr.length{x:Rdr}(h:x.ok):x.cells.length=2:=by simp[Rdr.cells,Aa]
theorem Rdr.get_fB{x:Rdr}(h:x.ok):x.cells[0]? =some (x.fB.v):=by simp[Rdr.cells,Aa,Lbw]
theorem Rdr.set_fB{x:Rdr}(h:x.ok)(v:Sl):x.cells.set 0 (v.v)=({ x with fB:=v }).cells:=by simp[Rdr.cells,Aa,Ldg]
theorem Rdr.setS_fB{x:Rdr}(h:x.ok)(p:Option Addr)(n c:Nat):x.cells.set 0 (.slice p n c)=({ x with fB:=⟨p,n,c⟩ }).cells:=Rdr.set_fB h ⟨p,n,c⟩
theorem Rdr.get_fE{x:Rdr}(h:x.ok):x.cells[1]? =some (i64 x.fE):=by simp[Rdr.cells,Aa,Lbw]
theorem Rdr.set_fE{x:Rdr}(h:x.ok)(v:Int):x.cells.set 1 (i64 v)=({ x with fE:=v }).cells:=by simp[Rdr.cells,Aa,Ldg]
end Go.Proofs.YtpogmfngccolbaaGreat
namespace Hw
open Go
def ev:List Nat→Nat
  | []=>0
  |x::l=>x+256*ev l
def addC(l:List Nat)(k v:Nat):List Nat:=l.set k (l.getD k 0+v)
theorem addC_length(l:List Nat)(k v:Nat):(addC l k v).length=l.length:=by simp[addC]
theorem ev_addC:∀(l:List Nat) (k v:Nat),k<l.length→ev (addC l k v)=ev l+v*256^k
  | [],_,_,h=>by simp at h
  |x::l,0,v,_=>by simp[addC,ev];omega
  | x::l,k+1,v,h=>by
    have:=ev_addC l k v (by simpa using h);simp only[addC,Lfs,Ld2,ev]at this ⊢;rw[this,Lb8,Lc9,Lcc,←Lbo v,Lb3 (v*256^k) 256]
def inn(a b:List UInt8)(i:Nat)(l:List Nat):Nat→List Nat
  |0=>l
  |q+1=>addC (inn a b i l q) (i+q) ((a.getD i 0).toNat*(b.getD q 0).toNat)
theorem inn_length(a b:List UInt8)(i:Nat)(l:List Nat):∀q,(inn a b i l q).length=l.length
  |0=>rfl
  |q+1=>by rw[inn,addC_length,inn_length a b i l q]
def out(a b:List UInt8):Nat→List Nat
  |0=>List.replicate 64 0
  |p+1=>inn a b p (out a b p) 32
theorem out_length(a b:List UInt8):∀p,(out a b p).length=64
  |0=>by simp[out]
  |p+1=>by rw[out,inn_length,out_length a b p]
theorem ev_inn(a b:List UInt8)(i:Nat)(l:List Nat)(hb:b.length=32)(hi:i<32)(hl:l.length=64):∀q,q≤32→ev (inn a b i l q)=ev l+(a.getD i 0).toNat*256^i*le (b.take q)
  |0,_=>by simp[inn,le]
  | q+1,h=>by
    rw[inn,ev_addC _ _ _ (by rw[inn_length];omega),ev_inn a b i l hb hi hl q oM,le_take_succ b q oM,Lc9,Lcc,Lbd];congr 2;rw[Lbo,Lbo,Lb3 (b.getD q 0).toNat,Lbo]
theorem ev_zeros:∀k,ev (List.replicate k 0)=0
  |0=>rfl
  |k+1=>by simp[List.replicate,ev,ev_zeros k]
theorem ev_out(a b:List UInt8)(ha:a.length=32)(hb:b.length=32):∀p,p≤32→ev (out a b p)=le (a.take p)*le b
  |0,_=>by rw[out,ev_zeros,Ldu,le,Leg]
  | p+1,h=>by
    rw[out,ev_inn a b p _ hb oM (out_length a b p) 32 oM,ev_out a b ha hb p oM,le_take_succ a p oM,La5 (l:=b) oM,Lc8,Lb3 (256^p)]
theorem addC_le(l:List Nat)(k v M N:Nat)(h:∀j,l.getD j 0≤M)(hv:v≤N):∀j,(addC l k v).getD j 0≤M+N:=fun j=>by
  have hj:=h j;have hk:=h k;simp only[addC,La2,Lcx]at*;by_cases e:k=j
  · subst e
    rw[if_pos rfl];split
    ·simp only[Lbn];omega
    ·simp
  ·rw[if_neg e];omega
theorem inn_le'(a b:List UInt8)(i:Nat)(l:List Nat)(M K:Nat)(hK:K=255*255)(h:∀j,l.getD j 0≤M):∀q j,(inn a b i l q).getD j 0≤M+K*q
  |0,j=>by simpa[inn]using h j
  | q+1,j=>by
    have hx:=(a.getD i 0).toNat_lt;have hy:=(b.getD q 0).toNat_lt;have hm:(a.getD i 0).toNat*(b.getD q 0).toNat≤K:=by rw[hK];exact Lcq oM oM
    have:=addC_le _ (i+q) _ _ _ (inn_le' a b i l M K hK h q) hm j;rw[inn,Lc9,Lb4,←Lcc];exact this
theorem inn_le(a b:List UInt8)(i:Nat)(l:List Nat)(M:Nat)(h:∀j,l.getD j 0≤M)(q j:Nat):(inn a b i l q).getD j 0≤M+65025*q:=inn_le' a b i l M 65025 rfl h q j
theorem out_le'(a b:List UInt8)(K:Nat)(hK:K=65025*32):∀p j,(out a b p).getD j 0≤K*p
  | 0,j=>by
    rw[out,La2,Lel];split
    ·rw[Lbn];exact Laj _
    ·rw[Lgs];exact Laj _
  | p+1,j=>by
    have:=inn_le a b p (out a b p) _ (out_le' a b K hK p) 32 j;rw[out,Lc9,Lb4];rw[←hK]at this;exact this
theorem out_le(a b:List UInt8)(p j:Nat):(out a b p).getD j 0≤2080800*p:=out_le' a b 2080800 rfl p j
theorem ev_take_succ:∀(l:List Nat) (k:Nat),k<l.length→ev (l.take (k+1))=ev (l.take k)+256^k*l.getD k 0
  | [],_,h=>by simp at h
  |x::l,0,_=>by simp[ev]
  | x::l,k+1,h=>by
    have:=ev_take_succ l k (by simpa using h);simp only[List.take_succ_cons,ev,Ld2]at this ⊢;rw[this,Lc9,Lb8,Lcc,Lb3 (256^k) 256,Lbo]
theorem ev_take_le(l:List Nat)(M:Nat)(h:∀j,l.getD j 0≤M):∀k,ev (l.take k)/256^k≤M
  |0=>by simp[ev]
  | k +1=>by
    rcases Lax k l.length with hk|hk
    · rw[ev_take_succ l k hk,Lb8,←Lav,Lbp _ _ (Lbe dE)]
      have h1:=ev_take_le l M h k;have h2:=h k;omega
    · have h1:=ev_take_le l M h k
      rw[La5 oM,Lb8,←Lav];rw[La5 hk]at h1;exact Lbc (Lco _ _) h1
def natsV(l:List Nat):List Value:=l.map fun(n:Nat)=>i64 (n:Int)
theorem natsV_length(l:List Nat):(natsV l).length=l.length:=by simp[natsV]
theorem get_nats{l:List Nat}{o:Nat}(h:o<l.length):(natsV l)[o]? =some (i64 ((l.getD o 0:Nat):Int)):=by
  simp[natsV,Lan,List.getD,h]
theorem set_nats(l:List Nat)(o v:Nat):(natsV l).set o (i64 (v:Int))=natsV (l.set o v):=by simp[natsV,Ldv]
theorem addC_set(l:List Nat)(k x y:Nat):natsV (addC l k (x*y))=(natsV l).set k (i64 (((l.getD k 0:Nat):Int)+(x:Int)*(y:Int))):=by
  rw[addC,←set_nats,Lbr,Lga]
theorem natsV_zeros(n:Nat):natsV (List.replicate n 0)=B9 (List.replicate n 0):=by simp[natsV,B9]
theorem natCast_mul_le{x y:Nat}(hx:x<256)(hy:y<256):(0:Int)≤(x:Int)*(y:Int)∧(x:Int)*(y:Int)≤65025:=by
  rw[←Lga];have:x*y≤255*255:=Lcq oM oM;omega
theorem le512{a b:List UInt8}(ha:a.length=32)(hb:b.length=32):le a*le b<256^64:=by
  have h1:=le_lt a;have h2:=le_lt b;rw[ha]at h1;rw[hb]at h2;exact Nat.lt_of_lt_of_eq (Nat.mul_lt_mul'' h1 h2) (Lbd 256 32 32).symm
theorem ev_all(a b:List UInt8)(ha:a.length=32)(hb:b.length=32):ev ((out a b 32).take 64)=le a*le b:=by
  rw[La5 (by rw[out_length];omega),ev_out a b ha hb 32 oM,La5 oM]
end Hw
namespace Hw
open Go
def headOf(s h:Nat):UInt8:=shl8 255 (9-s)|||UInt8.ofNat h
variable{x:Nat}
theorem head_facts:∀s,s<10→1≤s→∀h,h<2^(8-s)→(s=9→h=0)→Bk (headOf s h)=s∧(headV (headOf s h)).toNat=h:=by
  decide+kernel
theorem head_back:∀n,n<256→1≤Bk (UInt8.ofNat n)∧Bk (UInt8.ofNat n)≤9∧(headV (UInt8.ofNat n)).toNat<2^(8-Bk (UInt8.ofNat n))∧(Bk (UInt8.ofNat n)=9→(headV (UInt8.ofNat n)).toNat=0)∧headOf (Bk (UInt8.ofNat n)) (headV (UInt8.ofNat n)).toNat=UInt8.ofNat n:=by
  decide+kernel
theorem head_of(f:UInt8):1≤Bk f∧Bk f≤9∧(headV f).toNat<2^(8-Bk f)∧(Bk f=9→(headV f).toNat=0)∧headOf (Bk f) (headV f).toNat=f:=by
  have h:=head_back f.toNat f.toNat_lt;rwa[Ldx]at h
def beN:List UInt8→Nat
  | []=>0
  |b::l=>b.toNat*256^l.length+beN l
theorem beN_lt:∀l,beN l<256^l.length
  | []=>by simp[beN]
  | b ::l=>by
    have h1:=beN_lt l;have h2:=b.toNat_lt;rw[beN,Lb2,Lb8];have:b.toNat*256^l.length+256^l.length≤256^l.length*256:=by
      rw[←Nat.succ_mul,Lb3];exact Lbu _ oM
    omega
theorem beN_inj:∀(a b:List UInt8),a.length=b.length→beN a=beN b→a=b
  | [],[],_,_=>rfl
  | x ::a,y::b,hl,h=>by
    simp only[Lb2,Nat.add_right_cancel_iff]at hl;rw[beN,beN,hl]at h;have h1:=beN_lt a;have h2:=beN_lt b;rw[hl]at h1;have hp:0<256^b.length:=Lbe dE;have e1:x.toNat=y.toNat:=by
      have d1:(x.toNat*256^b.length+beN a)/256^b.length=x.toNat:=by rw[Lb3,Lg7 hp,Lb0 h1,Lbt]
      have d2:(y.toNat*256^b.length+beN b)/256^b.length=y.toNat:=by rw[Lb3,Lg7 hp,Lb0 h2,Lbt]
      rw[←d1,←d2,h]
    rw[e1]at h;rw[Lce.1 e1,beN_inj a b hl oM]
theorem beN_tail(x:UInt64):∀k,k≤8→beN (tailB x k)=x.toNat%256^k
  |0,_=>by simp[tailB,beN,Ley]
  | k +1,hk=>by
    have hp:0<256^k:=Lbe dE;have e:(2:Nat)^(8*k)=256^k:=by rw[Lex]
    rw[tailB,beN,tailB_length,beN_tail x k oM,Lfa];have e1:(Ar x (8*k)).toNat=x.toNat/256^k:=by
      have h:x.toNat/2^(8*k)≤x.toNat:=Lco _ _;have:=x.toNat_lt;rw[Ar,Laz,Lab oM,e]
    rw[e1];have h3:=Lg8 (a:=256^k) (b:=256) (x:=x.toNat);have e2:(256:Nat)^(k+1)=256^k*256:=Lb8 ..;have e3:(2:Nat)^8=256:=by decide
    rw[e2,h3,e3,Lb3 (256^k)];omega
theorem foldB_nat:∀(l:List UInt8) (a:UInt64),a.toNat*256^l.length+beN l<2^64→(foldB a l).toNat=a.toNat*256^l.length+beN l
  | [],a,_=>by simp[foldB,beN]
  | b ::l,a,h=>by
    rw[beN,Lb2,Lb8]at h;have hb:=b.toNat_lt;have hp:0<256^l.length:=Lbe dE;have e:a.toNat*(256^l.length*256)+(b.toNat*256^l.length+beN l)=(a.toNat*256+b.toNat)*256^l.length+beN l:=by
      rw[Lc8,Lbo,Lb3 256,Lcc]
    rw[e]at h;have h1:a.toNat*256+b.toNat<18446744073709551616:=by
      rw[show(2:Nat)^64=18446744073709551616 by decide]at h;have:(a.toNat*256+b.toNat)*1≤(a.toNat*256+b.toNat)*256^l.length:=Lbu _ hp;omega
    have hs:(A1 a 8).toNat=a.toNat*256:=by
      have e0:a.toNat*2^8=a.toNat*256:=rfl;rw[A1,Laz,e0,Lab (Le4 (Lgt _ b.toNat) h1)]
    have ho:(A1 a 8|||b.toUInt64).toNat=a.toNat*256+b.toNat:=by
      rw[Ldd,hs,show b.toUInt64.toNat=b.toNat from by simp];rw[show a.toNat*256=2^8*a.toNat by omega,Lcf oM]
    rw[foldB,foldB_nat l _ (by rw[ho];exact h),ho,beN,Lb2,Lb8,e]
theorem or_one(x:Nat):x|||1=if x%2=0 then x+1 else x:=by
  have h:=Nat.or_mod_two_pow (a:=x) (b:=1) (n:=1);have h2:=Nat.or_div_two_pow (a:=x) (b:=1) (n:=1);simp only[Nat.pow_one]at h h2;have e:x%2=0∨x%2=1:=by omega
  have hm:(x|||1)%2=1:=by
    rw[h];rcases e with e|e<;>rw[e]<;>rfl
  have hd:(x|||1)/2=x/2:=by rw[h2];simp
  split<;>omega
theorem or_one_lt{x k:Nat}(hk:1≤k):(x|||1)<2^k↔x<2^k:=by
  rw[or_one];have:2^k=2*2^(k-1):=by rw[←Nat.pow_succ'];congr 1;omega
  split<;>omega
theorem szN_le{x s:Nat}(hs:1≤s)(h8:s≤8):szN x≤s↔x<2^(7*s):=by
  rw[←or_one_lt oM,←bLen_le];unfold szN;omega
theorem szN_hi(hs:szN x≤8):x<2^(7*szN x):=(szN_le (B1 x).1 hs).1 (Lae _)
theorem headB_of(x:UInt64):∃h,headB x=headOf (szN x.toNat) h∧h<2^(8-szN x.toNat)∧(szN x.toNat=9→h=0)∧x.toNat=h*256^(szN x.toNat-1)+x.toNat%256^(szN x.toNat-1):=by
  have hp:=B1 x.toNat;have hx:=x.toNat_lt;have e:(2:Nat)^(8*(szN x.toNat-1))=256^(szN x.toNat-1):=by rw[Lex]
  have e1:(Ar x (8*(szN x.toNat-1))).toNat=x.toNat/256^(szN x.toNat-1):=by
    have h:x.toNat/2^(8*(szN x.toNat-1))≤x.toNat:=Lco _ _;rw[Ar,Laz,Lab oM,e]
  have hlt:x.toNat/256^(szN x.toNat-1)<2^(8-szN x.toNat)∧(szN x.toNat=9→x.toNat/256^(szN x.toNat-1)=0):=by
    by_cases h9:szN x.toNat=9
    · rw[h9]
      have:x.toNat/256^(9-1)=0:=Lb0 (by rw[show(256:Nat)^(9-1)=2^64 by decide];exact hx);rw[this];exact⟨by decide,fun _=>rfl⟩
    · refine⟨?_,fun h=>absurd h h9⟩
      rw[Ld4 (Lbe dE),←e,←Lbd];have:=szN_hi (x:=x.toNat) oM;rwa[show 8-szN x.toNat+8*(szN x.toNat-1)=7*szN x.toNat by omega]
  refine⟨x.toNat/256^(szN x.toNat-1),?_,hlt.1,hlt.2,(Nat.div_add_mod' _ _).symm⟩;unfold headB headOf;congr 1;apply Lce.1;rw[Lfa,e1,Lb1]
theorem num_only{f:UInt8}{l:List UInt8}(hl:l.length=Bk f-1)(hs:szN (foldB (headV f) l).toNat=Bk f):numB (foldB (headV f) l)=f::l:=by
  obtain⟨h1,h2,h3,h4,h5⟩:=head_of f;have hb:=beN_lt l;rw[hl]at hb;have hbound:(headV f).toNat*256^l.length+beN l<2^64:=by
    rw[hl];have e8:(256:Nat)^(Bk f-1)=2^(8*(Bk f-1)):=by rw[Lex]
    by_cases h9:Bk f=9
    · have e9:(256:Nat)^(Bk f-1)=2^64:=by rw[h9]
      rw[h4 h9,Leg,Las,←e9];exact hb
    · have h6:(headV f).toNat*256^(Bk f-1)+256^(Bk f-1)≤2^(8-Bk f)*256^(Bk f-1):=by
        rw[←Nat.succ_mul];exact Leb _ h3
      have h7:2^(8-Bk f)*256^(Bk f-1)=2^(7*Bk f):=by
        rw[e8,←Lbd];congr 1;omega
      have h8:2^(7*Bk f)≤2^64:=Lbv dE oM;omega
  have hv:=foldB_nat l (headV f) hbound;obtain⟨x,hx⟩:∃x,foldB (headV f) l=x:=⟨_,rfl⟩;rw[hx]at hs hv ⊢;rw[hl]at hv;have hp:0<256^(Bk f-1):=Lbe dE;have hdiv:x.toNat/256^(Bk f-1)=(headV f).toNat:=by
    rw[hv,Lb3,Lg7 hp,Lb0 hb,Lbt]
  have hmod:x.toNat%256^(Bk f-1)=beN l:=by
    rw[hv,Lb3,Nat.mul_add_mod,Lab hb]
  obtain⟨h,g1,g2,g3,g4⟩:=headB_of x;rw[hs]at g1 g2 g3 g4;have hh:h=(headV f).toNat:=by
    rw[←hdiv];have hm:=Lbs x.toNat hp;rw[g4,Lb3,Lg7 hp,Lb0 hm,Lbt]
  unfold numB;rw[g1,hh,h5,hs];congr 1;apply beN_inj
  ·rw[tailB_length,hl]
  ·rw[beN_tail x _ oM,hmod]
end Hw
namespace Hw
open Go Go.RowKit
structure RowE(s:Sl)(bl:List Blk)(cells:List Value)(n:Nat):Prop where
  num:s.n=n
  cap:s.n≤s.c
  see:∀W,Lies bl W→SeesP W s.p cells
  nil:s.p=none→s.c=0
section
variable{C:Cx}{ops:Array Oper}{rest:List (Nat×Oper)}{sl:List (Nat×Value)}{hp hp':List Blk}{Q:St→Prop}{c d:Nat}{ty:TypeId}{pos:String}{af:Array Edge}{g:Option (Nat×Bool)}
theorem Tr.appendE{x y:Operand}{b m size by' c2:Nat}{T tx E E2:TypeId}{z:Value}{p:Option Addr}(news:List Value)(hg:Aj ops sl g=true)(hk:okG c d C.N=true)
    (hx:Ag sl x=some (.slice (some ⟨b,0,none⟩) 0 0)) (hy:Ag sl y=some (.slice p m c2)) (hu:C.P.underlying T=some (.slice E)) (hut:C.P.underlying tx=some (.slice E2)) (hs:Sz C.P E size) (hz:Zr C.P E z) (hb:By C.P E by') (hzc:z.cells.size=size)
    (hsee:∀w,HRep C hp w→SeesP w p news) (hpn:p=none→m=0) (hcell:∀u∈news,isCell u=true) (hbig:m≤1000000) (hfit:m*by'≤140737488355328) (hnl:news.length=m*size)
    (k:∀s bl,RowE s bl news m→Tr C ops rest ⟨(d,s.v)::sl,bl++hp⟩ Q):
    Tr C ops ((c,⟨some d, .call { callee:= .builtin .append,args:= #[x,y],argTypes:= #[T,tx] },ty,pos,af,g⟩)::rest) ⟨sl,hp⟩ Q:=by
  simp only[okG,Lai,Lca]at hk;have hrow:∀q cap',m≤cap'→RowE ⟨some ⟨q,0,none⟩,m,cap'⟩ [⟨q,news,E,cap'*size⟩] news m:=fun q cap' h=>⟨rfl,h,fun W hw=>(Acc.some (E:=E) h hnl).see hw,fun e=>by cases e⟩;refine Tr.grow (ρ:=Sl×List Blk) (fun r=>RowE r.1 r.2 news m) (fun r=>r.1.v) (fun r=>r.2) (hk.1.imp nbeq' nbeq') (A0 hg) (Cc (nblt hk.2))
    ⟨by simpa[Known,Op.operands,Call.operands]using known2 hx hy,fun l hl=>?_,fun a w hf hh=>?_⟩ (fun r hr=>k r.1 r.2 hr)
  · obtain⟨q,_,hq⟩:=fresh_is 0 l
    refine⟨(⟨some ⟨q,0,none⟩,m,m⟩,[⟨q,news,E,m*size⟩]),hrow q m (Lae _),?_⟩;simp only[Lck,Lao,Lb7];exact⟨fun h=>by obtain⟨b,hb,e⟩:=La7.1 h;exact hq b hb e,hl⟩
  · have h1:=hf x (by simp[Op.operands,Call.operands]);rw[hx]at h1
    have h2:=hf y (by simp[Op.operands,Call.operands]);rw[hy]at h2;simp only[La6]at h1 h2;unfold Sz at hs;unfold Zr at hz;unfold By at hb;cases hi:C.P.info? E with
    |none=>rw[hi]at hs;simp at hs
    | some i=>
      rw[hi]at hs hz hb;simp only[Lbq,La6,Lc2]at hs hz hb;subst hs;have hS:Src C.P i.size tx (.slice p m c2) m news w:=Src.ofP hut (hsee w hh) hpn hnl hcell;unfold Oper.wp;rcases Nat.eq_zero_or_pos m with rfl|hm
      · obtain rfl:news=[]:=Laa (by rw[hnl];simp)
        have hrun:(Builtin.append_ #[T,tx] ty #[.slice (some ⟨b,0,none⟩) 0 0, .slice p 0 c2]).run C.P w= .ok (.slice (some ⟨b,0,none⟩) 0 0) w:=by
          rcases hS.kind with ⟨e',hk⟩|hk<;>simp[Builtin.append_,run_underlying hu,run_underlying hk,Go.sizeOf,typeInfo,hi,hS.len,hS.cells,storeCells]
        have hex:(execOp a.eval ⟨some d, .call { callee:= .builtin .append,args:= #[x,y],argTypes:= #[T,tx] },ty,pos,af,g⟩).run C.P w= .ok (.value (.slice (some ⟨b,0,none⟩) 0 0)) w:=by
          simp[execOp,resolve,invoke,builtin,←h1,←h2,hrun]
        rw[hex];exact⟨(⟨some ⟨b,0,none⟩,0,0⟩,[]),⟨rfl,Lae _,fun W _=>SeesP.nil,fun e=>by cases e⟩,rfl,⟨Keeps.refl _ _,by simp,by simp,by simp⟩⟩
      · have hold:(Builtin.firstCells i.size 0 (.slice (some ⟨b,0,none⟩) 0 0)).run C.P w.drew= .ok ([]:List Value).toArray w.drew:=
          run_firstCells_some w.drew i.size 0 ⟨b,0,none⟩ 0 0 [] sP (fun j u hj=>by simp at hj)
        have hrun:=run_append_grow_src (P:=C.P) w T tx ty E i z hu hi hz (some ⟨b,0,none⟩) 0 0 [] hold _ m news hS oM oM (growslice_fits oM (by rw[hb];simpa using hfit));simp only[Las,Lak]at hrun;have hge:=grownCap_ge w m 0 E;have hex:(execOp a.eval ⟨some d, .call { callee:= .builtin .append,args:= #[x,y],argTypes:= #[T,tx] },ty,pos,af,g⟩).run C.P w= .ok (.value (.slice (some ⟨w.heap.size,0,none⟩) m (grownCap w m 0 E))) (w.drew.alloc (.cells (news.toArray++Builtin.zeroCells z.cells (grownCap w m 0 E-m)) E)):=by
          simp[execOp,resolve,invoke,builtin,←h1,←h2,hrun]
        rw[hex];refine⟨(⟨some ⟨w.heap.size,0,none⟩,m,grownCap w m 0 E⟩,[⟨w.heap.size,news,E,grownCap w m 0 E*i.size⟩]),hrow _ _ hge,rfl,Ret.pushD _ _ _ _ ?_ sP⟩;have e:grownCap w m 0 E*i.size=m*i.size+(grownCap w m 0 E-m)*i.size:=by rw[←Lc8];congr 1;omega
        simp[Builtin.zeroCells,hnl,hzc,e]
end
end Hw
namespace Go.Proofs.YtpogmfngccolbaaGreat
open Go Go.Shelf Hw
def sortD_ren:Go.Shelf.Ren:=⟨fun|6=>140|15=>184|14=>183|28=>225|29=>210|20=>217|21=>218|22=>219|23=>220|24=>221|25=>222|26=>223|27=>224|46=>281|47=>282|48=>283|49=>284|50=>285|57=>315|n=>n,fun|22=>30|24=>34|25=>43|3=>3|39=>172|0=>0|53=>235|55=>45|4=>4|46=>229|45=>228|50=>127|5=>5|9=>9|66=>284|70=>287|76=>307|77=>308|n=>n,fun|n=>n⟩
theorem sortD:SlLaysF0.n6 Tryz.prog sortD_ren:={
  mixed:=by kernel_rfl
  f6:=⟨Tryz.f140.name,by decide,Tryz.func140.trans (congrArg some Hw.zK)⟩
  f14:=⟨Tryz.f183.name,by decide,Tryz.func183.trans (congrArg some Hw.zK)⟩
  f15:=Tryz.func184.trans (congrArg some Hw.zK)
  f20:=⟨Tryz.f217.name,by decide,Tryz.func217.trans (congrArg some Hw.zK)⟩
  f21:=⟨Tryz.f218.name,by decide,Tryz.func218.trans (congrArg some Hw.zK)⟩
  f22:=⟨Tryz.f219.name,by decide,Tryz.func219.trans (congrArg some Hw.zK)⟩
  f23:=⟨Tryz.f220.name,by decide,Tryz.func220.trans (congrArg some Hw.zK)⟩
  f24:=⟨Tryz.f221.name,by decide,Tryz.func221.trans (congrArg some Hw.zK)⟩
  f25:=⟨Tryz.f222.name,by decide,Tryz.func222.trans (congrArg some Hw.zK)⟩
  f26:=⟨Tryz.f223.name,by decide,Tryz.func223.trans (congrArg some Hw.zK)⟩
  f27:=⟨Tryz.f224.name,by decide,Tryz.func224.trans (congrArg some Hw.zK)⟩
  f28:=Tryz.func225.trans (congrArg some Hw.zK)
  f29:=Tryz.func210.trans (congrArg some Hw.zK)
  f46:=⟨Tryz.f281.name,by decide,Tryz.func281.trans (congrArg some Hw.zK)⟩
  f47:=Tryz.func282.trans (congrArg some Hw.zK)
  f48:=Tryz.func283.trans (congrArg some Hw.zK)
  f49:=⟨Tryz.f284.name,by decide,Tryz.func284.trans (congrArg some Hw.zK)⟩
  f50:=⟨Tryz.f285.name,by decide,Tryz.func285.trans (congrArg some Hw.zK)⟩
  f57:=⟨Tryz.f315.name,by decide,Tryz.func315.trans (congrArg some Hw.zK)⟩
  t0:=Tryz.underlying0
  a0:=Tryz.isAgg0
  z0:=Tryz.sizeOf0
  v0:=Tryz.zeroValue0
  t3:=Y3.h
  a3:=Tryz.isAgg3
  z3:=Tryz.sizeOf3
  v3:=Tryz.zeroValue3
  t4:=Y4
  a4:=Tryz.isAgg4
  z4:=Tryz.sizeOf4
  v4:=Tryz.zeroValue4
  t5:=Y5.h
  a5:=Tryz.isAgg5
  z5:=Tryz.sizeOf5
  v5:=Tryz.zeroValue5
  t9:=Tryz.underlying9
  a9:=Tryz.isAgg9
  z9:=Tryz.sizeOf9
  v9:=Tryz.zeroValue9
  t22:=Y30.h
  a22:=Tryz.isAgg30
  z22:=Tryz.sizeOf30
  v22:=Tryz.zeroValue30
  t25:=Tryz.underlying43
  a25:=Tryz.isAgg43
  z25:=Tryz.sizeOf43
  v25:=Tryz.zeroValue43
  t39:=Y172.h
  a39:=Tryz.isAgg172
  z39:=Tryz.sizeOf172
  v39:=Tryz.zeroValue172
  t45:=Tryz.underlying228
  a45:=Tryz.isAgg228
  z45:=Tryz.sizeOf228
  v45:=Tryz.zeroValue228
  t46:=Tryz.underlying229
  a46:=Tryz.isAgg229
  z46:=Tryz.sizeOf229
  v46:=Tryz.zeroValue229
  t50:=Tryz.underlying127
  a50:=Tryz.isAgg127
  z50:=Tryz.sizeOf127
  v50:=Tryz.zeroValue127
  t53:=Tryz.underlying235
  a53:=Tryz.isAgg235
  z53:=Tryz.sizeOf235
  v53:=Tryz.zeroValue235
  t55:=Y45.h
  a55:=Tryz.isAgg45
  z55:=Tryz.sizeOf45
  v55:=Tryz.zeroValue45
  t66:=Tryz.underlying284
  a66:=Tryz.isAgg284
  z66:=Tryz.sizeOf284
  v66:=Tryz.zeroValue284
  t70:=Tryz.underlying287
  a70:=Tryz.isAgg287
  z70:=Tryz.sizeOf287
  v70:=Tryz.zeroValue287
  t76:=Tryz.underlying307
  a76:=Tryz.isAgg307
  z76:=Tryz.sizeOf307
  v76:=Tryz.zeroValue307
  t77:=Tryz.underlying308
  a77:=Tryz.isAgg308
  z77:=Tryz.sizeOf308
  v77:=Tryz.zeroValue308 }
end Go.Proofs.YtpogmfngccolbaaGreat
namespace Hw
open Go Go.RowKit
def jumpQ(l:Nat)(N:St→Prop)(Q:Exit→St→Prop):Exit→St→Prop
  | .goto l',s=>l'=l∧N s
  |e,s=>Q e s
variable{C:Cx}{L:List Blk}{N:St→Prop}{P:Program}{Q:Exit→St→Prop}{T e k:TypeId}{f1 f2:Field}{l n:Nat}{s:St}
theorem jm_r(h:Q .ret s):jumpQ l N Q .ret s:=h
theorem jm_g(h:N s):jumpQ l N Q (.goto l) s:=⟨rfl,h⟩
theorem least(p:Nat→Prop)(h:∃n,p n):∃n,p n∧∀m,p m→n≤m:=by
  obtain⟨n,hn⟩:=h
  induction n using Nat.strongRecOn with
  | _ n ih=>
    by_cases h2:∃m,m<n∧p m
    · obtain⟨m,h3,h4⟩:=h2
      exact ih m h3 h4
    ·exact⟨n,hn,fun m hm=>by rcases Lax m n with h3|h3;exact absurd ⟨m,h3,hm⟩ h2;exact h3⟩
theorem Sat.again{x rest:Code}{ι:Type}(S:ι→St)(I:ι→Prop)(μ:ι→Nat)(hf:findLabel x l=none)
    (h1:Sat C x s (thenQ (fun s'=>∃i,I i∧Weak s' (S i)) (jumpQ l (fun _=>False) Q)))
    (pass:∀i,I i→Sat C rest (S i) (jumpQ l (fun s'=>∃j,I j∧μ j<μ i∧Weak s' (S j)) Q)):Sat C (.scope (.seq x (.seq (.label l) rest))) s Q:=by
  intro a w r;have hfl:findLabel (.seq x (.seq (.label l) rest)) l=some (.seq .skip rest):=by simp[findLabel,hf]
  let J:Act→World→Prop:=fun a w=>∃i,I i∧Rep C (S i) a w
  let V:Act→World→Nat→Prop:=fun a w n=>∃i,I i∧Rep C (S i) a w∧μ i=n
  have hV:∀a w,∃n,(∃n,V a w n)→V a w n∧∀m,V a w m→n≤m:=fun a w=>by
    by_cases h:∃n,V a w n
    · obtain⟨n,h2,h3⟩:=least _ h
      exact⟨n,fun _=>⟨h2,h3⟩⟩
    ·exact⟨0,fun h2=>absurd h2 h⟩
  let M:Act→World→Nat:=fun a w=>Classical.choose (hV a w)
  have hM:∀a w,(∃n,V a w n)→V a w (M a w)∧∀m,V a w m→M a w≤m:=fun a w=>Classical.choose_spec (hV a w);have hpass:∀i,I i→∀a w,Rep C (S i) a w→(Code.seq .skip rest).wp C.P (Exit.jump l (fun a' w'=>∃j,I j∧μ j<μ i∧Rep C (S j) a' w') (fun e a' w'=>∃s',Rep C s' a' w'∧Q e s')) a w:=fun i hi a w r=>by
    have h2:Sat C (.seq .skip rest) (S i) (jumpQ l (fun s'=>∃j,I j∧μ j<μ i∧Weak s' (S j)) Q):=Sat.seq (Sat.skip (pass i hi));refine wp_mono (h2 a w r) fun e a' w' ⟨s',r',q⟩=>?_;cases e with
    | goto l'=>
      obtain⟨e1,j,hj,hlt,hw⟩:=q;exact⟨e1,j,hj,hlt,r'.weak hw⟩
    |_=>exact⟨s',r',q⟩
  have up:∀ {i:ι},I i→∀ {a w},Rep C (S i) a w→M a w≤μ i:=fun {i} hi {a w} r=>(hM a w ⟨μ i,i,hi,r,rfl⟩).2 _ ⟨i,hi,r,rfl⟩;refine wp_scope_jumps l J M hfl ?_ ?_
  · have h2:Sat C (.seq x (.seq (.label l) rest)) s (jumpQ l (fun s'=>∃j,I j∧Weak s' (S j)) Q):=by
      refine Sat.seq (Sat.mono h1 fun e s1 h=>?_);cases e with
      | normal=>
        obtain⟨i,hi,hw⟩:=h;refine Sat.weak hw (Sat.seq (Sat.label ?_));refine Sat.mono (pass i hi) fun e s2 h=>?_;cases e with
        |goto l'=>obtain⟨e1,j,hj,_,hw⟩:=h;exact⟨e1,j,hj,hw⟩
        |_=>exact h
      |goto l'=>exact h.2.elim
      |_=>exact h
    refine wp_mono (h2 a w r) fun e a' w' ⟨s',r',q⟩=>?_;cases e with
    | goto l'=>
      obtain⟨e1,j,hj,hw⟩:=q;exact⟨e1,j,hj,r'.weak hw⟩
    |_=>exact⟨s',r',q⟩
  · rintro a w ⟨i0,hi0,r0⟩
    obtain⟨⟨i,hi,r,em⟩,_⟩:=hM a w ⟨μ i0,i0,hi0,r0,rfl⟩;refine wp_mono (hpass i hi a w r) fun e a' w' q=>?_;cases e with
    | goto l'=>
      obtain⟨e1,j,hj,hlt,rj⟩:=q;exact⟨e1,⟨j,hj,rj⟩,by have:=up hj rj;omega⟩
    |_=>exact q
def Lent(L:List Blk)(w:World):Prop:=Lies L w∧(L.map (·.n)).Nodup
theorem Lent.of{hp L keep:List Blk}{w:World}(h:HRep C hp w)(hp1:hp.Perm (L++keep)):Lent L w:=by
  refine⟨fun b hb=>h.cells b (hp1.symm.subset (Lb6 _ hb)),?_⟩;have:=(hp1.map (·.n)).nodup_iff.1 h.nodup;rw[Lad,Lay]at this;exact this.1
theorem Lent.rep{W:World}{N:Nat}(h:Lent L W):HRep ⟨P,W,N,L.map (·.n),[],[]⟩ L W:=
  ⟨h.1,h.2,fun b hb=> .inr (La7.2 ⟨b,hb,rfl⟩),Keeps.refl _ _,fun _ h=>(by cases h),fun _ _ _ h=>(by cases h)⟩
def placeT{ν:Type}(n:Nat)(ev:ν→Value):MTy (List UInt8×UInt64) ν:=⟨fun k=>agg (Aa k.1++[u64 k.2]),ev,fun k=>k.1.length=n⟩
theorem place_inj{a b:List UInt8×UInt64}(h:agg (Aa a.1++[u64 a.2])=agg (Aa b.1++[u64 b.2])):a=b:=by
  simp only[agg,Value.agg.injEq]at h;have h1:Aa a.1++[u64 a.2]=Aa b.1++[u64 b.2]:=by simpa using congrArg Array.toList h
  have h2:=List.append_inj' h1 rfl;have e1:=bytesV_inj2 h2.1;have e2:u64 a.2=u64 b.2:=by simpa using h2.2
  simp only[u64,Value.int.injEq,true_and]at e2;exact Prod.ext e1 (Lbg.1 oM)
theorem keyLits_u64(he:P.underlying e=some (.int .u64))(D:Nat)(x:UInt64):∃ls,P.keyLits (D+1) e [u64 x]=some ls:=by
  refine⟨[.int .u64 (x.toNat:Int)],?_⟩;simp[Program.keyLits,he,u64,wf_u64]
theorem keyOf_place{fs:Array Field}(hu:P.underlying k=some (.struct fs))(hfs:fs.toList=[f1,f2])(hb:fs.all (·.name != "_")=true)(o1:f1.offset=0)(o2:f2.offset=n)(c1:P.cellsOf f1.type=n)(c2:P.cellsOf f2.type=1)(ck:P.cellsOf k=n+1)
    (A:WideMaps.ArrKey P f1.type e n) (he:P.underlying e=some (.int .u8)) (h2:P.underlying f2.type=some (.int .u64)) (hkt:P.keyType k=true) (hsz:∃m,P.types.size=m+2) {l:List UInt8} (hl:l.length=n) (x:UInt64):∃r,keyOf P k (agg (Aa l++[u64 x]))=some r:=by
  obtain⟨m,hm⟩:=hsz;have hlen:(Aa l).length=n:=by rw[Aa,La1,hl]
  obtain⟨la,ha⟩:=keyLits_arr A he m hl;obtain⟨lb,hb2⟩:=keyLits_u64 h2 (m+1) x;have hk:∃ls,P.keyLits (m+3) k (Aa l++[u64 x])=some ls:=by
    refine⟨[la,lb].flatten,?_⟩;unfold Program.keyLits;simp only[hu];rw[if_pos ⟨by rw[La4,hlen,ck];rfl,hb⟩,hfs];have e1:((Aa l++[u64 x]).drop f1.offset).take (P.cellsOf f1.type)=Aa l:=by rw[o1,c1,Lea,Ld1 oM,La5 oM]
    have e2:((Aa l++[u64 x]).drop f2.offset).take (P.cellsOf f2.type)=[u64 x]:=by rw[o2,c2,Ldn oM,Lap oM];rfl
    simp only[List.mapM_cons,List.mapM_nil,e1,e2,ha,hb2];rfl
  obtain⟨ls,h⟩:=hk;refine⟨.string (keyBytes ls),?_⟩;unfold keyOf;simp only[hu];rw[if_pos (by simp[hkt,Value.formed,hu,ck,hlen,agg]),hm];simp only[agg,Value.cells];exact congrArg (Option.map _) h
theorem placeT_ok{T k E:TypeId}{ν:Type}(ev:ν→Value){z:Value}(hu:P.underlying T=some (.map k E))(hk:∀(l:List UInt8) (x:UInt64),l.length=n→∃r,keyOf P k (agg (Aa l++[u64 x]))=some r)(K:Maps.Keyed P k)(hz:∀w,(zeroValue E).run P w= .ok z w):
    MOk P T k E (placeT n ev) z:=⟨hu,K,fun a ha=>hk a.1 a.2 ha,fun a b _ _ h=>place_inj h,hz⟩
theorem putAll_app:∀(a b:List Value) (c:Array Value) (k:Nat),Ch c k (a++b)=Ch (Ch c k a) (k+a.length) b:=by
  intro a
  induction a with
  |nil=>intro b c k;rfl
  |cons x a ih=>intro b c k;rw[Lam,Ch,Ch,ih,Lb2];congr 1;omega
theorem run_build2{n m:Nat}{z ca cb:List Value}{a b:Value}(hz:Zr P T (agg z))(hu:P.underlying T=some (.struct #[f1,f2]))(o1:f1.offset=0)(o2:f2.offset=n)(s1:Sz P f1.type n)(s2:Sz P f2.type m)(hzl:z.length=n+m)
    (ha:a.cells.toList=ca) (hb:b.cells.toList=cb) (la:ca.length=n) (lb:cb.length=m) (w:World):(Instr.build T #[(0,a),(1,b)]).run P w= .ok (agg (ca++cb)) w:=by
  have r1:=Cm s1 w;have r2:=Cm s2 w;have na:a.cells.size=n:=by rw[←Ld3,ha,la]
  have nb:b.cells.size=m:=by rw[←Ld3,hb,lb]
  have f1':∀(off:Nat) (v:Value) (cells:Array Value),(v.cells.zipIdx.foldl (fun cs (x:Value×Nat)=>match x with|(c,j)=>cs.setIfInBounds (off+j) c) cells)=Ch cells off v.cells.toList:=fun off v cells=>by
    rw[←Array.foldl_toList,Array.toList_zipIdx];exact fold_put off v.cells.toList 0 cells
  have hfill:Instr.fill (fun i=>([(0,n),(n,m)]:List (Nat×Nat))[i]?) z.toArray [(0,a),(1,b)]=some (ca++cb).toArray:=by
    have e0:([(0,n),(n,m)]:List (Nat×Nat))[0]? =some (0,n):=rfl;have e1:([(0,n),(n,m)]:List (Nat×Nat))[1]? =some (n,m):=rfl;rw[Instr.fill];simp only[e0,na];rw[if_neg (by simp[hzl])];rw[Instr.fill];simp only[e1,nb];have hs:(Array.foldl (fun cs (x:Value×Nat)=>match x with|(c,j)=>cs.setIfInBounds (0+j) c) z.toArray a.cells.zipIdx)=Ch z.toArray 0 ca:=by rw[←ha];exact f1' 0 a z.toArray
    rw[hs,if_neg (by simp[putAll_size,hzl])];rw[f1' n b,hb,Instr.fill];congr 1;have h2:=putAll_app ca cb z.toArray 0;rw[Las,la]at h2;rw[←h2,putAll_all _ _ (by simp[la,lb,hzl])]
  unfold Zr at hz;cases hi:P.info? T with
  |none=>rw[hi]at hz;cases hz
  | some i=>
    rw[hi]at hz;simp only[Lc2]at hz;simp only[Instr.build,Sem.run_bind,zeroValue,typeInfo,hi,hz,run_underlying hu,Result.andThen_ok];simp[r1,r2,o1,o2,agg,zeroValue,typeInfo,hi,hz,run_underlying hu];have hf2:Instr.fill (fun x=>([(0,n),(n,m)]:List (Nat×Nat))[x]?) (Value.agg z.toArray).cells [(0,a),(1,b)]=some (ca++cb).toArray:=hfill;rw[hf2];simp[Sem.run]
section
variable{C:Cx}{ops:Array Oper}{rest:List (Nat×Oper)}{sl:List (Nat×Value)}{hp hp':List Blk}{Q:St→Prop}{c d:Nat}{ty:TypeId}{pos:String}{af:Array Edge}{g:Option (Nat×Bool)}{x:Operand}{xT:TypeId}
theorem Tr.field1{fs:Array Field}{f:Nat}{fd:Field}{td:TypeDesc}{cs:List Value}{v:Value}(hg:Aj ops sl g=true)(hk:okD c d C.N=true)(hx:Ag sl x=some (agg cs))(hu:C.P.underlying xT=some (.struct fs))(hf:fs[f]? =some fd)(hft:C.P.underlying fd.type=some td)(hp':Bz td=true)(hr:cs[fd.offset]? =some v)
    (k:Tr C ops rest ⟨(d,v)::sl,hp⟩ Q):Tr C ops ((c,⟨some d, .field xT x f,ty,pos,af,g⟩)::rest) ⟨sl,hp⟩ Q:=
  .pv hg hk ⟨known1 hx,fun ρ hfi w=>by
    have h1:=hfi x (by simp[Op.operands]);rw[hx]at h1;simp only[La6]at h1;have h2:=run_part1 (w:=w) hft hp' hr;simp[execOp,Instr.field,←h1,run_underlying hu,hf,agg,asAgg,h2]⟩ k
end
variable{A R X h1 hp:List Blk}
theorem Sat.know{C:Cx}{code:Code}{s:St}{Q:Exit→St→Prop}{F:Prop}(hf:∀w,HRep C s.hp w→F)(k:F→Sat C code s Q):Sat C code s Q:=fun a w r=>k (hf w r.rh) a w r
theorem wk_norm{sl:List (Nat×Value)}{hp hp2:List Blk}{s':St}(e:hp=hp2)(h:Weak ⟨sl,hp2⟩ s'):Weak ⟨sl,hp⟩ s':=by subst e;exact h
theorem sg_two{hp hp1 X Y R:List Blk}(h1:hp.Perm (X++hp1))(h2:hp1.Perm (Y++R)):hp.Perm ((X++Y)++R):=by
  rw[La8];exact h1.trans (Lcv X h2)
theorem perm_open(h:hp.Perm (X++h1))(k:X.Perm (A++R)):hp.Perm (A++(R++h1)):=by
  rw[←La8];exact h.trans (Lda h1 k)
theorem pm_join{hp X A B h1 h3 l R:List Blk}(h:hp.Perm (A++h1))(h2:h1.Perm (B++h3))(e:X.Perm (A++B))(k:h3.Perm (l++R)):hp.Perm ((X++l)++R):=by
  refine h.trans ((Lcv A (h2.trans (Lcv B k))).trans ?_);rw[←La8,←La8];exact Lda R (Lda l e.symm)
section
variable{κ ν:Type}[DecidableEq κ]{T K E:TypeId}{t:MTy κ ν}{z:Value}{fs:List (κ×ν)}
variable{C:Cx}{ops:Array Oper}{rest:List (Nat×Oper)}{sl:List (Nat×Value)}{hp hp':List Blk}{Q:St→Prop}{c d b:Nat}{ty:TypeId}{pos:String}{af:Array Edge}{g:Option (Nat×Bool)}{x y:Operand}{k:κ}
theorem Tr.lookF(evf:ν→Value)(M:MOk C.P T K E t z)(hg:Aj ops sl g=true)(hd:okL c d C.N=true)(hx:Ag sl x=some (.map (some b)))(hy:Ag sl y=some (t.ek k))(hk:t.ok k)(hb:A9 b t fs∈hp)
    (k0:Av fs k=none→Tr C ops rest ⟨(d, .tuple #[z, .bool false])::sl,hp⟩ Q) (k1:∀v,Av fs k=some v→Tr C ops rest ⟨(d, .tuple #[evf v, .bool true])::sl,hp⟩ Q) (hev:∀v,t.ev v=evf v:=by intro _;rfl):
    Tr C ops ((c,⟨some d, .lookup T x y true,ty,pos,af,g⟩)::rest) ⟨sl,hp⟩ Q:=by
  refine Tr.lookOk M hg hd hx hy hk hb ?_;cases h:Av fs k with
  |none=>exact k0 h
  |some v=>have:=k1 v h;rw[←hev v]at this;exact this
theorem Tr.lookG(evf:ν→Value)(M:MOk C.P T K E t z)(hg:Aj ops sl g=true)(hd:okL c d C.N=true)(hx:Ag sl x=some (.map (some b)))(hy:Ag sl y=some (t.ek k))(hk:t.ok k)(hb:A9 b t fs∈hp)
    (k0:Av fs k=none→Tr C ops rest ⟨(d,z)::sl,hp⟩ Q) (k1:∀v,Av fs k=some v→Tr C ops rest ⟨(d,evf v)::sl,hp⟩ Q) (hev:∀v,t.ev v=evf v:=by intro _;rfl):
    Tr C ops ((c,⟨some d, .lookup T x y false,ty,pos,af,g⟩)::rest) ⟨sl,hp⟩ Q:=by
  refine Tr.look1 M hg hd hx hy hk hb ?_;cases h:Av fs k with
  |none=>exact k0 h
  |some v=>have:=k1 v h;rw[←hev v]at this;exact this
theorem Tr.lookS{v:ν}(evf:ν→Value)(M:MOk C.P T K E t z)(hv:Av fs k=some v)(hg:Aj ops sl g=true)(hd:okL c d C.N=true)(hx:Ag sl x=some (.map (some b)))(hy:Ag sl y=some (t.ek k))(hk:t.ok k)(hb:A9 b t fs∈hp)
    (k1:Tr C ops rest ⟨(d,evf v)::sl,hp⟩ Q) (hev:∀v,t.ev v=evf v:=by intro _;rfl):Tr C ops ((c,⟨some d, .lookup T x y false,ty,pos,af,g⟩)::rest) ⟨sl,hp⟩ Q:=by
  refine Tr.look1 M hg hd hx hy hk hb ?_;rw[hv];have:=k1;rw[←hev v]at this;exact this
theorem Tr.lookFC(evf:ν→Value)(M:MOk C.P T K E t z)(hb:BlkOk C.W0 (A9 b t fs))(hbl:b∉C.lent)(hg:Aj ops sl g=true)(hd:okL c d C.N=true)(hx:Ag sl x=some (.map (some b)))(hy:Ag sl y=some (t.ek k))(hk:t.ok k)
    (k0:Av fs k=none→Tr C ops rest ⟨(d, .tuple #[z, .bool false])::sl,hp⟩ Q) (k1:∀v,Av fs k=some v→Tr C ops rest ⟨(d, .tuple #[evf v, .bool true])::sl,hp⟩ Q) (hev:∀v,t.ev v=evf v:=by intro _;rfl):
    Tr C ops ((c,⟨some d, .lookup T x y true,ty,pos,af,g⟩)::rest) ⟨sl,hp⟩ Q:=by
  refine Tr.lookOkC M hb hbl hg hd hx hy hk ?_;cases h:Av fs k with
  |none=>exact k0 h
  |some v=>have:=k1 v h;rw[←hev v]at this;exact this
end
end Hw
namespace Go.Proofs.YtpogmfngccolbaaGreat
open Go Hw _root_.Go.Proofs.Tryz
structure DEnt where
  fBlock:Block
  fDepth:Int
def DEnt.cells(x:DEnt):List Value:=x.fBlock.cells++([i64 x.fDepth])
structure DEnt.ok(x:DEnt):Prop where
  o_fBlock:x.fBlock.ok
variable{x:DEnt}
theorem DEnt.length(h:x.ok):x.cells.length=132:=by simp[DEnt.cells,Aa,Block.length h.o_fBlock]
theorem DEnt.isCell{x:DEnt}(h:x.ok):∀u∈x.cells,isCell u=true:=by
  intro u hu;simp only[DEnt.cells,Lac,La0,Aa,La7]at hu;rcases hu with hu|rfl<;>first|rfl|exact Block.isCell h.o_fBlock u hu
theorem DEnt.row_fBlock(h:x.ok):(x.cells.drop 0).take 131=x.fBlock.cells:=by simp[DEnt.cells,Aa,Block.length h.o_fBlock,Lbj,Lbh,Lap,La5]
theorem DEnt.rl_fBlock(h:x.ok):(x.fBlock.cells).length=131:=by simp[Aa,Block.length h.o_fBlock]
theorem DEnt.see_fBlock(h:x.ok):∀(j:Nat) (v:Value),(x.fBlock.cells)[j]? =some v→x.cells[0+j]? =some v:=fun j v hj=>by
  rw[←DEnt.row_fBlock h,Lb9]at hj;split at hj
  ·rwa[Lba]at hj
  ·cases hj
theorem DEnt.get_fDepth(h:x.ok):x.cells[131]? =some (i64 x.fDepth):=by simp[DEnt.cells,Aa,Block.length h.o_fBlock,Lbw]
def DEnt.zero:DEnt:=⟨Block.zero,0⟩
theorem DEnt.zero_ok:DEnt.zero.ok:=by constructor<;>first|exact Block.zero_ok|simp[DEnt.zero]
theorem DEnt.zr:Zr prog 164 (agg DEnt.zero.cells):=by unfold Zr;kernel_rfl
structure DPl where
  fWriter:List UInt8
  fSeq:UInt64
def DPl.cells(x:DPl):List Value:=Aa x.fWriter++([u64 x.fSeq])
structure DPl.ok(x:DPl):Prop where
  l_fWriter:x.fWriter.length=32
theorem DPl.length{x:DPl}(h:x.ok):x.cells.length=33:=by simp[DPl.cells,Aa,h.l_fWriter]
theorem DPl.isCell{x:DPl}(h:x.ok):∀u∈x.cells,isCell u=true:=by
  intro u hu;simp only[DPl.cells,Lac,La0,Aa,La7]at hu;rcases hu with ⟨_,_,rfl⟩|rfl<;>first|rfl
theorem DPl.rl_fWriter{x:DPl}(h:x.ok):(Aa x.fWriter).length=32:=by simp[Aa,h.l_fWriter]
def DPl.zero:DPl:=⟨List.replicate 32 0,0⟩
theorem DPl.zero_ok:DPl.zero.ok:=by constructor<;>first|exact trivial|simp[DPl.zero]
theorem DPl.zr:Zr prog 177 (agg DPl.zero.cells):=by unfold Zr;kernel_rfl
theorem DPl.eg:prog.eqGuardType prog.depth 177=false:=by kernel_rfl
end Go.Proofs.YtpogmfngccolbaaGreat
namespace Hw
open Go
variable{C:Cx}{E:TypeId}{cs r:List Value}{hp:List Blk}{m q:Nat}
theorem HRep.trunc{w:World}(h:HRep C (⟨q,cs++r, .ty E,m⟩::hp) w):HRep C (⟨q,cs, .ty E,m⟩::hp) w:=by
  refine h.swap rfl ?_;obtain⟨full,fr,k⟩:=h.cells _ La9;exact⟨full,fr,k.heap,k.size,(List.prefix_append cs r).trans k.pre,k.free⟩
theorem Sat.trunc{code:Code}{sl:List (Nat×Value)}{hp hp':List Blk}{Q:Exit→St→Prop}(hp1:hp.Perm (⟨q,cs++r, .ty E,m⟩::hp'))(k:Sat C code ⟨sl,⟨q,cs, .ty E,m⟩::hp'⟩ Q):Sat C code ⟨sl,hp⟩ Q:=
  fun a w x=>k a w ⟨x.rs,(x.rh.perm hp1).trunc⟩
theorem snoc_of{α:Type}{l:List α}(h:0<l.length):∃a x,l=a++[x]:=⟨l.dropLast,l.getLast (List.length_pos_iff.1 h),(List.dropLast_concat_getLast _).symm⟩
section
variable{C:Cx}{ops:Array Oper}{rest:List (Nat×Oper)}{sl:List (Nat×Value)}{hp:List Blk}{Q:St→Prop}{c d:Nat}{ty:TypeId}{pos:String}{af:Array Edge}{g:Option (Nat×Bool)}
variable{x hi:Operand}{T E:TypeId}{kl:IntKind}{l:Int}
theorem Tr.sliceHiA{sz:Nat}(s:Sl)(j:Nat)(hg:Aj ops sl g=true)(hk:okD c d C.N=true)(hx:Ag sl x=some s.v)(hl:Ag sl hi=some (.int kl l))(hj:l=j)(hjn:j≤s.c)
    (hu:C.P.underlying T=some (.slice E)) (hs:Sz C.P E sz)
    (k:Tr C ops rest ⟨(d,Sl.v ⟨s.p,j,s.c⟩)::sl,hp⟩ Q):Tr C ops ((c,⟨some d, .slice T x none (some hi) none,ty,pos,af,g⟩)::rest) ⟨sl,hp⟩ Q:=
  .pv hg hk ⟨by simpa[Known,Op.operands]using known2 hx hl,fun ρ hfi w=>by
    have h1:=hfi x (by simp[Op.operands]);rw[hx]at h1;have h2:=hfi hi (by simp[Op.operands]);rw[hl]at h2;simp only[La6]at h1 h2;subst hj;obtain⟨p,n,cap⟩:=s;simp only[Sl.v]at h1 hjn ⊢;by_cases e:cap=0
    · subst e
      obtain rfl:j=0:=by omega
      simp[execOp,Instr.sliceAt,Instr.slice,←h1,←h2,run_underlying hu,Instr.sliceBounds,Instr.sliceBound,asIntOf,Cm hs,Addr.add]
    · have e2:(p.map fun a=>a.add 0)=p:=by cases p<;>simp[Addr.add]
      simp[execOp,Instr.sliceAt,Instr.slice,←h1,←h2,run_underlying hu,Instr.sliceBounds,Instr.sliceBound,asIntOf,Cm hs,e,hjn,e2]⟩ k
end
section
variable{κ ν:Type}[DecidableEq κ]{T K E:TypeId}{t:MTy κ ν}{fs:List (κ×ν)}
variable{C:Cx}{ops:Array Oper}{rest:List (Nat×Oper)}{sl:List (Nat×Value)}{hp hp':List Blk}{Q:St→Prop}{c d b:Nat}{ty:TypeId}{pos:String}{af:Array Edge}{g:Option (Nat×Bool)}{x:Operand}
end
section
variable{C:Cx}{ops:Array Oper}{rest:List (Nat×Oper)}{sl:List (Nat×Value)}{hp:List Blk}{Q:St→Prop}{c d b o:Nat}{T ty:TypeId}{td:TypeDesc}{pos:String}{af:Array Edge}{g:Option (Nat×Bool)}{x:Operand}
theorem Tr.kloadSN{n:Nat}(r:List Value)(hg:Aj ops sl g=true)(hk:okD c d C.N=true)(hx:Ag sl x=some (ptr b o))(hu:C.P.underlying T=some td)(hp':Bz td=false)(hs:Sz C.P T n)(hn:r.length=n)
    (hv:∀w,(∀b∈C.kb,BlkOk w b)→Cd w b o r)
    (k:Tr C ops rest ⟨(d,agg r)::sl,hp⟩ Q):Tr C ops ((c,⟨some d, .load T x,ty,pos,af,g⟩)::rest) ⟨sl,hp⟩ Q:=
  .kloadAny hg hk hx (fun w hh _=>by
    have:=run_row (P:=C.P) (w:=w) (b:=b) (o:=o) hn fun j v hj=>hv w hh j v hj;simp[loadVar,run_isAgg_arr hu hp',Cm hs,this]) k
end
end Hw
namespace Hw
open Go Go.RowKit
def also(j:Nat)(l:Nat→Bool):Nat→Bool:=fun i=>decide (j=i)||l i
variable{C:Cx}{Q:St→Prop}{id:Nat}{ops:Array Oper}{rest:List (Nat×Oper)}{s:St}{x y:Oper}
theorem wpAny_inv{perm:List (Nat×Nat)}(htopo:topoOk ops [] perm=true)(hall:(List.range ops.size).all (fun i=>(perm.map (·.2)).contains i)=true)(Q:St→Prop)(J:(Nat→Bool)→St→Prop)
    (hstep:∀l s j o,ops[j]? =some o→l j=false→(∀i,l i=true→∀k∈bindsIn ops i,l k=true)→(∀k∈bindsIn ops j,l k=true)→J l s→Tr C ops [(4,o)] s (J (also j l)))
    (hend:∀l s,(s.hp.map (·.n)).Nodup→(∀j,j<ops.size→l j=true)→J l s→Q s):
    ∀ (fuel:Nat) (listed:Array Bool) (s:St) (a:Act) (w:World),listed.size=ops.size→Shut ops listed→
      (perm.filter (fun p=> !listed.getD p.2 false)).length≤fuel→Rep C s a w→J (fun i=>listed.getD i false) s→wpAny C.P .any ops (Fin C Q) fuel listed a w:=by
  rw[Lbk]at hall;have hnd:=topo_nodup perm [] htopo;have allOf:∀(listed:Array Bool),perm.filter (fun p=> !listed.getD p.2 false)=[]→∀j,j<ops.size→listed.getD j false=true:=by
    intro listed hf j hj;have:=hall j (Lcr.2 hj);simp only[Ld7,decide_eq_true_eq]at this;obtain⟨p,hp,he⟩:=La7.1 this;have:=Lep.1 hf p hp;rw[he]at this;simpa using this
  intro fuel
  induction fuel with
  | zero=>
    intro listed s a w hsz hs hlen r h;have h0:=allOf listed (Laa oM);refine⟨?_,rfl,s,r,hend _ s r.rh.nodup h0 h⟩;cases hr:Region.ready .any ops listed with
    |nil=>rfl
    | cons j l=>
      obtain⟨h1,h2,_⟩:=(mem_ready' hsz).1 (by rw[hr];exact La9);rw[h0 j h1]at h2;cases h2
  | succ fuel ih=>
    intro listed s a w hsz hs hlen r h;refine⟨fun hr=>⟨rfl,s,r,hend _ s r.rh.nodup (allOf listed ?_) h⟩,fun j hj=>?_⟩
    · cases hf:perm.filter (fun p=> !listed.getD p.2 false)with
      |nil=>rfl
      | cons p l'=>
        have:=topo_first hsz perm [] htopo sP p l' hf;rw[hr]at this;cases this
    · obtain⟨hjlt,hjun,hjb⟩:=(mem_ready' hsz).1 hj
      have hjl:j<listed.size:=by omega
      have hoj:ops[j]? =some ops[j]:=Ld0 hjlt;have hin:=hall j (Lcr.2 hjlt);simp only[Ld7,decide_eq_true_eq]at hin;obtain⟨q,hq0,hqj⟩:=La7.1 hin;obtain⟨l1,l2,hf⟩:=Lfu (Lc6.2 ⟨hq0,by rw[hqj,hjun];rfl⟩:q∈perm.filter (fun p=> !listed.getD p.2 false));refine wpOp_mono (K:=fun a' w'=>∃s',Rep C s' a' w'∧J (also j fun i=>listed.getD i false) s') ?_ (Tr.step (i:=j) hoj (hstep _ s j _ hoj hjun hs hjb h) a w r _ (fun s' a' w' r' k=>⟨s',r',?_⟩) _)
      · rintro a' w' ⟨s',r',k⟩
        have hfs:=filter_set hjl perm l1 l2 q hqj hnd hf;have hlen2:=congrArg List.length hf;rw[La4,Lb2]at hlen2;refine ih (listed.setIfInBounds j true) s' a' w' (by simp[hsz]) (fun i hi k hk=>?_) (by rw[hfs,La4];omega) r' ?_
        · rw[getD_set _ _ _ hjl]at hi ⊢
          by_cases hij:j=i
          ·subst hij;rw[hjb k hk];simp
          · simp only[hij,decide_false,Lgq]at hi
            rw[hs i hi k hk];simp
        · have e:(fun i=>(listed.setIfInBounds j true).getD i false)=also j fun i=>listed.getD i false:=funext fun i=>getD_set _ _ _ hjl
          rw[e];exact k
      · cases k with
        |nil k=>exact k
        |dup hn=>exact absurd r'.rh.nodup hn
theorem Sat.any{ops:List Oper}{Q:Exit→St→Prop}(perm:List (Nat×Nat))(hm:C.P.follows .mixedOrders=true)(htopo:topoOk ops.toArray [] perm=true)(hall:(List.range ops.toArray.size).all (fun i=>(perm.map (·.2)).contains i)=true)
    (hlen:Nat.ble perm.length ops.length=true) (J:(Nat→Bool)→St→Prop) (h0:J (fun _=>false) s)
    (hstep:∀l s j o,ops.toArray[j]? =some o→l j=false→(∀i,l i=true→∀k∈bindsIn ops.toArray i,l k=true)→(∀k∈bindsIn ops.toArray j,l k=true)→J l s→Tr C ops.toArray [(4,o)] s (J (also j l)))
    (hend:∀l s,(s.hp.map (·.n)).Nodup→(∀j,j<ops.toArray.size→l j=true)→J l s→Q .normal s):Sat C (.region id ops.toArray true) s Q:=by
  intro a w r;have e:∀i,(Array.replicate ops.toArray.size false).getD i false=false:=fun i=>by
    rw[Lcw,Ld6];split<;>rfl
  have:=wpAny_inv (C:=C) htopo hall (Q .normal) J hstep hend ops.toArray.size (Array.replicate ops.toArray.size false) s a { w with drawn:=w.drawn+1 } sP
    (fun j hj=>by rw[e]at hj;cases hj) (Lbc (List.length_filter_le _ _) (by simpa using Lch hlen)) ⟨r.rs,r.rh.drew _⟩ (by rw[show(fun i=>(Array.replicate ops.toArray.size false).getD i false)=fun _=>false from funext e];exact h0)
  refine wp_mono (wp_region_any hm this) fun e a' w' ⟨he,s',r',q⟩=>?_;subst he;exact⟨s',r',q⟩
theorem Tr.inv0(h:Tr C ops ((0,y)::rest) s Q)(hn:(s.hp.map (·.n)).Nodup):
    ∃v,dstOk C.N y∧Tr C ops rest (s.put y.dst v) Q∧(C7 ops s.sl y=some false∧v=undef∨C7 ops s.sl y=some true∧KLoadV C s.sl y v):=by
  cases h with
  |dup h=>exact absurd hn h
  |skip hc hw hd k=>exact⟨_,hd,k, .inl ⟨hw,rfl⟩⟩
  |pure v hc hw hd hv k=>exact⟨v,hd,k, .inr ⟨hw,hv.known,fun ρ hf w _ _=>hv.run ρ hf w⟩⟩
  |kload v hc hw hd hv k=>exact⟨v,hd,k, .inr ⟨hw,hv⟩⟩
  |load v hc hc0 hw hd hv k=>exact absurd rfl hc0
  |new mk cs T hc hw hd hv k=>rcases hc with hc|hc<;>simp at hc
  |grow R val nw hc hw hd hv k=>rcases hc with hc|hc<;>simp at hc
  |lend R val nw lent L keep hc hw hd hsp hl hv k=>rcases hc with hc|hc<;>simp at hc
  |act R val hp hc hw hd hv k=>simp at hc
theorem Tr.re13(h:Tr C ops ((1,x)::rest) s Q):Tr C ops ((3,x)::rest) s Q:=by
  cases h with
  |dup h=>exact .dup h
  |skip hc hw hd k=>exact .skip dE hw hd k
  |pure v hc hw hd hv k=>exact .pure v dE hw hd hv k
  |kload v hc hw hd hv k=>exact .kload v dE hw hd hv k
  |load v hc hc0 hw hd hv k=>exact .load v dE dE hw hd hv k
  |new mk cs T hc hw hd hv k=>rcases hc with hc|hc<;>simp at hc
  |grow R val nw hc hw hd hv k=>rcases hc with hc|hc<;>simp at hc
  |lend R val nw lent L keep hc hw hd hsp hl hv k=>rcases hc with hc|hc<;>simp at hc
  |act R val hp hc hw hd hv k=>simp at hc
theorem Tr.swap30(hC:C.kb=[])(hap:x.apart ops y=true)(h:Tr C ops ((3,x)::(0,y)::rest) s Q):Tr C ops ((0,y)::(3,x)::rest) s (clQ Q):=by
  by_cases hnd:(s.hp.map (·.n)).Nodup
  case neg=>exact .dup hnd
  have soft:Tr C ops ((1,x)::(0,y)::rest) s Q→Tr C ops ((0,y)::(3,x)::rest) s (clQ Q):=fun h=>(h.swap dE hap).tail fun _ k=>k.re13;obtain⟨h1,h2,h3⟩:=Oper.apart_spec hap;cases h with
  |dup h=>exact absurd hnd h
  |skip hc hw hd k=>exact soft (.skip dE hw hd k)
  |pure v hc hw hd hv k=>exact soft (.pure v dE hw hd hv k)
  |kload v hc hw hd hv k=>exact soft (.kload v dE hw hd hv k)
  |load v hc hc0 hw hd hv k=>exact soft (.load v dE dE hw hd hv k)
  |new mk cs T hc hw hd hv k=>rcases hc with hc|hc<;>simp at hc
  |lend R val nw lent L keep hc hw hd hsp hl hv k=>rcases hc with hc|hc<;>simp at hc
  |act R val hp hc hw hd hv k=>simp at hc
  | grow R val nw hc hwx hd hv k=>
    obtain⟨r0,hr0,hn0⟩:=hv.some s.hp hnd;obtain⟨u,hdy,_,hy⟩:=(k r0 hr0).inv0 hn0;have ex:∀(u:Value),∀z∈x.op.operands,Ag (Bx s.sl y.dst u) z=Ag s.sl z:=fun u z hz=>evIn_put ((not_look (ops:=ops) h3).1 z hz);have back:∀u,(∀r,R r→((nw r++s.hp).map (·.n)).Nodup→Tr C ops rest (St.put ⟨Bx s.sl x.dst (val r),nw r++s.hp⟩ y.dst u) Q)→Tr C ops ((3,x)::rest) (s.put y.dst u) (clQ Q):=fun u kk=>by
      refine .grow R val nw (.inl rfl) (by show C7 ops (Bx s.sl y.dst _) x=_;rw[Bw h3];exact hwx) hd ⟨fun z hz=>by show(Ag (Bx s.sl y.dst _) z).isSome;rw[ex _ z hz];exact hv.known z hz,hv.some,fun a w hf hh=>?_⟩ fun r hr=>?_
      · refine hv.run a w (fun z hz=>?_) hh
        have:=hf z hz;rw[←ex u z hz];exact this
      · by_cases hdn:((nw r++s.hp).map (·.n)).Nodup
        ·exact(kk r hr hdn).eqv _ ⟨fun t=>look_comm h2 _ _ t, .refl _⟩
        ·exact .dup hdn
    rcases hy with ⟨hw,rfl⟩|⟨hw,hk⟩
    · refine .skip dE (by rw[←Bw (v:=val r0) h1];exact hw) hdy (back _ fun r hr hdn=>?_)
      obtain⟨u2,_,k2,h5⟩:=(k r hr).inv0 hdn;rcases h5 with ⟨_,rfl⟩|⟨hw2,_⟩
      ·exact k2
      · exfalso
        have e1:C7 ops (Bx s.sl x.dst (val r)) y=_:=Bw h1;have e2:C7 ops (Bx s.sl x.dst (val r0)) y=_:=Bw h1;simp only at hw hw2;rw[e1]at hw2;rw[e2,hw2]at hw;cases hw
    · refine .kload u dE (by rw[←Bw (v:=val r0) h1];exact hw) hdy ⟨(known_put h1).1 hk.known,fun ρ hf=>hk.run ρ ((fits_put h1).2 hf)⟩ (back _ fun r hr hdn=>?_)
      obtain⟨u2,_,k2,h5⟩:=(k r hr).inv0 hdn;rcases h5 with ⟨hw2,_⟩|⟨_,hk2⟩
      · exfalso
        have e1:C7 ops (Bx s.sl x.dst (val r)) y=_:=Bw h1;have e2:C7 ops (Bx s.sl x.dst (val r0)) y=_:=Bw h1;simp only at hw hw2;rw[e1]at hw2;rw[e2,hw2]at hw;cases hw
      · have kn:Known s.sl y:=(known_put h1).1 hk.known
        let ρ:Operand→Value:=fun z=>(Ag s.sl z).getD undef
        have f:Fits s.sl y ρ:=fun z hz=>by
          have:=kn z hz;cases hv:Ag s.sl z with
          |none=>simp[hv]at this
          |some v=>simp[ρ,hv]
        have r1:=hk.run ρ ((fits_put h1).2 f) C.W0 (by rw[hC];intro _ h;cases h) (Keeps.refl _ _);rw[hk2.run ρ ((fits_put h1).2 f) C.W0 (by rw[hC];intro _ h;cases h) (Keeps.refl _ _)]at r1;injection r1 with r1 _;injection r1 with r1;rw[←r1];exact k2
def commZ(c e:Nat):Bool:=comm c e||(c==3&&e==0)
theorem Tr.frontZ(hC:C.kb=[]){e:Nat}{l1 l2:List (Nat×Oper)}(hc:∀p∈l1,commZ p.1 e=true∧p.2.apart ops y=true)
    (h:Tr C ops (l1++(e,y)::l2) s Q):Tr C ops ((e,y)::(l1++l2)) s (clQ Q):=by
  induction l1 generalizing s with
  |nil=>exact h.mono fun s q=>⟨s, .refl _,q⟩
  | cons p l1 ih=>
    obtain⟨c,x⟩:=p;have h1:Tr C ops ((c,x)::(e,y)::(l1++l2)) s (clQ Q):=h.tail fun s k=>ih (fun p hp=>hc p (Lah _ hp)) k;obtain⟨h2,h3⟩:=hc (c,x) La9;simp only[commZ,Lca,Lai,beq_iff_eq]at h2;rcases h2 with h2|⟨rfl,rfl⟩
    ·exact(h1.swap h2 h3).mono fun s q=>clQ_cl q
    ·exact(h1.swap30 hC h3).mono fun s q=>clQ_cl q
theorem Tr.head{c:Nat}{o:Oper}(h:Tr C ops ((c,o)::rest) s Q):Tr C ops [(4,o)] s (fun s'=>Tr C ops rest s' Q):=by
  cases h with
  |dup h=>exact .dup h
  |skip hc hw hd k=>exact .skip dE hw hd (.nil k)
  |pure v hc hw hd hv k=>exact .pure v dE hw hd hv (.nil k)
  |kload v hc hw hd hv k=>exact .kload v dE hw hd hv (.nil k)
  |load v hc hc0 hw hd hv k=>exact .load v dE dE hw hd hv (.nil k)
  |new mk cs T hc hw hd hv k=>exact .new mk cs T (.inr rfl) hw hd hv fun n a b=> .nil (k n a b)
  |grow R val nw hc hw hd hv k=>exact .grow R val nw (.inr rfl) hw hd hv fun r hr=> .nil (k r hr)
  |lend R val nw lent L keep hc hw hd hsp hl hv k=>exact .lend R val nw lent L keep (.inr rfl) hw hd hsp hl hv fun r hr=> .nil (k r hr)
  |act R val hp hc hw hd hv k=>exact .act R val hp rfl hw hd hv fun r hr=> .nil (k r hr)
def pairZ(ops:Array Oper)(p q:Nat×Nat):Bool:=
  (commZ p.1 q.1&&(match ops[p.2]?,ops[q.2]? with|some x,some y=>x.apart ops y|_,_=>false))||reach ops ops.size q.2 p.2
def pairsZ(ops:Array Oper):List (Nat×Nat)→Bool
  | []=>true
  |p::l=>l.all (pairZ ops p)&&pairsZ ops l
theorem pairsZ_pw{ops:Array Oper}:∀ {l:List (Nat×Nat)},pairsZ ops l=true→l.Pairwise fun p q=>pairZ ops p q=true
  | [],_=> .nil
  | p::l,h=>by
    simp only[pairsZ,Lai,Lbk]at h;exact .cons h.1 (pairsZ_pw h.2)
def allIn(ops:Array Oper)(perm:List (Nat×Nat)):Bool:=(List.range ops.size).all fun i=>(perm.map (·.2)).contains i
theorem reach_l{ops:Array Oper}{l:Nat→Bool}(hs:∀j,l j=true→∀k∈bindsIn ops j,l k=true):∀n j i,(∀k∈bindsIn ops j,l k=true)→reach ops n j i=true→l i=true
  |0,_,_,_,h=>by simp[reach]at h
  | n +1,j,i,hj,h=>by
    simp only[reach,Lca]at h;rcases h with h|h
    ·exact hj i (by simpa using h)
    · obtain⟨k,hk,hr⟩:=Ldo.1 h
      exact reach_l hs n k i (hs k (hj k hk)) hr
theorem filter_also{l:Nat→Bool}{j:Nat}(perm l1 l2:List (Nat×Nat))(q:Nat×Nat)(hq:q.2=j)(hn:(perm.map (·.2)).Nodup)
    (hf:perm.filter (fun p=> !l p.2)=l1++q::l2):perm.filter (fun p=> !also j l p.2)=l1++l2:=by
  have e:perm.filter (fun p=> !also j l p.2)=(perm.filter (fun p=> !l p.2)).filter fun p=> !decide (j=p.2):=by
    rw[Lgg];congr 1;funext p;unfold also;cases decide (j=p.2)<;>simp
  have hnf:((l1++q::l2).map (·.2)).Nodup:=by
    rw[←hf];exact List.Sublist.nodup (Lgu _ Lg9) hn
  rw[Lad,Lao,Lay]at hnf;rw[e,hf,Les,Lfg];have h1:l1.filter (fun p=> !decide (j=p.2))=l1:=Lcn.2 fun p hp=>by
    have:=hnf.2.2 p.2 (La7.2 ⟨p,hp,rfl⟩) q.2 La9;simp;omega
  have h2:l2.filter (fun p=> !decide (j=p.2))=l2:=Lcn.2 fun p hp=>by
    have:=(Lb7.1 hnf.2.1).1;simp only[decide_not,Le0,decide_eq_false_iff_not,Bool.not_eq_eq_eq_not,Bool.not_true];exact fun he=>this (by rw[hq,he];exact La7.2 ⟨p,hp,rfl⟩)
  rw[h1,h2];simp[hq]
theorem Sat.drawZ{ops:List Oper}{Q:Exit→St→Prop}(perm:List (Nat×Nat))(hm:C.P.follows .mixedOrders=true)(hok:(topoOk ops.toArray [] perm&&(allIn ops.toArray perm&&(Nat.ble perm.length ops.length&&pairsZ ops.toArray perm)))=true)
    (h:Tr C ops.toArray (items ops.toArray perm) s (Q .normal)) (hC:C.kb=[]:=by rfl):Sat C (.region id ops.toArray true) s Q:=by
  simp only[Lai]at hok;obtain⟨ht,ha,hl,hp⟩:=hok;have hpw:=pairsZ_pw hp;have hnd:=topo_nodup perm [] ht;have hall:∀i,i<ops.toArray.size→∃q∈perm,q.2=i:=fun i hi=>by
    have:=Lbk.1 ha i (Lcr.2 hi);simp only[Ld7,decide_eq_true_eq]at this;obtain⟨p,h1,h2⟩:=La7.1 this;exact⟨p,h1,h2⟩
  have key:Sat C (.region id ops.toArray true) s (fun e s=>clQ (Q e) s):=by
    refine Sat.any perm hm ht ha hl (fun l s=>Tr C ops.toArray (items ops.toArray (perm.filter fun p=> !l p.2)) s (clQ (Q .normal))) ?_ ?_ ?_
    · rw[show perm.filter (fun p=> !(fun _=>false) p.2)=perm from Lcn.2 fun _ _=>rfl]
      exact h.mono fun s q=>⟨s, .refl _,q⟩
    · intro l s j o hoj hlj hs hb hJ
      have hjs:j<ops.toArray.size:=(Lcl.1 hoj).1;obtain⟨q,hq,hqj⟩:=hall j hjs;obtain⟨l1,l2,hf⟩:=Lfu (Lc6.2 ⟨hq,by rw[hqj,hlj];rfl⟩:q∈perm.filter fun p=> !l p.2);have hpf:=hpw.filter (fun p=> !l p.2);have hJ2:Tr C ops.toArray (items ops.toArray l1++(q.1,o)::items ops.toArray l2) s (clQ (Q .normal)):=by
        have hit:items ops.toArray (q::l2)=(q.1,o)::items ops.toArray l2:=by
          unfold items;rw[List.filterMap_cons,hqj,hoj];rfl
        rw[←hit,←items_append,←hf];exact hJ
      rw [hf,List.pairwise_append]at hpf;have h':=(Tr.frontZ hC (fun p hp=>by
        obtain⟨p0,hp0,he⟩:=Lft.1 hp;have hp1:=hpf.2.2 p0 hp0 q La9;have hun:l p0.2=false:=by
          have:p0∈perm.filter (fun p=> !l p.2):=by rw[hf];exact Lac.2 (.inl hp0)
          simpa using(Lc6.1 this).2
        cases hop:ops.toArray[p0.2]? with
        |none=>rw[hop]at he;cases he
        | some o1=>
          rw[hop]at he;simp only[Lbq,La6]at he;subst he;simp only[pairZ,Lca,Lai]at hp1;rcases hp1 with hp1|hp1
          · rw[hop,hqj,hoj]at hp1
            exact hp1
          · have:=reach_l hs ops.toArray.size q.2 p0.2 (by rw[hqj];exact hb) hp1
            rw[hun]at this;cases this) hJ2).mono fun s q=>clQ_cl q
      refine h'.head.mono fun s' k=>?_;rw[filter_also perm l1 l2 q hqj hnd hf,items_append];exact k
    · intro l s hn hdone hJ
      have h0:perm.filter (fun p=> !l p.2)=[]:=Lep.2 fun p hp=>by
        have:=(topo_mem perm [] ht p hp).1;rw[hdone _ (by simpa using this)];simp
      rw[h0]at hJ;cases hJ with
      |nil hJ=>exact hJ
      |dup hd=>exact absurd hn hd
  exact fun a w r=>wp_mono (key a w r) fun e a' w' ⟨s',r',s0,he,q⟩=>⟨s0,r'.eqv he.symm,q⟩
end Hw
namespace Go.Proofs.YtpogmfngccolbaaGreat
open Hw (Lai)
open Go
theorem closedCCal:joinedFacts Tryz.pinned.checked.prog 14 Tryz.f14 Rows.cutCallsSpec Rows.cutCallsRow=true:=by
  unfold joinedFacts;simp only[Lai]
  repeat apply And.intro
  all_goals as_aux_lemma=>kernel_rfl
end Go.Proofs.YtpogmfngccolbaaGreat
namespace Hw
open Go Go.RowKit
class ST(P:Program)(T:TypeId)(n:outParam Nat):Prop where h:Sz P T n
variable{p q:Prop}
theorem sZ{P:Program}{T:TypeId}{n:Nat}[i:ST P T n]:Sz P T n:=i.h
theorem oG(h:p:=by first|exact oK|exact rd1_ok _ _ _ _ _ _|exact rdr_ok _ _ _ _ _ _|exact okX _):p:=h
theorem gF(h:p:=by first|exact Cut.get_fHeads oG|exact Rdr.get_fB oG|exact Block.get_fLinks oG|exact Cut.get_fHeight oG|exact Rdr.get_fE oG|exact Block.get_fSeq oG|exact Reader.get_fAt oG|exact Block.get_fData oG|exact Reader.get_fErr oG|exact Reader.get_fB oG|rfl|exact get_words (by first|omega|(simp;done)|(simp;omega))|exact B0 (by first|omega|(simp;done)|(simp;omega))|exact get_ints (by first|omega|(simp;done)|(simp;omega))):p:=h
theorem gL(h:p:=by first|exact Cut.length oG|exact Block.length oG|exact Rdr.length oG|exact DEnt.length oG|exact Reader.length oG|exact Point.length oG|rfl|(simp;done)|assumption|(rw[Aa,La1];assumption)):p:=h
theorem gC(h:p:=by first|exact Cut.isCell oG|exact Block.isCell oG|exact Rdr.isCell oG|exact DEnt.isCell oG|exact Reader.isCell oG|exact Point.isCell oG|exact Ay _|(simp[isCell];done)):p:=h
theorem gS(h:p:=by first|exact Rdr.set_fE oG _|exact Reader.set_fAt oG _|exact Reader.set_fErr oG _|exact Cut.set_fHeight oG _|exact Be _ _ _|exact Bi _ _ _|exact set_ints _ _ _|rfl):p:=h
theorem gT(h:p:=by first|(rw[Cut.length oG];decide)|(rw[Block.length oG];decide)|(rw[Rdr.length oG];decide)|(rw[DEnt.length oG];decide)|(rw[Reader.length oG];decide)|(rw[Point.length oG];decide)):p:=h
theorem gV(h:p:=by first|exact cv_u8_u64 _|exact cv_u64_u8 _|exact cv_u8_i64 _|exact cv_i64_u64 _|exact cv_i64_u8 _):p:=h
theorem sY(h:p:=by first|exact sZ|exact Go.Proofs.YtpogmfngccolbaaGreat.Sz207|exact Go.Proofs.YtpogmfngccolbaaGreat.Sz30|exact Go.Proofs.YtpogmfngccolbaaGreat.Sz45|exact Go.Proofs.YtpogmfngccolbaaGreat.Sz46|exact Go.Proofs.YtpogmfngccolbaaGreat.Sz36|exact Go.Proofs.YtpogmfngccolbaaGreat.Sz57|exact Go.Proofs.YtpogmfngccolbaaGreat.Sz5|exact Go.Proofs.YtpogmfngccolbaaGreat.Sz50|exact Go.Proofs.YtpogmfngccolbaaGreat.Sz34|exact Go.Proofs.YtpogmfngccolbaaGreat.Sz3|exact Go.Proofs.YtpogmfngccolbaaGreat.Sz262|exact Go.Proofs.YtpogmfngccolbaaGreat.Sz44|exact Go.Proofs.YtpogmfngccolbaaGreat.Sz131|exact Go.Proofs.YtpogmfngccolbaaGreat.Sz132|exact Go.Proofs.YtpogmfngccolbaaGreat.Sz210|exact Go.Proofs.YtpogmfngccolbaaGreat.Sz294|exact Go.Proofs.YtpogmfngccolbaaGreat.Sz164|exact Go.Proofs.YtpogmfngccolbaaGreat.Sz114|exact Go.Proofs.YtpogmfngccolbaaGreat.Sz48|exact Go.Proofs.YtpogmfngccolbaaGreat.Sz154|exact Go.Proofs.YtpogmfngccolbaaGreat.Sz26|exact Go.Proofs.YtpogmfngccolbaaGreat.Sz133|exact Go.Proofs.YtpogmfngccolbaaGreat.Sz134):p:=h
structure Kp(p:Prop):Prop where o:p
theorem G1(k:q)(h:Kp q→p:=by intro k;(first|refine Tr.nil ?_|with_reducible refine Ct ?_|with_reducible refine at_x ?_|with_reducible refine at_r ?_|with_reducible refine bl_n ?_|with_reducible refine bl_h ?_|with_reducible refine bl_r ?_|with_reducible refine en_n ?_|with_reducible refine en_r ?_|with_reducible refine Sat.seq ?_|with_reducible refine Sat.region ?_|with_reducible refine Sat.ret ?_|with_reducible refine Sat.skip ?_|with_reducible refine Sat.exit ?_|with_reducible refine Sat.block ?_|refine Tr.m rfl rfl rfl ?_|refine Tr.a rfl rfl rfl ?_|refine Tr.skp rfl rfl ?_|refine Tr.fld rfl rfl rfl uY rfl sY dE _ rfl ?_|refine Tr.load1 rfl rfl rfl uY rfl mM gF ?_|refine Tr.pick rfl rfl rfl rfl rfl rfl ?_|refine Tr.lenSl rfl rfl rfl uY ?_|refine Tr.aI rfl rfl rfl rfl oM ?_|refine Tr.sub_i64 rfl rfl rfl rfl oM ?_|refine Tr.eX rfl rfl rfl rfl ?_|refine Tr.nC rfl rfl rfl ?_|refine Tr.conv rfl rfl rfl uY uY gV ?_|refine Tr.lss rfl rfl rfl rfl rfl ?_|refine Tr.gtr rfl rfl rfl rfl rfl ?_|refine Tr.geq rfl rfl rfl rfl rfl ?_|refine Tr.leq rfl rfl rfl rfl rfl ?_|refine Tr.eqi rfl rfl rfl rfl rfl ?_|refine Tr.nei rfl rfl rfl rfl rfl ?_|refine Tr.not rfl rfl rfl ?_|refine Tr.boxA rfl rfl ?_|refine Tr.sliceArr rfl rfl rfl uY sZ ?_|refine Tr.add_u64 rfl rfl rfl rfl ?_|refine Tr.mul_u64 rfl rfl rfl rfl ?_|refine Tr.and_u64 rfl rfl rfl rfl ?_|refine Tr.or_u64 rfl rfl rfl rfl ?_|refine Tr.xor_u64 rfl rfl rfl rfl ?_|refine Tr.makeFunc rfl rfl rfl rfl ?_|refine Tr.lA rfl rfl rfl uY rfl sZ mM gL ?_|refine Tr.sA rfl rfl rfl rfl gC sZ gL mM gL uU ?_|refine Tr.s1 rfl rfl rfl rfl rfl sZ mM gT gS uU ?_);exact k.o):p:=h ⟨k⟩
theorem G2(k:q)(h:Kp q→p:=by intro k;(iterate 2 (refine G1 ?_));exact k.o):p:=h ⟨k⟩
theorem G3(k:q)(h:Kp q→p:=by intro k;(iterate 3 (refine G1 ?_));exact k.o):p:=h ⟨k⟩
theorem G4(k:q)(h:Kp q→p:=by intro k;(iterate 4 (refine G1 ?_));exact k.o):p:=h ⟨k⟩
theorem G5(k:q)(h:Kp q→p:=by intro k;(iterate 5 (refine G1 ?_));exact k.o):p:=h ⟨k⟩
theorem G6(k:q)(h:Kp q→p:=by intro k;(iterate 6 (refine G1 ?_));exact k.o):p:=h ⟨k⟩
theorem G7(k:q)(h:Kp q→p:=by intro k;(iterate 7 (refine G1 ?_));exact k.o):p:=h ⟨k⟩
theorem G8(k:q)(h:Kp q→p:=by intro k;(iterate 8 (refine G1 ?_));exact k.o):p:=h ⟨k⟩
theorem G9(k:q)(h:Kp q→p:=by intro k;(iterate 9 (refine G1 ?_));exact k.o):p:=h ⟨k⟩
theorem G10(k:q)(h:Kp q→p:=by intro k;(iterate 10 (refine G1 ?_));exact k.o):p:=h ⟨k⟩
theorem G11(k:q)(h:Kp q→p:=by intro k;(iterate 11 (refine G1 ?_));exact k.o):p:=h ⟨k⟩
theorem G12(k:q)(h:Kp q→p:=by intro k;(iterate 12 (refine G1 ?_));exact k.o):p:=h ⟨k⟩
theorem G13(k:q)(h:Kp q→p:=by intro k;(iterate 13 (refine G1 ?_));exact k.o):p:=h ⟨k⟩
theorem G14(k:q)(h:Kp q→p:=by intro k;(iterate 14 (refine G1 ?_));exact k.o):p:=h ⟨k⟩
theorem G15(k:q)(h:Kp q→p:=by intro k;(iterate 15 (refine G1 ?_));exact k.o):p:=h ⟨k⟩
theorem G16(k:q)(h:Kp q→p:=by intro k;(iterate 16 (refine G1 ?_));exact k.o):p:=h ⟨k⟩
theorem G17(k:q)(h:Kp q→p:=by intro k;(iterate 17 (refine G1 ?_));exact k.o):p:=h ⟨k⟩
theorem G18(k:q)(h:Kp q→p:=by intro k;(iterate 18 (refine G1 ?_));exact k.o):p:=h ⟨k⟩
theorem G19(k:q)(h:Kp q→p:=by intro k;(iterate 19 (refine G1 ?_));exact k.o):p:=h ⟨k⟩
theorem G20(k:q)(h:Kp q→p:=by intro k;(iterate 20 (refine G1 ?_));exact k.o):p:=h ⟨k⟩
theorem G21(k:q)(h:Kp q→p:=by intro k;(iterate 21 (refine G1 ?_));exact k.o):p:=h ⟨k⟩
theorem G22(k:q)(h:Kp q→p:=by intro k;(iterate 22 (refine G1 ?_));exact k.o):p:=h ⟨k⟩
theorem G23(k:q)(h:Kp q→p:=by intro k;(iterate 23 (refine G1 ?_));exact k.o):p:=h ⟨k⟩
theorem G24(k:q)(h:Kp q→p:=by intro k;(iterate 24 (refine G1 ?_));exact k.o):p:=h ⟨k⟩
theorem G25(k:q)(h:Kp q→p:=by intro k;(iterate 25 (refine G1 ?_));exact k.o):p:=h ⟨k⟩
theorem G26(k:q)(h:Kp q→p:=by intro k;(iterate 26 (refine G1 ?_));exact k.o):p:=h ⟨k⟩
theorem G29(k:q)(h:Kp q→p:=by intro k;(iterate 29 (refine G1 ?_));exact k.o):p:=h ⟨k⟩
theorem G31(k:q)(h:Kp q→p:=by intro k;(iterate 31 (refine G1 ?_));exact k.o):p:=h ⟨k⟩
theorem G51(k:q)(h:Kp q→p:=by intro k;(iterate 51 (refine G1 ?_));exact k.o):p:=h ⟨k⟩
end Hw
namespace Go.Proofs.YtpogmfngccolbaaGreat
open Go Hw _root_.Go.Proofs.Tryz
instance:ST prog 207 32:=⟨Sz207⟩
instance:ST prog 30 1:=⟨Sz30⟩
instance:ST prog 45 1:=⟨Sz45⟩
instance:ST prog 46 1:=⟨Sz46⟩
instance:ST prog 36 1:=⟨Sz36⟩
instance:ST prog 57 34:=⟨Sz57⟩
instance:ST prog 5 1:=⟨Sz5⟩
instance:ST prog 50 131:=⟨Sz50⟩
instance:ST prog 34 32:=⟨Sz34⟩
instance:ST prog 3 1:=⟨Sz3⟩
instance:ST prog 262 10:=⟨Sz262⟩
instance:ST prog 44 32:=⟨Sz44⟩
instance:ST prog 131 1:=⟨Sz131⟩
instance:ST prog 132 1:=⟨Sz132⟩
instance:ST prog 210 64:=⟨Sz210⟩
instance:ST prog 294 5:=⟨Sz294⟩
instance:ST prog 164 132:=⟨Sz164⟩
instance:ST prog 114 1:=⟨Sz114⟩
instance:ST prog 48 64:=⟨Sz48⟩
instance:ST prog 154 1:=⟨Sz154⟩
instance:ST prog 26 1:=⟨Sz26⟩
instance:ST prog 133 1:=⟨Sz133⟩
instance:ST prog 134 1:=⟨Sz134⟩
end Go.Proofs.YtpogmfngccolbaaGreat
namespace Go.Proofs.YtpogmfngccolbaaGreat
open Go Hw _root_.Go.Proofs.Tryz
abbrev Mv(f:FuncId)(l:List Value)(p:World→Prop)(x:Value):Prop:=Meets prog f l [] p fun v o=>v=x∧o=[]
def CapM(W:World)(c b:Nat):Prop:=W.cell? ⟨c,0,none⟩=some (.map (some b))
variable{B:Block}{C:Cx}{E:TypeId}{N a a1 j k m n q:Nat}{W w:World}{bl hp:List Blk}{e e1:Int}{l prev xs:List UInt8}{ls:List (List UInt8)}{s:Sl}{z:Value}{α ν σ:Type}{fs todo:List (List UInt8×ν)}
theorem CapM.keep{c b:Nat}(h:CapM C.W0 c b)(hc:c<C.W0.heap.size)(hl:c∉C.lent)(hh:HRep C hp w):w.cell? ⟨c,0,none⟩=some (.map (some b)):=by
  have e:=hh.keeps.block c hc hl;unfold CapM at h;unfold World.cell? at h ⊢;rw[e];exact h
def KeySeq(P:Program)(gf:Nat)(lb:Array Value)(keys:List (List UInt8))(W:World):Prop:=
  ∀ (σ:Type) (X:σ→List Blk) (vis:σ→List (List UInt8)) (s0:σ) (names:List Nat) (l:Nat) (w1:World),Keeps [] W w1→(∀n∈names,W.heap.size≤n)→vis s0=[]→HRep ⟨P,w1,0,names,[],[]⟩ (X s0) w1→
    (∀s k,k.length=32→(vis s).length<keys.length→∀W2,HRep ⟨P,w1,0,names,[],[]⟩ (X s) W2→YieldAt Fence.wide 0 P l #[agg (Aa k)] W2 fun e W3=>e= .returned (.bool true)∧∃s',vis s'=vis s++[k]∧Ret ((X s).map (·.n)) (X s') W2 W3)→
    CallsIn Fence.wide 0 P gf (#[.func (.yield l) #[] #[]]++lb) w1 fun e W'=>(∃v,e= .returned v)∧∃s,(vis s).Perm keys∧HRep ⟨P,w1,0,names,[],[]⟩ (X s) W'
theorem key_at{ev:ν→Value}{es:Array MapEntry}{clock:Nat}{seen seen2:Array Nat}{k:List UInt8}{v:ν}(F:MFit (Au 32 ev) fs es clock)(hit:ItOk (Au 32 ev) es seen2 (todo.eraseIdx j))(hi:ItOk (Au 32 ev) es seen todo)(hj:todo[j]? =some (k,v)):k.length=32:=by
  have h1:((agg (Aa k)),ev v)∈(leftOf es seen).toList.map (fun e=>(e.key,e.val)):=by
    unfold ItOk at hi;rw[hi];exact La7.2 ⟨(k,v),Lbl hj,rfl⟩
  obtain⟨e,he,ee⟩:=La7.1 h1;simp only[Lgm]at ee;have he2:e∈es.toList:=by simp only[leftOf,Lfi]at he;exact(Lc6.1 he).1
  obtain⟨i,hi2⟩:=Lfc he2;obtain⟨p,hp,e1,_⟩:=F.at hi2;have:agg (Aa p.1)=agg (Aa k):=e1.trans ee.1;rw[←agg_bytes_inj this];exact F.ok p (Lbl hp)
theorem vis_lt{vs:List (List UInt8)}{x:List UInt8×ν}(h:(vs++todo.map (·.1)).Perm (fs.map (·.1)))(hj:todo[j]? =some x):vs.length<fs.length:=by
  have h1:=h.length_eq;have h2:=(Laf.1 hj).1;simp only[La4,La1]at h1;omega
theorem perm_step{keys a todo:List α}{x:α}(h:(a++todo).Perm keys)(hj:todo[j]? =some x):((a++[x])++todo.eraseIdx j).Perm keys:=by
  refine List.Perm.trans ?_ h;rw[La8];refine Lcv a ?_;obtain⟨hl,he⟩:=Laf.1 hj;clear h hj
  induction todo generalizing j with
  |nil=>cases hl
  | cons y todo ih=>
    cases j with
    |zero=>simp only[List.getElem_cons_zero]at he;subst he;exact Ldw _
    | succ j=>
      simp only[List.getElem_cons_succ]at he;rw[List.eraseIdx_cons_succ];exact(List.Perm.swap y x _).trans (List.Perm.cons y (ih (by simpa using hl) he))
theorem mk_keysB(b:Nat):Meets prog 196 [.map (some b)] [] (fun _=>True) (fun v out=>∃c,v= .func (.func 250) #[] #[ptr c 0]∧out=[⟨c,[.map (some b)],132,1⟩]):=by
 intro W hW;refine Ac func196 J 4 ntmps196 J (G2 ?_);refine .box1 J J J ?_;intro n1 hn1 hf1;refine G9 ?_;refine G2 ?_;refine Aw (out:=(⟨n1,[.map (some b)],132,1⟩::[])) (Ae J J) (Ab rM Ai) ?_;exact⟨n1,rfl,rfl⟩
theorem keys_iterB{ev:ν→Value}(M:MOk prog 132 34 50 (Au 32 ev) z)(X:σ→List Blk)(vis:σ→List (List UInt8))(s0:σ)(names:List Nat)(l c b:Nat)(fs:List (List UInt8×ν))(es:Array MapEntry)(clock:Nat)(w1:World)(F:MFit (Au 32 ev) fs es clock)(hv0:vis s0=[])(hbn:b∉names)(hcn:c∉names):Meets prog 250 [.func (.yield l) #[] #[],ptr c 0] names (fun W=>W=w1∧HRep ⟨prog,w1,0,names,[],[]⟩ (X s0) W∧W.heap[b]? =some (.map es clock)∧CapM W c b∧c<W.heap.size∧∀s k,k.length=32→(vis s).length<fs.length→∀W2,HRep ⟨prog,w1,0,names,[],[]⟩ (X s) W2→YieldAt Fence.wide 0 prog l #[agg (Aa k)] W2 fun e W3=>e= .returned (.bool true)∧∃s',vis s'=vis s++[k]∧Ret ((X s).map (·.n)) (X s') W2 W3) (fun v out=>v= .tuple #[]∧∃s,(vis s).Perm (fs.map (·.1))∧out=X s):=by
  intro W hW;obtain⟨rfl,hW⟩:=hW;obtain⟨hH,hb,hcap,hclt,hY⟩:=hW;have hW:=And.intro hH trivial;refine Br (hp0:=X s0) func250 J 14 ntmps250 J (HRep.reN hW.1) (G2 ?_);refine .loadAny J J J (v:= .map (some b)) (fun w h=>?_) ?_
  · have hcc:=hcap.keep (C:=⟨prog,W,_,names,[],[]⟩) hclt hcn h
    simp[loadVar,run_isAgg_plain Y132.h rfl,load,Sem.run,hcc]
  refine .rangeMapC Y132.h hb hbn J J J J ?_;intro q;refine G3 ?_;refine .loop (ι:=Array Nat×List (List UInt8×ν)×σ) (fun p=>⟨[(0, .func (.yield l) #[] #[]),(1,ptr c 0),(5,ptr q 0)],(iblk q b clock p.1::(X p.2.2++[]))⟩) (fun p=>ItOk (Au 32 ev) es p.1 p.2.1∧((vis p.2.2)++(p.2.1.map (·.1))).Perm (fs.map (·.1))) (fun p=>p.2.1.length) ((#[],fs,s0)) ?_ ?_ ?_
  ·exact⟨ItOk.start F,by rw[hv0];exact Ldw _⟩
  ·exact An wN (Ab rM (Af (by repeat(exact sg_end)) Ai))
  rintro p ⟨hi,hpm⟩;refine G2 ?_;refine .nextMapC F hi hb hbn J J J J rM ?_ ?_
  ·
    intro htd;refine G4 ?_;refine .cond_f J J (G5 ?_);refine Aw (out:=(X p.2.2++[])) (res_none J) (Af sG Ai) ?_;rw[htd]at hpm;exact⟨rfl,p.2.2,by simpa using hpm,Lat _⟩
  intro j k v seen2 hj hit hat;have hk32:k.length=32:=key_at F hit hi hj;have hvl:(vis p.2.2).length<fs.length:=vis_lt hpm hj;refine G4 ?_;refine .cond_t J J (G5 ?_);refine .entryMapC F hat hb hbn J J J Z0 ?_;refine G1 ?_;refine .alloc (cs:=(Aa (List.replicate 32 0))) J Ck J ?_;intro n3 hn3 hf3;refine .sA J J J J zB Sz34 (by(rw[Aa,La1];assumption)) Z0 sP zU ?_;refine G3 ?_;refine .regionY 2 J zK (G1 ?_);refine .lA J J J Y34.h J Sz34 Z0 (by(rw[Aa,La1];assumption)) ?_;refine .nil (yopR (S:=fun s'=>vis s'=vis p.2.2++[k]) (hpF:=X) J J J sG (fun w h=>hY p.2.2 k hk32 hvl w h) ?_);intro s9 hs9;refine G3 ?_;refine .cond_f J J (G3 ?_);exact⟨(seen2,p.2.1.eraseIdx j,s9),⟨hit,by rw[hs9,ChangeMaps.map_eraseIdx];exact perm_step hpm (by rw[Lan,hj];rfl)⟩,by have h8:=(Laf.1 hj).1;simp only[Lg6,h8,if_true];omega,An wN (Ab rM (Af sG Ai))⟩
theorem mk_keysU(b:Nat):Meets prog 187 [.map (some b)] [] (fun _=>True) (fun v out=>∃c,v= .func (.func 227) #[] #[ptr c 0]∧out=[⟨c,[.map (some b)],114,1⟩]):=by
 intro W hW;refine Ac func187 J 4 ntmps187 J (G2 ?_);refine .box1 J J J ?_;intro n1 hn1 hf1;refine G9 ?_;refine G2 ?_;refine Aw (out:=(⟨n1,[.map (some b)],114,1⟩::[])) (Ae J J) (Ab rM Ai) ?_;exact⟨n1,rfl,rfl⟩
theorem keys_iterU{ev:ν→Value}(M:MOk prog 114 34 145 (Au 32 ev) z)(X:σ→List Blk)(vis:σ→List (List UInt8))(s0:σ)(names:List Nat)(l c b:Nat)(fs:List (List UInt8×ν))(es:Array MapEntry)(clock:Nat)(w1:World)(F:MFit (Au 32 ev) fs es clock)(hv0:vis s0=[])(hbn:b∉names)(hcn:c∉names):Meets prog 227 [.func (.yield l) #[] #[],ptr c 0] names (fun W=>W=w1∧HRep ⟨prog,w1,0,names,[],[]⟩ (X s0) W∧W.heap[b]? =some (.map es clock)∧CapM W c b∧c<W.heap.size∧∀s k,k.length=32→(vis s).length<fs.length→∀W2,HRep ⟨prog,w1,0,names,[],[]⟩ (X s) W2→YieldAt Fence.wide 0 prog l #[agg (Aa k)] W2 fun e W3=>e= .returned (.bool true)∧∃s',vis s'=vis s++[k]∧Ret ((X s).map (·.n)) (X s') W2 W3) (fun v out=>v= .tuple #[]∧∃s,(vis s).Perm (fs.map (·.1))∧out=X s):=by
  intro W hW;obtain⟨rfl,hW⟩:=hW;obtain⟨hH,hb,hcap,hclt,hY⟩:=hW;have hW:=And.intro hH trivial;refine Br (hp0:=X s0) func227 J 14 ntmps227 J (HRep.reN hW.1) (G2 ?_);refine .loadAny J J J (v:= .map (some b)) (fun w h=>?_) ?_
  · have hcc:=hcap.keep (C:=⟨prog,W,_,names,[],[]⟩) hclt hcn h
    simp[loadVar,run_isAgg_plain Y114.h rfl,load,Sem.run,hcc]
  refine .rangeMapC Y114.h hb hbn J J J J ?_;intro q;refine G3 ?_;refine .loop (ι:=Array Nat×List (List UInt8×ν)×σ) (fun p=>⟨[(0, .func (.yield l) #[] #[]),(1,ptr c 0),(5,ptr q 0)],(iblk q b clock p.1::(X p.2.2++[]))⟩) (fun p=>ItOk (Au 32 ev) es p.1 p.2.1∧((vis p.2.2)++(p.2.1.map (·.1))).Perm (fs.map (·.1))) (fun p=>p.2.1.length) ((#[],fs,s0)) ?_ ?_ ?_
  ·exact⟨ItOk.start F,by rw[hv0];exact Ldw _⟩
  ·exact An wN (Ab rM (Af (by repeat(exact sg_end)) Ai))
  rintro p ⟨hi,hpm⟩;refine G2 ?_;refine .nextMapC F hi hb hbn J J J J rM ?_ ?_
  ·
    intro htd;refine G4 ?_;refine .cond_f J J (G5 ?_);refine Aw (out:=(X p.2.2++[])) (res_none J) (Af sG Ai) ?_;rw[htd]at hpm;exact⟨rfl,p.2.2,by simpa using hpm,Lat _⟩
  intro j k v seen2 hj hit hat;have hk32:k.length=32:=key_at F hit hi hj;have hvl:(vis p.2.2).length<fs.length:=vis_lt hpm hj;refine G4 ?_;refine .cond_t J J (G5 ?_);refine .entryMapC F hat hb hbn J J J Z0 ?_;refine G1 ?_;refine .alloc (cs:=(Aa (List.replicate 32 0))) J Ck J ?_;intro n3 hn3 hf3;refine .sA J J J J zB Sz34 (by(rw[Aa,La1];assumption)) Z0 sP zU ?_;refine G3 ?_;refine .regionY 2 J zK (G1 ?_);refine .lA J J J Y34.h J Sz34 Z0 (by(rw[Aa,La1];assumption)) ?_;refine .nil (yopR (S:=fun s'=>vis s'=vis p.2.2++[k]) (hpF:=X) J J J sG (fun w h=>hY p.2.2 k hk32 hvl w h) ?_);intro s9 hs9;refine G3 ?_;refine .cond_f J J (G3 ?_);exact⟨(seen2,p.2.1.eraseIdx j,s9),⟨hit,by rw[hs9,ChangeMaps.map_eraseIdx];exact perm_step hpm (by rw[Lan,hj];rfl)⟩,by have h8:=(Laf.1 hj).1;simp only[Lg6,h8,if_true];omega,An wN (Ab rM (Af sG Ai))⟩
def cmpI(a b:Int):Int:=if a<b then-1 else if b<a then 1 else 0
theorem bytealg_run{p q:Option Addr}{n m c1 c2:Nat}{a b:List UInt8}(ha:a.length=n)(hb:b.length=m)(h1:SeesP w p (Aa a))(h2:SeesP w q (Aa b)):
    (callFunc 188 [.slice p n c1, .slice q m c2].toArray).run prog w= .ok (.value (i64 (Cw a b))) w:=by
  rw[run_callFunc_extern func188 zK zK zK (e:=Extern.BytealgCompare.compare) zK];rw[show[Value.slice p n c1,Value.slice q m c2].toArray= #[.slice p n c1, .slice q m c2]from rfl,run_compareB ha hb h1 h2];rfl
theorem bytes_cmp(p q:Option Addr)(c1 c2 n m:Nat)(a b:List UInt8)(ha:a.length=n)(hb:b.length=m):Mv 153 [.slice p n c1, .slice q m c2] (fun W=>SeesP W p (Aa a)∧SeesP W q (Aa b)) (i64 (Cw a b)):=by
 intro W hW;refine Ac func153 J 8 ntmps153 J (G9 ?_);refine .extL J J J J (fun w h=>bytealg_run ha hb (A2 h J hW.1) (A2 h J hW.2)) (G3 ?_);refine G2 ?_;refine⟨_,[],Ae J J,sP,sP,?_,rfl⟩;rfl
def badAt(prev:List UInt8)(ls:List (List UInt8))(i:Nat):Bool:=decide (ls.getD i []=List.replicate 32 0)||(decide (ls.getD i []=prev)||(decide ((0:Int)<(i:Int))&&decide ((0:Int)≤Cw (ls.getD (i-1) []) (ls.getD i []))))
def linksBad(prev:List UInt8)(ls:List (List UInt8)):Bool:=(List.range ls.length).any (badAt prev ls)
def bheadB(B:Block):Bool:=decide ((4294967295:Int)<(B.fSeq.toNat:Int))||(!decide (decide (B.fPrev=List.replicate 32 0)=decide ((B.fSeq.toNat:Int)=0))||(decide ((16:Int)<(B.fLinks.n:Int))||decide ((512:Int)<(B.fData.n:Int))))
def bhead(B:Block):Prop:=bheadB B=true
theorem linksBad_at(hk:k<ls.length)(h:badAt prev ls k=true):linksBad prev ls=true:=by
  rw[linksBad,Ldo];exact⟨k,Lcr.2 hk,h⟩
theorem linksBad_not(h:∀j,j<ls.length→badAt prev ls j=false):linksBad prev ls=false:=by
  rw[linksBad,Lg0];intro x hx;rw[h x (Lcr.1 hx)];simp
def bcheck(B:Block)(ls:List (List UInt8)):Int:=if bheadB B=true then 2 else(if linksBad B.fPrev ls=true then 2 else 0)
theorem bcheck_head(h:bhead B):bcheck B ls=2:=by unfold bcheck;unfold bhead at h;rw[if_pos h]
theorem bcheck_bad(h:¬bhead B)(hb:linksBad B.fPrev ls=true):bcheck B ls=2:=by unfold bcheck;unfold bhead at h;rw[if_neg h,if_pos hb]
theorem bcheck_ok(h:¬bhead B)(hb:linksBad B.fPrev ls=false):bcheck B ls=0:=by unfold bcheck;unfold bhead at h;rw[if_neg h,if_neg (by rw[hb];simp)]
theorem block_cmp(a b:List UInt8)(ha:a.length=32)(hb:b.length=32):Mv 95 [agg (Aa a),agg (Aa b)] (fun _=>True) (i64 (Cw a b)):=by
 intro W hW;refine Ac func95 J 8 ntmps95 J (G3 ?_);intro n2 hn2 hf2;refine G1 ?_;intro n3 hn3 hf3;refine G4 ?_;refine .draw (oP [0,1,302,3]) Ao zK (G2 ?_);refine .cV J J J J Body153 (bytes_cmp _ _ _ _ _ _ a b ha hb) (fun W2 h=>⟨SeesP.of (Ap h Z1),SeesP.of (Ap h Z0)⟩) ?_;refine G3 ?_;refine G2 ?_;refine⟨_,[],Ae J J,sP,sP,?_,rfl⟩;rfl
theorem block_check(B:Block)(hB:B.ok)(ls:List (List UInt8)):Mv 154 [agg B.cells] (fun W=>RowsAt W B.fLinks 32 ls) (i64 (bcheck B ls)):=by
 intro W hW;have hcx:B.fLinks.n≤maxLen:=hW.max;simp only[maxLen]at hcx;have hcn:=hW.cap;refine Ac func154 J 65 ntmps154 J (G3 ?_);intro n1 hn1 hf1;refine G5 ?_;refine .build (cs:=Aa (List.replicate 32 0)) J J J (fun w=>by kernel_rfl) ?_;refine .alloc (cs:=(Aa (List.replicate 32 0))) J Ck J ?_;intro n3 hn3 hf3;refine .sA J J J J zB Sz34 sP Z0 sP zU ?_;refine G4 ?_;refine .draw (oP [0,101,2,3,4,105,106,7,8,109,10,11,12,13,14,115,16,17,18,19,20,121,22,23,24]) Ao zK (G2 ?_);refine two (fun r hr k=>Tr.gtr J J J J hr k) (fun hs2_20=>?_) (fun hs2_20=>?_)
 ·
  have hs2_2:=of_decide_eq_true hs2_20;refine G24 ?_;refine .cond_t J J (G5 ?_);refine G3 ?_;refine⟨_,[],Ae J J,sP,sP,?_,rfl⟩;exact congrArg i64 (bcheck_head (by unfold bhead bheadB;simp_all)).symm
 have hs2_2:=of_decide_eq_false hs2_20;refine G2 ?_;refine .lN (Aa _) J J J Y34.h J Sz34 Z1 (Block.row_fPrev zA) (Block.rl_fPrev zA) ?_;refine .lA J J J Y34.h J Sz34 Z0 sP ?_;refine .eql_bytes J J J J eqGuardType34 Y34.h Y5.h Sz5 (by(simp[hB.l_fPrev];done)) sP J ?_;refine G3 ?_;refine two (fun r hr k=>Tr.neb J J J J Y4 hr k) (fun hs2_110=>?_) (fun hs2_110=>?_)
 ·
  have hs2_11:=nd_t hs2_110;refine G15 ?_;refine .cond_t J J (G5 ?_);refine G3 ?_;refine⟨_,[],Ae J J,sP,sP,?_,rfl⟩;exact congrArg i64 (bcheck_head (by unfold bhead bheadB;simp_all)).symm
 have hs2_11:=nd_f hs2_110;refine G5 ?_;refine two (fun r hr k=>Tr.gtr J J J J hr k) (fun hs2_170=>?_) (fun hs2_170=>?_)
 ·
  have hs2_17:=of_decide_eq_true hs2_170;refine G9 ?_;refine .cond_t J J (G5 ?_);refine G3 ?_;refine⟨_,[],Ae J J,sP,sP,?_,rfl⟩;exact congrArg i64 (bcheck_head (by unfold bhead bheadB;simp_all)).symm
 have hs2_17:=of_decide_eq_false hs2_170;refine G9 ?_;refine .condP J (fun hc0=>?_) (fun hc0=>?_)
 ·
  refine G5 ?_;refine G3 ?_;refine⟨_,[],Ae J J,sP,sP,?_,rfl⟩;exact congrArg i64 (bcheck_head (by unfold bhead bheadB;simp_all)).symm
 have hnb:¬bhead B:=by unfold bhead bheadB;simp_all
 refine G12 ?_;refine .loop (ι:=Nat) (fun k=>⟨[(1,ptr n1 0),(3,ptr n3 0),(33,B.fLinks.v),(34,i64 (B.fLinks.n:Int)),(35,i64 (k:Int))],[⟨n3,Aa (List.replicate 32 0),34,32⟩,⟨n1,B.cells,50,B.cells.length⟩]⟩) (fun k=>k≤B.fLinks.n∧∀j,j<k→badAt B.fPrev ls j=false) (fun k=>B.fLinks.n-k) (0) ?_ ?_ ?_
 ·exact⟨by omega,fun j hj=>by omega⟩
 ·exact Ad wN (wh1 Z0 (wh1 Z1 wh0)) nD
 rintro k ⟨hk,hg⟩;refine G6 ?_;refine .condP J (fun hc1=>?_) (fun hc1=>?_)
 ·
  have hk2:k<B.fLinks.n:=by omega
  have hll:=hW.len;obtain⟨b,o,hbp,hbs⟩:=hW.see.at (by rw[Ax hW.row];omega);have hr0:(ls.getD k []).length=32:=Bf hW.row oM;have hr1:(ls.getD (k-1) []).length=32:=Bf hW.row oM;refine G2 ?_;refine .join (ι:=Unit) (fun _u=>⟨[(1,ptr n1 0),(3,ptr n3 0),(33,B.fLinks.v),(34,i64 (B.fLinks.n:Int)),(35,i64 (k:Int))],[⟨n3,Aa (List.replicate 32 0),34,32⟩,⟨n1,B.cells,50,B.cells.length⟩]⟩) (fun _u=>badAt B.fPrev ls k=false) ?_ ?_
  ·
   refine G4 ?_;refine .idxSlP 32 J J J hbp J Y30.h Sz34 k J oM (.loadEN (Aa (ls.getD (k) [])) J J J Y34.h J Sz34 sP (by rw[Aa,La1];exact Bf hW.row (by rw[hW.len];omega)) (Bu hW.row hbs (by rw[hW.len];omega)) ?_);refine .alloc (cs:=(Aa (List.replicate 32 0))) J Ck J ?_;intro n5 hn5 hf5;refine G1 ?_;refine .sA J J J J zB Sz34 (by(rw[Aa,La1];assumption)) Z0 sP zU ?_;refine G3 ?_;refine .draw (oP [100,101,2,3,104,5,106,7,8,9,10,11,12,13,114,15,16,17,118,119,320,21,22,23]) Ao zK (.lA J J J Y34.h J Sz34 Z0 (by(rw[Aa,La1];assumption)) ?_);refine .lA J J J Y34.h J Sz34 Z1 sP ?_;refine two (fun r hr k=>Tr.eql_bytes J J J J eqGuardType34 Y34.h Y5.h Sz5 zA sP hr k) (fun hs7_20=>?_) (fun hs7_20=>?_)
   ·
    have hs7_2:=of_decide_eq_true hs7_20;refine G23 ?_;refine .cond_t J J (G5 ?_);refine G7 ?_;refine⟨_,[],Ae J J,sP,sP,?_,rfl⟩;exact congrArg i64 (bcheck_bad hnb (linksBad_at (k:=k) oM (by unfold badAt;simp_all))).symm
   have hs7_2:=of_decide_eq_false hs7_20;refine G1 ?_;refine .lA J J J Y34.h J Sz34 Z0 (by(rw[Aa,La1];assumption)) ?_;refine G1 ?_;refine .lN (Aa _) J J J Y34.h J Sz34 Z2 (Block.row_fPrev zA) (Block.rl_fPrev zA) ?_;refine two (fun r hr k=>Tr.eql_bytes J J J J eqGuardType34 Y34.h Y5.h Sz5 zA (by(simp[hB.l_fPrev];done)) hr k) (fun hs7_70=>?_) (fun hs7_70=>?_)
   ·
    have hs7_7:=of_decide_eq_true hs7_70;refine G18 ?_;refine .cond_t J J (G5 ?_);refine G7 ?_;refine⟨_,[],Ae J J,sP,sP,?_,rfl⟩;exact congrArg i64 (bcheck_bad hnb (linksBad_at (k:=k) oM (by unfold badAt;simp_all))).symm
   have hs7_7:=of_decide_eq_false hs7_70;refine G3 ?_;refine two (fun r hr k=>Tr.gtr J J J J hr k) (fun hs7_110=>?_) (fun hs7_110=>?_)
   ·
    have hs7_11:=of_decide_eq_true hs7_110;refine G5 ?_;refine .idxSlP 32 J J J hbp J Y30.h Sz34 (k-1) oM oM (.loadEN (Aa (ls.getD (k-1) [])) J J J Y34.h J Sz34 sP (by rw[Aa,La1];exact Bf hW.row (by rw[hW.len];omega)) (Bu hW.row hbs (by rw[hW.len];omega)) ?_);refine .lA J J J Y34.h J Sz34 Z0 (by(rw[Aa,La1];assumption)) ?_;refine .cV J J J J Body95 (block_cmp _ _ hr1 hr0) tV (G5 ?_);refine .condP J (fun hc2=>?_) (fun hc2=>?_)
    ·
     refine G5 ?_;refine G7 ?_;refine⟨_,[],Ae J J,sP,sP,?_,rfl⟩;exact congrArg i64 (bcheck_bad hnb (linksBad_at (k:=k) oM (by unfold badAt;simp_all))).symm
    refine G3 ?_;refine⟨(),by unfold badAt;simp_all,Ad wN (wh1 Z1 (wh1 Z2 wh0)) nD⟩
   have hs7_11:=of_decide_eq_false hs7_110;refine G14 ?_;refine .cond_f J J (G3 ?_);refine⟨(),by unfold badAt;simp_all,Ad wN (wh1 Z1 (wh1 Z2 wh0)) nD⟩
  intro _u hj;have hgk:=hj;refine G5 ?_;exact⟨k+1,⟨by omega,fun j hj=>by rcases Lcb.1 hj with h|rfl;exact hg j h;exact hgk⟩,by omega,Ad wN (wh1 Z0 (wh1 Z1 wh0)) nD⟩
 obtain rfl:k=B.fLinks.n:=by omega
 refine G10 ?_;refine G2 ?_;refine⟨_,[],Ae J J,sP,sP,?_,rfl⟩;exact congrArg i64 (bcheck_ok hnb (linksBad_not (by rw[hW.len];exact hg))).symm
theorem kit_names(s:Sl)(ls:List (List UInt8))(hn:s.n≤500000):Meets prog 22 [s.v] [] (fun W=>RowsAt W s 32 ls) (fun v out=>FreshRow v out (A3 ls) 34 s.n 32):=by
 intro W hW;refine Ac func22 J 6 ntmps22 J (G7 ?_);refine .mkRow (z:=agg (Aa (List.replicate 32 0))) [] ([]) J J J Y30.h Sz34 Ck J J (by intro v hv;cases hv) dE (rfl) ?_;intro q0;refine G1 ?_;refine .appendSl (z:=agg (Aa (List.replicate 32 0))) (by':=32) (A3 ls) J J J J J Y30.h Y30.h Sz34 Ck (by unfold By;kernel_rfl) J (fun w h=>A2 h J hW.see) (fun e=>by have:=hW.nil e;have:=hW.cap;omega) (flatB_cell ls) Az J J oM oM oM (by rw[Ax hW.row,hW.len]) ?_;intro q1 c1 hq1;refine G3 ?_;refine G2 ?_;refine⟨_,[⟨q1,[]++A3 ls,34,c1*32⟩],Ae J J,(by intro b hb;rw[La0.1 hb];exact Bp),Cn,⟨q1,c1,by rw[Las],by omega,rfl⟩⟩
theorem kit_own(s:Sl)(l:List UInt8)(hn:s.n≤500000):Meets prog 68 [s.v] [] (fun W=>BytesAt W s l) (fun v out=>FreshRow v out (Aa l) 5 s.n 1):=by
 intro W hW;refine Ac func68 J 6 ntmps68 J (G7 ?_);refine .mkRow (z:=u8 0) [] ([]) J J J Y46.h Sz5 Zr5 J J (by intro v hv;cases hv) dE (rfl) ?_;intro q0;refine G1 ?_;refine .appendSl (z:=u8 0) (by':=1) (Aa l) J J J J J Y46.h Y46.h Sz5 Zr5 (by unfold By;kernel_rfl) J (fun w h=>A2 h J hW.see) (fun e=>by have:=hW.nil e;have:=hW.cap;omega) (by simp[Aa,isCell,u8]) Az J J oM oM oM (by rw[Aa,La1,hW.len,Lb4]) ?_;intro q1 c1 hq1;refine G3 ?_;refine G2 ?_;refine⟨_,[⟨q1,[]++Aa l,5,c1*1⟩],Ae J J,(by intro b hb;rw[La0.1 hb];exact Bp),Cn,⟨q1,c1,by rw[Las],by omega,rfl⟩⟩
def ownB(B:Block)(q1 c1 q2 c2:Nat):Block:={ B with fLinks:=⟨some ⟨q1,0,none⟩,B.fLinks.n,c1⟩,fData:=⟨some ⟨q2,0,none⟩,B.fData.n,c2⟩ }
theorem ownB_ok(h:B.ok)(q1 c1 q2 c2:Nat):(ownB B q1 c1 q2 c2).ok:=⟨h.l_fWriter,h.l_fPrev,h.l_fSig⟩
def OwnedBlock(B:Block)(ls:List (List UInt8))(l:List UInt8)(v:Value)(out:List Blk):Prop:=∃q1 c1 q2 c2,v=agg (ownB B q1 c1 q2 c2).cells∧B.fLinks.n≤c1∧B.fData.n≤c2∧out=[⟨q2,Aa l,5,c2*1⟩,⟨q1,A3 ls,34,c1*32⟩]
theorem rows_ext(h:HRep C hp w)(hl:C.lent=[])(hr:RowsAt C.W0 s m ls):RowsAt w s m ls:=⟨hr.len,hr.row,hr.cap,A2 h hl hr.see,hr.max,hr.nil⟩
theorem bytes_ext(h:HRep C hp w)(hl:C.lent=[])(hr:BytesAt C.W0 s l):BytesAt w s l:=⟨hr.len,hr.cap,A2 h hl hr.see,hr.max,hr.nil⟩
theorem kit_own_block(B:Block)(hB:B.ok)(ls:List (List UInt8))(l:List UInt8)(hn:B.fLinks.n≤500000)(hd:B.fData.n≤500000):Meets prog 42 [agg B.cells] [] (fun W=>RowsAt W B.fLinks 32 ls∧BytesAt W B.fData l) (OwnedBlock B ls l):=by
 intro W hW;refine Ac func42 J 12 ntmps42 J (G3 ?_);intro n1 hn1 hf1;refine .alloc (cs:=Block.zero.cells) J Block.zr J ?_;intro n2 hn2 hf2;refine G3 ?_;refine .draw (oP [0,101,3,104,302,6,305,407,8,409]) Ao zK (G4 ?_);refine .call J J J J Body22 (kit_names _ ls hn) (FreshRow.loose _ _ _ _) (fun w h=>rows_ext h J hW.1) ?_;rintro v1 out1 ⟨q1,c1,rfl,hc1,rfl⟩;refine G1 ?_;refine .call J J J J Body68 (kit_own _ l hd) (FreshRow.loose _ _ _ _) (fun w h=>bytes_ext h J hW.2) ?_;rintro v2 out2 ⟨q2,c2,rfl,hc2,rfl⟩;refine .s1 J J J J J Sz30 Z3 (by rw[Block.length zA];decide) (by exact Block.setS_fLinks zA _ _ _) (by exact upd3) ?_;refine G1 ?_;refine .s1 J J J J J Sz46 Z3 (by rw[Block.length (by exact⟨hB.l_fWriter,hB.l_fPrev,hB.l_fSig⟩)];decide) (by exact Block.setS_fData (by exact⟨hB.l_fWriter,hB.l_fPrev,hB.l_fSig⟩) _ _ _) (by exact upd3) ?_;refine G4 ?_;refine .lA J J J Y50.h J Sz50 Z3 (Block.length (by exact⟨hB.l_fWriter,hB.l_fPrev,hB.l_fSig⟩)) ?_;refine .sA J J J J (Block.isCell (by exact⟨hB.l_fWriter,hB.l_fPrev,hB.l_fSig⟩)) Sz50 (Block.length (by exact⟨hB.l_fWriter,hB.l_fPrev,hB.l_fSig⟩)) Z2 (Block.length (by exact Block.zero_ok)) (by exact upd2) ?_;refine G2 ?_;refine G2 ?_;refine⟨_,[⟨q2,Aa l,5,c2*1⟩,⟨q1,A3 ls,34,c1*32⟩],Am J J Y50.h J Sz50 Z2 (Block.length (ownB_ok hB q1 c1 q2 c2)),(by intro b hb;rcases Lal.1 hb with rfl|hb;exact Bp;rw[La0.1 hb];exact mem1),(fun h=>h.sublist sP),⟨q1,c1,q2,c2,rfl,hc1,hc2,rfl⟩⟩
theorem parents_nil(B:Block)(hB:B.ok)(ls:List (List UInt8))(hn:B.fLinks.n≤500000)(hs:(B.fSeq.toNat:Int)=0)(h0:B.fLinks.n=0):Mv 116 [agg B.cells] (fun W=>RowsAt W B.fLinks 32 ls) (.slice none 0 0):=by
 intro W hW;have hl0:∃p c,B.fLinks.v= .slice p 0 c:=⟨_,_,by rw[Sl.v,h0]⟩;obtain⟨p9,c9,hl9⟩:=hl0;have hg9:=Block.get_fLinks hB;rw[hl9]at hg9;refine Ac func116 J 16 ntmps116 J (G3 ?_);intro n1 hn1 hf1;refine G13 ?_;refine .nei J J J J (show(!decide _)=false from congrArg not (decide_eq_true (hs))) (G2 ?_);refine .cond_f J (rfl) (G6 ?_);refine .load1 J J J Y30.h J Z0 hg9 ?_;refine .appendNilNil J J J J Y30.h Y30.h Sz34 (G3 ?_);refine G2 ?_;refine⟨_,[],Ae J J,sP,sP,?_,rfl⟩;rfl
theorem parents_0(B:Block)(hB:B.ok)(ls:List (List UInt8))(hn:B.fLinks.n≤500000)(hs:(B.fSeq.toNat:Int)=0)(h0:0<B.fLinks.n):Meets prog 116 [agg B.cells] [] (fun W=>RowsAt W B.fLinks 32 ls) (fun v out=>FreshRow v out (A3 ls) 34 B.fLinks.n 32):=by
 intro W hW;refine Ac func116 J 16 ntmps116 J (G3 ?_);intro n1 hn1 hf1;refine G13 ?_;refine .nei J J J J (show(!decide _)=false from congrArg not (decide_eq_true (hs))) (G2 ?_);refine .cond_f J (rfl) (G7 ?_);refine .appendToNil (z:=agg (Aa (List.replicate 32 0))) (by':=32) (A3 ls) J J J J Y30.h Y30.h Sz34 Ck (by unfold By;kernel_rfl) J (fun w h=>A2 h J hW.see) h0 (fun e=>by have:=hW.nil e;have:=hW.cap;omega) (flatB_cell ls) oM oM (by rw[Ax hW.row,hW.len]) ?_;intro q1 c1 hq1;refine G3 ?_;refine G2 ?_;refine⟨_,[⟨q1,A3 ls,34,c1*32⟩],Ae J J,(by intro b hb;rw[La0.1 hb];exact Bp),Cn,⟨q1,c1,rfl,hq1,rfl⟩⟩
theorem parents_s(B:Block)(hB:B.ok)(ls:List (List UInt8))(hn:B.fLinks.n≤500000)(hs:¬(B.fSeq.toNat:Int)=0):Meets prog 116 [agg B.cells] [] (fun W=>RowsAt W B.fLinks 32 ls) (fun v out=>FreshRow v out (A3 (B.fPrev::ls)) 34 (1+B.fLinks.n) 32):=by
 intro W hW;refine Ac func116 J 16 ntmps116 J (G3 ?_);intro n1 hn1 hf1;refine G13 ?_;refine .nei J J J J (show(!decide _)=true from congrArg not (decide_eq_false (hs))) (G2 ?_);refine .cond_t J (rfl) (G3 ?_);refine .lN (Aa _) J J J Y34.h J Sz34 Z0 (Block.row_fPrev zA) (Block.rl_fPrev zA) ?_;refine .mkRow (z:=agg (Aa (List.replicate 32 0))) [agg (Aa B.fPrev)] (Aa B.fPrev) J J J Y30.h Sz34 Ck J J (by intro v hv;rw[La0.1 hv];simp[Value.cells,hB.l_fPrev]) dE (by simp[Value.cells]) ?_;intro q0;refine .appendToNil (z:=agg (Aa (List.replicate 32 0))) (by':=32) (Aa B.fPrev) J J J J Y30.h Y30.h Sz34 Ck (by unfold By;kernel_rfl) J (fun w h=>SeesP.of (Ap h Bp)) dE (fun e=>by cases e) (by simp[Aa,isCell,u8]) dE dE (by simp[hB.l_fPrev]) ?_;intro q1 c1 hq1;refine G8 ?_;refine .appendSl (z:=agg (Aa (List.replicate 32 0))) (by':=32) (A3 ls) J J J J J Y30.h Y30.h Sz34 Ck (by unfold By;kernel_rfl) J (fun w h=>A2 h J hW.see) (fun e=>by have:=hW.nil e;have:=hW.cap;omega) (flatB_cell ls) Az J (by simp[hB.l_fPrev]) hq1 oM oM (by rw[Ax hW.row,hW.len]) ?_;intro q2 c2 hq2;refine G3 ?_;refine G2 ?_;refine⟨_,[⟨q2,Aa B.fPrev++A3 ls,34,c2*32⟩],Ae J J,(by intro b hb;rw[La0.1 hb];exact Bp),Cn,⟨q2,c2,rfl,hq2,rfl⟩⟩
theorem take_step{xs bs:List α}(d:α)(ha:k<xs.length)(hb:k<bs.length)(h:xs.take k=bs.take k)(he:xs.getD k d=bs.getD k d):xs.take (k+1)=bs.take (k+1):=by
  rw[Lar ha,Lar hb,h];have e1:xs.getD k d=xs[k]:=by simp[List.getD,ha]
  have e2:bs.getD k d=bs[k]:=by simp[List.getD,hb]
  rw[←e1,←e2,he]
theorem digests_eq(p q:Option Addr)(n c1 c2:Nat)(xs bs:List (List UInt8))(hra:∀l∈xs,l.length=32)(hrb:∀l∈bs,l.length=32)(ha:xs.length=n)(hb:bs.length=n)(hn:n≤1000000):Mv 23 [.slice p n c1, .slice q n c2] (fun W=>SeesP W p (A3 xs)∧SeesP W q (A3 bs)) (.bool (decide (xs=bs))):=by
 intro W hW;refine Ac func23 J 26 ntmps23 J (G12 ?_);refine .nei J J J J (show(!decide _)=false from congrArg not (decide_eq_true (rfl))) (G2 ?_);refine .cond_f J (rfl) (G9 ?_);refine .loop (ι:=Nat) (fun k=>⟨[(0, .slice p n c1),(1, .slice q n c2),(5,i64 (k:Int))],[]⟩) (fun k=>k≤n∧xs.take k=bs.take k) (fun k=>n-k) (0) ?_ ?_ ?_
 ·exact⟨by omega,rfl⟩
 ·exact Ad wN wh0 nD
 rintro k ⟨hk,hg⟩;refine G9 ?_;refine .condP J (fun hc1=>?_) (fun hc1=>?_)
 ·
  have hk2:k<n:=by omega
  obtain⟨b1,o1,hp1,hs1⟩:=hW.1.at (by rw[Ax hra];omega);obtain⟨b2,o2,hp2,hs2⟩:=hW.2.at (by rw[Ax hrb];omega);have r1:(xs.getD k []).length=32:=Bf hra oM;have r2:(bs.getD k []).length=32:=Bf hrb oM;refine G5 ?_;refine .draw (oP [0,1,2,103,4,5,6,107,8]) Ao zK (G2 ?_);refine .idxSlP 32 J J J hp1 J Y30.h Sz34 k J oM (.loadEN (Aa (xs.getD k [])) J J J Y34.h J Sz34 sP (by rw[Aa,La1];exact Bf hra oM) (Bu hra hs1 oM) ?_);refine G2 ?_;refine .idxSlP 32 J J J hp2 J Y30.h Sz34 k J oM (.loadEN (Aa (bs.getD k [])) J J J Y34.h J Sz34 sP (by rw[Aa,La1];exact Bf hrb oM) (Bu hrb hs2 oM) ?_);refine .neq_bytes J J J J eqGuardType34 Y34.h Y5.h Sz5 zA zA J ?_;refine G2 ?_;refine .condNP J (fun hc2=>?_) (fun hc2=>?_)
  ·
   refine G5 ?_;refine G7 ?_;refine⟨_,[],Ae J J,sP,sP,?_,rfl⟩
   (rw[decide_eq_false (fun e=>hc2 (by rw[e]))];done)
  refine G9 ?_;exact⟨k+1,⟨by omega,take_step [] oM oM hg hc2⟩,by omega,Ad wN wh0 nD⟩
 obtain rfl:k=n:=by omega
 refine G10 ?_;refine G2 ?_;refine⟨_,[],Ae J J,sP,sP,?_,rfl⟩
 (rw[La5 oM,La5 oM]at hg;rw[decide_eq_true hg];done)
theorem digests_ne(p q:Option Addr)(n m c1 c2:Nat)(xs bs:List (List UInt8))(hra:∀l∈xs,l.length=32)(hrb:∀l∈bs,l.length=32)(ha:xs.length=n)(hb:bs.length=m)(hn:n≤1000000)(hnm:n≠m):Mv 23 [.slice p n c1, .slice q m c2] (fun W=>SeesP W p (A3 xs)∧SeesP W q (A3 bs)) (.bool (decide (xs=bs))):=by
 intro W hW;refine Ac func23 J 26 ntmps23 J (G12 ?_);refine .nei J J J J (show(!decide _)=true from congrArg not (decide_eq_false oM)) (G2 ?_);refine .cond_t J (rfl) (G5 ?_);refine G3 ?_;refine⟨_,[],Ae J J,sP,sP,?_,rfl⟩;rw[decide_eq_false (fun e=>hnm (by rw[←ha,←hb,e]))]
def len8S:ByteArray:=⟨#[0,1,2,2,3,3,3,3,4,4,4,4,4,4,4,4,5,5,5,5,5,5,5,5,5,5,5,5,5,5,5,5,6,6,6,6,6,6,6,6,6,6,6,6,6,6,6,6,6,6,6,6,6,6,6,6,6,6,6,6,6,6,6,6,7,7,7,7,7,7,7,7,7,7,7,7,7,7,7,7,7,7,7,7,7,7,7,7,7,7,7,7,7,7,7,7,7,7,7,7,7,7,7,7,7,7,7,7,7,7,7,7,7,7,7,7,7,7,7,7,7,7,7,7,7,7,7,7,8,8,8,8,8,8,8,8,8,8,8,8,8,8,8,8,8,8,8,8,8,8,8,8,8,8,8,8,8,8,8,8,8,8,8,8,8,8,8,8,8,8,8,8,8,8,8,8,8,8,8,8,8,8,8,8,8,8,8,8,8,8,8,8,8,8,8,8,8,8,8,8,8,8,8,8,8,8,8,8,8,8,8,8,8,8,8,8,8,8,8,8,8,8,8,8,8,8,8,8,8,8,8,8,8,8,8,8,8,8,8,8,8,8,8,8,8,8,8,8,8,8,8,8,8,8,8,8]⟩
theorem len8_all:∀n,n<256→len8S.data.toList[n]? =some (UInt8.ofNat (C2 n)):=by decide
theorem len8_get(x:UInt8):len8S[x.toNat]? =some (UInt8.ofNat (C2 x.toNat)):=by
  have h:=len8_all x.toNat x.toNat_lt;have h2:x.toNat<len8S.size:=x.toNat_lt;have e:len8S[x.toNat]? =len8S.data.toList[x.toNat]? :=by
    rw[getElem?_pos len8S x.toNat h2,La3 (by exact x.toNat_lt)];rfl
  rw[e];exact h
theorem len8_nat(x:UInt8):(UInt8.ofNat (C2 x.toNat)).toNat=C2 x.toNat:=by
  have:C2 x.toNat≤8:=bLen_le.2 x.toNat_lt;rw[Lb1,Lab oM]
theorem bits_len8(x:UInt8):Mv 216 [u8 x] (fun _=>True) (i64 ((C2 x.toNat:Nat):Int)):=by
 intro W hW;refine Ac func216 J 6 ntmps216 J (G8 ?_);refine .idxStr (s:=len8S) J J J J underlying9 _ J (len8_get x) (G4 ?_);refine G2 ?_;refine⟨_,[],Ae J J,sP,sP,?_,rfl⟩;rw[len8_nat]
theorem bits_lz8(x:UInt8):Mv 177 [u8 x] (fun _=>True) (i64 (8-((C2 x.toNat:Nat):Int))):=by
 intro W hW;have hb:C2 x.toNat≤8:=bLen_le.2 x.toNat_lt;refine Ac func177 J 6 ntmps177 J (G8 ?_);refine .cV J J J J Body216 (bits_len8 _) tV (G4 ?_);refine G2 ?_;refine⟨_,[],Ae J J,sP,sP,?_,rfl⟩;rfl
theorem shr64_nat(x:UInt64)(n:Nat):(Ar x n).toNat=x.toNat/2^n:=by
  have h:x.toNat/2^n≤x.toNat:=Lco _ _;have:=x.toNat_lt;rw[Ar,Laz,Lab oM]
theorem bits_len64(x:UInt64):Mv 210 [u64 x] (fun _=>True) (i64 ((C2 x.toNat:Nat):Int)):=by
 intro W hW;have hx:=x.toNat_lt;refine Ac func210 J 25 ntmps210 J (G5 ?_);refine .join (ι:=UInt64×Nat) (fun p=>⟨[(0,u64 p.1),(2,i64 (p.2:Int))],[]⟩) (fun p=>C2 x.toNat=p.2+C2 p.1.toNat∧p.1.toNat<2^32∧p.2≤32) ?_ ?_
 ·
  refine G6 ?_;refine .condP J (fun hc0=>?_) (fun hc0=>?_)
  ·
   refine G3 ?_;refine .shr_u64 J J J J 32 J dE (G7 ?_);exact⟨(Ar x 32,0+32),⟨by simp only[shr64_nat];have:=bLen_shr (n:=x.toNat) (k:=32) oM;omega,by simp only[shr64_nat];omega,by simp only[];omega⟩,Ad (wk1 rfl (wk1 (by rfl) wk0)) wh0 nD⟩
  refine G2 ?_;exact⟨(x,0),⟨by simp only[];omega,by simp only[];omega,by simp only[];omega⟩,Ad (wk1 rfl (wk1 (by rfl) wk0)) wh0 nD⟩
 intro p hj;obtain⟨y,n⟩:=p;obtain⟨hb,hy,hn⟩:=hj;simp only at hb hy hn ⊢;refine .join (ι:=UInt64×Nat) (fun p=>⟨[(0,u64 p.1),(2,i64 (p.2:Int))],[]⟩) (fun p=>C2 x.toNat=p.2+C2 p.1.toNat∧p.1.toNat<2^16∧p.2≤48) ?_ ?_
 ·
  refine G6 ?_;refine .condP J (fun hc1=>?_) (fun hc1=>?_)
  ·
   refine G3 ?_;refine .shr_u64 J J J J 16 J dE (G9 ?_);exact⟨(Ar y 16,n+16),⟨by simp only[shr64_nat];have:=bLen_shr (n:=y.toNat) (k:=16) oM;omega,by simp only[shr64_nat];omega,by simp only[];omega⟩,Ad (wk1 rfl (wk1 (by rfl) wk0)) wh0 nD⟩
  refine G2 ?_;exact⟨(y,n),⟨by simp only[];omega,by simp only[];omega,by simp only[];omega⟩,Ad (wk1 rfl (wk1 (by rfl) wk0)) wh0 nD⟩
 intro p hj;obtain⟨y,n⟩:=p;obtain⟨hb,hy,hn⟩:=hj;simp only at hb hy hn ⊢;refine .join (ι:=UInt64×Nat) (fun p=>⟨[(0,u64 p.1),(2,i64 (p.2:Int))],[]⟩) (fun p=>C2 x.toNat=p.2+C2 p.1.toNat∧p.1.toNat<2^8∧p.2≤56) ?_ ?_
 ·
  refine G6 ?_;refine .condP J (fun hc2=>?_) (fun hc2=>?_)
  ·
   refine G3 ?_;refine .shr_u64 J J J J 8 J dE (G9 ?_);exact⟨(Ar y 8,n+8),⟨by simp only[shr64_nat];have:=bLen_shr (n:=y.toNat) (k:=8) oM;omega,by simp only[shr64_nat];omega,by simp only[];omega⟩,Ad (wk1 rfl (wk1 (by rfl) wk0)) wh0 nD⟩
  refine G2 ?_;exact⟨(y,n),⟨by simp only[];omega,by simp only[];omega,by simp only[];omega⟩,Ad (wk1 rfl (wk1 (by rfl) wk0)) wh0 nD⟩
 intro p hj;obtain⟨y,n⟩:=p;obtain⟨hb,hy,hn⟩:=hj;simp only at hb hy hn ⊢;refine G5 ?_;refine .idxStr (s:=len8S) J J J J underlying9 _ J (len8_get y.toUInt8) ?_;have h8:y.toUInt8.toNat=y.toNat:=by simp;omega
 have h9:=len8_nat y.toUInt8;have h10:C2 y.toUInt8.toNat≤8:=bLen_le.2 (by rw[h8];omega);refine G5 ?_;refine G2 ?_;refine⟨_,[],Ae J J,sP,sP,?_,rfl⟩;rw[h9,h8,hb,Lbr]
theorem oct_size(x:UInt64):Mv 172 [u64 x] (fun _=>True) (i64 ((szN x.toNat:Nat):Int)):=by
 intro W hW;have hb:C2 (x|||1).toNat≤64:=bLen_le.2 (x|||1).toNat_lt;have ho:(x|||1).toNat=x.toNat|||1:=by rw[Ldd];rfl
 refine Ac func172 J 9 ntmps172 J (G8 ?_);refine .or_u64 J J J (show Ag _ _=some (u64 1)from rfl) (.cV J J J J Body210 (bits_len64 _) tV (G1 ?_));refine .quo_i64 J J J J oM (.min2 J J J J (rfl) (G3 ?_));refine G2 ?_;refine⟨_,[],Ae J J,sP,sP,?_,rfl⟩;rw[szN,←ho];congr 1;split<;>omega
theorem oct_grown(p:Option Addr)(n c m:Nat)(l:List UInt8)(hl:l.length=n)(hp:p=none→n=0)(hn:n≤100000)(hm:m≤100000):Meets prog 171 [.slice p n c,i64 (m:Int)] [] (fun W=>SeesP W p (Aa l)) (fun v out=>FreshRow v out (Aa l) 5 n 1):=by
 intro W hW;refine Ac func171 J 12 ntmps171 J (G11 ?_);refine .mkRoom (z:=u8 0) (by':=1) (n+m) J J J J oM Y46.h Sz5 Zr5 (by unfold By;kernel_rfl) J oM oM ?_;intro n9;refine G1 ?_;refine .appendSl (z:=u8 0) (by':=1) (Aa l) J J J J J Y46.h Y46.h Sz5 Zr5 (by unfold By;kernel_rfl) J (fun w h=>A2 h J hW) hp (by simp[Aa,isCell,u8]) Az oM J oM oM oM (by simp[Aa,hl]) ?_;intro q1 c1 hq1;refine G3 ?_;refine G2 ?_;refine⟨_,[⟨q1,[]++Aa l,5,c1*1⟩],Ae J J,(by intro b hb;rw[La0.1 hb];exact Bp),Cn,⟨q1,c1,by rw[Las],by omega,rfl⟩⟩
theorem oct_number(q n c:Nat)(l:List UInt8)(x:UInt64)(hl:l.length=n)(hnc:n≤c)(hn:n≤200000):Meets prog 170 [.slice (some ⟨q,0,none⟩) n c,u64 x] [q] (fun W=>BlkOk W ⟨q,Aa (l),5,c*1⟩) (fun v out=>FreshRow v out (Aa (l++numB x)) 5 (n+szN x.toNat) 1):=by
 intro W hW;have hz:=B1 x.toNat;refine Br (hp0:=[⟨q,Aa (l),5,c*1⟩]) func170 J 37 ntmps170 J (HRep.one hW) (G8 ?_);refine .cV J J J J Body172 (oct_size _) tV (G4 ?_);refine .draw (oP [0,1,2,3,4,5,6,7,8,9,10,411,412,13]) Ao zK (G3 ?_);refine .shl_u8 J J (show Ag _ _=some (u8 255)from rfl) J (9-szN x.toNat) oM oM (G3 ?_);refine .mul_i64 J J J J oM (.shr_u64 J J J J (8*(szN x.toNat-1)) oM oM (G1 ?_));refine .or_u8 J J J J (.mkRow (z:=u8 0) [u8 (headB x)] (Aa [headB x]) J J J Y46.h Sz5 Zr5 J J (by intro v hv;rw[La0.1 hv];rfl) dE J ?_);intro q20;refine .appendSl (z:=u8 0) (by':=1) (Aa [headB x]) J J J J J Y46.h Y46.h Sz5 Zr5 (by unfold By;kernel_rfl) J (fun w h=>SeesP.of (Ap h Bp)) (fun e=>by cases e) (by simp[Aa,isCell,u8]) (rem_there Az) J (by simp[Aa,hl]) oM oM oM (by rfl) ?_;intro q1 c1 hq1;refine G12 ?_;refine .loop (ι:=Nat×Nat×Nat) (fun p=>⟨[(0, .slice (some ⟨p.2.1,0,none⟩) (n+1+p.1) p.2.2),(1,u64 x),(5,i64 ((szN x.toNat:Nat):Int)),(6,i64 (((szN x.toNat:Nat):Int)-2-(p.1:Int)))],[⟨p.2.1,Aa (l++numUp x p.1),5,p.2.2*1⟩]⟩) (fun p=>p.1≤szN x.toNat-1∧n+1+p.1≤p.2.2) (fun p=>szN x.toNat-1-p.1) ((0,q1,c1)) ?_ ?_ ?_
 ·exact⟨Laj _,hq1⟩
 ·exact Ad (wk1 rfl (wk1 rfl (wk1 rfl (wk1 (by rw[show(((szN x.toNat:Nat):Int)-2-((0:Nat):Int))=((szN x.toNat:Nat):Int)-2 by omega];rfl) wk0)))) (wh1 (by rw[numUp_zero];simp only[Aa,Lad];exact Bp) wh0) nD
 rintro p ⟨hp1,hp2⟩;refine G7 ?_;refine .condP J (fun hc0=>?_) (fun hc0=>?_)
 ·
  have hp3:p.1<szN x.toNat-1:=by omega
  refine G8 ?_;refine .mul_i64 J J J J oM (.shr_u64 J J J J (8*(szN x.toNat-2-p.1)) oM oM (G1 ?_));refine .mkRow (z:=u8 0) [u8 ((Ar x (8*(szN x.toNat-2-p.1))).toUInt8)] (Aa [(Ar x (8*(szN x.toNat-2-p.1))).toUInt8]) J J J Y46.h Sz5 Zr5 J J (by intro v hv;rw[La0.1 hv];rfl) dE J ?_;intro q34;refine .appendSl (z:=u8 0) (by':=1) (Aa [(Ar x (8*(szN x.toNat-2-p.1))).toUInt8]) J J J J J Y46.h Y46.h Sz5 Zr5 (by unfold By;kernel_rfl) J (fun w h=>SeesP.of (Ap h Bp)) (fun e=>by cases e) (by simp[Aa,isCell,u8]) (rem_there Az) J (by rw[Aa,La1,La4,hl,numUp_length x p.1 oM];omega) oM oM oM (by rfl) ?_;intro q2 c2 hq2;refine G10 ?_;exact⟨(p.1+1,q2,c2),⟨by simp only[];omega,by simp only[];omega⟩,by simp only[];omega,Ad (wk1 (by rw[show n+1+(p.1+1)=n+1+p.1+1 by omega];rfl) (wk1 rfl (wk1 rfl (wk1 (by rw[show(((szN x.toNat:Nat):Int)-2-((p.1+1:Nat):Int))=((szN x.toNat:Nat):Int)-2-(p.1:Int)-1 by omega];rfl) wk0)))) (wh1 (by rw[numUp_step x p.1 oM,←La8];simp only[Aa,Lad];exact Bp) wh0) nD⟩
 have hp3:p.1=szN x.toNat-1:=by omega
 refine G11 ?_;refine G2 ?_;refine⟨_,[⟨p.2.1,Aa (l++numB x),5,p.2.2*1⟩],Ae J J,(by intro b hb;rw[La0.1 hb,←numUp_all,←hp3];exact Bp),Cn,⟨p.2.1,p.2.2,by rw[show n+1+p.1=n+szN x.toNat by omega],by omega,rfl⟩⟩
theorem oct_Number(p:Option Addr)(n c:Nat)(l:List UInt8)(x:UInt64)(hl:l.length=n)(hp:p=none→n=0)(hn:n≤90000):Meets prog 123 [.slice p n c,u64 x] [] (fun W=>SeesP W p (Aa l)) (fun v out=>FreshRow v out (Aa (l++numB x)) 5 (n+szN x.toNat) 1):=by
 intro W hW;have hz:=B1 x.toNat;refine Ac func123 J 11 ntmps123 J (G9 ?_);refine .cV J J J J Body172 (oct_size _) tV (.call J J J J Body171 (oct_grown p n c (szN x.toNat) l hl hp oM oM) (FreshRow.loose _ _ _ _) (fun w h=>A2 h J hW) ?_);rintro v1 out1 ⟨q1,c1,rfl,hc1,rfl⟩;refine G1 ?_;refine .callL (L:=[⟨q1,Aa (l),5,c1*1⟩]) J J J J J Body170 (oct_number q1 (n) c1 (l) x (by simp[hl]) hc1 oM) Az lO (fun w h=>Bg h Z0) ?_;rintro v2 out2 ⟨q2,c2,rfl,hc2,rfl⟩;refine G3 ?_;refine G2 ?_;refine⟨_,[⟨q2,Aa (l++numB x),5,c2*1⟩],Ae J J,(by intro b hb;rw[La0.1 hb];exact Bp),Cn,⟨q2,c2,rfl,hc2,rfl⟩⟩
theorem oct_Block(p r:Option Addr)(n c m d:Nat)(l ys:List UInt8)(hl:l.length=n)(hy:ys.length=m)(hp:p=none→n=0)(hr:r=none→m=0)(hn:n≤40000)(hm:m≤40000):Meets prog 249 [.slice p n c, .slice r m d] [] (fun W=>SeesP W p (Aa l)∧SeesP W r (Aa ys)) (fun v out=>FreshRow v out (Aa (l++numB (UInt64.ofNat m)++ys)) 5 (n+szN m+m) 1):=by
 intro W hW;have hz:=B1 m;have hw:B5 (m:Int)=UInt64.ofNat m:=by simp only[B5];congr 1;omega
 have hmn:(UInt64.ofNat m).toNat=m:=by rw[Laz,Lab oM]
 refine Ac func249 J 20 ntmps249 J (G10 ?_);rw[hw];refine G7 ?_;refine .cV J J J J Body172 (oct_size _) tV ?_;rw[hmn];refine G3 ?_;refine .call J J J J Body171 (oct_grown p n c (szN m+m) l hl hp oM oM) (FreshRow.loose _ _ _ _) (fun w h=>A2 h J hW.1) ?_;rintro v1 out1 ⟨q1,c1,rfl,hc1,rfl⟩;refine G1 ?_;refine .callL (L:=[⟨q1,Aa (l),5,c1*1⟩]) J J J J J Body170 (oct_number q1 n c1 l (UInt64.ofNat m) hl hc1 oM) Az lO (fun w h=>Bg h Z0) ?_;rintro v2 out2 ⟨q2,c2,rfl,hc2,rfl⟩;rw[hmn]at hc2 ⊢;refine G1 ?_;refine .appendSl (z:=u8 0) (by':=1) (Aa ys) J J J J J Y46.h Y46.h Sz5 Zr5 (by unfold By;kernel_rfl) J (fun w h=>A2 h J hW.2) hr (by simp[Aa,isCell,u8]) Az J (by rw[Aa,La1,La4,Bj,hl,hmn,Lb4]) oM oM oM (by simp[Aa,hy]) ?_;intro q3 c3 hq3;refine G3 ?_;refine G2 ?_;refine⟨_,[⟨q3,Aa (l++numB (UInt64.ofNat m)++ys),5,c3*1⟩],Ae J J,(by intro b hb;rw[La0.1 hb];simp only[Aa,Lad];exact Bp),Cn,⟨q3,c3,rfl,hq3,rfl⟩⟩
theorem res_none{fn:Func}{s:St}(hr:fn.results= #[]):Res C fn s (.tuple #[]):=fun a w r=>by
  simp[results,hr]
def rdr(n q N cp at':Nat)(e:Int):Reader:=⟨.pointer (some ⟨n,0,none⟩),⟨some ⟨q,0,none⟩,N,cp⟩,(at':Int),e⟩
theorem rdr_ok(n q N cp at':Nat)(e:Int):(rdr n q N cp at' e).ok:=⟨rfl⟩
def RB(n q N cp at':Nat)(e:Int):Blk:=⟨n,(rdr n q N cp at' e).cells,193,4⟩
theorem rdr_at(n q N cp a k:Nat)(e:Int):rdr n q N cp (a+k) e=⟨.pointer (some ⟨n,0,none⟩),⟨some ⟨q,0,none⟩,N,cp⟩,(a:Int)+(k:Int),e⟩:=by simp[rdr]
theorem rb_self{n q N cp at':Nat}(h:BlkOk w (RB n q N cp at' e)):w.cell? ⟨n,0,none⟩=some (ptr n 0):=BlkOk.cell0 h rfl
theorem rd_made(n:Nat):Mv 215 [ptr n 0] (fun W=>W.cell? ⟨n,0,none⟩=some (ptr n 0)) (.bool true):=by
 intro W hW;refine Ac func215 J 13 ntmps215 J (G8 ?_);refine .neqNilP J J J J underlying154 (G4 ?_);refine .loadE J J J underlying154 J sP (hW) (G1 ?_);refine .eqSameP J J J J underlying154 Sz193 (G4 ?_);refine G2 ?_;refine⟨_,[],Ae J J,sP,sP,?_,rfl⟩;rfl
theorem rd_take_err(n q N cp at':Nat)(e:Int)(k:UInt64)(hat:at'≤N)(hN:N≤cp)(hbig:N≤1000000)(he:¬e=0):Meets prog 176 [ptr n 0,u64 k] [n] (fun W=>BlkOk W (RB n q N cp (at') (e))) (fun v out=>v= .tuple #[.slice none 0 0, .bool false]∧out=[RB n q N cp (at') (e)]):=by
 intro W hW;have hfB:(rdr n q N cp at' (e)).fB.n=N:=rfl;have hfA:(rdr n q N cp at' (e)).fAt=(at':Int):=rfl;have hfE:(rdr n q N cp at' (e)).fErr=(e):=rfl;have hwd:(B5 (((rdr n q N cp at' (e)).fB.n:Int)-(rdr n q N cp at' (e)).fAt)).toNat=N-at':=by
  rw[hfB,hfA,show((N:Int)-(at':Int))=((N-at':Nat):Int) by omega];simp only[B5,Laz];omega
 refine Br (hp0:=[RB n q N cp (at') (e)]) func176 J 56 ntmps176 J (HRep.one hW) (G10 ?_);refine .cV J J J J Body215 (rd_made n) (fun w h=>rb_self (Bg h Z0)) ?_;refine G6 ?_;refine .nei J J J J (show(!decide _)=true from congrArg not (decide_eq_false (he))) (G3 ?_);refine .cond_t J (rfl) (G6 ?_);refine G3 ?_;refine⟨_,[RB n q N cp (at') (e)],Cj J J J,(by intro b hb;rw[La0.1 hb];exact Bp),Cn,?_⟩;exact⟨rfl,rfl⟩
theorem rd_take_more(n q N cp at':Nat)(k:UInt64)(hat:at'≤N)(hN:N≤cp)(hbig:N≤1000000)(hk:N<at'+k.toNat):Meets prog 176 [ptr n 0,u64 k] [n] (fun W=>BlkOk W (RB n q N cp (at') (0))) (fun v out=>v= .tuple #[.slice none 0 0, .bool false]∧out=[RB n q N cp (at') (5)]):=by
 intro W hW;have hfB:(rdr n q N cp at' (0)).fB.n=N:=rfl;have hfA:(rdr n q N cp at' (0)).fAt=(at':Int):=rfl;have hfE:(rdr n q N cp at' (0)).fErr=(0):=rfl;have hwd:(B5 (((rdr n q N cp at' (0)).fB.n:Int)-(rdr n q N cp at' (0)).fAt)).toNat=N-at':=by
  rw[hfB,hfA,show((N:Int)-(at':Int))=((N-at':Nat):Int) by omega];simp only[B5,Laz];omega
 refine Br (hp0:=[RB n q N cp (at') (0)]) func176 J 56 ntmps176 J (HRep.one hW) (G10 ?_);refine .cV J J J J Body215 (rd_made n) (fun w h=>rb_self (Bg h Z0)) ?_;refine G6 ?_;refine .nei J J J J (show(!decide _)=false from congrArg not (decide_eq_true (rfl))) (G3 ?_);refine .cond_f J (rfl) (G4 ?_);refine .draw (oP [0,1,2,3,104,5,6,7,8,109,10,11,12]) Ao zK (G12 ?_);refine .gtr J J J J (decide_eq_true (by rw[hwd];omega)) ?_;refine G2 ?_;refine .cond_t J (rfl) (G14 ?_);refine G3 ?_;refine⟨_,[RB n q N cp (at') (5)],Cj J J J,(by intro b hb;rw[La0.1 hb];exact Bp),Cn,?_⟩;exact⟨rfl,rfl⟩
theorem rd_take_ok(n q N cp at':Nat)(k:UInt64)(hat:at'≤N)(hN:N≤cp)(hbig:N≤1000000)(hk:at'+k.toNat≤N):Meets prog 176 [ptr n 0,u64 k] [n] (fun W=>BlkOk W (RB n q N cp (at') (0))) (fun v out=>v= .tuple #[.slice (some ⟨q,if cp=at' then 0 else 0+at'*1,none⟩) k.toNat (cp-at'), .bool true]∧out=[RB n q N cp (at'+k.toNat) (0)]):=by
 intro W hW;have hfB:(rdr n q N cp at' (0)).fB.n=N:=rfl;have hfA:(rdr n q N cp at' (0)).fAt=(at':Int):=rfl;have hfE:(rdr n q N cp at' (0)).fErr=(0):=rfl;have hwd:(B5 (((rdr n q N cp at' (0)).fB.n:Int)-(rdr n q N cp at' (0)).fAt)).toNat=N-at':=by
  rw[hfB,hfA,show((N:Int)-(at':Int))=((N-at':Nat):Int) by omega];simp only[B5,Laz];omega
 refine Br (hp0:=[RB n q N cp (at') (0)]) func176 J 56 ntmps176 J (HRep.one hW) (G10 ?_);refine .cV J J J J Body215 (rd_made n) (fun w h=>rb_self (Bg h Z0)) ?_;refine G6 ?_;refine .nei J J J J (show(!decide _)=false from congrArg not (decide_eq_true (rfl))) (G3 ?_);refine .cond_f J (rfl) (G4 ?_);refine .draw (oP [0,1,2,3,104,5,6,7,8,109,10,11,12]) Ao zK (G12 ?_);refine .gtr J J J J (decide_eq_false (by rw[hwd];omega)) ?_;refine G2 ?_;refine .cond_f J (rfl) (G11 ?_);refine .join (ι:=Unit) (fun _u=>⟨[(0,ptr n 0),(1,u64 k),(6,i64 (at':Int))],[⟨n,(rdr n q N cp (at'+k.toNat) 0).cells,193,4⟩]⟩) (fun _u=>True) ?_ ?_
 ·
  refine G6 ?_;refine .conv J J J Y45.h Y3.h (cv_u64_i64 oM) (G6 ?_)
  refine⟨(),trivial,Ad wN (wh1 (by rw[rdr_at];exact Bp) wh0) nD⟩
 intro _u hj;have hfA2:(rdr n q N cp (at'+k.toNat) 0).fAt=((at'+k.toNat:Nat):Int):=rfl;have hfC2:(rdr n q N cp (at'+k.toNat) 0).fB.c=cp:=rfl;refine .seq (.draw (oP [0,1,2,103,4,5,6,7,108,9,10,11]) Ao zK (G9 ?_));refine .sliceLoHiN at' (at'+k.toNat) J J J J J J oM oM oM Y46.h Sz5 (G4 ?_);refine G2 ?_;refine⟨_,[RB n q N cp (at'+k.toNat) (0)],Cj J J J,(by intro b hb;rw[La0.1 hb];exact Bp),Cn,?_⟩;exact⟨congrArg (fun z=>Value.tuple #[.slice (some ⟨q,if cp=at' then 0 else 0+at'*1,none⟩) z (cp-at'), .bool true]) (Lfq ..),rfl⟩
theorem rd_fail(n q N cp at':Nat)(e:Int)(a:Nat)(e2:Int):Meets prog 178 [ptr n 0,i64 (a:Int),i64 e2] [n] (fun W=>BlkOk W (RB n q N cp at' e)) (fun v out=>v= .tuple #[]∧out=[RB n q N cp (a) (e2)]):=by
 intro W hW;refine Br (hp0:=[RB n q N cp at' e]) func178 J 14 ntmps178 J (HRep.one hW) (G17 ?_);refine⟨_,[RB n q N cp (a) (e2)],res_none J,(by intro b hb;rw[La0.1 hb];exact Bp),Cn,?_⟩;exact⟨rfl,rfl⟩
theorem rd_take_first(n q N cp at':Nat)(hat:at'<N)(hN:N≤cp)(hbig:N≤1000000):Meets prog 176 [ptr n 0,u64 1] [n] (fun W=>BlkOk W (RB n q N cp at' 0)) (fun v out=>v= .tuple #[.slice (some ⟨q,at',none⟩) 1 (cp-at'), .bool true]∧out=[RB n q N cp (at'+1) 0]):=by
  have:=rd_take_ok n q N cp at' 1 oM hN hbig (by show at'+1≤N;omega);rw[if_neg oM,Las,Lb4]at this;exact this
theorem rd_num_err(n q N cp at':Nat)(e:Int)(xs:List UInt8)(hx:xs.length=N)(hat:at'≤N)(hN:N≤cp)(hbig:N≤1000000)(he:¬e=0):Meets prog 131 [ptr n 0] [n] (fun W=>BlkOk W (RB n q N cp (at') (e))∧Cd W q 0 (Aa xs)∧q≠n) (fun v out=>v=u64 0∧out=[RB n q N cp (at') (e)]):=by
 intro W hW;have hb8:=b8_le (xs.getD at' 0);have hcw:=cnt_word (xs.getD at' 0);have hcn:(Bk (xs.getD at' 0))=9-C2 (255^^^(xs.getD at' 0)).toNat:=rfl;refine Br (hp0:=[RB n q N cp (at') (e)]) func131 J 73 ntmps131 J (HRep.one hW.1) (G2 ?_);refine .a J J (show Ag _ _=some (u64 0)from rfl) (G5 ?_);refine .callL (L:=[RB n q N cp (at') (e)]) J J J J J Body176 (rd_take_err n q N cp at' e 1 hat hN hbig he) Az lO (fun w h=>Bg h Z0) ?_;rintro v2 out2 ⟨rfl,rfl⟩;refine G14 ?_;refine .cond_t J (rfl) (G2 ?_);refine .a J J (show Ag _ _=some (u64 0)from rfl) (G2 ?_);refine G3 ?_;refine⟨_,[RB n q N cp (at') (e)],Ae J J,(by intro b hb;rw[La0.1 hb];exact Bp),Cn,?_⟩;exact⟨rfl,rfl⟩
theorem rd_num_end(n q N cp at':Nat)(xs:List UInt8)(hx:xs.length=N)(hat:at'≤N)(hN:N≤cp)(hbig:N≤1000000)(hk:N≤at'):Meets prog 131 [ptr n 0] [n] (fun W=>BlkOk W (RB n q N cp (at') (0))∧Cd W q 0 (Aa xs)∧q≠n) (fun v out=>v=u64 0∧out=[RB n q N cp (at') (5)]):=by
 intro W hW;have hb8:=b8_le (xs.getD at' 0);have hcw:=cnt_word (xs.getD at' 0);have hcn:(Bk (xs.getD at' 0))=9-C2 (255^^^(xs.getD at' 0)).toNat:=rfl;refine Br (hp0:=[RB n q N cp (at') (0)]) func131 J 73 ntmps131 J (HRep.one hW.1) (G2 ?_);refine .a J J (show Ag _ _=some (u64 0)from rfl) (G5 ?_);refine .callL (L:=[RB n q N cp (at') (0)]) J J J J J Body176 (rd_take_more n q N cp at' 1 hat hN hbig (by show N<at'+1;omega)) Az lO (fun w h=>Bg h Z0) ?_;rintro v2 out2 ⟨rfl,rfl⟩;refine G14 ?_;refine .cond_t J (rfl) (G2 ?_);refine .a J J (show Ag _ _=some (u64 0)from rfl) (G2 ?_);refine G3 ?_;refine⟨_,[RB n q N cp (at') (5)],Ae J J,(by intro b hb;rw[La0.1 hb];exact Bp),Cn,?_⟩;exact⟨rfl,rfl⟩
theorem rd_num_short(n q N cp at':Nat)(xs:List UInt8)(hx:xs.length=N)(hat:at'≤N)(hN:N≤cp)(hbig:N≤1000000)(hk:at'<N)(hk2:N<at'+(Bk (xs.getD at' 0))):Meets prog 131 [ptr n 0] [n] (fun W=>BlkOk W (RB n q N cp (at') (0))∧Cd W q 0 (Aa xs)∧q≠n) (fun v out=>v=u64 0∧out=[RB n q N cp (at') (5)]):=by
 intro W hW;have hb8:=b8_le (xs.getD at' 0);have hcw:=cnt_word (xs.getD at' 0);have hcn:(Bk (xs.getD at' 0))=9-C2 (255^^^(xs.getD at' 0)).toNat:=rfl;refine Br (hp0:=[RB n q N cp (at') (0)]) func131 J 73 ntmps131 J (HRep.one hW.1) (G2 ?_);refine .a J J (show Ag _ _=some (u64 0)from rfl) (G5 ?_);refine .callL (L:=[RB n q N cp (at') (0)]) J J J J J Body176 (rd_take_first n q N cp at' oM hN hbig) Az lO (fun w h=>Bg h Z0) ?_;rintro v2 out2 ⟨rfl,rfl⟩;refine G14 ?_;refine .cond_f J (rfl) (G2 ?_);refine .join (ι:=Unit) (fun _u=>⟨[(0,ptr n 0),(3, .slice (some ⟨q,at',none⟩) 1 (cp-at')),(5,i64 (at':Int))],[⟨n,(rdr n q N cp (at'+1) (0)).cells,193,4⟩]⟩) (fun _u=>True) ?_ ?_
 ·
  refine G5 ?_;have hfA4:(rdr n q N cp (at'+1) 0).fAt=((at'+1:Nat):Int):=rfl;refine G4 ?_;refine⟨(),trivial,Ad (wk1 J (wk1 J (wk1 (congrArg (fun z=>some (i64 z)) (show(rdr n q N cp (at'+1) 0).fAt-1=(at':Int) by simp[rdr])) wk0))) (wh1 Z0 wh0) nD⟩
 intro _u hj;skip;refine G3 ?_;refine .idxSlO J J J J Y46.h Sz5 0 J oM (.loadE J J J Y5.h J (by(simp;exact hW.2.2)) ((by have:=hW.2.1 at' _ (B0 oM);rwa[Las]at this)) ?_);refine .not_u8 J J J (.cV J J J J Body177 (bits_lz8 _) tV (G10 ?_));refine .callL (L:=[RB n q N cp (at'+1) (0)]) J J J J J Body176 (rd_take_more n q N cp (at'+1) (B5 (8-((C2 (255^^^(xs.getD at' 0)).toNat:Nat):Int)+1-1)) oM hN hbig (by rw[hcw];omega)) Az lO (fun w h=>Bg h Z0) ?_;rintro v2 out2 ⟨rfl,rfl⟩;refine G14 ?_;refine .cond_t J (rfl) (G8 ?_);refine .callL (L:=[RB n q N cp (at'+1) (5)]) J J J J J Body178 (rd_fail n q N cp (at'+1) 5 at' 5) Az lO (fun w h=>Bg h Z0) ?_;rintro v2 out2 ⟨rfl,rfl⟩;refine G4 ?_;refine .a J J (show Ag _ _=some (u64 0)from rfl) (G2 ?_);refine G3 ?_;refine⟨_,[RB n q N cp (at') (5)],Ae J J,(by intro b hb;rw[La0.1 hb];exact Bp),Cn,?_⟩;exact⟨rfl,rfl⟩
theorem rd_num_bad(n q N cp at':Nat)(xs:List UInt8)(hx:xs.length=N)(hat:at'≤N)(hN:N≤cp)(hbig:N≤1000000)(hk2:at'+(Bk (xs.getD at' 0))≤N)(hz:¬szN (numV xs at').toNat=(Bk (xs.getD at' 0))):Meets prog 131 [ptr n 0] [n] (fun W=>BlkOk W (RB n q N cp (at') (0))∧Cd W q 0 (Aa xs)∧q≠n) (fun v out=>v=u64 0∧out=[RB n q N cp (at') (4)]):=by
 intro W hW;have hb8:=b8_le (xs.getD at' 0);have hcw:=cnt_word (xs.getD at' 0);have hcn:(Bk (xs.getD at' 0))=9-C2 (255^^^(xs.getD at' 0)).toNat:=rfl;refine Br (hp0:=[RB n q N cp (at') (0)]) func131 J 73 ntmps131 J (HRep.one hW.1) (G2 ?_);refine .a J J (show Ag _ _=some (u64 0)from rfl) (G5 ?_);refine .callL (L:=[RB n q N cp (at') (0)]) J J J J J Body176 (rd_take_first n q N cp at' oM hN hbig) Az lO (fun w h=>Bg h Z0) ?_;rintro v2 out2 ⟨rfl,rfl⟩;refine G14 ?_;refine .cond_f J (rfl) (G2 ?_);refine .join (ι:=Unit) (fun _u=>⟨[(0,ptr n 0),(3, .slice (some ⟨q,at',none⟩) 1 (cp-at')),(5,i64 (at':Int))],[⟨n,(rdr n q N cp (at'+1) (0)).cells,193,4⟩]⟩) (fun _u=>True) ?_ ?_
 ·
  refine G5 ?_;have hfA4:(rdr n q N cp (at'+1) 0).fAt=((at'+1:Nat):Int):=rfl;refine G4 ?_;refine⟨(),trivial,Ad (wk1 J (wk1 J (wk1 (congrArg (fun z=>some (i64 z)) (show(rdr n q N cp (at'+1) 0).fAt-1=(at':Int) by simp[rdr])) wk0))) (wh1 Z0 wh0) nD⟩
 intro _u hj;skip;refine G3 ?_;refine .idxSlO J J J J Y46.h Sz5 0 J oM (.loadE J J J Y5.h J (by(simp;exact hW.2.2)) ((by have:=hW.2.1 at' _ (B0 oM);rwa[Las]at this)) ?_);refine .not_u8 J J J (.cV J J J J Body177 (bits_lz8 _) tV (G10 ?_));refine .callL (L:=[RB n q N cp (at'+1) (0)]) J J J J J Body176 (rd_take_ok n q N cp (at'+1) (B5 (8-((C2 (255^^^(xs.getD at' 0)).toNat:Nat):Int)+1-1)) oM hN hbig (by rw[hcw];omega)) Az lO (fun w h=>Bg h Z0) ?_;rintro v2 out2 ⟨rfl,rfl⟩;refine G14 ?_;refine .cond_f J (rfl) (G2 ?_);refine .join (ι:=Unit) (fun _u=>⟨[(0,ptr n 0),(5,i64 (at':Int)),(6,i64 (8-((C2 (255^^^(xs.getD at' 0)).toNat:Nat):Int)+1)),(7, .slice (some ⟨q,if cp=at'+1 then 0 else 0+(at'+1)*1,none⟩) (B5 (8-((C2 (255^^^(xs.getD at' 0)).toNat:Nat):Int)+1-1)).toNat (cp-(at'+1))),(8,u64 (foldB (headV (xs.getD at' 0)) ((xs.drop (at'+1)).take 0)))],[⟨n,(rdr n q N cp (at'+1+(B5 (8-((C2 (255^^^(xs.getD at' 0)).toNat:Nat):Int)+1-1)).toNat) (0)).cells,193,4⟩]⟩) (fun _u=>True) ?_ ?_
 ·
  refine .draw (oP [0,1,102,3,4,5,6,7]) Ao zK (G1 ?_);refine .idxSlO J J J J Y46.h Sz5 0 J oM (.loadE J J J Y5.h J (by(simp;exact hW.2.2)) ((by have:=hW.2.1 at' _ (B0 oM);rwa[Las]at this)) ?_);refine G1 ?_;refine .shr_u8w J J (show Ag _ _=some (u8 255)from rfl) J (Bk (xs.getD at' 0)) oM (.and_u8 J J J J (G4 ?_));refine⟨(),trivial,Ad wN (wh1 Z0 wh0) nD⟩
 intro _u hj;skip;refine G9 ?_;refine .loop (ι:=Nat) (fun j=>⟨[(0,ptr n 0),(5,i64 (at':Int)),(6,i64 (8-((C2 (255^^^(xs.getD at' 0)).toNat:Nat):Int)+1)),(53, .slice (some ⟨q,if cp=at'+1 then 0 else 0+(at'+1)*1,none⟩) (B5 (8-((C2 (255^^^(xs.getD at' 0)).toNat:Nat):Int)+1-1)).toNat (cp-(at'+1))),(54,i64 ((B5 (8-((C2 (255^^^(xs.getD at' 0)).toNat:Nat):Int)+1-1)).toNat:Int)),(55,i64 (j:Int)),(8,u64 (foldB (headV (xs.getD at' 0)) ((xs.drop (at'+1)).take j)))],[⟨n,(rdr n q N cp (at'+1+(B5 (8-((C2 (255^^^(xs.getD at' 0)).toNat:Nat):Int)+1-1)).toNat) (0)).cells,193,4⟩]⟩) (fun j=>j≤(B5 (8-((C2 (255^^^(xs.getD at' 0)).toNat:Nat):Int)+1-1)).toNat) (fun j=>(B5 (8-((C2 (255^^^(xs.getD at' 0)).toNat:Nat):Int)+1-1)).toNat-j) (0) ?_ ?_ ?_
 ·exact Laj _
 ·exact Ad wN (wh1 Z0 wh0) nD
 rintro j hj;refine G6 ?_;refine .condP J (fun hc2=>?_) (fun hc2=>?_)
 ·
  have hj2:j<(B5 (8-((C2 (255^^^(xs.getD at' 0)).toNat:Nat):Int)+1-1)).toNat:=by omega
  refine G6 ?_;refine .idxSlO J J J J Y46.h Sz5 _ J oM (.loadE J J J Y5.h J (by(simp;exact hW.2.2)) ((by have h9:=hW.2.1 (at'+1+j) _ (B0 oM);rw[if_neg oM];rw[Las]at h9;rw[show 0+(at'+1)*1+j=at'+1+j by omega];exact h9)) ?_);refine G5 ?_;refine .shl_u64 J J J J 8 J dE (G12 ?_);exact⟨j+1,by omega,by omega,Ad (wk1 rfl (wk1 rfl (wk1 rfl (wk1 rfl (wk1 rfl (wk1 rfl (wk1 (by rw[foldB_step xs (at'+1) j _ oM];rfl) wk0))))))) (wh1 Z0 wh0) nD⟩
 have hj2:j=(Bk (xs.getD at' 0))-1:=by omega
 refine G8 ?_;have hnv:numV xs at'=foldB (headV (xs.getD at' 0)) ((xs.drop (at'+1)).take j):=by rw[numV,hj2]
 refine G1 ?_;refine .cV J J J J Body172 (oct_size _) tV (G1 ?_);refine .nei J J J J (show(!decide _)=true from congrArg not (decide_eq_false (by rw[←hnv];omega))) ?_;refine G2 ?_;refine .cond_t J (rfl) (G4 ?_);refine .callL (L:=[RB n q N cp (at'+1+(B5 (8-((C2 (255^^^(xs.getD at' 0)).toNat:Nat):Int)+1-1)).toNat) (0)]) J J J J J Body178 (rd_fail n q N cp (at'+1+(B5 (8-((C2 (255^^^(xs.getD at' 0)).toNat:Nat):Int)+1-1)).toNat) 0 at' 4) Az lO (fun w h=>Bg h Z0) ?_;rintro v2 out2 ⟨rfl,rfl⟩;refine G4 ?_;refine .a J J (show Ag _ _=some (u64 0)from rfl) (G2 ?_);refine G3 ?_;refine⟨_,[RB n q N cp (at') (4)],Ae J J,(by intro b hb;rw[La0.1 hb];exact Bp),Cn,?_⟩;exact⟨rfl,rfl⟩
theorem rd_num_ok(n q N cp at':Nat)(xs:List UInt8)(hx:xs.length=N)(hat:at'≤N)(hN:N≤cp)(hbig:N≤1000000)(hk2:at'+(Bk (xs.getD at' 0))≤N)(hz:szN (numV xs at').toNat=(Bk (xs.getD at' 0))):Meets prog 131 [ptr n 0] [n] (fun W=>BlkOk W (RB n q N cp (at') (0))∧Cd W q 0 (Aa xs)∧q≠n) (fun v out=>v=u64 (numV xs at')∧out=[RB n q N cp (at'+(Bk (xs.getD at' 0))) (0)]):=by
 intro W hW;have hb8:=b8_le (xs.getD at' 0);have hcw:=cnt_word (xs.getD at' 0);have hcn:(Bk (xs.getD at' 0))=9-C2 (255^^^(xs.getD at' 0)).toNat:=rfl;refine Br (hp0:=[RB n q N cp (at') (0)]) func131 J 73 ntmps131 J (HRep.one hW.1) (G2 ?_);refine .a J J (show Ag _ _=some (u64 0)from rfl) (G5 ?_);refine .callL (L:=[RB n q N cp (at') (0)]) J J J J J Body176 (rd_take_first n q N cp at' oM hN hbig) Az lO (fun w h=>Bg h Z0) ?_;rintro v2 out2 ⟨rfl,rfl⟩;refine G14 ?_;refine .cond_f J (rfl) (G2 ?_);refine .join (ι:=Unit) (fun _u=>⟨[(0,ptr n 0),(3, .slice (some ⟨q,at',none⟩) 1 (cp-at')),(5,i64 (at':Int))],[⟨n,(rdr n q N cp (at'+1) (0)).cells,193,4⟩]⟩) (fun _u=>True) ?_ ?_
 ·
  refine G5 ?_;have hfA4:(rdr n q N cp (at'+1) 0).fAt=((at'+1:Nat):Int):=rfl;refine G4 ?_;refine⟨(),trivial,Ad (wk1 J (wk1 J (wk1 (congrArg (fun z=>some (i64 z)) (show(rdr n q N cp (at'+1) 0).fAt-1=(at':Int) by simp[rdr])) wk0))) (wh1 Z0 wh0) nD⟩
 intro _u hj;skip;refine G3 ?_;refine .idxSlO J J J J Y46.h Sz5 0 J oM (.loadE J J J Y5.h J (by(simp;exact hW.2.2)) ((by have:=hW.2.1 at' _ (B0 oM);rwa[Las]at this)) ?_);refine .not_u8 J J J (.cV J J J J Body177 (bits_lz8 _) tV (G10 ?_));refine .callL (L:=[RB n q N cp (at'+1) (0)]) J J J J J Body176 (rd_take_ok n q N cp (at'+1) (B5 (8-((C2 (255^^^(xs.getD at' 0)).toNat:Nat):Int)+1-1)) oM hN hbig (by rw[hcw];omega)) Az lO (fun w h=>Bg h Z0) ?_;rintro v2 out2 ⟨rfl,rfl⟩;refine G14 ?_;refine .cond_f J (rfl) (G2 ?_);refine .join (ι:=Unit) (fun _u=>⟨[(0,ptr n 0),(5,i64 (at':Int)),(6,i64 (8-((C2 (255^^^(xs.getD at' 0)).toNat:Nat):Int)+1)),(7, .slice (some ⟨q,if cp=at'+1 then 0 else 0+(at'+1)*1,none⟩) (B5 (8-((C2 (255^^^(xs.getD at' 0)).toNat:Nat):Int)+1-1)).toNat (cp-(at'+1))),(8,u64 (foldB (headV (xs.getD at' 0)) ((xs.drop (at'+1)).take 0)))],[⟨n,(rdr n q N cp (at'+1+(B5 (8-((C2 (255^^^(xs.getD at' 0)).toNat:Nat):Int)+1-1)).toNat) (0)).cells,193,4⟩]⟩) (fun _u=>True) ?_ ?_
 ·
  refine .draw (oP [0,1,102,3,4,5,6,7]) Ao zK (G1 ?_);refine .idxSlO J J J J Y46.h Sz5 0 J oM (.loadE J J J Y5.h J (by(simp;exact hW.2.2)) ((by have:=hW.2.1 at' _ (B0 oM);rwa[Las]at this)) ?_);refine G1 ?_;refine .shr_u8w J J (show Ag _ _=some (u8 255)from rfl) J (Bk (xs.getD at' 0)) oM (.and_u8 J J J J (G4 ?_));refine⟨(),trivial,Ad wN (wh1 Z0 wh0) nD⟩
 intro _u hj;skip;refine G9 ?_;refine .loop (ι:=Nat) (fun j=>⟨[(0,ptr n 0),(5,i64 (at':Int)),(6,i64 (8-((C2 (255^^^(xs.getD at' 0)).toNat:Nat):Int)+1)),(53, .slice (some ⟨q,if cp=at'+1 then 0 else 0+(at'+1)*1,none⟩) (B5 (8-((C2 (255^^^(xs.getD at' 0)).toNat:Nat):Int)+1-1)).toNat (cp-(at'+1))),(54,i64 ((B5 (8-((C2 (255^^^(xs.getD at' 0)).toNat:Nat):Int)+1-1)).toNat:Int)),(55,i64 (j:Int)),(8,u64 (foldB (headV (xs.getD at' 0)) ((xs.drop (at'+1)).take j)))],[⟨n,(rdr n q N cp (at'+1+(B5 (8-((C2 (255^^^(xs.getD at' 0)).toNat:Nat):Int)+1-1)).toNat) (0)).cells,193,4⟩]⟩) (fun j=>j≤(B5 (8-((C2 (255^^^(xs.getD at' 0)).toNat:Nat):Int)+1-1)).toNat) (fun j=>(B5 (8-((C2 (255^^^(xs.getD at' 0)).toNat:Nat):Int)+1-1)).toNat-j) (0) ?_ ?_ ?_
 ·exact Laj _
 ·exact Ad wN (wh1 Z0 wh0) nD
 rintro j hj;refine G6 ?_;refine .condP J (fun hc2=>?_) (fun hc2=>?_)
 ·
  have hj2:j<(B5 (8-((C2 (255^^^(xs.getD at' 0)).toNat:Nat):Int)+1-1)).toNat:=by omega
  refine G6 ?_;refine .idxSlO J J J J Y46.h Sz5 _ J oM (.loadE J J J Y5.h J (by(simp;exact hW.2.2)) ((by have h9:=hW.2.1 (at'+1+j) _ (B0 oM);rw[if_neg oM];rw[Las]at h9;rw[show 0+(at'+1)*1+j=at'+1+j by omega];exact h9)) ?_);refine G5 ?_;refine .shl_u64 J J J J 8 J dE (G12 ?_);exact⟨j+1,by omega,by omega,Ad (wk1 rfl (wk1 rfl (wk1 rfl (wk1 rfl (wk1 rfl (wk1 rfl (wk1 (by rw[foldB_step xs (at'+1) j _ oM];rfl) wk0))))))) (wh1 Z0 wh0) nD⟩
 have hj2:j=(Bk (xs.getD at' 0))-1:=by omega
 refine G8 ?_;have hnv:numV xs at'=foldB (headV (xs.getD at' 0)) ((xs.drop (at'+1)).take j):=by rw[numV,hj2]
 refine G1 ?_;refine .cV J J J J Body172 (oct_size _) tV (G1 ?_);refine .nei J J J J (show(!decide _)=false from congrArg not (decide_eq_true (by rw[←hnv,hz];omega))) ?_;refine G2 ?_;refine .cond_f J (rfl) (G8 ?_);refine G2 ?_;refine⟨_,[RB n q N cp (at'+(Bk (xs.getD at' 0))) (0)],Ae J J,(by intro b hb;rw[La0.1 hb,show at'+(Bk (xs.getD at' 0))=at'+1+(B5 (8-((C2 (255^^^(xs.getD at' 0)).toNat:Nat):Int)+1-1)).toNat by rw[hcw];omega];exact Bp),Cn,?_⟩;exact⟨by rw[hnv],rfl⟩
theorem rd_take_pos(n q N cp at':Nat)(k:UInt64)(hN:N≤cp)(hbig:N≤1000000)(hk:at'+k.toNat≤N)(hk0:0<k.toNat):Meets prog 176 [ptr n 0,u64 k] [n] (fun W=>BlkOk W (RB n q N cp at' 0)) (fun v out=>v= .tuple #[.slice (some ⟨q,at',none⟩) k.toNat (cp-at'), .bool true]∧out=[RB n q N cp (at'+k.toNat) 0]):=by
  have:=rd_take_ok n q N cp at' k oM hN hbig hk;rw[if_neg oM,Las,Lb4]at this;exact this
def numR(xs:List UInt8)(a:Nat)(e:Int):UInt64×Nat×Int:=
  if ¬e=0 then(0,a,e)else if xs.length≤a then(0,a,5)else if xs.length<a+Bk (xs.getD a 0)then(0,a,5)else if szN (numV xs a).toNat=Bk (xs.getD a 0)then(numV xs a,a+Bk (xs.getD a 0),0)else(0,a,4)
theorem numR_at(xs:List UInt8)(a:Nat)(e:Int)(h:a≤xs.length):(numR xs a e).2.1≤xs.length:=by
  unfold numR;split
  ·exact h
  split
  ·exact h
  split
  ·exact h
  split
  ·simp only;omega
  ·exact h
theorem rd_Number(n q N cp at':Nat)(e:Int)(xs:List UInt8)(hx:xs.length=N)(hat:at'≤N)(hN:N≤cp)(hbig:N≤1000000):Meets prog 131 [ptr n 0] [n] (fun W=>BlkOk W (RB n q N cp at' e)∧Cd W q 0 (Aa xs)∧q≠n)
    (fun v out=>v=u64 (numR xs at' e).1∧out=[RB n q N cp (numR xs at' e).2.1 (numR xs at' e).2.2]):=by
  unfold numR;by_cases he:e=0
  · subst he
    rw[if_neg sP];by_cases h1:xs.length≤at'
    ·rw[if_pos h1];exact rd_num_end n q N cp at' xs hx hat hN hbig oM
    · rw[if_neg h1]
      by_cases h2:xs.length<at'+Bk (xs.getD at' 0)
      ·rw[if_pos h2];exact rd_num_short n q N cp at' xs hx hat hN hbig oM oM
      · rw[if_neg h2]
        by_cases h3:szN (numV xs at').toNat=Bk (xs.getD at' 0)
        ·rw[if_pos h3];exact rd_num_ok n q N cp at' xs hx hat hN hbig oM h3
        ·rw[if_neg h3];exact rd_num_bad n q N cp at' xs hx hat hN hbig oM h3
  ·rw[if_pos he];exact rd_num_err n q N cp at' e xs hx hat hN hbig he
theorem rd_dig_err(n q N cp at':Nat)(e:Int)(xs:List UInt8)(hx:xs.length=N)(hat:at'≤N)(hN:N≤cp)(hbig:N≤1000000)(he:¬e=0):Meets prog 132 [ptr n 0] [n] (fun W=>BlkOk W (RB n q N cp (at') (e))∧Cd W q 0 (Aa xs)∧q≠n) (fun v out=>v=agg (Aa (List.replicate 32 0))∧out=[RB n q N cp (at') (e)]):=by
 intro W hW;refine Br (hp0:=[RB n q N cp (at') (e)]) func132 J 16 ntmps132 J (HRep.one hW.1) (G2 ?_);refine .alloc (cs:=(Aa (List.replicate 32 0))) J Ck J ?_;intro n2 hn2 hf2;refine G5 ?_;refine .callL (L:=[RB n q N cp (at') (e)]) J J J J J Body176 (rd_take_err n q N cp at' e 32 hat hN hbig he) (rem_there Az) lO (fun w h=>Bg h Z1) ?_;rintro v2 out2 ⟨rfl,rfl⟩;refine G14 ?_;refine .cond_t J (rfl) (G2 ?_);refine .build (cs:=Aa (List.replicate 32 0)) J J J (fun w=>by kernel_rfl) ?_;refine .sA J J J J zE Sz34 sP Z1 sP zV ?_;refine G2 ?_;refine G3 ?_;refine⟨_,[RB n q N cp (at') (e)],Am J J Y34.h J Sz34 Z1 sP,(by intro b hb;rw[La0.1 hb];exact Bp),Cn,?_⟩;exact⟨rfl,rfl⟩
theorem rd_dig_more(n q N cp at':Nat)(xs:List UInt8)(hx:xs.length=N)(hat:at'≤N)(hN:N≤cp)(hbig:N≤1000000)(hk:N<at'+32):Meets prog 132 [ptr n 0] [n] (fun W=>BlkOk W (RB n q N cp (at') (0))∧Cd W q 0 (Aa xs)∧q≠n) (fun v out=>v=agg (Aa (List.replicate 32 0))∧out=[RB n q N cp (at') (5)]):=by
 intro W hW;refine Br (hp0:=[RB n q N cp (at') (0)]) func132 J 16 ntmps132 J (HRep.one hW.1) (G2 ?_);refine .alloc (cs:=(Aa (List.replicate 32 0))) J Ck J ?_;intro n2 hn2 hf2;refine G5 ?_;refine .callL (L:=[RB n q N cp (at') (0)]) J J J J J Body176 (rd_take_more n q N cp at' 32 hat hN hbig hk) (rem_there Az) lO (fun w h=>Bg h Z1) ?_;rintro v2 out2 ⟨rfl,rfl⟩;refine G14 ?_;refine .cond_t J (rfl) (G2 ?_);refine .build (cs:=Aa (List.replicate 32 0)) J J J (fun w=>by kernel_rfl) ?_;refine .sA J J J J zE Sz34 sP Z1 sP zV ?_;refine G2 ?_;refine G3 ?_;refine⟨_,[RB n q N cp (at') (5)],Am J J Y34.h J Sz34 Z1 sP,(by intro b hb;rw[La0.1 hb];exact Bp),Cn,?_⟩;exact⟨rfl,rfl⟩
theorem sees_cut(h:Cd w q 0 (Aa xs))(a k:Nat):Cd w q a (Aa ((xs.drop a).take k)):=fun j v hj=>by
  simp only[Aa,Lcm,Le7,Lb9]at hj;split at hj
  · rw[Lba]at hj
    have:=h (a+j) v hj;rwa[Las]at this
  ·cases hj
theorem rd_dig_ok(n q N cp at':Nat)(xs:List UInt8)(hx:xs.length=N)(hat:at'≤N)(hN:N≤cp)(hbig:N≤1000000)(hk:at'+32≤N):Meets prog 132 [ptr n 0] [n] (fun W=>BlkOk W (RB n q N cp (at') (0))∧Cd W q 0 (Aa xs)∧q≠n) (fun v out=>v=agg (Aa ((xs.drop at').take 32))∧out=[RB n q N cp (at'+32) (0)]):=by
 intro W hW;have hdl:((xs.drop at').take 32).length=32:=by simp;omega
 refine Br (hp0:=[RB n q N cp (at') (0)]) func132 J 16 ntmps132 J (HRep.one hW.1) (G2 ?_);refine .alloc (cs:=(Aa (List.replicate 32 0))) J Ck J ?_;intro n2 hn2 hf2;refine G5 ?_;refine .callL (L:=[RB n q N cp (at') (0)]) J J J J J Body176 (rd_take_pos n q N cp at' 32 hN hbig hk dE) (rem_there Az) lO (fun w h=>Bg h Z1) ?_;rintro v2 out2 ⟨rfl,rfl⟩;refine G14 ?_;refine .cond_f J (rfl) (G5 ?_);refine .s2a J J J Y34.h dE (.loadEN (Aa ((xs.drop at').take 32)) J J J Y34.h J Sz34 (by simp;exact hW.2.2) (by rw[Aa,La1];exact hdl) (sees_cut hW.2.1 at' 32) ?_);refine .sA J J J J zE Sz34 (by(rw[Aa,La1];assumption)) Z1 sP zV ?_;refine G2 ?_;refine G2 ?_;refine⟨_,[RB n q N cp (at'+32) (0)],Am J J Y34.h J Sz34 Z1 (by rw[Aa,La1];exact hdl),(by intro b hb;rw[La0.1 hb];exact Bp),Cn,?_⟩;exact⟨rfl,rfl⟩
def digR(xs:List UInt8)(a:Nat)(e:Int):List UInt8×Nat×Int:=
  if ¬e=0 then(List.replicate 32 0,a,e)else if xs.length<a+32 then(List.replicate 32 0,a,5)else((xs.drop a).take 32,a+32,0)
theorem digR_at(xs:List UInt8)(a:Nat)(e:Int)(h:a≤xs.length):(digR xs a e).2.1≤xs.length∧(digR xs a e).1.length=32:=by
  unfold digR;split
  ·exact⟨h,rfl⟩
  split
  ·exact⟨h,rfl⟩
  ·exact⟨by simp only;omega,by simp;omega⟩
theorem rd_Digest(n q N cp at':Nat)(e:Int)(xs:List UInt8)(hx:xs.length=N)(hat:at'≤N)(hN:N≤cp)(hbig:N≤1000000):Meets prog 132 [ptr n 0] [n] (fun W=>BlkOk W (RB n q N cp at' e)∧Cd W q 0 (Aa xs)∧q≠n)
    (fun v out=>v=agg (Aa (digR xs at' e).1)∧out=[RB n q N cp (digR xs at' e).2.1 (digR xs at' e).2.2]):=by
  unfold digR;by_cases he:e=0
  · subst he
    rw[if_neg sP];by_cases h1:xs.length<at'+32
    ·rw[if_pos h1];exact rd_dig_more n q N cp at' xs hx hat hN hbig oM
    ·rw[if_neg h1];exact rd_dig_ok n q N cp at' xs hx hat hN hbig oM
  ·rw[if_pos he];exact rd_dig_err n q N cp at' e xs hx hat hN hbig he
theorem BlkOk.keep{ex:List Nat}{w w':World}{b:Blk}(h:Keeps ex w w')(hb:BlkOk w b)(hn:b.n∉ex):BlkOk w' b:=hb.of_heap (h.block b.n hb.lt hn)
def RdNew(N:Nat)(xs:List UInt8)(v:Value)(out:List Blk):Prop:=∃n q cp,v=ptr n 0∧N≤cp∧out=[RB n q N cp 0 0,⟨q,Aa xs,5,cp*1⟩]
theorem oct_Read(p:Option Addr)(n c:Nat)(xs:List UInt8)(hl:xs.length=n)(hp:p=none→n=0)(hn:n≤90000):Meets prog 130 [.slice p n c] [] (fun W=>SeesP W p (Aa xs)) (RdNew n xs):=by
 intro W hW;refine Ac func130 J 13 ntmps130 J (G8 ?_);refine .call J J J J Body171 (oct_grown p n c 0 xs hl hp oM oM) (FreshRow.loose _ _ _ _) (fun w h=>A2 h J hW) ?_;rintro v1 out1 ⟨q1,c1,rfl,hc1,rfl⟩;refine .build (cs:=(⟨.pointer none,⟨some ⟨q1,0,none⟩,n,c1⟩,0,0⟩:Reader).cells) J J J (fun w=>by kernel_rfl) ?_;refine G1 ?_;intro n7 hn7 hf7;refine G9 ?_;refine .s1 J J J J J Sz154 Z0 (by rw[Reader.length (by exact⟨rfl⟩)];decide) (Reader.set_fSelf (by exact⟨rfl⟩) _) zU ?_;refine G8 ?_;refine G2 ?_;refine⟨_,[RB n7 q1 n c1 0 0,⟨q1,Aa xs,5,c1*1⟩],Ae J J,(by intro b hb;rcases Lal.1 hb with rfl|hb;exact Bp;rw[La0.1 hb];exact mem1),(fun h=>h.sublist (by simp[RB])),⟨n7,q1,c1,rfl,hc1,rfl⟩⟩
theorem rd_Err(n q N cp at':Nat)(e:Int):Mv 179 [ptr n 0] (fun W=>BlkOk W (RB n q N cp (at') (e))) (i64 e):=by
 intro W hW;refine Ac func179 J 10 ntmps179 J (G9 ?_);refine .cV J J J J Body215 (rd_made n) (fun w h=>h.keeps.cell sP (rb_self hW)) (G3 ?_);refine .cond_f J J (G7 ?_);refine .loadE J J J Y36.h J sP (BlkOk.cell0 (o:=3) hW J) (G3 ?_);refine G2 ?_;refine⟨_,[],Ae J J,sP,sP,?_,rfl⟩;rfl
theorem rd_Left(n q N cp at':Nat)(e:Int)(hat:at'≤N)(hbig:N≤1000000):Mv 180 [ptr n 0] (fun W=>BlkOk W (RB n q N cp (at') (e))) (i64 ((N:Int)-(at':Int))):=by
 intro W hW;have hfB:(rdr n q N cp at' e).fB.n=N:=rfl;have hfA:(rdr n q N cp at' e).fAt=(at':Int):=rfl;refine Ac func180 J 16 ntmps180 J (G9 ?_);refine .cV J J J J Body215 (rd_made n) (fun w h=>h.keeps.cell sP (rb_self hW)) (G3 ?_);refine .cond_f J J (G3 ?_);refine .draw (oP [0,1,2,103,4,5,6,7,108,9,10]) Ao zK (G3 ?_);refine .loadE J J J Y46.h J sP (BlkOk.cell0 (o:=1) hW J) (.lenSl (n:=N) J J J Y46.h (G3 ?_));refine .loadE J J J Y3.h J sP (BlkOk.cell0 (o:=2) hW J) (G4 ?_);refine G2 ?_;refine⟨_,[],Ae J J,sP,sP,?_,rfl⟩;rfl
def endR(N a:Nat)(e:Int):Int:=if e=0 then(if(0:Int)<(N:Int)-(a:Int)then 4 else 0)else e
theorem rd_End(n q N cp at':Nat)(e:Int)(hat:at'≤N)(hbig:N≤1000000):Mv 133 [ptr n 0] (fun W=>BlkOk W (RB n q N cp (at') (e))) (i64 (endR N at' e)):=by
 intro W hW;refine Ac func133 J 12 ntmps133 J (G9 ?_);refine .cV J J J J Body179 (rd_Err n q N cp at' e) (fun w h=>(BlkOk.keep h.keeps hW sP)) (G9 ?_);refine .condNP J (fun hc0=>?_) (fun hc0=>?_)
 ·
  refine G6 ?_;refine G3 ?_;refine⟨_,[],Ae J J,sP,sP,?_,rfl⟩
  (simp only[endR,if_neg hc0];done)
 refine G6 ?_;refine .cV J J J J Body180 (rd_Left n q N cp at' e hat hbig) (fun w h=>(BlkOk.keep h.keeps hW sP)) (G3 ?_);refine .condP J (fun hc1=>?_) (fun hc1=>?_)
 ·
  refine G5 ?_;refine G3 ?_;refine⟨_,[],Ae J J,sP,sP,?_,rfl⟩
  (simp only[endR,if_pos (show e=0 by omega),if_pos hc1];done)
 refine G7 ?_;refine G2 ?_;refine⟨_,[],Ae J J,sP,sP,?_,rfl⟩
 (simp only[endR,if_pos (show e=0 by omega),if_neg hc1];done)
theorem clone_bytes(a:Addr)(n c:Nat)(l:List UInt8)(hl:l.length=n)(hn:n≤90000):Meets prog 158 [.slice (some a) n c] [] (fun W=>SeesP W (some a) (Aa l)) (fun v out=>FreshRow v out (Aa l) 5 n 1):=by
 intro W hW;refine Ac func158 J 8 ntmps158 J (G9 ?_);refine .eqNilS (r:=false) J J J J Y46.h J (G2 ?_);refine .cond_f J (rfl) (G4 ?_);refine .mkRow (z:=u8 0) [] [] rfl J J Y46.h Sz5 Zr5 J J (by intro v hv;cases hv) dE J ?_;intro q0;refine G1 ?_;refine .appendSl (z:=u8 0) (by':=1) (Aa l) J J J J J Y46.h Y46.h Sz5 Zr5 (by unfold By;kernel_rfl) J (fun w h=>A2 h J hW) (fun e=>by cases e) (by simp[Aa,isCell,u8]) Az J J oM oM oM (by simp[Aa,hl]) ?_;intro q1 c1 hq1;refine G3 ?_;refine G2 ?_;refine⟨_,[⟨q1,[]++Aa l,5,c1*1⟩],Ae J J,(by intro b hb;rw[La0.1 hb];exact Bp),Cn,⟨q1,c1,by rw[Las],by omega,rfl⟩⟩
def bodyB(B:Block)(ls:List (List UInt8))(ds:List UInt8):List UInt8:=B.fWriter++numB B.fSeq++B.fPrev++numB (UInt64.ofNat B.fLinks.n)++ls.flatten++(numB (UInt64.ofNat B.fData.n)++ds)
theorem word_nat(h:n≤1000000):B5 (n:Int)=UInt64.ofNat n:=by simp only[B5];congr 1;omega
theorem ofNat_nat(h:n≤1000000):(UInt64.ofNat n).toNat=n:=by rw[Laz,Lab oM]
theorem flatten_take_step(hk:k<ls.length):(ls.take (k+1)).flatten=(ls.take k).flatten++ls.getD k []:=by
  rw[Lar hk,Lc4];simp[List.getD,hk]
theorem Ca(h:∀l∈ls,l.length=32)(hk:k≤ls.length):(ls.take k).flatten.length=k*32:=by
  rw[flatten_len 32 _ (fun l hl=>h l (Lcz hl)),Lag,Lcu hk]
theorem block_body(B:Block)(hB:B.ok)(ls:List (List UInt8))(ds:List UInt8)(hn:B.fLinks.n≤40)(hd:B.fData.n≤2000):Meets prog 195 [agg B.cells] [] (fun W=>RowsAt W B.fLinks 32 ls∧BytesAt W B.fData ds) (fun v out=>∃N,N=(bodyB B ls ds).length∧N≤4000∧FreshRow v out (Aa (bodyB B ls ds)) 5 N 1):=by
 intro W hW;have hz1:=B1 B.fSeq.toNat;have hz2:=B1 (UInt64.ofNat B.fLinks.n).toNat;have hz3:=B1 B.fData.n;have hw2:=word_nat (n:=B.fLinks.n) oM;have hll:=hW.1.len;refine Ac func195 J 41 ntmps195 J (G3 ?_);intro n1 hn1 hf1;refine G7 ?_;refine .call J J J J Body158 (clone_bytes ⟨n1,0,none⟩ 32 32 B.fWriter hB.l_fWriter oM) (FreshRow.loose _ _ _ _) (fun W2 W2h=>(SeesP.of (sees_part W2h Z0 (Block.see_fWriter hB)))) ?_;rintro v1 out1 ⟨q1,c1,rfl,hc1,rfl⟩;refine G8 ?_;refine .call J J J J Body123 (oct_Number none 0 0 [] (B.fSeq) J (fun _=>rfl) oM) (FreshRow.loose _ _ _ _) (fun _ _=>SeesP.nil) ?_;rintro v2 out2 ⟨q2,c2,rfl,hc2,rfl⟩;refine .appendSl (z:=u8 0) (by':=1) (Aa ([]++numB B.fSeq)) J J J J J Y46.h Y46.h Sz5 Zr5 (by unfold By;kernel_rfl) J (fun w h=>SeesP.of (Ap h Bp)) (fun e=>by cases e) (Ay _) (rem_there Az) J (by simp only[Aa,La1,La4,Bj,hB.l_fWriter,hB.l_fPrev,Lf0];try omega) hc1 oM oM (by simp[Bj]) ?_;intro q3 c3 hq3;refine G8 ?_;refine .appendSl (z:=u8 0) (by':=1) (Aa B.fPrev) J J J J J Y46.h Y46.h Sz5 Zr5 (by unfold By;kernel_rfl) J (fun W2 W2h=>(SeesP.of (sees_part W2h Z2 (Block.see_fPrev hB)))) (fun e=>by cases e) (Ay _) Az J (by simp only[Aa,La1,La4,Bj,hB.l_fWriter,hB.l_fPrev,Lf0];try omega) hq3 oM oM (by simp[hB.l_fPrev]) ?_;intro q5 c5 hq5;refine G10 ?_;rw[hw2];refine .call J J J J Body123 (oct_Number none 0 0 [] (UInt64.ofNat B.fLinks.n) J (fun _=>rfl) oM) (FreshRow.loose _ _ _ _) (fun _ _=>SeesP.nil) ?_;rintro v4 out4 ⟨q4,c4,rfl,hc4,rfl⟩;refine .appendSl (z:=u8 0) (by':=1) (Aa ([]++numB (UInt64.ofNat B.fLinks.n))) J J J J J Y46.h Y46.h Sz5 Zr5 (by unfold By;kernel_rfl) J (fun w h=>SeesP.of (Ap h Bp)) (fun e=>by cases e) (Ay _) (rem_there Az) J (by simp only[Aa,La1,La4,Bj,hB.l_fWriter,hB.l_fPrev,Lf0];try omega) hq5 oM oM (by simp[Bj]) ?_;intro q6 c6 hq6;refine G13 ?_;refine .loop (ι:=Nat×Nat×Nat) (fun p=>⟨[(1,ptr n1 0),(3, .slice (some ⟨p.2.1,0,none⟩) (32+(0+szN B.fSeq.toNat)+32+(0+szN (UInt64.ofNat B.fLinks.n).toNat)+32*p.1) p.2.2),(26,B.fLinks.v),(27,i64 (B.fLinks.n:Int)),(28,i64 (p.1:Int))],[⟨p.2.1,Aa (B.fWriter++numB B.fSeq++B.fPrev++numB (UInt64.ofNat B.fLinks.n)++(ls.take p.1).flatten),5,p.2.2*1⟩,⟨n1,B.cells,50,B.cells.length⟩]⟩) (fun p=>p.1≤B.fLinks.n∧32+(0+szN B.fSeq.toNat)+32+(0+szN (UInt64.ofNat B.fLinks.n).toNat)+32*p.1≤p.2.2) (fun p=>B.fLinks.n-p.1) ((0,q6,c6)) ?_ ?_ ?_
 ·exact⟨Laj _,by simp only[];omega⟩
 ·exact Ad wN (wh1 (by simp only[Ldu,Lg5,Lat,Aa,Lad,Lak];exact Bp) (wh1 Z3 wh0)) nD
 rintro p ⟨hp1,hp2⟩;refine G6 ?_;refine .condP J (fun hc0=>?_) (fun hc0=>?_)
 ·
  have hp3:p.1<B.fLinks.n:=by omega
  obtain⟨b,o,hbp,hbs⟩:=hW.1.see.at (by rw[Ax hW.1.row];omega);have hrk:(ls.getD p.1 []).length=32:=Bf hW.1.row oM;refine G6 ?_;refine .idxSlP 32 J J J hbp J Y30.h Sz34 p.1 J oM (.loadEN (Aa (ls.getD p.1 [])) J J J Y34.h J Sz34 sP (by rw[Aa,La1];exact hrk) (Bu hW.1.row hbs oM) ?_);refine .alloc (cs:=(Aa (List.replicate 32 0))) J Ck J ?_;intro n5 hn5 hf5;refine .sA J J J J zE Sz34 (by(rw[Aa,La1];assumption)) Z0 sP zU ?_;refine G5 ?_;refine .appendSl (z:=u8 0) (by':=1) (Aa (ls.getD p.1 [])) J J J J J Y46.h Y46.h Sz5 Zr5 (by unfold By;kernel_rfl) J (fun w h=>SeesP.of (Ap h Bp)) (fun e=>by cases e) (Ay _) (rem_there Az) J (by simp only[Aa,La1,La4,Bj,hB.l_fWriter,hB.l_fPrev,Ca hW.1.row (show p.1≤ls.length by omega)];omega) hp2 oM oM (by rw[Aa,La1,hrk]) ?_;intro q7 c7 hq7;refine G9 ?_;exact⟨(p.1+1,q7,c7),⟨by simp only[];omega,by simp only[];omega⟩,by simp only[];omega,Ad (wk1 rfl (wk1 (by rw[show 32+(0+szN B.fSeq.toNat)+32+(0+szN (UInt64.ofNat B.fLinks.n).toNat)+32*(p.1+1)=32+(0+szN B.fSeq.toNat)+32+(0+szN (UInt64.ofNat B.fLinks.n).toNat)+32*p.1+32 by omega];rfl) wN)) (wh1 (by rw[flatten_take_step oM,←La8];simp only[Aa,Lad];exact Bp) (wh1 Z2 wh0)) nD⟩
 have hp3:p.1=B.fLinks.n:=by omega
 refine G10 ?_;refine .call J J J J Body249 (oct_Block none B.fData.p 0 0 B.fData.n B.fData.c [] ds J hW.2.len (fun _=>rfl) (fun e=>by have:=hW.2.nil e;have:=hW.2.cap;omega) oM oM) (FreshRow.loose _ _ _ _) (fun w h=>⟨SeesP.nil,A2 h J hW.2.see⟩) ?_;rintro v9 out9 ⟨q9,c9,rfl,hc9,rfl⟩;refine .appendSl (z:=u8 0) (by':=1) (Aa ([]++numB (UInt64.ofNat B.fData.n)++ds)) J J J J J Y46.h Y46.h Sz5 Zr5 (by unfold By;kernel_rfl) J (fun w h=>SeesP.of (Ap h Bp)) (fun e=>by cases e) (Ay _) (rem_there Az) J (by simp only[Aa,La1,La4,Bj,hB.l_fWriter,hB.l_fPrev,Ca hW.1.row (show p.1≤ls.length by omega)];omega) hp2 oM oM (by simp[Bj,hW.2.len,ofNat_nat (show B.fData.n≤1000000 by omega)]) ?_;intro q8 c8 hq8;refine G3 ?_;refine G2 ?_;have hN:32+(0+szN B.fSeq.toNat)+32+(0+szN (UInt64.ofNat B.fLinks.n).toNat)+32*p.1+(0+szN B.fData.n+B.fData.n)=(bodyB B ls ds).length:=by
  have hfl:=Ca hW.1.row (Lae ls.length);rw[Ldm]at hfl;simp only[bodyB,La4,Bj,hB.l_fWriter,hB.l_fPrev,hfl,hW.2.len,ofNat_nat (show B.fData.n≤1000000 by omega)];omega
 refine⟨_,[⟨q8,Aa (bodyB B ls ds),5,c8*1⟩],Ae J J,(by intro b hb;rw[La0.1 hb,show bodyB B ls ds=B.fWriter++numB B.fSeq++B.fPrev++numB (UInt64.ofNat B.fLinks.n)++(ls.take p.1).flatten++(numB (UInt64.ofNat B.fData.n)++ds) by rw[bodyB,La5 oM]];simp only[Aa,Lad,La8,Lak];exact Bp),Cn,⟨_,rfl,by omega,q8,c8,by rw[←hN],by omega,rfl⟩⟩
theorem check_small(h:bcheck B ls=0):B.fLinks.n≤16∧B.fData.n≤512:=by
  unfold bcheck at h;by_cases h1:bheadB B=true
  ·rw[if_pos h1]at h;cases h
  · unfold bheadB at h1
    simp at h1;omega
def bytesB(B:Block)(ls:List (List UInt8))(ds:List UInt8):List UInt8:=bodyB B ls ds++B.fSig
theorem body_small(B:Block)(hB:B.ok)(ls:List (List UInt8))(ds:List UInt8)(hr:∀l∈ls,l.length=32)(hl:ls.length=B.fLinks.n)(hd:ds.length=B.fData.n)(hn:B.fLinks.n≤40)(hd2:B.fData.n≤2000):(bodyB B ls ds).length≤4000:=by
  have hz1:=B1 B.fSeq.toNat;have hz2:=B1 (UInt64.ofNat B.fLinks.n).toNat;have hz3:=B1 (UInt64.ofNat B.fData.n).toNat;have hfl:=Ca hr (Lae ls.length);rw[Ldm]at hfl;simp only[bodyB,La4,Bj,hB.l_fWriter,hB.l_fPrev,hfl,hd];omega
theorem bytes_bad(B:Block)(hB:B.ok)(ls:List (List UInt8))(ds:List UInt8)(hc:¬bcheck B ls=0):Mv 157 [agg B.cells] (fun W=>RowsAt W B.fLinks 32 ls∧BytesAt W B.fData ds) (.tuple #[.slice none 0 0,i64 (bcheck B ls)]):=by
 intro W hW;refine Ac func157 J 15 ntmps157 J (G3 ?_);intro n1 hn1 hf1;refine G8 ?_;refine .cV J J J J Body154 (block_check B hB ls) (fun w h=>rows_ext h J hW.1) (G6 ?_);refine .nei J J J J (show(!decide _)=true from congrArg not (decide_eq_false (hc))) (G2 ?_);refine .cond_t J (rfl) (G7 ?_);refine G3 ?_;refine⟨_,[],Cj J J J,sP,sP,?_,rfl⟩;rfl
theorem bytes_ok(B:Block)(hB:B.ok)(ls:List (List UInt8))(ds:List UInt8)(hc:bcheck B ls=0):Meets prog 157 [agg B.cells] [] (fun W=>RowsAt W B.fLinks 32 ls∧BytesAt W B.fData ds) (fun v out=>∃q c N,N=(bytesB B ls ds).length∧N≤5000∧v= .tuple #[.slice (some ⟨q,0,none⟩) N c,i64 0]∧N≤c∧out=[⟨q,Aa (bytesB B ls ds),5,c*1⟩]):=by
 intro W hW;have hsm:=check_small hc;refine Ac func157 J 15 ntmps157 J (G3 ?_);intro n1 hn1 hf1;refine G8 ?_;refine .cV J J J J Body154 (block_check B hB ls) (fun w h=>rows_ext h J hW.1) (G6 ?_);refine .nei J J J J (show(!decide _)=false from congrArg not (decide_eq_true (hc))) (G2 ?_);refine .cond_f J (rfl) (G3 ?_);refine .draw (oP [100,2,3,301,404,5,6]) Ao zK (G3 ?_);refine .call J J J J Body195 (block_body B hB ls ds oM oM) (fun l hl=>by obtain⟨v,out,h1,h2⟩:=FreshRow.loose (Aa (bodyB B ls ds)) 5 (bodyB B ls ds).length 1 l hl;exact⟨v,out,⟨_,rfl,body_small B hB ls ds hW.1.row hW.1.len hW.2.len oM oM,h1⟩,h2⟩) (fun w h=>⟨rows_ext h J hW.1,bytes_ext h J hW.2⟩) ?_;rintro v1 out1 ⟨N1,hN1,hN2,q1,c1,rfl,hc1,rfl⟩;refine .appendSl (z:=u8 0) (by':=1) (Aa B.fSig) J J J J J Y46.h Y46.h Sz5 Zr5 (by unfold By;kernel_rfl) J (fun W2 W2h=>(SeesP.of (sees_part W2h Z1 (Block.see_fSig hB)))) (fun e=>by cases e) (Ay _) Az J (by rw[Aa,La1,hN1,Lb4]) hc1 oM oM (by simp[hB.l_fSig]) ?_;intro q2 c2 hq2;refine G4 ?_;refine G2 ?_;refine⟨_,[⟨q2,Aa (bytesB B ls ds),5,c2*1⟩],Cj J J J,(by intro b hb;rw[La0.1 hb,bytesB];simp only[Aa,Lad];exact Bp),Cn,⟨q2,c2,N1+64,by rw[hN1,bytesB,La4,hB.l_fSig],by omega,rfl,hq2,rfl⟩⟩
theorem seq_eq(p q:Option Addr)(n c1 c2:Nat)(xs bs:List (List UInt8))(hra:∀l∈xs,l.length=32)(hrb:∀l∈bs,l.length=32)(ha:xs.length=n)(hb:bs.length=n)(hn:n≤1000000):Mv 118 [.slice p n c1, .slice q n c2] (fun W=>SeesP W p (A3 xs)∧SeesP W q (A3 bs)) (.bool (decide (xs=bs))):=by
 intro W hW;refine Ac func118 J 26 ntmps118 J (G12 ?_);refine .nei J J J J (show(!decide _)=false from congrArg not (decide_eq_true (rfl))) (G2 ?_);refine .cond_f J (rfl) (G11 ?_);refine .loop (ι:=Nat) (fun k=>⟨[(0, .slice p n c1),(1, .slice q n c2),(12,i64 (n:Int)),(13,i64 (k:Int))],[]⟩) (fun k=>k≤n∧xs.take k=bs.take k) (fun k=>n-k) (0) ?_ ?_ ?_
 ·exact⟨by omega,rfl⟩
 ·exact Ad wN wh0 nD
 rintro k ⟨hk,hg⟩;refine G6 ?_;refine .condP J (fun hc1=>?_) (fun hc1=>?_)
 ·
  have hk2:k<n:=by omega
  obtain⟨b1,o1,hp1,hs1⟩:=hW.1.at (by rw[Ax hra];omega);obtain⟨b2,o2,hp2,hs2⟩:=hW.2.at (by rw[Ax hrb];omega);have r1:(xs.getD k []).length=32:=Bf hra oM;have r2:(bs.getD k []).length=32:=Bf hrb oM;refine G11 ?_;refine .draw (oP [0,1,2,103,4,5,6,107,8]) Ao zK (G2 ?_);refine .idxSlP 32 J J J hp1 J Y30.h Sz34 k J oM (.loadEN (Aa (xs.getD k [])) J J J Y34.h J Sz34 sP (by rw[Aa,La1];exact Bf hra oM) (Bu hra hs1 oM) ?_);refine G2 ?_;refine .idxSlP 32 J J J hp2 J Y30.h Sz34 k J oM (.loadEN (Aa (bs.getD k [])) J J J Y34.h J Sz34 sP (by rw[Aa,La1];exact Bf hrb oM) (Bu hrb hs2 oM) ?_);refine .neq_bytes J J J J eqGuardType34 Y34.h Y5.h Sz5 zA zA J ?_;refine G2 ?_;refine .condNP J (fun hc2=>?_) (fun hc2=>?_)
  ·
   refine G5 ?_;refine G7 ?_;refine⟨_,[],Ae J J,sP,sP,?_,rfl⟩
   (rw[decide_eq_false (fun e=>hc2 (by rw[e]))];done)
  refine G8 ?_;exact⟨k+1,⟨by omega,take_step [] oM oM hg hc2⟩,by omega,Ad wN wh0 nD⟩
 obtain rfl:k=n:=by omega
 refine G10 ?_;refine G2 ?_;refine⟨_,[],Ae J J,sP,sP,?_,rfl⟩
 (rw[La5 oM,La5 oM]at hg;rw[decide_eq_true hg];done)
theorem seq_ne(p q:Option Addr)(n m c1 c2:Nat)(xs bs:List (List UInt8))(hra:∀l∈xs,l.length=32)(hrb:∀l∈bs,l.length=32)(ha:xs.length=n)(hb:bs.length=m)(hn:n≤1000000)(hnm:n≠m):Mv 118 [.slice p n c1, .slice q m c2] (fun W=>SeesP W p (A3 xs)∧SeesP W q (A3 bs)) (.bool (decide (xs=bs))):=by
 intro W hW;refine Ac func118 J 26 ntmps118 J (G12 ?_);refine .nei J J J J (show(!decide _)=true from congrArg not (decide_eq_false oM)) (G2 ?_);refine .cond_t J (rfl) (G5 ?_);refine G3 ?_;refine⟨_,[],Ae J J,sP,sP,?_,rfl⟩;rw[decide_eq_false (fun e=>hnm (by rw[←ha,←hb,e]))]
theorem seq_any(p q:Option Addr)(n m c1 c2:Nat)(xs ys:List (List UInt8))(hx:∀l∈xs,l.length=32)(hy:∀l∈ys,l.length=32)(h1:xs.length=n)(h2:ys.length=m)(hn:n≤1000000):
    Mv 118 [.slice p n c1, .slice q m c2] (fun W=>SeesP W p (A3 xs)∧SeesP W q (A3 ys)) (.bool (decide (xs=ys))):=by
  by_cases h:n=m
  ·subst h;exact seq_eq p q n c1 c2 xs ys hx hy h1 h2 hn
  ·exact seq_ne p q n m c1 c2 xs ys hx hy h1 h2 hn h
theorem digests_any2(p q:Option Addr)(n m c1 c2:Nat)(xs ys:List (List UInt8))(hx:∀l∈xs,l.length=32)(hy:∀l∈ys,l.length=32)(h1:xs.length=n)(h2:ys.length=m)(hn:n≤1000000):
    Mv 23 [.slice p n c1, .slice q m c2] (fun W=>SeesP W p (A3 xs)∧SeesP W q (A3 ys)) (.bool (decide (xs=ys))):=by
  by_cases h:n=m
  ·subst h;exact digests_eq p q n c1 c2 xs ys hx hy h1 h2 hn
  ·exact digests_ne p q n m c1 c2 xs ys hx hy h1 h2 hn h
theorem rd_DigestE(n q N cp a:Nat)(e:Int)(xs:List UInt8)(hx:xs.length=N)(hat:a≤N)(hN:N≤cp)(hbig:N≤1000000)(l:List UInt8)(a1:Nat)(e1:Int)(h:digR xs a e=(l,a1,e1)):Meets prog 132 [ptr n 0] [n] (fun W=>BlkOk W (RB n q N cp a e)∧Cd W q 0 (Aa xs)∧q≠n)
    (fun v out=>v=agg (Aa l)∧out=[RB n q N cp a1 e1]):=by
  have:=rd_Digest n q N cp a e xs hx hat hN hbig;rw[h]at this;exact this
theorem rd_NumberE(n q N cp a:Nat)(e:Int)(xs:List UInt8)(hx:xs.length=N)(hat:a≤N)(hN:N≤cp)(hbig:N≤1000000)(l:UInt64)(a1:Nat)(e1:Int)(h:numR xs a e=(l,a1,e1)):Meets prog 131 [ptr n 0] [n] (fun W=>BlkOk W (RB n q N cp a e)∧Cd W q 0 (Aa xs)∧q≠n)
    (fun v out=>v=u64 l∧out=[RB n q N cp a1 e1]):=by
  have:=rd_Number n q N cp a e xs hx hat hN hbig;rw[h]at this;exact this
theorem digE_le(h:digR xs a e=(l,a1,e1))(hx:xs.length=N)(hat:a≤N):a1≤N∧l.length=32:=by
  have:=digR_at xs a e oM;rw[h]at this;exact⟨by have:=this.1;simp only at this;omega,this.2⟩
theorem numE_le{l:UInt64}(h:numR xs a e=(l,a1,e1))(hx:xs.length=N)(hat:a≤N):a1≤N:=by
  have:=numR_at xs a e oM;rw[h]at this;simp only at this;omega
def takR(xs:List UInt8)(m a:Nat)(e:Int):List UInt8×Nat×Int:=
  if ¬e=0 then([],a,e)else if xs.length<a+m then([],a,5)else((xs.drop a).take m,a+m,0)
theorem takE_le(h:takR xs m a e=(l,a1,e1))(hx:xs.length=N)(hat:a≤N):a1≤N∧(l=[]∨l.length=m):=by
  unfold takR at h;split at h
  · obtain⟨rfl,rfl,rfl⟩:[]=l∧a=a1∧e=e1:=by simpa using h
    exact⟨hat, .inl rfl⟩
  split at h
  · obtain⟨rfl,rfl,rfl⟩:[]=l∧a=a1∧(5:Int)=e1:=by simpa using h
    exact⟨hat, .inl rfl⟩
  · obtain⟨rfl,rfl,rfl⟩:(xs.drop a).take m=l∧a+m=a1∧(0:Int)=e1:=by simpa using h
    exact⟨by omega, .inr (by simp;omega)⟩
def A6(xs:List UInt8):Nat→Nat→Int→List (List UInt8)×Nat×Int
  |0,a,e=>([],a,e)
  |j+1,a,e=>((A6 xs j a e).1++[(digR xs (A6 xs j a e).2.1 (A6 xs j a e).2.2).1],(digR xs (A6 xs j a e).2.1 (A6 xs j a e).2.2).2)
theorem digsR_succ(h:digR xs (A6 xs j a e).2.1 (A6 xs j a e).2.2=(l,a1,e1)):A6 xs (j+1) a e=((A6 xs j a e).1++[l],a1,e1):=by rw[A6,h]
theorem digsR_at{xs:List UInt8}{a N:Nat}{e:Int}(hx:xs.length=N)(hat:a≤N):∀j,(A6 xs j a e).2.1≤N∧(∀l∈(A6 xs j a e).1,l.length=32)∧(A6 xs j a e).1.length=j
  |0=>⟨hat,fun l hl=>by simp[A6]at hl,rfl⟩
  | j+1=>by
    obtain⟨h1,h2,h3⟩:=digsR_at (e:=e) hx hat j;have h4:=digR_at xs (A6 xs j a e).2.1 (A6 xs j a e).2.2 oM;refine⟨by simp only[A6];omega,fun l hl=>?_,by simp[A6,h3]⟩;simp only[A6,Lac,La0]at hl;rcases hl with hl|rfl
    ·exact h2 l hl
    ·exact h4.2
theorem ofNat_step(j:Nat):UInt64.ofNat j+1=UInt64.ofNat (j+1):=by rw[UInt64.ofNat_add];rfl
theorem upd_nil(cs:List Value)(o:Nat):upd cs o []=cs:=by simp[upd]
structure DB where
  w:List UInt8
  seq:UInt64
  prev:List UInt8
  ls:List (List UInt8)
  ds:List UInt8
  sg:List UInt8
deriving DecidableEq
def DB.zero:DB:=⟨List.replicate 32 0,0,List.replicate 32 0,[],[],List.replicate 64 0⟩
def DB.head(D:DB):Bool:=decide ((4294967295:Int)<(D.seq.toNat:Int))||(!decide (decide (D.prev=List.replicate 32 0)=decide ((D.seq.toNat:Int)=0))||(decide ((16:Int)<(D.ls.length:Int))||decide ((512:Int)<(D.ds.length:Int))))
def DB.check(D:DB):Int:=if D.head=true then 2 else(if linksBad D.prev D.ls=true then 2 else 0)
def DB.body(D:DB):List UInt8:=D.w++numB D.seq++D.prev++numB (UInt64.ofNat D.ls.length)++D.ls.flatten++(numB (UInt64.ofNat D.ds.length)++D.ds)
def DB.bytes(D:DB):List UInt8:=D.body++D.sg
structure DB.ok(D:DB):Prop where
  w:D.w.length=32
  prev:D.prev.length=32
  sg:D.sg.length=64
  ls:∀l∈D.ls,l.length=32
structure BlockIs(W:World)(B:Block)(D:DB):Prop where
  ok:B.ok
  w:B.fWriter=D.w
  seq:B.fSeq=D.seq
  prev:B.fPrev=D.prev
  ls:RowsAt W B.fLinks 32 D.ls
  ds:BytesAt W B.fData D.ds
  sg:B.fSig=D.sg
theorem BlockIs.dok{D:DB}(h:BlockIs W B D):D.ok:=⟨by rw[←h.w];exact h.ok.l_fWriter,by rw[←h.prev];exact h.ok.l_fPrev,by rw[←h.sg];exact h.ok.l_fSig,h.ls.row⟩
theorem BlockIs.check{D:DB}(h:BlockIs W B D):bcheck B D.ls=D.check:=by
  simp only[bcheck,bheadB,DB.check,DB.head,h.seq,h.prev,h.ls.len,h.ds.len]
theorem BlockIs.body{D:DB}(h:BlockIs W B D):bodyB B D.ls D.ds=D.body:=by
  simp only[bodyB,DB.body,h.w,h.seq,h.prev,h.ls.len,h.ds.len]
theorem BlockIs.bytes{D:DB}(h:BlockIs W B D):bytesB B D.ls D.ds=D.bytes:=by
  simp only[bytesB,DB.bytes,h.body,h.sg]
theorem acc_rows(h:Acc s bl (A3 ls) E n 32)(hl:Lies bl w)(hr:∀l∈ls,l.length=32)(hn:ls.length=n)(hm:n≤1000000):RowsAt w s 32 ls:=
  ⟨by rw[h.num,hn],hr,h.cap,h.see hl,by rw[h.num];unfold maxLen;omega,h.nilc⟩
theorem acc_bytes(h:Acc s bl (Aa l) E n 1)(hl:Lies bl w)(hn:l.length=n)(hm:n≤1000000):BytesAt w s l:=
  ⟨by rw[h.num,hn],h.cap,h.see hl,by rw[h.num];unfold maxLen;omega,h.nilc⟩
theorem zero_is(W:World):BlockIs W Block.zero DB.zero:=⟨Block.zero_ok,rfl,rfl,rfl,⟨rfl,fun l hl=>(by cases hl),Lae _,SeesP.nil,Laj _,fun _=>rfl⟩,⟨rfl,Lae _,SeesP.nil,Laj _,fun _=>rfl⟩,rfl⟩
def kW:List UInt64:=[4794697086780616226,8158064640168781261,13096744586834688815,16840607885511220156,4131703408338449720,6480981068601479193,10538285296894168987,12329834152419229976,15566598209576043074,1334009975649890238,2608012711638119052,6128411473006802146,8268148722764581231,9286055187155687089,11230858885718282805,13951009754708518548,16472876342353939154,17275323862435702243,1135362057144423861,2597628984639134821,3308224258029322869,5365058923640841347,6679025012923562964,8573033837759648693,10970295158949994411,12119686244451234320,12683024718118986047,13788192230050041572,14330467153632333762,15395433587784984357,489312712824947311,1452737877330783856,2861767655752347644,3322285676063803686,5560940570517711597,5996557281743188959,7280758554555802590,8532644243296465576,9350256976987008742,10552545826968843579,11727347734174303076,12113106623233404929,14000437183269869457,14369950271660146224,15101387698204529176,15463397548674623760,17586052441742319658,1182934255886127544,1847814050463011016,2177327727835720531,2830643537854262169,3796741975233480872,4115178125766777443,5681478168544905931,6601373596472566643,7507060721942968483,8399075790359081724,8693463985226723168,9568029438360202098,10144078919501101548,10430055236837252648,11840083180663258601,13761210420658862357,14299343276471374635,14566680578165727644,15097957966210449927,16922976911328602910,17689382322260857208,500013540394364858,748580250866718886,1242879168328830382,1977374033974150939,2944078676154940804,3659926193048069267,4368137639120453308,4836135668995329356,5532061633213252278,6448918945643986474,6902733635092675308,7801388544844847127]
def startW:List UInt64:=[7640891576956012808,13503953896175478587,4354685564936845355,11912009170470909681,5840696475078001361,11170449401992604703,2270897969802886507,6620516959819538809]
theorem sha_K  :Mv 279 [] (fun _=>True) (agg (Ah kW)):=by
 intro W hW;refine Ac func279 J 2 ntmps279 J (G2 ?_);refine .alloc (cs:=(Ah (List.replicate 80 0))) J Zr276 J ?_;intro n0 hn0 hf0;refine G4 ?_;refine .build (cs:=Ah kW) J J J (fun w=>by kernel_rfl) ?_;refine .sA J J J J zB Sz276 (by(simp[kW];done)) Z0 sP zU ?_;refine G2 ?_;refine G2 ?_;refine⟨_,[],Am J J Y276 J Sz276 Z0 (by simp[kW]),sP,sP,?_,rfl⟩;rfl
theorem sha_Start  :Mv 214 [] (fun _=>True) (agg (Ah startW)):=by
 intro W hW;refine Ac func214 J 2 ntmps214 J (G2 ?_);refine .alloc (cs:=(Ah (List.replicate 8 0))) J Zr185 J ?_;intro n0 hn0 hf0;refine G4 ?_;refine .build (cs:=Ah startW) J J J (fun w=>by kernel_rfl) ?_;refine .sA J J J J zB Sz185 (by(simp[startW];done)) Z0 sP zU ?_;refine G2 ?_;refine G2 ?_;refine⟨_,[],Am J J Y185.h J Sz185 Z0 (by simp[startW]),sP,sP,?_,rfl⟩;rfl
theorem bits_rol(x:UInt64)(k:Int)(s:Nat)(hk: -64≤k∧k≤64)(hs:(B5 k&&&63).toNat=s)(hs2:s≤63):Mv 280 [u64 x,i64 k] (fun _=>True) (u64 (rolW x s)):=by
 intro W hW;have h64:((64:UInt64)-(B5 k&&&63)).toNat=64-s:=by rw[UInt64.toNat_sub_of_le _ _ (by rw[UInt64.le_iff_toNat_le,hs];show s≤64;omega),hs];rfl
 refine Ac func280 J 17 ntmps280 J (G2 ?_);refine .a J J (show Ag _ _=some (u64 0)from rfl) (G6 ?_);refine .and_u64 J J J (show Ag _ _=some (u64 63)from rfl) (G7 ?_);refine .shl_u64 J J J J s oM oM (G2 ?_);refine .sub_u64 J J (show Ag _ _=some (u64 64)from rfl) J (.shr_u64 J J J J (64-s) oM oM (G4 ?_));refine G2 ?_;refine⟨_,[],Ae J J,sP,sP,?_,rfl⟩;rfl
theorem sha_schedule(p:List UInt8)(hp:p.length=128)(A w:List UInt64)(hA:Hid (schA p 128=A))(hwp:Hid (schB A 64=w)):Mv 278 [agg (Aa p)] (fun _=>True) (agg (Ah w)):=by
 intro W hW;have hA80:A.length=80:=by rw[←hA.out];exact schA_length p 128
 have hw80:w.length=80:=by rw[←hwp.out,schB_length];exact hA80
 refine Ac func278 J 72 ntmps278 J (G3 ?_);intro n1 hn1 hf1;refine .alloc (cs:=(Ah (List.replicate 80 0))) J Zr276 J ?_;intro n2 hn2 hf2;refine G4 ?_;refine .alloc (cs:=(Ah (List.replicate 80 0))) J Zr276 J ?_;intro n3 hn3 hf3;refine G5 ?_;refine .lA J J J underlying226 J Sz226 Z2 (by(simp[hp];done)) ?_;refine G4 ?_;refine .loop (ι:=Nat) (fun k=>⟨[(3,ptr n3 0),(2,ptr n2 0),(11,agg (Aa p)),(12,i64 (k:Int))],[⟨n3,Ah (schA p k),276,80⟩,⟨n2,Ah (List.replicate 80 0),276,80⟩]⟩) (fun k=>k≤128) (fun k=>128-k) (0) ?_ ?_ ?_
 ·omega
 ·exact Ad wN (wh1 Z0 (wh1 Z1 wh0)) nD
 rintro k hi;have hlk:=schA_length p k;refine G6 ?_;refine .condP J (fun hc0=>?_) (fun hc0=>?_)
 ·
  refine G7 ?_;refine .idxA1 J J J J underlying226 Sz5 Y5.h J _ J oM zG ?_;refine G6 ?_;refine .quo_i64 J J J J oM (G1 ?_);refine .quo_i64 J J J J oM (.i1 J J J J Y276 Sz45 (k/8) oM oM (G1 ?_));refine .shl_u64 J J J J 8 J dE (G3 ?_);refine .i1 J J J J Y276 Sz45 (k/8) oM oM (.s1 J J J J J Sz45 Z0 (by(simp[schA_length];omega)) (by exact Be _ _ _) zU ?_);refine G8 ?_;exact⟨k+1,by omega,by omega,Ad wN (wh1 Z0 (wh1 Z1 wh0)) nD⟩
 obtain rfl:k=128:=by omega
 rw[hA.out];clear hlk;refine G12 ?_;refine .loop (ι:=Nat) (fun j=>⟨[(3,ptr n3 0),(2,ptr n2 0),(6,i64 (16+(j:Int)))],[⟨n3,Ah (schB A j),276,80⟩,⟨n2,Ah (List.replicate 80 0),276,80⟩]⟩) (fun j=>j≤64) (fun j=>64-j) (0) ?_ ?_ ?_
 ·omega
 ·exact Ad wN (wh1 Z0 (wh1 Z1 wh0)) nD
 rintro j hi;have hlj:=schB_length A j;refine G7 ?_;refine .condP J (fun hc1=>?_) (fun hc1=>?_)
 ·
  refine G5 ?_;refine .draw (oP [0,1,2,103,4,5,6,107,8,9]) Ao zK (G2 ?_);refine .i1 J J J J Y276 Sz45 (j+1) oM oM (G3 ?_);refine .i1 J J J J Y276 Sz45 (j+14) oM oM (G8 ?_);refine .cV J J J J Body280 (bits_rol _ (-1) 63 dE dE dE) tV (G1 ?_);refine .cV J J J J Body280 (bits_rol _ (-8) 56 dE dE dE) tV (G2 ?_);refine .shr_u64 J J J J 7 J dE (G7 ?_);refine .cV J J J J Body280 (bits_rol _ (-19) 45 dE dE dE) tV (G1 ?_);refine .cV J J J J Body280 (bits_rol _ (-61) 3 dE dE dE) tV (G2 ?_);refine .shr_u64 J J J J 6 J dE (G4 ?_);refine .draw (oP [0,1,2,3,104,5,6,7,8,9,110,11,12,13,14,415]) Ao zK (G3 ?_);refine .i1 J J J J Y276 Sz45 j oM oM (G5 ?_);refine .i1 J J J J Y276 Sz45 (j+9) oM oM (G4 ?_);refine .i1 J J J J Y276 Sz45 (16+j) oM oM (.s1 J J J J J Sz45 Z0 (by(simp[schB_length,hA80];omega)) (by exact Be _ _ _) zU ?_);refine G9 ?_;exact⟨j+1,by omega,by omega,Ad (wk1 rfl (wk1 rfl (wk1 (congrArg (fun z=>some (i64 z)) oM) wk0))) (wh1 Z0 (wh1 Z1 wh0)) nD⟩
 obtain rfl:j=64:=by omega
 rw[hwp.out];clear hlj;refine G7 ?_;refine .lA J J J Y276 J Sz276 Z0 (by(simp[hw80];done)) ?_;refine .sA J J J J zB Sz276 (by(simp[hw80];done)) Z1 sP zV ?_;refine G2 ?_;refine G2 ?_;refine⟨_,[],Am J J Y276 J Sz276 Z1 (by simp[hw80]),sP,sP,?_,rfl⟩;rfl
theorem sha_Kk(k:List UInt64)(hk:Hid (kW=k)):Mv 279 [] (fun _=>True) (agg (Ah k)):=by
  rw[←hk.out];exact sha_K
theorem W8.l_length(R:W8):R.l.length=8:=rfl
theorem sha_Piece(st:List UInt64)(hst:st.length=8)(p:List UInt8)(hp:p.length=128)(A w k:List UInt64)(R:W8)(hA:Hid (schA p 128=A))(hwp:Hid (schB A 64=w))(hw:w.length=80)(hk:Hid (kW=k))(hk80:k.length=80)(hR:Hid (rnds k w (W8.of st) 80=R)):Mv 213 [agg (Ah st),agg (Aa p)] (fun _=>True) (agg (Ah (addUp st R.l 8))):=by
 intro W hW;refine Ac func213 J 127 ntmps213 J (G3 ?_);intro n2 hn2 hf2;refine G1 ?_;intro n3 hn3 hf3;refine .alloc (cs:=(Ah (List.replicate 8 0))) J Zr185 J ?_;intro n4 hn4 hf4;refine G4 ?_;refine .lA J J J underlying226 J Sz226 Z1 (by(simp[hp];done)) ?_;refine .cV J J J J Body278 (sha_schedule p hp A w hA hwp) tV (.cV J J J J Body279 (sha_Kk k hk) tV (.alloc (cs:=(Ah (List.replicate 80 0))) J Zr276 J ?_));intro n5 hn5 hf5;refine .alloc (cs:=(Ah (List.replicate 80 0))) J Zr276 J ?_;intro n6 hn6 hf6;refine .sA J J J J zB Sz276 (by(simp[hw];done)) Z1 sP zV ?_;refine .sA J J J J zB Sz276 (by(simp[hk80];done)) Z0 sP zU ?_;refine G3 ?_;refine .draw (oP [0,101,2,103,4,105,6,107,8,9,10,11]) Ao zK (.i1 J J J J Y185.h Sz45 0 J dE (G1 ?_));refine .i1 J J J J Y185.h Sz45 1 J dE (G1 ?_);refine .i1 J J J J Y185.h Sz45 2 J dE (G1 ?_);refine .i1 J J J J Y185.h Sz45 3 J dE (G8 ?_);refine .draw (oP [0,101,2,103,4,105,6,107,8,9,10,11]) Ao zK (.i1 J J J J Y185.h Sz45 4 J dE (G1 ?_));refine .i1 J J J J Y185.h Sz45 5 J dE (G1 ?_);refine .i1 J J J J Y185.h Sz45 6 J dE (G1 ?_);refine .i1 J J J J Y185.h Sz45 7 J dE (G14 ?_);refine .loop (ι:=Nat) (fun t=>⟨[(2,ptr n2 0),(4,ptr n4 0),(5,ptr n5 0),(6,ptr n6 0),(7,u64 (rnds k w (W8.of st) t).a),(8,u64 (rnds k w (W8.of st) t).b),(9,u64 (rnds k w (W8.of st) t).c),(10,u64 (rnds k w (W8.of st) t).d),(11,u64 (rnds k w (W8.of st) t).e),(12,u64 (rnds k w (W8.of st) t).f),(13,u64 (rnds k w (W8.of st) t).g),(14,u64 (rnds k w (W8.of st) t).h),(41,i64 (t:Int))],[⟨n6,Ah k,276,80⟩,⟨n5,Ah w,276,80⟩,⟨n4,Ah (List.replicate 8 0),185,8⟩,⟨n2,Ah st,185,(Ah st).length⟩]⟩) (fun t=>t≤80) (fun t=>80-t) (0) ?_ ?_ ?_
 ·omega
 ·exact Ad wN (wh1 Z0 (wh1 Z1 (wh1 Z2 (wh1 Z4 wh0)))) nD
 rintro t hi;refine G6 ?_;refine .condP J (fun hc0=>?_) (fun hc0=>?_)
 ·
  refine G13 ?_;refine .cV J J J J Body280 (bits_rol _ (-14) 50 dE dE dE) tV (G1 ?_);refine .cV J J J J Body280 (bits_rol _ (-18) 46 dE dE dE) tV (G2 ?_);refine .cV J J J J Body280 (bits_rol _ (-41) 23 dE dE dE) tV (G5 ?_);refine .draw (oP [0,1,2,3,4,5,6,7,8,9,10,11,12,13,114,15,16,17,118,19,20]) Ao zK (G7 ?_);refine .not_u64 J J J (G5 ?_);refine .i1 J J J J Y276 Sz45 _ J oM (G3 ?_);refine .i1 J J J J Y276 Sz45 _ J oM (G8 ?_);refine .cV J J J J Body280 (bits_rol _ (-28) 36 dE dE dE) tV (G1 ?_);refine .cV J J J J Body280 (bits_rol _ (-34) 30 dE dE dE) tV (G2 ?_);refine .cV J J J J Body280 (bits_rol _ (-39) 25 dE dE dE) tV (G51 ?_);exact⟨t+1,by omega,by omega,Ad wN (wh1 Z0 (wh1 Z1 (wh1 Z2 (wh1 Z3 wh0)))) nD⟩
 obtain rfl:t=80:=by omega
 rw[hR.out];refine G16 ?_;refine .build (cs:=Ah R.l) J J J (fun w=>by kernel_rfl) ?_;refine G4 ?_;refine .loop (ι:=Nat) (fun i=>⟨[(2,ptr n2 0),(4,ptr n4 0),(114,agg (Ah R.l)),(115,i64 (i:Int))],[⟨n4,Ah (List.replicate 8 0),185,8⟩,⟨n2,Ah (addUp st R.l i),185,(Ah st).length⟩]⟩) (fun i=>i≤8) (fun i=>8-i) (0) ?_ ?_ ?_
 ·omega
 ·exact Ad wN (wh1 Z2 (wh1 Z3 wh0)) nD
 rintro i hi;have hli:=B8 st R.l i;have hRl:=W8.l_length R;refine G6 ?_;refine .condP J (fun hc1=>?_) (fun hc1=>?_)
 ·
  refine G7 ?_;refine .idxA1 J J J J Y185.h Sz45 Y45.h J _ J oM (by exact get_words oM) ?_;refine G6 ?_;refine .i1 J J J J Y185.h Sz45 _ J oM (G3 ?_);refine .i1 J J J J Y185.h Sz45 _ J oM (.s1 J J J J J Sz45 Z1 (by(simp[hst,B8];omega)) (by exact Be _ _ _) zV ?_);refine G8 ?_;exact⟨i+1,by omega,by omega,Ad wN (wh1 Z0 (wh1 Z1 wh0)) nD⟩
 obtain rfl:i=8:=by omega
 refine G7 ?_;refine .lA J J J Y185.h J Sz185 Z1 (by(simp[hst,B8];done)) ?_;refine .sA J J J J zB Sz185 (by(simp[hst,B8];done)) Z0 sP zU ?_;refine G2 ?_;refine G2 ?_;refine⟨_,[],Am J J Y185.h J Sz185 Z0 (by simp[hst,B8]),sP,sP,?_,rfl⟩;rfl
theorem sha_sum(st:List UInt64)(hst:st.length=8)(s:List UInt8)(hs:Hid (sumUp st 64=s)):Mv 173 [agg (Ah st)] (fun _=>True) (agg (Aa s)):=by
 intro W hW;have hs64:s.length=64:=by rw[←hs.out];exact Cb st 64
 refine Ac func173 J 22 ntmps173 J (G3 ?_);intro n1 hn1 hf1;refine .alloc (cs:=(Aa (List.replicate 64 0))) J Zr47 J ?_;intro n2 hn2 hf2;refine G4 ?_;refine .alloc (cs:=(Aa (List.replicate 64 0))) J Zr47 J ?_;intro n3 hn3 hf3;refine G9 ?_;refine .loop (ι:=Nat) (fun k=>⟨[(1,ptr n1 0),(2,ptr n2 0),(3,ptr n3 0),(5,i64 (k:Int))],[⟨n3,Aa (sumUp st k),47,64⟩,⟨n2,Aa (List.replicate 64 0),47,64⟩,⟨n1,Ah st,185,(Ah st).length⟩]⟩) (fun k=>k≤64) (fun k=>64-k) (0) ?_ ?_ ?_
 ·omega
 ·exact Ad wN (wh1 Z0 (wh1 Z1 (wh1 Z2 wh0))) nD
 rintro k hi;have hlk:=Cb st k;refine G6 ?_;refine .condP J (fun hc0=>?_) (fun hc0=>?_)
 ·
  refine G13 ?_;refine .quo_i64 J J J J oM (.i1 J J J J Y185.h Sz45 (k/8) oM oM (G2 ?_));refine .rem_i64 J J J J oM (.mul_i64 J J J J oM (G1 ?_));refine .shr_u64 J J J J (56-8*(k%8)) oM oM (G1 ?_);refine .i1 J J J J Y47.h Sz5 _ J oM (.s1 J J J J J Sz5 Z0 (by(simp[Cb];omega)) (by exact Bi _ _ _) zU ?_);refine G8 ?_;exact⟨k+1,by omega,by omega,Ad wN (wh1 Z0 (wh1 Z1 (wh1 Z2 wh0))) nD⟩
 obtain rfl:k=64:=by omega
 rw[hs.out];clear hlk;refine G7 ?_;refine .lA J J J Y47.h J Sz47 Z0 (by(simp[hs64];done)) ?_;refine .sA J J J J zE Sz47 (by(simp[hs64];done)) Z1 sP zV ?_;refine G2 ?_;refine G2 ?_;refine⟨_,[],Am J J Y47.h J Sz47 Z1 (by simp[hs64]),sP,sP,?_,rfl⟩;rfl
end Go.Proofs.YtpogmfngccolbaaGreat
end
