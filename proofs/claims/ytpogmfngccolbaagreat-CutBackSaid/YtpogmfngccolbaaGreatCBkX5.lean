/- Contracts of functions of the loaded program, and the lemmas that they need (part 5). It proves no statement by itself; it has no conditions. -/
import Derived.WalkKit
import Derived.Orders
import Derived.Deep.LoopGhost
import Derived.IntWalk
import Derived.Laws.StructEq
import Derived.ArgAppend
import Derived.Deep.AppendSrc
import Derived.Lib.Bytealg
import Derived.Lib.BytesEntry
import Derived.Laws.IdiomStrings
import Derived.WideKeyArr2
import Derived.ProofKit
import Derived.OpenShut
import Derived.Deep.Slices
import Derived.Laws.Pointers
import Derived.Laws.Cover3
import Derived.LaidEqlPtr
import Derived.LoopN
import Derived.RangeFuncLeaves
import Derived.RangeFuncSeq
import Derived.OrdersIn
import Derived.Maps.Keyed
import Derived.Maps.RangeRun
import Derived.DeepKeys4
import Derived.Below
import Derived.Test.YtpogmfngccolbaaGreatRows
import Derived.KernelRfl
import Derived.Laws.Externs
import Derived.Defers
import Derived.Laws.MathBits
import Derived.Shelf.SlSortCmp.WholeK
import Derived.Shelf.SlGeneric
import Derived.Test.YtpogmfngccolbaaGreatProg
import Derived.Shelf.SlSortCmp.NoneTotal
import Derived.Deep.QuietTactic
import Derived.BigQuiet
import Derived.ScopeJumps
import Derived.DeepKeys3
import Derived.ChangeOld
import Derived.JoinedOf
import Derived.Test.YtpogmfngccolbaaGreatCBkX4
set_option maxRecDepth 100000
set_option maxHeartbeats 8000000
set_option linter.unusedVariables false
set_option linter.unusedSimpArgs false
set_option linter.unusedSectionVars false
set_option linter.unnecessarySimpa false
section
namespace Go.Proofs.YtpogmfngccolbaaGreat
open Go Hw _root_.Go.Proofs.Tryz
open Ed
variable{N i k m:Nat}{a b:List UInt8}{w x y:List Nat}
theorem bits_even(h:(i:Int).tmod 2=0):A4 i=26:=by
  unfold A4;have e:(i:Int).tmod 2=((i%2:Nat):Int):=rfl;rw[if_pos oM]
theorem bits_odd(h:¬(i:Int).tmod 2=0):A4 i=25:=by
  unfold A4;have e:(i:Int).tmod 2=((i%2:Nat):Int):=rfl;rw[if_neg oM]
theorem bits_w(i:Nat):((UInt64.ofNat (A4 i)).toNat:Int)=((A4 i:Nat):Int):=by
  have:=bits_26 i;rw[Lb2,Laa oM]
theorem bits_wn(i:Nat):(UInt64.ofNat (A4 i)).toNat=A4 i:=by
  have:=bits_26 i;rw[Lb2,Laa oM]
theorem carAt_nine(h:(k:Int)=9):Cq w (k+1)=((Cq w k).set k ((Cq w k).getD k 0%2^A4 k)).set 0 (((Cq w k).set k ((Cq w k).getD k 0%2^A4 k)).getD 0 0+19*((Cq w k).getD k 0/2^A4 k)):=stepC_nine oM
theorem carAt_low(h:¬(k:Int)=9):Cq w (k+1)=((Cq w k).set k ((Cq w k).getD k 0%2^A4 k)).set (k+1) (((Cq w k).set k ((Cq w k).getD k 0%2^A4 k)).getD (k+1) 0+(Cq w k).getD k 0/2^A4 k):=stepC_low oM
theorem opB_nine(h:(i:Int)=9):opB i=26:=if_pos oM
theorem opB_low(h:¬(i:Int)=9):opB i=A4 i:=if_neg oM
theorem natc{a b:Nat}(h:a=b):some (i64 (a:Int))=some (i64 (b:Int)):=by rw[h]
theorem r3_bits(i:Nat)(hi:i<10):Mv 303 [i64 (i:Int)] (fun _=>True) (u64 (UInt64.ofNat (A4 i))):=by
 intro W hW;refine Ac func303 J 6 ntmps303 J (G2 ?_);refine .a J J (show Af _ _=some (u64 0)from rfl) (G6 ?_);refine .rem_i64 J J J J oM (G3 ?_);refine .condP J (fun hc0=>?_) (fun hc0=>?_)
 ·
  rw[bits_even hc0];refine G2 ?_;refine .a J J (show Af _ _=some (u64 26)from rfl) (G2 ?_);refine G3 ?_;refine⟨_,[],Ae J J,sP,sP,?_,rfl⟩;rfl
 rw[bits_odd hc0];refine G4 ?_;refine .a J J (show Af _ _=some (u64 25)from rfl) (G2 ?_);refine G2 ?_;refine⟨_,[],Ae J J,sP,sP,?_,rfl⟩;rfl
theorem r3_carry(w:List Nat)(h:Mid10 w):Mv 304 [agg (Bk w)] (fun _=>True) (agg (Bk (Cr w))):=by
 intro W hW;have hlw:=h.len;obtain⟨u,hu0⟩:∃u,Hid (Cr w=u):=⟨_,⟨rfl⟩⟩;have hul:u.length=10:=by rw[←hu0.out];exact car10_length w
 rw[hu0.out];refine Ac func304 J 43 ntmps304 J (G3 ?_);intro n1 hn1 hf1;refine .alloc (cs:=(B4 (List.replicate 10 0))) J Zr262 J ?_;intro n2 hn2 hf2;refine G9 ?_;refine .loop (ι:=Nat) (fun k=>⟨[(1,ptr n1 0),(2,ptr n2 0),(3,i64 (k:Int))],[⟨n2,(B4 (List.replicate 10 0)),262,10⟩,⟨n1,Bk (Cq w k),262,(Bk w).length⟩]⟩) (fun k=>k≤10) (fun k=>10-k) (0) ?_ ?_ ?_
 ·omega
 ·exact Ad wN (wh1 Z0 (wh1 Z1 wh0)) nD
 rintro k hi;have hlc:=carAt_length h.len k;refine G7 ?_;refine .condP J (fun hc0=>?_) (fun hc0=>?_)
 ·
  have hk2:k<10:=by omega
  have ck:=carK h hk2;have hb26:=bits_26 k;have hcut:=car_cut ((Cq w k).getD k 0) (A4 k);have hx:=ck.x;have hq:=ck.q;have hsl:((Cq w k).set k ((Cq w k).getD k 0%2^A4 k)).length=10:=by rw[Lbw];exact hlc
  refine G5 ?_;refine .draw (oP [0,1,102,3,304,5,6]) Ap zK (G1 ?_);refine .i1 J J J J Cf Sz2 _ J oM (.load1 J J J Y2 J Z1 (by exact get_wds oM) ?_);refine G1 ?_;refine .cV J J J J Body303 (r3_bits k hk2) tV (.shrN ((Cq w k).getD k 0) (A4 k) J J J J (bits_w k) oM (G4 ?_));refine .draw (oP [0,1,2,103,4,5,306,7,8,9,410]) Ap zK (G2 ?_);refine .i1 J J J J Cf Sz2 _ J oM (.load1 J J J Y2 J Z1 (by exact get_wds oM) ?_);refine G2 ?_;refine .cV J J J J Body303 (r3_bits k hk2) tV (.shlN ((Cq w k).getD k 0/2^A4 k) (A4 k) J J J J (bits_w k) oM oM (.subN ((Cq w k).getD k 0) ((Cq w k).getD k 0/2^A4 k*2^A4 k) J J J J oM (.i1 J J J J Cf Sz2 _ J oM ?_)));rw[hcut.2];refine .s1 J J J J J Sz2 Z1 (by(simp[Al];omega)) (by exact set_wds _ _ _) zV ?_;refine G8 ?_;refine .condP J (fun hc1=>?_) (fun hc1=>?_)
  ·
   have hfs:=ck.fs oM;refine .region (.i1 J J J J Cf Sz2 0 J dE (.load1 J J J Y2 J Z1 (by exact get_wds oM) ?_));refine G1 ?_;refine .mulN (19) ((Cq w k).getD k 0/2^A4 k) J J J J oM (.addN (((Cq w k).set k ((Cq w k).getD k 0%2^A4 k)).getD 0 0) (19*((Cq w k).getD k 0/2^A4 k)) J J J J oM (.i1 J J J J Cf Sz2 0 J dE (.s1 J J J J J Sz2 Z1 (by(simp[Al];omega)) (by exact set_wds _ _ _) zV ?_)));refine G9 ?_;exact⟨k+1,by omega,by omega,Ad wN (wh1 Z0 (wh1 (by(rw[carAt_nine hc1];exact mem1)) wh0)) nD⟩
  have hnx:=ck.nx oM;refine G2 ?_;refine .addN (k) (1) J J J J oM (G1 ?_);refine .addN (k) (1) J J J J oM (.i1 J J J J Cf Sz2 _ J oM (.load1 J J J Y2 J Z1 (by exact get_wds oM) ?_));refine G1 ?_;refine .addN (((Cq w k).set k ((Cq w k).getD k 0%2^A4 k)).getD (k+1) 0) ((Cq w k).getD k 0/2^A4 k) J J J J oM (.i1 J J J J Cf Sz2 _ J oM (.s1 J J J J J Sz2 Z1 (by(simp[Al];omega)) (by exact set_wds _ _ _) zV ?_));refine G9 ?_;exact⟨k+1,by omega,by omega,Ad wN (wh1 Z0 (wh1 (by(rw[carAt_low hc1];exact mem1)) wh0)) nD⟩
 rw[show Cq w k=u from by rw[show k=10 by omega,carAt_eq h.len,hu0.out]];refine G7 ?_;refine .lA J J J Cf J Sz262 Z1 (by(simp[Al,hul];done)) ?_;refine .sA J J J J (by exact Cg _) Sz262 (by(simp[Al,hul];done)) Z0 sP zU ?_;refine G2 ?_;refine G2 ?_;refine⟨_,[],Am J J Cf J Sz262 Z0 (by simp[Al,hul]),sP,sP,?_,rfl⟩;rfl
theorem op_on(hi:i<10)(hb:N.testBit (Bs i+k)=true):((opAt N i).set i (N/2^Bs i%2^k)).set i (((opAt N i).set i (N/2^Bs i%2^k)).getD i 0+1*2^k)=(opAt N i).set i (N/2^Bs i%2^(k+1)):=by
  have hl:=opAt_length N i oM;rw[getD_set' oM,if_pos rfl,List.set_set,op_bit,hb,if_pos rfl,Ldi]
theorem op_off(hb:N.testBit (Bs i+k)=false):(opAt N i).set i (N/2^Bs i%2^k)=(opAt N i).set i (N/2^Bs i%2^(k+1)):=by
  rw[op_bit,hb,if_neg dE,Lbs]
theorem op_val(hi:i<10)(hk:k≤26):((opAt N i).set i (N/2^Bs i%2^k)).getD i 0≤67108864∧2^k≤67108864:=by
  have hl:=opAt_length N i oM;have h1:2^k≤2^26:=Lbu dE hk;have h2:N/2^Bs i%2^k<2^k:=Lbr _ (Lbg dE);rw[getD_set' oM,if_pos rfl];omega
theorem bit_is(h:(((UInt8.ofNat ((shr8 (a.getD (m/8) 0) (m%8)).toNat%2)).toNat:Int)=1)):(le a).testBit m=true:=by rw[←bit_rem];exact decide_eq_true h
theorem bit_isn(h:¬(((UInt8.ofNat ((shr8 (a.getD (m/8) 0) (m%8)).toNat%2)).toNat:Int)=1)):(le a).testBit m=false:=by rw[←bit_rem];exact decide_eq_false h
theorem r3_Open(a:List UInt8)(ha:a.length=32):Mv 258 [agg (Aa a)] (fun _=>True) (agg (Bk (openT (le a)))):=by
 intro W hW;obtain⟨u,hu⟩:∃u,Hid (openT (le a)=u):=⟨_,⟨rfl⟩⟩;obtain⟨D,hD⟩:∃D,Hid (opD (le a)=D):=⟨_,⟨rfl⟩⟩;have hu10:u.length=10:=by rw[←hu.out];exact openT_length _
 have hd10:D.length=10:=by rw[←hD.out];exact opD_length _
 have hc:=r3_carry D (by rw[←hD.out];exact opD_mid _);rw[show Cr D=u from by rw[←hD.out];exact hu.out]at hc;rw[hu.out];have hsl:=hd10;refine Ac func258 J 58 ntmps258 J (G3 ?_);intro n1 hn1 hf1;refine .alloc (cs:=(B4 (List.replicate 10 0))) J Zr262 J ?_;intro n2 hn2 hf2;refine G4 ?_;refine .alloc (cs:=(B4 (List.replicate 10 0))) J Zr262 J ?_;intro n3 hn3 hf3;refine G14 ?_;refine .loop (ι:=Nat) (fun i=>⟨[(1,ptr n1 0),(2,ptr n2 0),(3,ptr n3 0),(4,i64 ((Bs i:Nat):Int)),(5,i64 (i:Int))],[⟨n3,Bk (opAt (le a) i),262,10⟩,⟨n2,(B4 (List.replicate 10 0)),262,10⟩,⟨n1,Aa a,207,(Aa a).length⟩]⟩) (fun i=>i≤10) (fun i=>10-i) (0) ?_ ?_ ?_
 ·omega
 ·exact Ad wN (wh1 (by rw[show Bk (opAt (le a) 0)=B4 (List.replicate 10 0)from rfl];exact Br) (wh1 Z1 (wh1 Z2 wh0))) nD
 rintro i hi;refine G7 ?_;refine .condP J (fun hc0=>?_) (fun hc0=>?_)
 ·
  have hi2:i<10:=by omega
  have hb26:=bits_26 i;have hbw:=bits_wn i;have hop:=at_op hi2;have hopl:=op_le i;have hat:=at_le hi2;refine G7 ?_;refine .cV J J J J Body303 (r3_bits i hi2) tV (.conv J J J Y172.h Y3.h (cv_u64_i64 oM) ?_);rw[bits_wn];refine G3 ?_;refine .join (ι:=Unit) (fun _u=>⟨[(1,ptr n1 0),(2,ptr n2 0),(3,ptr n3 0),(4,i64 ((Bs i:Nat):Int)),(5,i64 (i:Int)),(6,i64 ((opB i:Nat):Int))],[⟨n3,Bk (opAt (le a) i),262,10⟩,⟨n2,(B4 (List.replicate 10 0)),262,10⟩,⟨n1,Aa a,207,(Aa a).length⟩]⟩) (fun _u=>True) ?_ ?_
  ·
   refine G6 ?_;refine .condP J (fun hc1=>?_) (fun hc1=>?_)
   ·
    refine G4 ?_
    (rw[opB_nine hc1];exact⟨(),trivial,Ad wN (wh1 Z0 (wh1 Z1 (wh1 Z2 wh0))) nD⟩)
   refine G2 ?_
   (rw[opB_low hc1];exact⟨(),trivial,Ad wN (wh1 Z0 (wh1 Z1 (wh1 Z2 wh0))) nD⟩)
  intro _u hj;skip;refine G7 ?_;refine .loop (ι:=Nat) (fun k=>⟨[(1,ptr n1 0),(2,ptr n2 0),(3,ptr n3 0),(4,i64 ((Bs i:Nat):Int)),(5,i64 (i:Int)),(6,i64 ((opB i:Nat):Int)),(7,i64 (k:Int))],[⟨n3,Bk ((opAt (le a) i).set i (le a/2^Bs i%2^k)),262,10⟩,⟨n2,(B4 (List.replicate 10 0)),262,10⟩,⟨n1,Aa a,207,(Aa a).length⟩]⟩) (fun k=>k≤opB i) (fun k=>opB i-k) (0) ?_ ?_ ?_
  ·exact Las _
  ·exact Ad wN (wh1 (by rw[opAt_first _ hi2];exact Br) (wh1 Z1 (wh1 Z2 wh0))) nD
  rintro k hk;have hsl:((opAt (le a) i).set i (le a/2^Bs i%2^k)).length=10:=by rw[Lbw];exact opAt_length _ i oM
  refine G5 ?_;refine two (fun r hr k=>Tr.lss J J J J hr k) (fun hs10_20=>?_) (fun hs10_20=>?_)
  ·
   have hs10_2:=of_decide_eq_true hs10_20;skip;refine G3 ?_;refine .addN (Bs i) (k) J J J J oM (.lss J J J J (decide_eq_true oM) (G3 ?_));refine .cond_t J J (G8 ?_);refine .addN (Bs i) (k) J J J J oM (.quoN (Bs i+k) (8) J J J J ⟨by decide,by omega⟩ ?_);refine .i1 J J J J Y207.h Sz5 _ J oM (G3 ?_);refine .addN (Bs i) (k) J J J J oM (.remN (Bs i+k) (8) J J J J dE (G1 ?_));refine .shr_u8 J J J J ((Bs i+k)%8) (by rw[wordOf_id _ oM]) oM ?_;refine .rem_u8 J J J J 2 J dE (G3 ?_);refine .condP J (fun hc3=>?_) (fun hc3=>?_)
   ·
    have hbt:=bit_is hc3;have hov:=op_val (N:=le a) hi2 (show k≤26 by omega);refine G3 ?_;refine .i1 J J J J Cf Sz2 _ J oM (.load1 J J J Y2 J Z0 (by exact get_wds oM) ?_);refine G2 ?_;refine .shlN 1 k J J J J (wordOf_id _ oM) oM oM (.addN (((opAt (le a) i).set i (le a/2^Bs i%2^k)).getD i 0) (1*2^k) J J J J oM (.i1 J J J J Cf Sz2 _ J oM (.s1 J J J J J Sz2 Z0 (by(simp[Al,hsl];omega)) (by exact set_wds _ _ _) zU ?_)));refine G9 ?_;exact⟨k+1,by omega,by omega,Ad wN (wh1 (by(rw[←op_on hi2 hbt];exact Br)) (wh1 Z1 (wh1 Z2 wh0))) nD⟩
   have hbf:=bit_isn hc3;refine G9 ?_;exact⟨k+1,by omega,by omega,Ad wN (wh1 (by(rw[←op_off hbf];exact Br)) (wh1 Z1 (wh1 Z2 wh0))) nD⟩
  have hs10_2:=of_decide_eq_false hs10_20;skip;refine G8 ?_;refine .cond_f J J (G8 ?_);refine .cV J J J J Body303 (r3_bits i hi2) tV (.conv J J J Y172.h Y3.h (cv_u64_i64 oM) ?_);rw[bits_wn];refine .addN (Bs i) (A4 i) J J J J oM (G10 ?_);exact⟨i+1,by omega,by omega,Ad (wk1 rfl (wk1 rfl (wk1 rfl (wk1 (natc (at_succ hi2)) wN)))) (wh1 (by rw[←opAt_set (le a) hi2,show opB i=k by omega];exact Br) (wh1 Z1 (wh1 Z2 wh0))) nD⟩
 rw[show opAt (le a) i=D from by rw[show i=10 by omega,opAt_ten];exact hD.out];refine G7 ?_;refine .lA J J J Cf J Sz262 Z0 (by(simp[Al,hd10];done)) ?_;refine .cV J J J J Body304 (hc) tV (.sA J J J J (by exact Cg _) Sz262 (by(simp[Al,hu10];done)) Z1 sP zV ?_);refine G2 ?_;refine G2 ?_;refine⟨_,[],Am J J Cf J Sz262 Z1 (by simp[Al,hu10]),sP,sP,?_,rfl⟩;rfl
theorem close_first(X:Nat):leb 32 (X%2^Bs 0)=List.replicate 32 0:=by
  rw[show Bs 0=0 from rfl,Ldc,Lew,leb_zero32]
theorem r3_Close(w:List Nat)(hw:Fit10 w):Mv 308 [agg (Bk w)] (fun _=>True) (agg (Aa (fb (fe (v10 w))))):=by
 intro W hW;have hlw:=hw.len;obtain⟨X,hX⟩:∃X,Hid (low10 w=X):=⟨_,⟨rfl⟩⟩;have hX255:X<2^255:=by rw[←hX.out];exact low10_lt hw
 have h4:=car10_four hw;rw[hX.out]at h4;have hfx:fe (v10 w)=fe X:=by rw[←hX.out];exact(low10_fe w).symm
 rw[hfx];have f1:Fit10 (Cr w):=car10_fit (by have:=hw.v;omega);have f2:Fit10 (Cr (Cr w)):=car10_fit (by have:=f1.v;omega);have f3:Fit10 (Cr (Cr (Cr w))):=car10_fit (by have:=f2.v;omega);have c1:=r3_carry w hw.mid;have c2:=r3_carry _ f1.mid;have c3:=r3_carry _ f2.mid;have c4:=r3_carry _ f3.mid;rw[h4]at c4;have hl1:=f1.len;have hl2:=f2.len;have hl3:=f3.len;have hDl:(dg X b10).length=10:=by rw[dg_length];rfl
 have hDb:∀i k,i<10→k<A4 i→(((((dg X b10).getD i 0/2^k%2:Nat):Int)=1)↔X.testBit (Bs i+k)=true):=fun i k h1 h2=>dg_bit_dec X h1 h2;have ht:=fun h=>not_top hX255 h;have hm:=fun i h1 h2 h=>not_mid (i:=i) hX255 h1 h2 h;have htop:=fun h1 h2 h3=>is_top hX255 h1 h2 h3;obtain⟨O,hO⟩:∃O,Hid (leb 32 X=O):=⟨_,⟨rfl⟩⟩;have hOl:O.length=32:=by rw[←hO.out];exact Ai _ _
 rw[hO.out]at ht hm htop;clear f1 f2 f3 h4;revert c1 c2 c3 c4 hl1 hl2 hl3 hDl hDb;generalize Cr (Cr (Cr w))=w3;generalize Cr (Cr w)=w2;generalize Cr w=w1;generalize dg X b10=D;intro c1 c2 c3 c4 hl1 hl2 hl3 hDl hDb;generalize hFB:fb (fe X)=FB at ht hm htop ⊢;refine Ac func308 J 77 ntmps308 J (G3 ?_);intro n1 hn1 hf1;refine .alloc (cs:=(Aa (List.replicate 32 0))) J A6 J ?_;intro n2 hn2 hf2;refine G4 ?_;refine .lA J J J Cf J Sz262 Z1 (by(simp[Al,hlw];done)) ?_;refine .cV J J J J Body304 (c1) tV (.cV J J J J Body304 (c2) tV (.cV J J J J Body304 (c3) tV (.cV J J J J Body304 (c4) tV (.sA J J J J (by exact Cg _) Sz262 (by(simp[Al,hDl];done)) Z1 (by(simp[Al,hlw];done)) zV ?_))));refine G4 ?_;refine .alloc (cs:=(Aa (List.replicate 32 0))) J A6 J ?_;intro n3 hn3 hf3;refine G14 ?_;refine .loop (ι:=Nat) (fun i=>⟨[(1,ptr n1 0),(2,ptr n2 0),(3,ptr n3 0),(4,i64 ((Bs i:Nat):Int)),(5,i64 (i:Int))],[⟨n3,Aa (leb 32 (X%2^Bs i)),207,32⟩,⟨n2,Aa (List.replicate 32 0),207,32⟩,⟨n1,Bk D,262,(Bk w).length⟩]⟩) (fun i=>i≤10) (fun i=>10-i) (0) ?_ ?_ ?_
 ·omega
 ·exact Ad wN (wh1 (by rw[close_first];exact Br) (wh1 Z1 (wh1 Z2 wh0))) nD
 rintro i hi;refine G7 ?_;refine .condP J (fun hc0=>?_) (fun hc0=>?_)
 ·
  have hi2:i<10:=by omega
  have hb26:=bits_26 i;have hbw:=bits_wn i;have hat:=at_le hi2;have hat2:=at_succ hi2;have hat3:Bs (i+1)≤255:=by unfold Bs;omega
  refine G11 ?_;refine .loop (ι:=Nat) (fun k=>⟨[(1,ptr n1 0),(2,ptr n2 0),(3,ptr n3 0),(4,i64 ((Bs i:Nat):Int)),(5,i64 (i:Int)),(6,i64 (k:Int))],[⟨n3,Aa (leb 32 (X%2^(Bs i+k))),207,32⟩,⟨n2,Aa (List.replicate 32 0),207,32⟩,⟨n1,Bk D,262,(Bk w).length⟩]⟩) (fun k=>k≤A4 i) (fun k=>A4 i-k) (0) ?_ ?_ ?_
  ·exact Las _
  ·exact Ad wN (wh1 (by rw[Lbs];exact Br) (wh1 Z1 (wh1 Z2 wh0))) nD
  rintro k hk;refine G5 ?_;refine .cV J J J J Body303 (r3_bits i hi2) tV (.conv J J J Y172.h Y3.h (cv_u64_i64 oM) ?_);rw[bits_wn];refine G3 ?_;refine .condP J (fun hc1=>?_) (fun hc1=>?_)
  ·
   refine G7 ?_;refine .i1 J J J J Cf Sz2 _ J oM (.load1 J J J Y2 J Z2 (by exact get_wds oM) ?_);refine G2 ?_;refine .shrN (D.getD i 0) (k) J J J J (wordOf_id _ oM) oM (.remN (D.getD i 0/2^k) (2) J J J J dE (G3 ?_));refine .condP J (fun hc2=>?_) (fun hc2=>?_)
   ·
    have hbt:=(hDb i k hi2 oM).1 hc2;have hbs:leb 32 (X%2^(Bs i+(k+1)))=_:=(bit_set X (m:=Bs i+k) oM hbt).symm;refine G3 ?_;refine .addN (Bs i) (k) J J J J oM (.quoN (Bs i+k) (8) J J J J ⟨by decide,by omega⟩ ?_);refine G2 ?_;refine .addN (Bs i) (k) J J J J oM (.quoN (Bs i+k) (8) J J J J ⟨by decide,by omega⟩ ?_);refine .i1 J J J J Y207.h Sz5 _ J oM (.load1 J J J Y5.h J Z0 (by exact Co (by(simp[Ai];omega))) ?_);refine G2 ?_;refine .addN (Bs i) (k) J J J J oM (.remN (Bs i+k) (8) J J J J dE (G1 ?_));refine .shl_u8 J J (show Af _ _=some (u8 1)from rfl) J ((Bs i+k)%8) (by rw[wordOf_id _ oM]) oM ?_;refine .add_u8 J J J J (.i1 J J J J Y207.h Sz5 _ J oM (.s1 J J J J J Sz5 Z0 (by(simp[Ai];omega)) (by exact Bf _ _ _) zU ?_));refine G9 ?_;exact⟨k+1,by omega,by omega,Ad wN (wh1 (by rw[hbs];exact Br) (wh1 Z1 (wh1 Z2 wh0))) nD⟩
   have hbf:X.testBit (Bs i+k)=false:=Bool.eq_false_iff.2 (fun e=>hc2 ((hDb i k hi2 oM).2 e));have hbs:leb 32 (X%2^(Bs i+(k+1)))=leb 32 (X%2^(Bs i+k)):=(bit_off X (Bs i+k) hbf).symm;refine G9 ?_;exact⟨k+1,by omega,by omega,Ad wN (wh1 (by rw[hbs];exact Br) (wh1 Z1 (wh1 Z2 wh0))) nD⟩
  refine G8 ?_;refine .cV J J J J Body303 (r3_bits i hi2) tV (.conv J J J Y172.h Y3.h (cv_u64_i64 oM) ?_);rw[bits_wn];refine .addN (Bs i) (A4 i) J J J J oM (G10 ?_);exact⟨i+1,by omega,by omega,Ad (wk1 rfl (wk1 rfl (wk1 rfl (wk1 (natc (at_succ hi2)) wN)))) (wh1 (by rw[←at_succ hi2,show A4 i=k by omega];exact Br) (wh1 Z1 (wh1 Z2 wh0))) nD⟩
 rw[show leb 32 (X%2^Bs i)=O from by rw[show Bs i=255 from by rw[show i=10 by omega];rfl,Laa hX255];exact hO.out];refine G8 ?_;refine .i1 J J J J Y207.h Sz5 0 J dE (G1 ?_);refine two (fun r hr k=>Tr.lss J J J J hr k) (fun hs13_20=>?_) (fun hs13_20=>?_)
 ·
  have hs13_2:=of_decide_eq_true hs13_20;refine G7 ?_;refine .cond_t J J (G2 ?_);refine .lA J J J Y207.h J Sz207 Z0 (by(simp[hOl];done)) ?_;refine .sA J J J J zE Sz207 (by(simp[hOl];done)) Z1 sP zV ?_;refine G2 ?_;refine G3 ?_;refine⟨_,[],Am J J Y207.h J Sz207 Z1 (by simp[hOl]),sP,sP,?_,rfl⟩;exact congrArg (fun l=>agg (Aa l)) (ht oM)
 have hs13_2:=of_decide_eq_false hs13_20;refine G1 ?_;refine .i1 J J J J Y207.h Sz5 31 J dE (G1 ?_);refine two (fun r hr k=>Tr.nei J J J J hr k) (fun hs13_60=>?_) (fun hs13_60=>?_)
 ·
  have hs13_6:=nd_t hs13_60;refine G3 ?_;refine .cond_t J J (G2 ?_);refine .lA J J J Y207.h J Sz207 Z0 (by(simp[hOl];done)) ?_;refine .sA J J J J zE Sz207 (by(simp[hOl];done)) Z1 sP zV ?_;refine G2 ?_;refine G3 ?_;refine⟨_,[],Am J J Y207.h J Sz207 Z1 (by simp[hOl]),sP,sP,?_,rfl⟩;exact congrArg (fun l=>agg (Aa l)) (ht oM)
 have hs13_6:=nd_f hs13_60;refine G3 ?_;refine .cond_f J J (G9 ?_);refine .loop (ι:=Nat) (fun j=>⟨[(2,ptr n2 0),(3,ptr n3 0),(7,i64 (j:Int))],[⟨n3,Aa O,207,32⟩,⟨n2,Aa (List.replicate 32 0),207,32⟩]⟩) (fun j=>1≤j∧j≤31∧∀m,0<m→m<j→(O.getD m 0).toNat=255) (fun j=>31-j) (1) ?_ ?_ ?_
 ·exact⟨Lad _,by omega,fun m h1 h2=>by omega⟩
 ·exact Ad wN (wh1 Z0 (wh1 Z1 wh0)) nD
 rintro j ⟨hj1,hj2,hj3⟩;refine G7 ?_;refine .condP J (fun hc4=>?_) (fun hc4=>?_)
 ·
  refine G7 ?_;refine .i1 J J J J Y207.h Sz5 _ J oM (G4 ?_);refine .condNP J (fun hc5=>?_) (fun hc5=>?_)
  ·
   refine G2 ?_;refine .lA J J J Y207.h J Sz207 Z0 (by(simp[hOl];done)) ?_;refine .sA J J J J zE Sz207 (by(simp[hOl];done)) Z1 sP zV ?_;refine G2 ?_;refine G7 ?_;refine⟨_,[],Am J J Y207.h J Sz207 Z1 (by simp[hOl]),sP,sP,?_,rfl⟩;exact congrArg (fun l=>agg (Aa l)) (hm j oM oM oM)
  refine G9 ?_;exact⟨j+1,⟨by omega,by omega,fun m h1 h2=>by
    by_cases e:m=j
    ·rw[e];omega
    ·exact hj3 m h1 oM⟩,by omega,Ad wN (wh1 Z0 (wh1 Z1 wh0)) nD⟩
 refine G7 ?_;refine .i1 J J J J Y207.h Sz5 0 J dE (G1 ?_);refine .sub_u8 J J J (show Af _ _=some (u8 237)from rfl) (.build (cs:=Aa ((O.getD 0 0-237)::List.replicate 31 0)) J J J (fun w=>by kernel_rfl) ?_);refine .sA J J J J zE Sz207 (by(simp[hOl];done)) Z1 sP zV ?_;refine G2 ?_;refine G2 ?_;refine⟨_,[],Am J J Y207.h J Sz207 Z1 (by simp[hOl]),sP,sP,?_,rfl⟩;exact congrArg (fun l=>agg (Aa l)) (htop oM oM (fun m h1 h2=>hj3 m h1 oM))
def p1(i:Nat):Nat:=2^A4 i-1-(if i=0 then 18 else 0)
theorem p1_z(h:(i:Int)=0):p1 i=1*2^A4 i-1-18:=by rw[p1,if_pos oM,Ldi]
theorem p1_n(h:¬(i:Int)=0):p1 i=1*2^A4 i-1:=by rw[p1,if_neg oM,Ldi,Lgc]
theorem p4_p1(i:Nat):p4 i=4*p1 i:=rfl
def cf2(i k:Nat):Nat:=if i%2=1∧k%2=1 then 2 else 1
theorem cf2_t(P:Nat)(h:((i%2:Nat):Int)=1)(h2:((k%2:Nat):Int)=1):cf2 i k*P=2*P:=by rw[cf2,if_pos ⟨by omega,by omega⟩]
theorem cf2_a(P:Nat)(h:¬((i%2:Nat):Int)=1):cf2 i k*P=P:=by rw[cf2,if_neg (fun e=>h oM),Ldi]
theorem cf2_b(P:Nat)(h:¬((k%2:Nat):Int)=1):cf2 i k*P=P:=by rw[cf2,if_neg (fun e=>h oM),Ldi]
theorem cf2_le(i k:Nat):cf2 i k≤2:=by unfold cf2;split<;>omega
theorem coef_hi(P:Nat)(h:(9:Int)<((i+k:Nat):Int)):coef i k*P=19*(cf2 i k*P):=by
  rw[coef,if_pos oM,Lbl];rfl
theorem coef_lo(P:Nat)(h:¬(9:Int)<((i+k:Nat):Int)):coef i k*P=cf2 i k*P:=by
  rw[coef,if_neg oM,Ldi];rfl
theorem tRow_bd(hx:Fit10 x)(hy:Fit10 y)(hi:i<10)(hk:k≤10)(hm:m<10):(tRow x y i (tAll x y i) k).getD m 0≤6845471433603153920:=by
  have h1:=tRow_le hi (fun k hk=>term_le hx hy i k hi hk) (tAll_length x y i) k hk m hm;have h2:=tAll_le (term_le hx hy) i oM m hm;have h3:(if(m+10-i)%10<k then 38*(2^27*2^27)else 0)≤38*(2^27*2^27):=by split<;>omega
  omega
theorem prod_le(hx:Fit10 x)(hy:Fit10 y)(hi:i<10)(hk:k<10):x.getD i 0*y.getD k 0≤18014398509481984:=
  Lbk (Lck (Lg3 (hx.all hi)) (Lg3 (hy.all hk))) dE
theorem r3_Plus(x y:List Nat)(hx:Fit10 x)(hy:Fit10 y):Mv 307 [agg (Bk x),agg (Bk y)] (fun _=>True) (agg (Bk (plusT x y))):=by
 intro W hW;have hxl:=hx.len;have hyl:=hy.len;obtain⟨A,hA⟩:∃A,Hid (addAt x y 10=A):=⟨_,⟨rfl⟩⟩;obtain⟨U,hU⟩:∃U,Hid (plusT x y=U):=⟨_,⟨rfl⟩⟩;have hAl:A.length=10:=by rw[←hA.out];exact addAt_length y hx.len 10
 have hUl:U.length=10:=by rw[←hU.out];exact car10_length _
 have hc:=r3_carry A (by rw[←hA.out];exact addAt_mid hx hy);rw[show Cr A=U from by rw[←hA.out];exact hU.out]at hc;rw[hU.out];have hal:=hAl;refine Ac func307 J 21 ntmps307 J (G3 ?_);intro n2 hn2 hf2;refine G1 ?_;intro n3 hn3 hf3;refine .alloc (cs:=(B4 (List.replicate 10 0))) J Zr262 J ?_;intro n4 hn4 hf4;refine G9 ?_;refine .loop (ι:=Nat) (fun i=>⟨[(2,ptr n2 0),(3,ptr n3 0),(4,ptr n4 0),(5,i64 (i:Int))],[⟨n4,(B4 (List.replicate 10 0)),262,10⟩,⟨n3,Bk y,262,(Bk y).length⟩,⟨n2,Bk (addAt x y i),262,(Bk x).length⟩]⟩) (fun i=>i≤10) (fun i=>10-i) (0) ?_ ?_ ?_
 ·omega
 ·exact Ad wN (wh1 Z0 (wh1 Z1 (wh1 Z2 wh0))) nD
 rintro i hi;have hal:=addAt_length y hxl i;refine G7 ?_;refine .condP J (fun hc0=>?_) (fun hc0=>?_)
 ·
  have hi2:i<10:=by omega
  have hxi:(addAt x y i).getD i 0=x.getD i 0+0:=by rw[addAt_get hx.len i oM i hi2,if_neg oM]
  have hx2:=hx.all hi2;have hy2:=hy.all hi2;refine G4 ?_;refine .draw (oP [0,1,2,103,4,5,106,7,8,409]) Ap zK (G2 ?_);refine .i1 J J J J Cf Sz2 _ J oM (.load1 J J J Y2 J Z2 (by exact get_wds oM) ?_);refine G1 ?_;refine .i1 J J J J Cf Sz2 _ J oM (.load1 J J J Y2 J Z1 (by exact get_wds oM) ?_);refine .addN ((addAt x y i).getD i 0) (y.getD i 0) J J J J oM (.i1 J J J J Cf Sz2 _ J oM (.s1 J J J J J Sz2 Z2 (by(simp[Al,hal];omega)) (by exact set_wds _ _ _) (by exact upd2) ?_));refine G9 ?_;exact⟨i+1,by omega,by omega,Ad wN (wh1 Z0 (wh1 Z1 (wh1 Z2 wh0))) nD⟩
 rw[show addAt x y i=A from by rw[show i=10 by omega];exact hA.out];refine G7 ?_;refine .lA J J J Cf J Sz262 Z2 (by(simp[Al,hAl];done)) ?_;refine .cV J J J J Body304 (hc) tV (.sA J J J J (by exact Cg _) Sz262 (by(simp[Al,hUl];done)) Z0 sP zU ?_);refine G2 ?_;refine G2 ?_;refine⟨_,[],Am J J Cf J Sz262 Z0 (by simp[Al,hUl]),sP,sP,?_,rfl⟩;rfl
theorem r3_Minus(x y:List Nat)(hx:Fit10 x)(hy:Fit10 y):Mv 306 [agg (Bk x),agg (Bk y)] (fun _=>True) (agg (Bk (minusT x y))):=by
 intro W hW;have hxl:=hx.len;have hyl:=hy.len;obtain⟨A,hA⟩:∃A,Hid (subAt x y 10=A):=⟨_,⟨rfl⟩⟩;obtain⟨U,hU⟩:∃U,Hid (minusT x y=U):=⟨_,⟨rfl⟩⟩;have hAl:A.length=10:=by rw[←hA.out];exact subAt_length y hx.len 10
 have hUl:U.length=10:=by rw[←hU.out];exact car10_length _
 have hc:=r3_carry A (by rw[←hA.out];exact subAt_mid hx);rw[show Cr A=U from by rw[←hA.out];exact hU.out]at hc;rw[hU.out];have hal:=hAl;refine Ac func306 J 33 ntmps306 J (G3 ?_);intro n2 hn2 hf2;refine G1 ?_;intro n3 hn3 hf3;refine .alloc (cs:=(B4 (List.replicate 10 0))) J Zr262 J ?_;intro n4 hn4 hf4;refine G9 ?_;refine .loop (ι:=Nat) (fun i=>⟨[(2,ptr n2 0),(3,ptr n3 0),(4,ptr n4 0),(5,i64 (i:Int))],[⟨n4,(B4 (List.replicate 10 0)),262,10⟩,⟨n3,Bk y,262,(Bk y).length⟩,⟨n2,Bk (subAt x y i),262,(Bk x).length⟩]⟩) (fun i=>i≤10) (fun i=>10-i) (0) ?_ ?_ ?_
 ·omega
 ·exact Ad wN (wh1 Z0 (wh1 Z1 (wh1 Z2 wh0))) nD
 rintro i hi;have hal:=subAt_length y hxl i;refine G7 ?_;refine .condP J (fun hc0=>?_) (fun hc0=>?_)
 ·
  have hi2:i<10:=by omega
  have hxi:(subAt x y i).getD i 0=x.getD i 0+0:=by rw[subAt_get hx.len i oM i hi2,if_neg oM]
  have hx2:=hx.all hi2;have hy2:=hy.all hi2;have hpg:=p4_ge hy hi2;have hpl:=p4_le i;rw[p4_p1]at hpg hpl;have hbg:=bits_ge i;have hbl:=bits_le i;have hb26:=bits_26 i;have hsub:(subAt x y i).getD i 0+4*p1 i-y.getD i 0=(subAt x y i).getD i 0+(p4 i-y.getD i 0):=by rw[p4_p1];omega
  refine G7 ?_;refine .cV J J J J Body303 (r3_bits i hi2) tV (.shlN (1) (A4 i) J J J J (bits_w i) oM oM (.subN (1*2^A4 i) (1) J J J J oM (G3 ?_)));refine .join (ι:=Unit) (fun _u=>⟨[(2,ptr n2 0),(3,ptr n3 0),(4,ptr n4 0),(5,i64 (i:Int)),(6,i64 ((p1 i:Nat):Int))],[⟨n4,(B4 (List.replicate 10 0)),262,10⟩,⟨n3,Bk y,262,(Bk y).length⟩,⟨n2,Bk (subAt x y i),262,(Bk x).length⟩]⟩) (fun _u=>True) ?_ ?_
  ·
   refine G6 ?_;refine .condP J (fun hc1=>?_) (fun hc1=>?_)
   ·
    refine G2 ?_;refine .subN (1*2^A4 i-1) (18) J J J J oM (G3 ?_)
    (rw[p1_z hc1];exact⟨(),trivial,Ad wN (wh1 Z0 (wh1 Z1 (wh1 Z2 wh0))) nD⟩)
   refine G2 ?_
   (rw[p1_n hc1];exact⟨(),trivial,Ad wN (wh1 Z0 (wh1 Z1 (wh1 Z2 wh0))) nD⟩)
  intro _u hj;skip;refine .draw (oP [0,1,2,103,4,5,6,7,8,109,10,11,412]) Ap zK (G2 ?_);refine .i1 J J J J Cf Sz2 _ J oM (.load1 J J J Y2 J Z2 (by exact get_wds oM) ?_);refine G1 ?_;refine .mulN (4) (p1 i) J J J J oM (.addN ((subAt x y i).getD i 0) (4*p1 i) J J J J oM (G1 ?_));refine .i1 J J J J Cf Sz2 _ J oM (.load1 J J J Y2 J Z1 (by exact get_wds oM) ?_);refine .subN ((subAt x y i).getD i 0+4*p1 i) (y.getD i 0) J J J J oM (.i1 J J J J Cf Sz2 _ J oM ?_);rw[hsub];refine .s1 J J J J J Sz2 Z2 (by(simp[Al,hal];omega)) (by exact set_wds _ _ _) (by exact upd2) ?_;refine G9 ?_;exact⟨i+1,by omega,by omega,Ad wN (wh1 Z0 (wh1 Z1 (wh1 Z2 wh0))) nD⟩
 rw[show subAt x y i=A from by rw[show i=10 by omega];exact hA.out];refine G7 ?_;refine .lA J J J Cf J Sz262 Z2 (by(simp[Al,hAl];done)) ?_;refine .cV J J J J Body304 (hc) tV (.sA J J J J (by exact Cg _) Sz262 (by(simp[Al,hUl];done)) Z0 sP zU ?_);refine G2 ?_;refine G2 ?_;refine⟨_,[],Am J J Cf J Sz262 Z0 (by simp[Al,hUl]),sP,sP,?_,rfl⟩;rfl
theorem r3_Times(x y:List Nat)(hx:Fit10 x)(hy:Fit10 y):Mv 305 [agg (Bk x),agg (Bk y)] (fun _=>True) (agg (Bk (mulT x y))):=by
 intro W hW;have hxl:=hx.len;have hyl:=hy.len;obtain⟨A,hA⟩:∃A,Hid (tAll x y 10=A):=⟨_,⟨rfl⟩⟩;obtain⟨U,hU⟩:∃U,Hid (Cr (tAll x y 10)=U):=⟨_,⟨rfl⟩⟩;have hAl:A.length=10:=by rw[←hA.out];exact tAll_length x y 10
 have hUl:U.length=10:=by rw[←hU.out];exact car10_length _
 have hc:=r3_carry A (by rw[←hA.out];exact tAll_mid hx hy);rw[show Cr A=U from by rw[←hA.out];exact hU.out]at hc;have hcc:=r3_carry U (by rw[←hU.out];exact car10_mid (tAll_v10 hx hy));obtain⟨V,hV⟩:∃V,Hid (mulT x y=V):=⟨_,⟨rfl⟩⟩;have hVl:V.length=10:=by rw[←hV.out];exact car10_length _
 rw[show Cr U=V from by rw[←hU.out];exact hV.out]at hcc;rw[hV.out];have hal:=hAl;refine Ac func305 J 56 ntmps305 J (G3 ?_);intro n2 hn2 hf2;refine G1 ?_;intro n3 hn3 hf3;refine .alloc (cs:=(B4 (List.replicate 10 0))) J Zr262 J ?_;intro n4 hn4 hf4;refine G4 ?_;refine .alloc (cs:=(B4 (List.replicate 10 0))) J Zr262 J ?_;intro n5 hn5 hf5;refine G9 ?_;refine .loop (ι:=Nat) (fun i=>⟨[(2,ptr n2 0),(3,ptr n3 0),(4,ptr n4 0),(5,ptr n5 0),(6,i64 (i:Int))],[⟨n5,Bk (tAll x y i),262,10⟩,⟨n4,(B4 (List.replicate 10 0)),262,10⟩,⟨n3,Bk y,262,(Bk y).length⟩,⟨n2,Bk x,262,(Bk x).length⟩]⟩) (fun i=>i≤10) (fun i=>10-i) (0) ?_ ?_ ?_
 ·omega
 ·exact Ad wN (wh1 (by rw[show Bk (tAll x y 0)=B4 (List.replicate 10 0)from rfl];exact Br) (wh1 Z1 (wh1 Z2 (wh1 Z3 wh0)))) nD
 rintro i hi;refine G7 ?_;refine .condP J (fun hc0=>?_) (fun hc0=>?_)
 ·
  have hi2:i<10:=by omega
  refine G10 ?_;refine .loop (ι:=Nat) (fun k=>⟨[(2,ptr n2 0),(3,ptr n3 0),(4,ptr n4 0),(5,ptr n5 0),(6,i64 (i:Int)),(7,i64 (k:Int))],[⟨n5,Bk (tRow x y i (tAll x y i) k),262,10⟩,⟨n4,(B4 (List.replicate 10 0)),262,10⟩,⟨n3,Bk y,262,(Bk y).length⟩,⟨n2,Bk x,262,(Bk x).length⟩]⟩) (fun k=>k≤10) (fun k=>10-k) (0) ?_ ?_ ?_
  ·omega
  ·exact Ad wN (wh1 Z0 (wh1 Z1 (wh1 Z2 (wh1 Z3 wh0)))) nD
  rintro k hk;have hal:=tRow_length x y i (tAll_length x y i) k;refine G7 ?_;refine .condP J (fun hc1=>?_) (fun hc1=>?_)
  ·
   have hk2:k<10:=by omega
   have hxy:=prod_le hx hy hi2 hk2;have hcf:cf2 i k*(x.getD i 0*y.getD k 0)≤2*18014398509481984:=Lck (cf2_le i k) hxy;have hco:=term_le hx hy i k hi2 hk2;have hbd:=tRow_bd hx hy (m:=(i+k)%10) hi2 (show k≤10 by omega) (Lbr _ dE);refine G5 ?_;refine .draw (oP [0,1,102,3,4,105,6,7]) Ap zK (G1 ?_);refine .i1 J J J J Cf Sz2 _ J oM (.load1 J J J Y2 J Z3 (by exact get_wds oM) ?_);refine G1 ?_;refine .i1 J J J J Cf Sz2 _ J oM (.load1 J J J Y2 J Z2 (by exact get_wds oM) ?_);refine .mulN (x.getD i 0) (y.getD k 0) J J J J oM (G3 ?_);refine .join (ι:=Unit) (fun _u=>⟨[(2,ptr n2 0),(3,ptr n3 0),(4,ptr n4 0),(5,ptr n5 0),(6,i64 (i:Int)),(7,i64 (k:Int)),(8,i64 ((cf2 i k*(x.getD i 0*y.getD k 0):Nat):Int))],[⟨n5,Bk (tRow x y i (tAll x y i) k),262,10⟩,⟨n4,(B4 (List.replicate 10 0)),262,10⟩,⟨n3,Bk y,262,(Bk y).length⟩,⟨n2,Bk x,262,(Bk x).length⟩]⟩) (fun _u=>True) ?_ ?_
   ·
    refine G3 ?_;refine .remN (i) (2) J J J J dE (two (fun r hr k=>Tr.eqi J J J J hr k) (fun hs9_20=>?_) (fun hs9_20=>?_))
    ·
     have hs9_2:=of_decide_eq_true hs9_20;refine G2 ?_;refine .remN (k) (2) J J J J dE (two (fun r hr k=>Tr.eqi J J J J hr k) (fun hs9_60=>?_) (fun hs9_60=>?_))
     ·
      have hs9_6:=of_decide_eq_true hs9_60;refine G3 ?_;refine .cond_t J J (G2 ?_);refine .mulN (2) (x.getD i 0*y.getD k 0) J J J J oM (G3 ?_)
      (rw[cf2_t _ hs9_2 hs9_6];exact⟨(),trivial,Ad wN (wh1 Z0 (wh1 Z1 (wh1 Z2 (wh1 Z3 wh0)))) nD⟩)
     have hs9_6:=of_decide_eq_false hs9_60;refine G3 ?_;refine .cond_f J J (G2 ?_)
     (rw[cf2_b _ hs9_6];exact⟨(),trivial,Ad wN (wh1 Z0 (wh1 Z1 (wh1 Z2 (wh1 Z3 wh0)))) nD⟩)
    have hs9_2:=of_decide_eq_false hs9_20;refine G7 ?_;refine .cond_f J J (G2 ?_)
    (rw[cf2_a _ hs9_2];exact⟨(),trivial,Ad wN (wh1 Z0 (wh1 Z1 (wh1 Z2 (wh1 Z3 wh0)))) nD⟩)
   intro _u hj;skip;refine .join (ι:=Unit) (fun _u=>⟨[(2,ptr n2 0),(3,ptr n3 0),(4,ptr n4 0),(5,ptr n5 0),(6,i64 (i:Int)),(7,i64 (k:Int)),(8,i64 ((coef i k*(x.getD i 0*y.getD k 0):Nat):Int))],[⟨n5,Bk (tRow x y i (tAll x y i) k),262,10⟩,⟨n4,(B4 (List.replicate 10 0)),262,10⟩,⟨n3,Bk y,262,(Bk y).length⟩,⟨n2,Bk x,262,(Bk x).length⟩]⟩) (fun _u=>True) ?_ ?_
   ·
    refine G4 ?_;refine .addN (i) (k) J J J J oM (G3 ?_);refine .condP J (fun hc3=>?_) (fun hc3=>?_)
    ·
     refine G2 ?_;refine .mulN (19) (cf2 i k*(x.getD i 0*y.getD k 0)) J J J J oM (G3 ?_)
     (rw[coef_hi _ hc3];exact⟨(),trivial,Ad wN (wh1 Z0 (wh1 Z1 (wh1 Z2 (wh1 Z3 wh0)))) nD⟩)
    refine G2 ?_
    (rw[coef_lo _ hc3];exact⟨(),trivial,Ad wN (wh1 Z0 (wh1 Z1 (wh1 Z2 (wh1 Z3 wh0)))) nD⟩)
   intro _u hj;skip;refine G3 ?_;refine .addN (i) (k) J J J J oM (.remN (i+k) (10) J J J J dE (G2 ?_));refine .addN (i) (k) J J J J oM (.remN (i+k) (10) J J J J dE (.i1 J J J J Cf Sz2 _ J oM (.load1 J J J Y2 J Z0 (by exact get_wds oM) ?_)));refine G1 ?_;refine .addN ((tRow x y i (tAll x y i) k).getD ((i+k)%10) 0) (coef i k*(x.getD i 0*y.getD k 0)) J J J J oM (.i1 J J J J Cf Sz2 _ J oM (.s1 J J J J J Sz2 Z0 (by(simp[Al,hal];omega)) (by exact set_wds _ _ _) zU ?_));refine G9 ?_;exact⟨k+1,by omega,by omega,Ad wN (wh1 Z0 (wh1 Z1 (wh1 Z2 (wh1 Z3 wh0)))) nD⟩
  refine G12 ?_;exact⟨i+1,by omega,by omega,Ad wN (wh1 (by rw[show tAll x y (i+1)=(tRow x y i (tAll x y i) k)from by rw[show k=10 by omega];rfl];exact Br) (wh1 Z1 (wh1 Z2 (wh1 Z3 wh0)))) nD⟩
 rw[show tAll x y i=A from by rw[show i=10 by omega];exact hA.out];refine G7 ?_;refine .lA J J J Cf J Sz262 Z0 (by(simp[Al,hAl];done)) ?_;refine .cV J J J J Body304 (hc) tV (.cV J J J J Body304 (hcc) tV (.sA J J J J (by exact Cg _) Sz262 (by(simp[Al,hVl];done)) Z1 sP zV ?_));refine G2 ?_;refine G2 ?_;refine⟨_,[],Am J J Cf J Sz262 Z1 (by simp[Al,hVl]),sP,sP,?_,rfl⟩;rfl
theorem o_fit(ha:a.length=32):Fit10 (openT (le a)):=openT_fit (le32 ha)
theorem o_v(ha:a.length=32):fe (v10 (openT (le a)))=fe (le a):=openT_v (le32 ha)
theorem r3_Close_v(w:List Nat)(hw:Fit10 w)(X:Fp)(h:fe (v10 w)=X):Mv 308 [agg (Bk w)] (fun _=>True) (agg (Aa (fb X))):=by
  rw[←h];exact r3_Close w hw
theorem r3_Rest(a:List UInt8)(ha:a.length=32):Mv 300 [agg (Aa a)] (fun _=>True) (agg (Aa (fb (fe (le a))))):=by
 intro W hW;refine Ac func300 J 6 ntmps300 J (G3 ?_);intro n1 hn1 hf1;refine .alloc (cs:=(Aa (List.replicate 32 0))) J A6 J ?_;intro n2 hn2 hf2;refine G4 ?_;refine .lA J J J Y207.h J Sz207 Z1 (by(simp[ha];done)) ?_;refine .cV J J J J Body258 (r3_Open (a) (ha)) tV (.cV J J J J Body308 (r3_Close_v (_) (o_fit ha) (_) (o_v ha)) tV (.sA J J J J zE Sz207 zF Z0 sP zU ?_));refine G2 ?_;refine G2 ?_;refine⟨_,[],Am J J Y207.h J Sz207 Z0 (by simp[An]),sP,sP,?_,rfl⟩;rfl
theorem r3_Canon(a:List UInt8)(ha:a.length=32):Mv 251 [agg (Aa a)] (fun _=>True) (.bool (decide (fb (fe (le a))=a))):=by
 intro W hW;refine Ac func251 J 7 ntmps251 J (G3 ?_);intro n1 hn1 hf1;refine G4 ?_;refine .draw (oP [100,102,301,3,4]) Ap zK (.lA J J J Y207.h J Sz207 Z0 (by(simp[ha];done)) ?_);refine .lA J J J Y207.h J Sz207 Z0 (by(simp[ha];done)) ?_;refine .cV J J J J Body300 (r3_Rest (a) (ha)) tV (.eql_bytes J J J J eqGuardType207 Y207.h Y5.h Sz5 zF (by(simp[ha];done)) J ?_);refine G3 ?_;refine G2 ?_;refine⟨_,[],Ae J J,sP,sP,?_,rfl⟩;rfl
theorem r3_Same(a b:List UInt8)(ha:a.length=32)(hb:b.length=32):Mv 325 [agg (Aa a),agg (Aa b)] (fun _=>True) (.bool (decide (fe (le a)=fe (le b)))):=by
 intro W hW;refine Ac func325 J 10 ntmps325 J (G3 ?_);intro n2 hn2 hf2;refine G1 ?_;intro n3 hn3 hf3;refine G4 ?_;refine .draw (oP [100,102,301,303,4,5]) Ap zK (.lA J J J Y207.h J Sz207 Z1 (by(simp[ha];done)) ?_);refine .lA J J J Y207.h J Sz207 Z0 (by(simp[hb];done)) ?_;refine .cV J J J J Body300 (r3_Rest (a) (ha)) tV (.cV J J J J Body300 (r3_Rest (b) (hb)) tV (.eql_bytes J J J J eqGuardType207 Y207.h Y5.h Sz5 zF zF J (G3 ?_)));refine G2 ?_;refine⟨_,[],Ae J J,sP,sP,?_,rfl⟩;rw[fb_dec]
theorem odd_byte2(x:Fp):decide (((UInt8.ofNat (((fb x).getD 0 0).toNat%2)).toNat:Int)=1)=decide (x.val%2=1):=by
  have e:(UInt8.ofNat (((fb x).getD 0 0).toNat%2)).toNat=x.val%2:=by
    rw[fb_head,Lay,Lay];omega
  rw[e];congr 1;exact propext ⟨fun h=>by omega,fun h=>by omega⟩
theorem r3_Odd(a:List UInt8)(ha:a.length=32):Mv 312 [agg (Aa a)] (fun _=>True) (.bool (decide ((fe (le a)).val%2=1))):=by
 intro W hW;refine Ac func312 J 8 ntmps312 J (G3 ?_);intro n1 hn1 hf1;refine G5 ?_;refine .lA J J J Y207.h J Sz207 Z0 (by(simp[ha];done)) ?_;refine .cV J J J J Body300 (r3_Rest (a) (ha)) tV (.idxA1 J J J J Y207.h Sz5 Y5.h J 0 J oM (by rfl) ?_);refine .rem_u8 J J J J 2 J dE (G4 ?_);refine G2 ?_;refine⟨_,[],Ae J J,sP,sP,?_,rfl⟩;exact congrArg Value.bool (odd_byte2 _)
theorem r3_Of(x:UInt64):Mv 265 [u64 x] (fun _=>True) (agg (Aa (fb (fe x.toNat)))):=by
 intro W hW;have hpl:True:=trivial;refine Ac func265 J 18 ntmps265 J (G2 ?_);refine .alloc (cs:=(Aa (List.replicate 32 0))) J A6 J ?_;intro n2 hn2 hf2;refine G4 ?_;refine .alloc (cs:=(Aa (List.replicate 32 0))) J A6 J ?_;intro n3 hn3 hf3;refine G9 ?_;refine .loop (ι:=Nat) (fun k=>⟨[(0,u64 x),(2,ptr n2 0),(3,ptr n3 0),(4,i64 (k:Int))],[⟨n3,Aa (padW 32 x.toNat k),207,32⟩,⟨n2,Aa (List.replicate 32 0),207,32⟩]⟩) (fun k=>k≤8) (fun k=>8-k) (0) ?_ ?_ ?_
 ·omega
 ·exact Ad wN (wh1 (by rw[padW_zero];exact Br) (wh1 Z1 wh0)) nD
 rintro k hi;have hpl:=padW_length 32 x.toNat k oM;refine G7 ?_;refine .condP J (fun hc0=>?_) (fun hc0=>?_)
 ·
  refine G8 ?_;refine .mul_i64 J J J J oM (G1 ?_);refine .shr_u64 J J J J (8*k) (by rw[wordOf_id _ oM];omega) oM ?_;refine G1 ?_;refine .i1 J J J J Y207.h Sz5 _ J oM (.s1 J J J J J Sz5 Z0 (by(simp[hpl];omega)) (by exact Bf _ _ _) zU ?_);refine G9 ?_;exact⟨k+1,by omega,by omega,Ad wN (wh1 (by rw[←zero_set x k oM];exact Br) (wh1 Z1 wh0)) nD⟩
 obtain rfl:k=8:=by omega
 rw[pad_small]at*;refine G7 ?_;refine .lA J J J Y207.h J Sz207 Z0 (by(simp[hpl];done)) ?_;refine .sA J J J J zE Sz207 (by(simp[hpl];done)) Z1 sP zV ?_;refine G2 ?_;refine G2 ?_;refine⟨_,[],Am J J Y207.h J Sz207 Z1 (by simp[hpl]),sP,sP,?_,rfl⟩;rw[fe_small]
theorem mul_ab(ha:a.length=32)(hb:b.length=32):fe (v10 (mulT (openT (le a)) (openT (le b))))=fe (le a)*fe (le b):=by rw[mulT_v (o_fit ha).len (o_fit hb).len,o_v ha,o_v hb]
theorem sub_ab(ha:a.length=32)(hb:b.length=32):fe (v10 (minusT (openT (le a)) (openT (le b))))=fe (le a)-fe (le b):=by rw[minusT_v (o_fit ha).len (o_fit hb),o_v ha,o_v hb]
theorem r3_Mul(a b:List UInt8)(ha:a.length=32)(hb:b.length=32):Mv 264 [agg (Aa a),agg (Aa b)] (fun _=>True) (agg (Aa (fb (fe (le a)*fe (le b))))):=by
 intro W hW;refine Ac func264 J 11 ntmps264 J (G3 ?_);intro n2 hn2 hf2;refine G1 ?_;intro n3 hn3 hf3;refine .alloc (cs:=(Aa (List.replicate 32 0))) J A6 J ?_;intro n4 hn4 hf4;refine G3 ?_;refine .draw (oP [100,102,301,303,304,305,406]) Ap zK (.lA J J J Y207.h J Sz207 Z2 (by(simp[ha];done)) ?_);refine .lA J J J Y207.h J Sz207 Z1 (by(simp[hb];done)) ?_;refine .cV J J J J Body258 (r3_Open (a) (ha)) tV (.cV J J J J Body258 (r3_Open (b) (hb)) tV (.cV J J J J Body305 (r3_Times (_) (_) (o_fit ha) (o_fit hb)) tV (.cV J J J J Body308 (r3_Close_v (_) (Be (o_fit ha) (o_fit hb)) (_) (mul_ab ha hb)) tV (.sA J J J J zE Sz207 zF Z0 sP zU ?_))));refine G2 ?_;refine G2 ?_;refine⟨_,[],Am J J Y207.h J Sz207 Z0 (by simp[An]),sP,sP,?_,rfl⟩;rfl
theorem r3_Sub(a b:List UInt8)(ha:a.length=32)(hb:b.length=32):Mv 301 [agg (Aa a),agg (Aa b)] (fun _=>True) (agg (Aa (fb (fe (le a)-fe (le b))))):=by
 intro W hW;refine Ac func301 J 11 ntmps301 J (G3 ?_);intro n2 hn2 hf2;refine G1 ?_;intro n3 hn3 hf3;refine .alloc (cs:=(Aa (List.replicate 32 0))) J A6 J ?_;intro n4 hn4 hf4;refine G3 ?_;refine .draw (oP [100,102,301,303,304,305,406]) Ap zK (.lA J J J Y207.h J Sz207 Z2 (by(simp[ha];done)) ?_);refine .lA J J J Y207.h J Sz207 Z1 (by(simp[hb];done)) ?_;refine .cV J J J J Body258 (r3_Open (a) (ha)) tV (.cV J J J J Body258 (r3_Open (b) (hb)) tV (.cV J J J J Body306 (r3_Minus (_) (_) (o_fit ha) (o_fit hb)) tV (.cV J J J J Body308 (r3_Close_v (_) (minusT_fit (o_fit ha) (o_fit hb)) (_) (sub_ab ha hb)) tV (.sA J J J J zE Sz207 zF Z0 sP zU ?_))));refine G2 ?_;refine G2 ?_;refine⟨_,[],Am J J Y207.h J Sz207 Z0 (by simp[An]),sP,sP,?_,rfl⟩;rfl
theorem r3_Neg(a:List UInt8)(ha:a.length=32):Mv 253 [agg (Aa a)] (fun _=>True) (agg (Aa (fb (-fe (le a))))):=by
 intro W hW;refine Ac func253 J 6 ntmps253 J (G3 ?_);intro n1 hn1 hf1;refine .alloc (cs:=(Aa (List.replicate 32 0))) J A6 J ?_;intro n2 hn2 hf2;refine G4 ?_;refine .build (cs:=Aa (List.replicate 32 0)) J J J (fun w=>by kernel_rfl) ?_;refine .lA J J J Y207.h J Sz207 Z1 (by(simp[ha];done)) ?_;refine .cV J J J J Body301 (r3_Sub (List.replicate 32 0) (a) (rfl) (ha)) tV (.sA J J J J zE Sz207 zF Z0 sP zU ?_);refine G2 ?_;refine G2 ?_;refine⟨_,[],Am J J Y207.h J Sz207 Z0 (by simp[An]),sP,sP,?_,rfl⟩;rw[show fe (le (List.replicate 32 0))-fe (le a)= -fe (le a)from by rw[show fe (le (List.replicate 32 0))=0 by kernel_rfl];grind]
theorem oneT_l:oneT.length=10:=rfl
theorem r3_Power(x:List Nat)(e:List UInt8)(hx:Fit10 x)(he:e.length=32):Mv 326 [agg (Bk x),agg (Aa e)] (fun _=>True) (agg (Bk (powT x (le e) 256))):=by
 intro W hW;have hxl:=hx.len;have hE:=le32 he;obtain⟨U,hU⟩:∃U,Hid (powT x (le e) 256=U):=⟨_,⟨rfl⟩⟩;have hUl:U.length=10:=by rw[←hU.out];exact(powT_ok hx hE 256 (Lad _)).1.len
 rw[hU.out];have hpl:=hUl;refine Ac func326 J 29 ntmps326 J (G3 ?_);intro n2 hn2 hf2;refine G1 ?_;intro n3 hn3 hf3;refine .alloc (cs:=(B4 (List.replicate 10 0))) J Zr262 J ?_;intro n4 hn4 hf4;refine G4 ?_;refine .build (cs:=Bk oneT) J J J (fun w=>by kernel_rfl) ?_;refine .alloc (cs:=(B4 (List.replicate 10 0))) J Zr262 J ?_;intro n5 hn5 hf5;refine .sA J J J J (by exact Cg _) Sz262 (by(simp[Al,oneT_l];done)) Z0 sP zU ?_;refine G9 ?_;refine .loop (ι:=Nat) (fun j=>⟨[(2,ptr n2 0),(3,ptr n3 0),(4,ptr n4 0),(5,ptr n5 0),(6,i64 (255-(j:Int)))],[⟨n5,Bk (powT x (le e) j),262,10⟩,⟨n4,(B4 (List.replicate 10 0)),262,10⟩,⟨n3,Aa e,207,(Aa e).length⟩,⟨n2,Bk x,262,(Bk x).length⟩]⟩) (fun j=>j≤256) (fun j=>256-j) (0) ?_ ?_ ?_
 ·omega
 ·exact Ad wN (wh1 (by rw[show powT x (le e) 0=oneT from rfl];exact Br) (wh1 Z1 (wh1 Z2 (wh1 Z3 wh0)))) nD
 rintro j hj;obtain⟨hfit,hfv⟩:=powT_ok hx hE j hj;have hpl:=hfit.len;have hml:(mulT (powT x (le e) j) (powT x (le e) j)).length=10:=mulT_length _ _;refine G7 ?_;refine .condP J (fun hc0=>?_) (fun hc0=>?_)
 ·
  have hj2:j<256:=by omega
  rw[show(255:Int)-(j:Int)=((255-j:Nat):Int) by omega];refine G6 ?_;refine .lA J J J Cf J Sz262 Z0 (by(simp[Al,hpl];done)) ?_;refine .lA J J J Cf J Sz262 Z0 (by(simp[Al,hpl];done)) ?_;refine .cV J J J J Body305 (r3_Times _ _ hfit hfit) tV (.sA J J J J (by exact Cg _) Sz262 (by(simp[Al,mulT_length];done)) Z0 (by(simp[Al,hpl];done)) zU ?_);refine G5 ?_;refine .quoN (255-j) (8) J J J J ⟨by decide,by omega⟩ ?_;refine .i1 J J J J Y207.h Sz5 _ J oM (G2 ?_);refine .remN (255-j) (8) J J J J dE (G1 ?_);refine .shr_u8 J J J J ((255-j)%8) (by rw[wordOf_id _ oM]) oM ?_;refine .rem_u8 J J J J 2 J dE (G3 ?_);refine .condP J (fun hc1=>?_) (fun hc1=>?_)
  ·
   have hbt:=bit_is hc1;refine .region (.lA J J J Cf J Sz262 Z0 (by(simp[Al,mulT_length];done)) ?_);refine .lA J J J Cf J Sz262 Z3 (by(simp[Al,hxl];done)) ?_;refine .cV J J J J Body305 (r3_Times _ _ (Be hfit hfit) hx) tV (.sA J J J J (by exact Cg _) Sz262 (by(simp[Al,mulT_length];done)) Z0 (by(simp[Al,mulT_length];done)) zU ?_);refine G9 ?_;exact⟨j+1,by omega,by omega,Ad (wk1 rfl (wk1 rfl (wk1 rfl (wk1 rfl (wk1 (congrArg (fun z=>some (i64 z)) (show((255-j:Nat):Int)-1=255-((j+1:Nat):Int) by omega)) wk0))))) (wh1 (by(rw[powT_t hbt];exact Br)) (wh1 Z1 (wh1 Z2 (wh1 Z3 wh0)))) nD⟩
  have hbf:=bit_isn hc1;refine G9 ?_;exact⟨j+1,by omega,by omega,Ad (wk1 rfl (wk1 rfl (wk1 rfl (wk1 rfl (wk1 (congrArg (fun z=>some (i64 z)) (show((255-j:Nat):Int)-1=255-((j+1:Nat):Int) by omega)) wk0))))) (wh1 (by(rw[powT_f hbf];exact Br)) (wh1 Z1 (wh1 Z2 (wh1 Z3 wh0)))) nD⟩
 rw[show powT x (le e) j=U from by rw[show j=256 by omega];exact hU.out];refine G7 ?_;refine .lA J J J Cf J Sz262 Z0 (by(simp[Al,hUl];done)) ?_;refine .sA J J J J (by exact Cg _) Sz262 (by(simp[Al,hUl];done)) Z1 sP zV ?_;refine G2 ?_;refine G2 ?_;refine⟨_,[],Am J J Cf J Sz262 Z1 (by simp[Al,hUl]),sP,sP,?_,rfl⟩;rfl
theorem pow_ab{a e:List UInt8}(ha:a.length=32)(he:e.length=32):fe (v10 (powT (openT (le a)) (le e) 256))=Cp (fe (le a)) (le e):=by rw[powT_all (o_fit ha) (le32 he),o_v ha]
theorem r3_Pow(a e:List UInt8)(ha:a.length=32)(he:e.length=32):Mv 309 [agg (Aa a),agg (Aa e)] (fun _=>True) (agg (Aa (fb (Cp (fe (le a)) (le e))))):=by
 intro W hW;refine Ac func309 J 10 ntmps309 J (G3 ?_);intro n2 hn2 hf2;refine G1 ?_;intro n3 hn3 hf3;refine .alloc (cs:=(Aa (List.replicate 32 0))) J A6 J ?_;intro n4 hn4 hf4;refine G3 ?_;refine .draw (oP [100,102,301,303,304,405]) Ap zK (.lA J J J Y207.h J Sz207 Z2 (by(simp[ha];done)) ?_);refine .lA J J J Y207.h J Sz207 Z1 (by(simp[he];done)) ?_;refine .cV J J J J Body258 (r3_Open (a) (ha)) tV (.cV J J J J Body326 (r3_Power (_) (e) (o_fit ha) (he)) tV (.cV J J J J Body308 (r3_Close_v (_) ((powT_ok (o_fit ha) (le32 he) 256 (Lad _)).1) (_) (pow_ab ha he)) tV (.sA J J J J zE Sz207 zF Z0 sP zU ?_)));refine G2 ?_;refine G2 ?_;refine⟨_,[],Am J J Y207.h J Sz207 Z0 (by simp[An]),sP,sP,?_,rfl⟩;rfl
theorem half_rem{p:UInt8}:((UInt8.ofNat (p.toNat%2)).toNat:Int)=1↔p.toNat%2=1:=by
  rw[Lay];omega
theorem ones_three(n:Nat):((List.replicate 32 (255:UInt8)).set 0 (UInt8.ofNat (237-n))).set 31 127=leb 32 (le (onesB (UInt8.ofNat (237-n)) 127)/2^0):=by
  rw[Ldc,Leh,ones_leb];rfl
theorem half_pow(V j:Nat):leb 32 (V/2^(j+1))=Ca (V/2^j) 32:=by
  rw[halfAt_end,Lat,←Lb5]
theorem r3_shifted(n k:Nat)(hn:n≤237)(hk:k≤9):Mv 310 [i64 (n:Int),i64 (k:Int)] (fun _=>True) (agg (Aa (expT n k))):=by
 intro W hW;obtain⟨V,hV⟩:∃V,Hid (le (onesB (UInt8.ofNat (237-n)) 127)=V):=⟨_,⟨rfl⟩⟩;have hV2:V<2^256:=by rw[←hV.out];exact le32 (onesB_length _ _)
 have hx:expT n k=leb 32 (V/2^k):=by rw[expT,hV.out]
 rw[hx];have hon:=ones_three n;rw[hV.out]at hon;have hhl:True:=trivial;have hsl:True:=trivial;refine Ac func310 J 50 ntmps310 J (G2 ?_);refine .alloc (cs:=(Aa (List.replicate 32 0))) J A6 J ?_;intro n4 hn4 hf4;refine G4 ?_;refine .alloc (cs:=(Aa (List.replicate 32 0))) J A6 J ?_;intro n5 hn5 hf5;refine G9 ?_;refine .loop (ι:=Nat) (fun i=>⟨[(0,i64 (n:Int)),(1,i64 (k:Int)),(4,ptr n4 0),(5,ptr n5 0),(6,i64 (i:Int))],[⟨n5,Aa (List.replicate i 255++List.replicate (32-i) 0),207,32⟩,⟨n4,Aa (List.replicate 32 0),207,32⟩]⟩) (fun i=>i≤32) (fun i=>32-i) (0) ?_ ?_ ?_
 ·omega
 ·exact Ad wN (wh1 Z0 (wh1 Z1 wh0)) nD
 rintro i hi;refine G7 ?_;refine .condP J (fun hc0=>?_) (fun hc0=>?_)
 ·
  have hi2:i<32:=by omega
  refine G6 ?_;refine .i1 J J J J Y207.h Sz5 _ J oM (.s1 J J J (show Af _ _=some (u8 255)from rfl) J Sz5 Z0 (by(simp;omega)) (by exact Bf _ _ _) zU ?_);refine G9 ?_;exact⟨i+1,by omega,by omega,Ad wN (wh1 (by rw[←ones_step hi2];exact Br) (wh1 Z1 wh0)) nD⟩
 obtain rfl:i=32:=by omega
 rw[show((List.replicate 32 255++List.replicate (32-32) 0):List UInt8)=List.replicate 32 255 from rfl];refine G8 ?_;refine .subN (237) (n) J J J J oM (G1 ?_);refine .i1 J J J J Y207.h Sz5 0 J dE ?_;rw[byteOf_nat];refine .s1 J J J J J Sz5 Z0 sP (by exact Bf _ _ _) zU ?_;refine .i1 J J J J Y207.h Sz5 31 J dE (.s1 J J J (show Af _ _=some (u8 127)from rfl) J Sz5 Z0 sP (by exact Bf _ _ _) zU ?_);refine G4 ?_;refine .loop (ι:=Nat) (fun j=>⟨[(1,i64 ((k:Int)-(j:Int))),(4,ptr n4 0),(5,ptr n5 0)],[⟨n5,Aa (leb 32 (V/2^j)),207,32⟩,⟨n4,Aa (List.replicate 32 0),207,32⟩]⟩) (fun j=>j≤k) (fun j=>k-j) (0) ?_ ?_ ?_
 ·exact Las _
 ·exact Ad (wk1 (congrArg (fun z=>some (i64 z)) (show(k:Int)=(k:Int)-((0:Nat):Int) by omega)) wN) (wh1 (by rw[←hon];exact Br) (wh1 Z1 wh0)) nD
 rintro j hj;refine G7 ?_;refine .condP J (fun hc1=>?_) (fun hc1=>?_)
 ·
  have hVj:V/2^j<2^256:=Le0 (Lcj _ _) hV2;refine G10 ?_;refine .loop (ι:=Nat) (fun i=>⟨[(1,i64 ((k:Int)-(j:Int))),(4,ptr n4 0),(5,ptr n5 0),(7,i64 (i:Int))],[⟨n5,Aa (Ca (V/2^j) i),207,32⟩,⟨n4,Aa (List.replicate 32 0),207,32⟩]⟩) (fun i=>i≤32) (fun i=>32-i) (0) ?_ ?_ ?_
  ·omega
  ·exact Ad wN (wh1 (by rw[halfAt_zero];exact Br) (wh1 Z1 wh0)) nD
  rintro i hi;have hhl:=halfAt_length (V/2^j) i hi;have hsl:((Ca (V/2^j) i).set i (UInt8.ofNat (((Ca (V/2^j) i).getD i 0).toNat/2))).length=32:=by rw[Lbw];exact hhl
  refine G7 ?_;refine .condP J (fun hc2=>?_) (fun hc2=>?_)
  ·
   have hi2:i<32:=by omega
   refine G8 ?_;refine .i1 J J J J Y207.h Sz5 _ J oM (G1 ?_);refine .quo_u8 J J J J 2 J dE (.i1 J J J J Y207.h Sz5 _ J oM (.s1 J J J J J Sz5 Z0 (by(simp[hhl];omega)) (by exact Bf _ _ _) zU ?_));refine G5 ?_;refine two (fun r hr k=>Tr.lss J J J J hr k) (fun hs13_10=>?_) (fun hs13_10=>?_)
   ·
    have hs13_1:=of_decide_eq_true hs13_10;refine G2 ?_;refine .addN (i) (1) J J J J oM (.i1 J J J J Y207.h Sz5 _ J oM (G1 ?_));refine .rem_u8 J J J J 2 J dE (two (fun r hr k=>Tr.eqi J J J J hr k) (fun hs13_80=>?_) (fun hs13_80=>?_))
    ·
     have hs13_8:=of_decide_eq_true hs13_80;refine G3 ?_;refine .cond_t J J (G3 ?_);refine .i1 J J J J Y207.h Sz5 _ J oM (G1 ?_);refine .add_u8 J J J (show Af _ _=some (u8 128)from rfl) (.i1 J J J J Y207.h Sz5 _ J oM (.s1 J J J J J Sz5 Z0 (by(simp[hhl];omega)) (by exact Bf _ _ _) zU ?_));refine G9 ?_;exact⟨i+1,by omega,by omega,Ad wN (wh1 (by(rw[←half_odd (V/2^j) oM (half_rem.1 hs13_8)];exact Br)) (wh1 Z1 wh0)) nD⟩
    have hs13_8:=of_decide_eq_false hs13_80;refine G3 ?_;refine .cond_f J J (G9 ?_);exact⟨i+1,by omega,by omega,Ad wN (wh1 (by(rw[←half_even (V/2^j) oM (fun e=>hs13_8 (half_rem.2 e))];exact Br)) (wh1 Z1 wh0)) nD⟩
   have hs13_1:=of_decide_eq_false hs13_10;refine G10 ?_;refine .cond_f J J (G9 ?_);exact⟨i+1,by omega,by omega,Ad wN (wh1 (by(rw[show i=31 by omega,←half_last _ hVj];exact Br)) (wh1 Z1 wh0)) nD⟩
  refine G12 ?_;exact⟨j+1,by omega,by omega,Ad (wk1 (congrArg (fun z=>some (i64 z)) (show(k:Int)-(j:Int)-1=(k:Int)-((j+1:Nat):Int) by omega)) wN) (wh1 (by rw[half_pow,show(32:Nat)=i by omega];exact Br) (wh1 Z1 wh0)) nD⟩
 obtain rfl:j=k:=by omega
 refine G7 ?_;refine .lA J J J Y207.h J Sz207 Z0 (by(simp[Ai];done)) ?_;refine .sA J J J J zE Sz207 (by(simp[Ai];done)) Z1 sP zV ?_;refine G2 ?_;refine G2 ?_;refine⟨_,[],Am J J Y207.h J Sz207 Z1 (by simp[Ai]),sP,sP,?_,rfl⟩;rfl
theorem r3_Pow_e(a e:List UInt8)(ha:a.length=32)(he:e.length=32)(N:Nat)(X:Fp)(hN:le e=N)(hX:fe (le a)=X):Mv 309 [agg (Aa a),agg (Aa e)] (fun _=>True) (agg (Aa (fb (Cp X N)))):=by
  rw[←hN,←hX];exact r3_Pow a e ha he
theorem r3_Inv(a:List UInt8)(ha:a.length=32):Mv 266 [agg (Aa a)] (fun _=>True) (agg (Aa (fb (finv (fe (le a)))))):=by
 intro W hW;obtain⟨E,hE⟩:∃E,Hid (expT 2 0=E):=⟨_,⟨rfl⟩⟩;have hEl:E.length=32:=by rw[←hE.out];exact expT_length _ _
 have hs:=r3_shifted 2 0 dE dE;rw[hE.out]at hs;have hp:=r3_Pow_e a E ha hEl (PF-2) _ (by rw[←hE.out];exact expT_inv) rfl;rw[show Cp (fe (le a)) (PF-2)=finv (fe (le a))from rfl]at hp;obtain⟨R,hR⟩:∃R,Hid (finv (fe (le a))=R):=⟨_,⟨rfl⟩⟩;rw[hR.out]at hp ⊢;refine Ac func266 J 6 ntmps266 J (G3 ?_);intro n1 hn1 hf1;refine .alloc (cs:=(Aa (List.replicate 32 0))) J A6 J ?_;intro n2 hn2 hf2;refine G3 ?_;refine .draw (oP [100,301,302,403]) Ap zK (.lA J J J Y207.h J Sz207 Z1 (by(simp[ha];done)) ?_);refine .cV J J J J Body310 (hs) tV (.cV J J J J Body309 (hp) tV (.sA J J J J zE Sz207 zF Z0 sP zU ?_));refine G2 ?_;refine G2 ?_;refine⟨_,[],Am J J Y207.h J Sz207 Z0 (by simp[An]),sP,sP,?_,rfl⟩;rfl
end Go.Proofs.YtpogmfngccolbaaGreat
namespace Go.Proofs.YtpogmfngccolbaaGreat
open Go Hw _root_.Go.Proofs.Tryz
theorem ref_L  :Mv 255 [] (fun _=>True) (agg (Aa (leb 32 L))):=by
 intro W hW;refine Ac func255 J 2 ntmps255 J (G2 ?_);refine .alloc (cs:=(Aa (List.replicate 32 0))) J A6 J ?_;intro n0 hn0 hf0;refine G4 ?_;refine .build (cs:=Aa (leb 32 L)) J J J (fun w=>by kernel_rfl) ?_;refine .sA J J J J zB Sz207 (by(simp[Ai];done)) Z0 sP zU ?_;refine G2 ?_;refine G2 ?_;refine⟨_,[],Am J J Y207.h J Sz207 Z0 (by simp[Ai]),sP,sP,?_,rfl⟩;rfl
theorem ref_below(a b:List UInt8)(ha:a.length=32)(hb:b.length=32):Mv 254 [agg (Aa a),agg (Aa b)] (fun _=>True) (.bool (decide (le a<le b))):=by
  intro W hW;refine Ac func254 J 24 ntmps254 J (G3 ?_);intro n2 hn2 hf2;refine G1 ?_;intro n3 hn3 hf3;refine G10 ?_;refine .loop (ι:=Nat) (fun k=>⟨[(2,ptr n2 0),(3,ptr n3 0),(5,i64 (31-(k:Int)))],[⟨n3,Aa b,207,(Aa b).length⟩,⟨n2,Aa a,207,(Aa a).length⟩]⟩) (fun k=>k≤32∧a.drop (32-k)=b.drop (32-k)) (fun k=>32-k) (0) ?_ ?_ ?_
  ·exact⟨by omega,by rw[Lan oM,Lan oM]⟩
  ·exact Ad wN (wh1 Z0 (wh1 Z1 wh0)) nD
  rintro k ⟨hk,hd⟩;refine G7 ?_;refine .condP J (fun hc0=>?_) (fun hc0=>?_)
  ·
    have hk2:k<32:=by omega
    refine G5 ?_;refine .draw (oP [0,1,102,3,4,105,6]) Ap zK (G1 ?_);refine .i1 J J J J Y207.h Sz5 (31-k) oM oM (G2 ?_);refine .i1 J J J J Y207.h Sz5 (31-k) oM oM (G4 ?_);refine .condNP J (fun hc1=>?_) (fun hc1=>?_)
    ·
      have hlt:=le_lt_at ha hb (i:=31-k) oM (by rw[show 31-k+1=32-k by omega];exact hd) oM;refine .seq (.draw (oP [0,1,102,3,4,105,6,7]) Ap zK (G1 ?_));refine .i1 J J J J Y207.h Sz5 (31-k) oM oM (G2 ?_);refine .i1 J J J J Y207.h Sz5 (31-k) oM oM (G5 ?_);refine G7 ?_;refine⟨_,[],Ae J J,sP,sP,?_,rfl⟩;first
        |(rw[show decide (le a<le b)=decide (((a.getD (31-k) 0).toNat:Int)<((b.getD (31-k) 0).toNat:Int))from decide_eq_decide.2 (hlt.symm.trans oM)])
        | (have he:a=b:=by simpa using hd
           rw[he,decide_eq_false (Nat.lt_irrefl _)])
    refine G9 ?_;exact⟨k+1,⟨by omega,drop_step ha hb oM (by rw[show 32-(k+1)+1=32-k by omega];exact hd) (by rw[show 32-(k+1)=31-k by omega];omega)⟩,by omega,Ad (wk1 rfl (wk1 rfl (wk1 (by rw[show(31-((k+1:Nat):Int))=31-(k:Int)-1 by omega];rfl) wk0))) (wh1 Z0 (wh1 Z1 wh0)) nD⟩
  obtain rfl:k=32:=by omega
  refine G10 ?_;refine G2 ?_;refine⟨_,[],Ae J J,sP,sP,?_,rfl⟩;first
    |(rw[show decide (le a<le b)=decide (((a.getD (31-k) 0).toNat:Int)<((b.getD (31-k) 0).toNat:Int))from decide_eq_decide.2 (hlt.symm.trans oM)])
    | (have he:a=b:=by simpa using hd
       rw[he,decide_eq_false (Nat.lt_irrefl _)])
theorem ref_plus(a b:List UInt8)(ha:a.length=32)(hb:b.length=32)(hla:le a<L)(hlb:le b<L):Mv 313 [agg (Aa a),agg (Aa b)] (fun _=>True) (agg (Aa (leb 32 ((le a+le b)%L)))):=by
 intro W hW;have hL:L<2^253:=by decide
 refine Ac func313 J 61 ntmps313 J (G3 ?_);intro n2 hn2 hf2;refine G1 ?_;intro n3 hn3 hf3;refine .alloc (cs:=(Aa (List.replicate 32 0))) J A6 J ?_;intro n4 hn4 hf4;refine G4 ?_;refine .alloc (cs:=(Aa (List.replicate 32 0))) J A6 J ?_;intro n5 hn5 hf5;refine G7 ?_;refine .join (ι:=Unit) (fun _u=>⟨[(4,ptr n4 0),(5,ptr n5 0)],[⟨n5,Aa (leb 32 (le a+le b)),207,32⟩,⟨n4,Aa (List.replicate 32 0),207,32⟩]⟩) (fun _u=>True) ?_ ?_
 ·
  refine G6 ?_;refine .loop (ι:=Nat) (fun k=>⟨[(2,ptr n2 0),(3,ptr n3 0),(4,ptr n4 0),(5,ptr n5 0),(6,i64 (((le (a.take k)+le (b.take k))/256^k:Nat):Int)),(7,i64 (k:Int))],[⟨n5,Aa (padW 32 (le (a.take k)+le (b.take k)) k),207,32⟩,⟨n4,Aa (List.replicate 32 0),207,32⟩,⟨n3,Aa b,207,(Aa b).length⟩,⟨n2,Aa a,207,(Aa a).length⟩]⟩) (fun k=>k≤32) (fun k=>32-k) (0) ?_ ?_ ?_
  ·omega
  ·exact Ad (wk1 rfl (wk1 rfl (wk1 rfl (wk1 rfl (wk1 (by rw[Ldq,Ldq];rfl) wN))))) (wh1 (by rw[padW_zero];exact Br) (wh1 Z1 (wh1 Z2 (wh1 Z3 wh0)))) nD
  rintro k hk;have hpl:=padW_length 32 (le (a.take k)+le (b.take k)) k hk;have hcb:(le (a.take k)+le (b.take k))/256^k≤1:=by
   have h1:=le_take_lt a k;have h2:=le_take_lt b k;rw[←Nat.lt_succ_iff,Ld2 (Lbg dE)];omega
  have hcn:(0:Int)≤(((le (a.take k)+le (b.take k))/256^k:Nat):Int):=Le4 _;have hcb2:(((le (a.take k)+le (b.take k))/256^k:Nat):Int)≤1:=Int.ofNat_le.2 hcb;refine G7 ?_;refine .condP J (fun hc0=>?_) (fun hc0=>?_)
  ·
   have hk2:k<32:=by omega
   have ha8:=(a.getD k 0).toNat_lt;have hb8:=(b.getD k 0).toNat_lt;have hs:(((le (a.take k)+le (b.take k))/256^k:Nat):Int)+((a.getD k 0).toNat:Int)+((b.getD k 0).toNat:Int)=(((le (a.take k)+le (b.take k))/256^k+((a.getD k 0).toNat+(b.getD k 0).toNat):Nat):Int):=by rw[Lct,Lct,Int.add_assoc]
   refine G5 ?_;refine .draw (oP [0,1,2,103,4,5,6,7,108,9,10,11]) Ap zK (G2 ?_);refine .i1 J J J J Y207.h Sz5 _ J oM (G4 ?_);refine .i1 J J J J Y207.h Sz5 _ J oM (G10 ?_);refine .rem_i64 J J J J oM (G1 ?_);refine .i1 J J J J Y207.h Sz5 _ J oM (.s1 J J J J J Sz5 Z0 (by(simp;omega)) (by exact Bf _ _ _) zU ?_);refine G4 ?_;refine .quo_i64 J J J J oM (G10 ?_);have hst:le (a.take (k+1))+le (b.take (k+1))=(le (a.take k)+le (b.take k))+256^k*((a.getD k 0).toNat+(b.getD k 0).toNat):=by
    rw[le_take_succ a k oM,le_take_succ b k oM,Lc3];omega
   exact⟨k+1,by omega,by omega,Ad (wk1 rfl (wk1 rfl (wk1 rfl (wk1 rfl (wk1 (by rw[hst,←carry_step _ _ _ _ hs];rfl) wN))))) (wh1 (by rw[hst,←padW_step 32 _ _ k oM _ hs,byteOf_mod];exact Br) (wh1 Z1 (wh1 Z2 (wh1 Z3 wh0)))) nD⟩
  obtain rfl:k=32:=by omega
  have hta:le (a.take 32)=le a:=by rw[La6 oM]
  have htb:le (b.take 32)=le b:=by rw[La6 oM]
  refine G5 ?_;refine⟨(),trivial,Ad wN (wh1 (by rw[←padW_all,←hta,←htb];exact Br) (wh1 Z1 wh0)) nD⟩
 intro _u hj;skip;refine G2 ?_;refine .draw (oP [100,301,302]) Ap zK (.lA J J J Y207.h J Sz207 Z0 (by(simp[Ai];done)) ?_);refine .cV J J J J Body255 (ref_L) tV (.cV J J J J Body254 (ref_below _ _ (by simp[Ai]) (by simp[Ai])) tV ?_);refine G2 ?_;refine .condP J (fun hc1=>?_) (fun hc1=>?_)
 ·
  have hS:le a+le b<L:=by rw[le_leb32 oM,le_leb32 L_lt]at hc1;exact hc1
  refine G2 ?_;refine .lA J J J Y207.h J Sz207 Z0 (by(simp[Ai];done)) ?_;refine .sA J J J J zB Sz207 (by(simp[Ai];done)) Z1 sP zV ?_;refine G2 ?_;refine G3 ?_;refine⟨_,[],Am J J Y207.h J Sz207 Z1 (by simp[Ai]),sP,sP,?_,rfl⟩
  (rw[Laa hS];done)
 have hge:L≤le a+le b:=by rw[le_leb32 oM,le_leb32 L_lt]at hc1;exact Nat.le_of_not_lt hc1
 refine G4 ?_;refine .cV J J J J Body255 (ref_L) tV (.alloc (cs:=(Aa (List.replicate 32 0))) J A6 J ?_);intro n8 hn8 hf8;refine .sA J J J J zB Sz207 (by(simp[Ai];done)) Z0 sP zU ?_;refine G14 ?_;refine .loop (ι:=Nat) (fun k=>⟨[(4,ptr n4 0),(5,ptr n5 0),(8,ptr n8 0),(6,i64 (-((bor (le a+le b-L) L k:Nat):Int))),(9,i64 (k:Int))],[⟨n8,Aa (leb 32 L),207,32⟩,⟨n5,Aa (subB (le a+le b-L) L k),207,32⟩,⟨n4,Aa (List.replicate 32 0),207,32⟩]⟩) (fun k=>k≤32) (fun k=>32-k) (0) ?_ ?_ ?_
 ·omega
 ·exact Ad (wk1 rfl (wk1 rfl (wk1 rfl (wk1 (by rw[bor_zero];rfl) wN)))) (wh1 Z0 (wh1 (by rw[subB_zero,Nat.sub_add_cancel hge];exact mem1) (wh1 Z2 wh0))) nD
 rintro k hk;have hpl:=subB_length (le a+le b-L) L k hk;have hbl:=bor_le (le a+le b-L) L k;refine G7 ?_;refine .condP J (fun hc2=>?_) (fun hc2=>?_)
 ·
  have hk3:k<32:=by omega
  have hx8:=((subB (le a+le b-L) L k).getD k 0).toNat_lt;have hy8:=((leb 32 L).getD k 0).toNat_lt;have hJ:(((subB (le a+le b-L) L k).getD k 0).toNat:Int)-(((leb 32 L).getD k 0).toNat:Int)+ -((bor (le a+le b-L) L k:Nat):Int)=(((le a+le b-L+L)/256^k%256:Nat):Int)-((L/256^k%256:Nat):Int)+ -((bor (le a+le b-L) L k:Nat):Int):=by rw[subB_get _ _ k hk3,leb_getD 32 L k hk3,ofNat8_toNat,ofNat8_toNat]
  have hbn:=bor_next _ _ k _ hJ;refine G2 ?_;refine .join (ι:=Unit) (fun _u=>⟨[(4,ptr n4 0),(5,ptr n5 0),(8,ptr n8 0),(6,i64 (-((bor (le a+le b-L) L (k+1):Nat):Int))),(9,i64 (k:Int))],[⟨n8,Aa (leb 32 L),207,32⟩,⟨n5,Aa (subB (le a+le b-L) L (k+1)),207,32⟩,⟨n4,Aa (List.replicate 32 0),207,32⟩]⟩) (fun _u=>True) ?_ ?_
  ·
   refine G2 ?_;refine .draw (oP [0,1,102,3,4,5,106,7,8,9,10,11]) Ap zK (G1 ?_);refine .i1 J J J J Y207.h Sz5 _ J oM (G3 ?_);refine .i1 J J J J Y207.h Sz5 _ J oM (.load1 J J J Y5.h J Z0 (by exact Co (by(simp[Ai];omega))) ?_);refine G12 ?_;refine .rem_i64 J J J J oM (G1 ?_);refine .i1 J J J J Y207.h Sz5 _ J oM (.s1 J J J J J Sz5 Z1 (by(simp;omega)) (by exact Bf _ _ _) zV ?_);refine G8 ?_;refine .condP J (fun hc3=>?_) (fun hc3=>?_)
   ·
    have hn3:=hbn.1 hc3;refine G5 ?_;refine⟨(),trivial,Ad (wk1 J (wk1 J (wk1 J (wk1 (by rw[hn3];rfl) wN)))) (wh1 Z0 (wh1 (by rw[←subB_step _ _ k hk3 _ hJ,byteOf_mod];exact mem1) (wh1 Z2 wh0))) nD⟩
   have hn3:=hbn.2 hc3;refine G5 ?_;refine⟨(),trivial,Ad (wk1 J (wk1 J (wk1 J (wk1 (by rw[hn3];rfl) wN)))) (wh1 Z0 (wh1 (by rw[←subB_step _ _ k hk3 _ hJ,byteOf_mod];exact mem1) (wh1 Z2 wh0))) nD⟩
  intro _u hj;skip;refine G6 ?_;exact⟨k+1,by omega,by omega,Ad wN (wh1 Z0 (wh1 Z1 (wh1 Z2 wh0))) nD⟩
 obtain rfl:k=32:=by omega
 refine G7 ?_;refine .lA J J J Y207.h J Sz207 Z1 (by(simp[Ai,subB_all];done)) ?_;refine .sA J J J J zB Sz207 (by(simp[Ai,subB_all];done)) Z2 sP (by exact upd2) ?_;refine G2 ?_;refine G2 ?_;refine⟨_,[],Am J J Y207.h J Sz207 Z2 (by simp[Ai,subB_all]),sP,sP,?_,rfl⟩
 (rw[subB_all,Nat.mod_eq_sub_mod hge,Laa (a:=le a+le b-L) oM])
theorem ref_plus_n(x y:Nat)(hx:x<L)(hy:y<L):Mv 313 [agg (Aa (leb 32 x)),agg (Aa (leb 32 y))] (fun _=>True) (agg (Aa (leb 32 ((x+y)%L)))):=by
  have e1:=le_leb32 (Ld7 hx L_lt);have e2:=le_leb32 (Ld7 hy L_lt);have:=ref_plus (leb 32 x) (leb 32 y) (Ai 32 x) (Ai 32 y) (by rw[e1];exact hx) (by rw[e2];exact hy);rw[e1,e2]at this;exact this
theorem ref_plus_one(x:Nat)(hx:x<L):Mv 313 [agg (Aa (leb 32 x)),agg (Aa ((List.replicate 32 0).set 0 1))] (fun _=>True) (agg (Aa (leb 32 ((x+1)%L)))):=by
  have e1:=le_leb32 (Ld7 hx L_lt);have:=ref_plus (leb 32 x) ((List.replicate 32 0).set 0 1) (Ai 32 x) sP (by rw[e1];exact hx) (by rw[le_one'];decide);rw[e1,le_one']at this;exact this
theorem ref_rest(b o c n:Nat)(xs:List UInt8)(hx:xs.length=n)(hn:n≤1000000):Mv 311 [.slice (some ⟨b,o,none⟩) n c] (fun W=>C1 W b o (Aa xs)) (agg (Aa (leb 32 (le xs%L)))):=by
 intro W hW;refine Ac func311 J 33 ntmps311 J (G2 ?_);refine .alloc (cs:=(Aa (List.replicate 32 0))) J A6 J ?_;intro n2 hn2 hf2;refine G4 ?_;refine .alloc (cs:=(Aa (List.replicate 32 0))) J A6 J ?_;intro n3 hn3 hf3;refine .alloc (cs:=(Aa (List.replicate 32 0))) J A6 J ?_;intro n4 hn4 hf4;refine G4 ?_;refine .i1 J J J J Y207.h Sz5 0 J dE (.s1 J J J (show Af _ _=some (u8 1)from rfl) J Sz5 Z0 sP (by exact Bf _ _ _) zU ?_);refine G7 ?_;refine .mul_i64 J J J J oM (G5 ?_);refine .loop (ι:=Nat) (fun k=>⟨[(0, .slice (some ⟨b,o,none⟩) n c),(2,ptr n2 0),(3,ptr n3 0),(4,ptr n4 0),(5,i64 (8*(n:Int)-1-(k:Int)))],[⟨n4,Aa ((List.replicate 32 0).set 0 1),207,32⟩,⟨n3,Aa (leb 32 ((le xs/2^(8*n-k))%L)),207,32⟩,⟨n2,Aa (List.replicate 32 0),207,32⟩]⟩) (fun k=>k≤8*n) (fun k=>8*n-k) (0) ?_ ?_ ?_
 ·omega
 ·exact Ad (wk1 rfl (wk1 rfl (wk1 rfl (wk1 rfl (wk1 (by rw[show(8*(n:Int)-1-((0:Nat):Int))=8*(n:Int)-1 by omega];rfl) wk0))))) (wh1 Z0 (wh1 (by rw[Lgc,le_zero_div xs n hx,zero_modL,leb_zero32];exact mem1) (wh1 Z2 wh0))) nD
 rintro k hk;refine G7 ?_;refine .condP J (fun hc0=>?_) (fun hc0=>?_)
 ·
  have hk2:k<8*n:=by omega
  have hdv:=div_bit (le xs) (8*n-(k+1));rw[show 8*n-(k+1)+1=8*n-k by omega]at hdv;have hbr:=bit_rem xs (8*n-(k+1));rw[show 8*n-(k+1)=8*n-1-k by omega]at hbr hdv;refine G2 ?_;refine .join (ι:=Unit) (fun _u=>⟨[(0, .slice (some ⟨b,o,none⟩) n c),(2,ptr n2 0),(3,ptr n3 0),(4,ptr n4 0),(5,i64 (8*(n:Int)-1-(k:Int)))],[⟨n4,Aa ((List.replicate 32 0).set 0 1),207,32⟩,⟨n3,Aa (leb 32 ((le xs/2^(8*n-(k+1)))%L)),207,32⟩,⟨n2,Aa (List.replicate 32 0),207,32⟩]⟩) (fun _u=>True) ?_ ?_
  ·
   refine G3 ?_;refine .lA J J J Y207.h J Sz207 Z1 (by(simp[Ai];done)) ?_;refine .lA J J J Y207.h J Sz207 Z1 (by(simp[Ai];done)) ?_;refine .cV J J J J Body313 (ref_plus_n _ _ (Lbr _ L_pos) (Lbr _ L_pos)) tV (.sA J J J J zB Sz207 (by(simp[Ai];done)) Z1 (by(simp[Ai];done)) zV ?_);refine G6 ?_;refine .quo_i64 J J J J oM (.idxSlO J J J J Y46.h Sz5 ((8*n-1-k)/8) oM oM (.loadE J J J Y5.h J sP (hW _ _ (Co oM)) (G1 ?_)));refine .rem_i64 J J J J oM (G1 ?_);refine .shr_u8 J J J J ((8*n-1-k)%8) (by rw[wordOf_id _ oM];omega) oM ?_;refine .rem_u8 J J J J 2 J dE (G3 ?_);refine .condP J (fun hc1=>?_) (fun hc1=>?_)
   ·
    have hdb:le xs/2^(8*n-(k+1))=2*(le xs/2^(8*n-k))+1:=by rw[show 8*n-(k+1)=8*n-1-k by omega,hdv,←hbr,if_pos (decide_eq_true hc1)]
    refine .region (.lA J J J Y207.h J Sz207 Z1 (by(simp[Ai];done)) ?_);refine .lA J J J Y207.h J Sz207 Z0 sP ?_;refine .cV J J J J Body313 (ref_plus_one _ (Lbr _ L_pos)) tV (.sA J J J J zB Sz207 (by(simp[Ai];done)) Z1 (by(simp[Ai];done)) zV ?_);refine G3 ?_;refine⟨(),trivial,Ad wN (wh1 Z0 (wh1 (by(rw[hdb,←dbl_mod1];exact mem1)) (wh1 Z2 wh0))) nD⟩
   have hdb:le xs/2^(8*n-(k+1))=2*(le xs/2^(8*n-k)):=by rw[show 8*n-(k+1)=8*n-1-k by omega,hdv,←hbr,if_neg (by simpa using hc1),Lbs]
   refine G3 ?_;refine⟨(),trivial,Ad wN (wh1 Z0 (wh1 (by(rw[hdb,←dbl_mod];exact mem1)) (wh1 Z2 wh0))) nD⟩
  intro _u hj;skip;refine G6 ?_;exact⟨k+1,by omega,by omega,Ad (wk1 rfl (wk1 rfl (wk1 rfl (wk1 rfl (wk1 (by rw[show(8*(n:Int)-1-((k+1:Nat):Int))=8*(n:Int)-1-(k:Int)-1 by omega];rfl) wk0))))) (wh1 Z0 (wh1 Z1 (wh1 Z2 wh0))) nD⟩
 obtain rfl:k=8*n:=by omega
 refine G7 ?_;refine .lA J J J Y207.h J Sz207 Z1 (by(simp[Ai];done)) ?_;refine .sA J J J J zB Sz207 (by(simp[Ai];done)) Z2 sP (by exact upd2) ?_;refine G2 ?_;refine G2 ?_;refine⟨_,[],Am J J Y207.h J Sz207 Z2 (by simp[Ai]),sP,sP,?_,rfl⟩;rw[Leu,Ldc,Leh]
theorem ref_Rest(b o c n:Nat)(xs:List UInt8)(hx:xs.length=n)(hn:n≤64):Mv 268 [.slice (some ⟨b,o,none⟩) n c] (fun W=>C1 W b o (Aa xs)) (.tuple #[agg (Aa (leb 32 (le xs%L))),i64 0]):=by
 intro W hW;refine Ac func268 J 10 ntmps268 J (G2 ?_);refine .alloc (cs:=(Aa (List.replicate 32 0))) J A6 J ?_;intro n2 hn2 hf2;refine G8 ?_;refine .gtr J J J J (decide_eq_false oM) (G2 ?_);refine .cond_f J (rfl) (G5 ?_);refine .cV J J J J Body311 (ref_rest _ _ _ n xs hx oM) (fun W h=>sees_ext h sP hW) (.sA J J J J zB Sz207 (by(simp[Ai];done)) Z0 sP zU ?_);refine G3 ?_;refine G2 ?_;refine⟨_,[],Bh J J J Y207.h J Sz207 Z0 (by simp[Ai]),sP,sP,?_,rfl⟩;rfl
theorem ref_bit_at(a:List UInt8)(ha:a.length=32)(k:Nat)(hk:k<256):Mv 262 [agg (Aa a),i64 (k:Int)] (fun _=>True) (.bool ((le a).testBit k)):=by
 intro W hW;refine Ac func262 J 23 ntmps262 J (G3 ?_);intro n2 hn2 hf2;refine G6 ?_;refine .geq J J J J (decide_eq_true oM) (G2 ?_);refine .lss J J J J (decide_eq_true oM) (G3 ?_);refine .quo_i64 J J J J oM (.i1 J J J J Y207.h Sz5 (k/8) oM oM (G2 ?_));refine .rem_i64 J J J J oM (G1 ?_);refine .shr_u8 J J J J (k%8) (by rw[wordOf_id _ oM];omega) oM ?_;refine .rem_u8 J J J J 2 J dE (G5 ?_);refine G2 ?_;refine⟨_,[],Ae J J,sP,sP,?_,rfl⟩;rw[←bit_rem a k];rfl
open Ed
theorem r_mul(x y:Fp):Mv 264 [agg (Aa (fb x)),agg (Aa (fb y))] (fun _=>True) (agg (Aa (fb (x*y)))):=by
  have h:=r3_Mul (fb x) (fb y) (An x) (An y);rwa[fe_fb x,fe_fb y]at h
theorem r_sub(x y:Fp):Mv 301 [agg (Aa (fb x)),agg (Aa (fb y))] (fun _=>True) (agg (Aa (fb (x-y)))):=by
  have h:=r3_Sub (fb x) (fb y) (An x) (An y);rwa[fe_fb x,fe_fb y]at h
theorem r_neg(x:Fp):Mv 253 [agg (Aa (fb x))] (fun _=>True) (agg (Aa (fb (-x)))):=by
  have h:=r3_Neg (fb x) (An x);rwa[fe_fb x]at h
theorem r_inv(x:Fp):Mv 266 [agg (Aa (fb x))] (fun _=>True) (agg (Aa (fb (finv x)))):=by
  have h:=r3_Inv (fb x) (An x);rwa[fe_fb x]at h
theorem r_odd(x:Fp):Mv 312 [agg (Aa (fb x))] (fun _=>True) (.bool (decide (x.val%2=1))):=by
  have h:=r3_Odd (fb x) (An x);rwa[fe_fb x]at h
theorem r_canon(x:Fp):Mv 251 [agg (Aa (fb x))] (fun _=>True) (.bool true):=by
  have h:=r3_Canon (fb x) (An x);rw[fe_fb x]at h;rwa[decide_eq_true rfl]at h
theorem r_same_raw(x:Fp)(a:List UInt8)(ha:a.length=32):Mv 325 [agg (Aa (fb x)),agg (Aa a)] (fun _=>True) (.bool (decide (x=fe (le a)))):=by
  have h:=r3_Same (fb x) a (An x) ha;rwa[fe_fb x]at h
theorem r_of(x:UInt64)(X:Fp)(h:fe x.toNat=X):Mv 265 [u64 x] (fun _=>True) (agg (Aa (fb X))):=by
  rw[←h];exact r3_Of x
theorem r_one:Mv 265 [u64 1] (fun _=>True) (agg (Aa (fb 1))):=r_of 1 1 rfl
theorem r_cA:Mv 265 [u64 121666] (fun _=>True) (agg (Aa (fb cA))):=r_of 121666 cA rfl
theorem r_cB:Mv 265 [u64 121665] (fun _=>True) (agg (Aa (fb cB))):=r_of 121665 cB rfl
theorem r_pow_root(a:List UInt8)(ha:a.length=32)(X:Fp)(hX:fe (le a)=X):Mv 309 [agg (Aa a),agg (Aa (expT 5 3))] (fun _=>True) (agg (Aa (fb (Cp X ((PF-5)/8))))):=r3_Pow_e a _ ha (expT_length _ _) _ X expT_root hX
theorem r_pow_unit:Mv 309 [agg (Aa (fb (fe 2))),agg (Aa (expT 1 2))] (fun _=>True) (agg (Aa (fb (Cp (fe 2) ((PF-1)/4))))):=r3_Pow_e _ _ (An _) (expT_length _ _) _ _ expT_unit (fe_fb _)
theorem r_mul_a(p r:Fp)(a:List UInt8)(ha:a.length=32)(h:p*fe (le a)=r):Mv 264 [agg (Aa (fb p)),agg (Aa a)] (fun _=>True) (agg (Aa (fb r))):=by
  have h1:=r3_Mul (fb p) a (An p) ha;rwa[fe_fb p,h]at h1
theorem r3_Root(a:List UInt8)(X:Fp)(ha:a.length=32)(hX:fe (le a)=X):Mv 302 [agg (Aa a)] (fun _=>True) (.tuple #[agg (Aa (fb (fRoot X).1)), .bool (fRoot X).2]):=by
 intro W hW;obtain⟨r0,hr0⟩:∃r,Cp X ((PF+3)/8)=r:=⟨_,rfl⟩;obtain⟨un,hun⟩:∃r,Cp (fe 2) ((PF-1)/4)=r:=⟨_,rfl⟩;obtain⟨r1,hr1⟩:∃r,fRoot1 X=r:=⟨_,rfl⟩;have hp0:=r_pow_root a ha X hX;have hstep:=root_step X;obtain⟨p0,hpp⟩:∃r,Cp X ((PF-5)/8)=r:=⟨_,rfl⟩;rw[hpp]at hp0 hstep;rw[hr0]at hstep;have hm0:=r_mul_a p0 r0 a ha (by rw[hX];exact hstep);have hpu:=r_pow_unit;rw[hun]at hpu;have hm:=fun y=>r_same_raw y a ha;rw[hX]at hm;have hr1':r1=if r0*r0=X then r0 else r0*un:=by rw[←hr1,fRoot1,hr0,hun]
 have hR:fRoot X=if r1*r1=X then((if r1.val%2=1 then-r1 else r1),true)else(0,false):=by rw[fRoot,hr1]
 clear hr1 hstep;have hs53:=r3_shifted 5 3 dE dE;have hs12:=r3_shifted 1 2 dE dE;obtain⟨E,hE⟩:∃E,Hid (expT 5 3=E):=⟨_,⟨rfl⟩⟩;obtain⟨G,hG⟩:∃E,Hid (expT 1 2=E):=⟨_,⟨rfl⟩⟩;have hEl:E.length=32:=by rw[←hE.out];exact expT_length _ _
 have hGl:G.length=32:=by rw[←hG.out];exact expT_length _ _
 rw[hE.out]at hs53 hp0;rw[hG.out]at hs12 hpu;refine Ac func302 J 33 ntmps302 J (G3 ?_);intro n1 hn1 hf1;refine .alloc (cs:=(Aa (List.replicate 32 0))) J A6 J ?_;intro n2 hn2 hf2;refine G4 ?_;refine .draw (oP [100,103,301,302,304,205,406]) Ap zK (.lA J J J Y207.h J Sz207 Z1 (by(simp[ha];done)) ?_);refine .lA J J J Y207.h J Sz207 Z1 (by(simp[ha];done)) ?_;refine .cV J J J J Body310 (hs53) tV (.cV J J J J Body309 (hp0) tV (.cV J J J J Body264 (hm0) tV (.alloc (cs:=(Aa (List.replicate 32 0))) J A6 J ?_)));intro n4 hn4 hf4;refine .sA J J J J zE Sz207 zF Z0 sP zU ?_;refine G2 ?_;refine .join (ι:=Unit) (fun _u=>⟨[(1,ptr n1 0),(2,ptr n2 0),(4,ptr n4 0)],[⟨n4,Aa (fb r1),207,32⟩,⟨n2,Aa (List.replicate 32 0),207,32⟩,⟨n1,Aa a,207,(Aa a).length⟩]⟩) (fun _u=>True) ?_ ?_
 ·
  refine .seq (.draw (oP [100,101,103,302,304,5]) Ap zK (G2 ?_));refine .lA J J J Y207.h J Sz207 Z2 (by(simp[ha];done)) ?_;refine .cV J J J J Body264 (r_mul r0 r0) tV (.cV J J J J Body325 (hm (r0*r0)) tV (G3 ?_));refine .condNP J (fun hc0=>?_) (fun hc0=>?_)
  ·
   refine .draw (oP [100,301,302,303,304,405]) Ap zK (G1 ?_);refine .cV J J J J Body265 (r_of 2 (fe 2) J) tV (.cV J J J J Body310 (hs12) tV (.cV J J J J Body309 (hpu) tV (.cV J J J J Body264 (r_mul r0 un) tV (G3 ?_))))
   (rw[hr1',if_neg hc0];exact⟨(),trivial,Ad wN (wh1 Z0 (wh1 Z1 (wh1 Z2 wh0))) nD⟩)
  refine G2 ?_
  (rw[hr1',if_pos hc0];exact⟨(),trivial,Ad wN (wh1 Z0 (wh1 Z1 (wh1 Z2 wh0))) nD⟩)
 intro _u hj;skip;refine G2 ?_;refine .draw (oP [100,101,103,302,304,5]) Ap zK (G2 ?_);refine .lA J J J Y207.h J Sz207 Z2 (by(simp[ha];done)) ?_;refine .cV J J J J Body264 (r_mul r1 r1) tV (.cV J J J J Body325 (hm (r1*r1)) tV (G3 ?_));refine .condNP J (fun hc1=>?_) (fun hc1=>?_)
 ·
  refine G2 ?_;refine .build (cs:=Aa (List.replicate 32 0)) J J J (fun w=>by kernel_rfl) ?_;refine .sA J J J J zE Sz207 sP Z1 sP zV ?_;refine G3 ?_;refine G3 ?_;refine⟨_,[],Bh J J J Y207.h J Sz207 Z1 sP,sP,sP,?_,rfl⟩
  (rw[hR,if_neg hc1,fb_zero];done)
 refine G2 ?_;refine .join (ι:=Unit) (fun _u=>⟨[(2,ptr n2 0),(4,ptr n4 0)],[⟨n4,Aa (fb (if r1.val%2=1 then-r1 else r1)),207,32⟩,⟨n2,Aa (List.replicate 32 0),207,32⟩]⟩) (fun _u=>True) ?_ ?_
 ·
  refine G3 ?_;refine .cV J J J J Body312 (r_odd r1) tV (G2 ?_);refine .condP J (fun hc2=>?_) (fun hc2=>?_)
  ·
   refine G2 ?_;refine .cV J J J J Body253 (r_neg r1) tV (G3 ?_)
   (rw[if_pos hc2];exact⟨(),trivial,Ad wN (wh1 Z0 (wh1 Z1 wh0)) nD⟩)
  refine G2 ?_
  (rw[if_neg hc2];exact⟨(),trivial,Ad wN (wh1 Z0 (wh1 Z1 wh0)) nD⟩)
 intro _u hj;skip;refine G3 ?_;refine .sA J J J J zE Sz207 zF Z1 sP zV ?_;refine G3 ?_;refine G2 ?_;refine⟨_,[],Bh J J J Y207.h J Sz207 Z1 (by simp[An]),sP,sP,?_,rfl⟩
 (rw[hR,if_pos hc1];done)
theorem check_eq{P:Pt Fp}(h:cv.on P):cA*(P.y*P.y-P.x*P.x-1)= -(cB*(P.x*P.x*(P.y*P.y))):=by
  have h1:=(cv.on_iff P).1 h;have h2:P.y*P.y-P.x*P.x=1+fD*(P.x*P.x*(P.y*P.y)):=h1;have h3:=fD_cA;rw[h2];generalize P.x*P.x*(P.y*P.y)=q at*;generalize cA=a at*;generalize cB=b at*;generalize fD=d at*;grind
theorem r5_D  :Mv 259 [] (fun _=>True) (agg (Aa (fb fD))):=by
 intro W hW;have hm:=r_mul (-cB) (finv cA);rw[ref_D]at hm;have hi:=r_inv cA;revert hm hi;generalize finv cA=ia;intro hm hi;refine Ac func259 J 6 ntmps259 J (G2 ?_);refine .alloc (cs:=(Aa (List.replicate 32 0))) J A6 J ?_;intro n0 hn0 hf0;refine G4 ?_;refine .cV J J J J Body265 (r_cB) tV (.cV J J J J Body253 (r_neg cB) tV ?_);refine .cV J J J J Body265 (r_cA) tV (.cV J J J J Body266 (hi) tV (.cV J J J J Body264 (hm) tV (.sA J J J J zE Sz207 zF Z0 sP zU ?_)));refine G2 ?_;refine G2 ?_;refine⟨_,[],Am J J Y207.h J Sz207 Z0 (by simp[An]),sP,sP,?_,rfl⟩;rfl
theorem r5_Zero  :Mv 257 [] (fun _=>True) (agg (ptc (zero:Pt Fp)).cells):=by
 intro W hW;refine Ac func257 J 3 ntmps257 J (G2 ?_);refine .alloc (cs:=Point.zero.cells) J Point.zr J ?_;intro n0 hn0 hf0;refine G4 ?_;refine .cV J J J J Body265 (r_one) tV (.build (cs:=(⟨fb 0,fb 1⟩:Point).cells) J J J (fun w=>by kernel_rfl) ?_);refine .sA J J J J (Point.isCell (by exact⟨fb32 _,fb32 _⟩)) Sz210 (Point.length (by exact⟨fb32 _,fb32 _⟩)) Z0 (Point.length zZ) zU ?_;refine G2 ?_;refine G2 ?_;refine⟨_,[],Am J J Y210.h J Sz210 Z0 (by exact Point.length (by exact⟨fb32 _,fb32 _⟩)),sP,sP,?_,rfl⟩;rfl
theorem r5_root(Y:Fp):Mv 252 [agg (Aa (fb Y))] (fun _=>True) (.tuple #[agg (Aa (fb (xOf Y).1)), .bool (xOf Y).2]):=by
 intro W hW;have hq:=ref_quot Y;have hxo:xOf Y=fRoot ((Y*Y-1)*finv (fD*(Y*Y)+1)):=rfl;rw[←hq]at hxo;have hinv:=r_inv (cA-cB*(Y*Y));revert hinv hxo;clear hq;generalize finv (cA-cB*(Y*Y))=iz;intro hxo hinv;have hroot:=r3_Root (fb (cA*(Y*Y-1)*iz)) (cA*(Y*Y-1)*iz) (An _) (fe_fb _);rw[←hxo]at hroot;clear hxo;revert hroot;generalize xOf Y=xr;intro hroot;refine Ac func252 J 27 ntmps252 J (.sr (.boxA J J ?_));intro n1 hn1 hf1;refine .alloc (cs:=(Aa (List.replicate 32 0))) J A6 J ?_;intro n2 hn2 hf2;refine .a J J J (.nsr (.lA J J J Y207.h J Sz207 Z1 zF ?_));refine .lA J J J Y207.h J Sz207 Z1 zF ?_;refine .cV J J J J Body264 (r_mul Y Y) tV (.alloc (cs:=(Aa (List.replicate 32 0))) J A6 J ?_);intro n4 hn4 hf4;refine .sA J J J J zE Sz207 zF Z0 sP zU ?_;refine .na (.seq (.draw (oP [101,300,302,303,304,205,406]) Ap zK (.lA J J J Y207.h J Sz207 Z0 zF ?_)));refine .cV J J J J Body265 (r_cA) tV (.cV J J J J Body265 (r_one) tV (.cV J J J J Body301 (r_sub (Y*Y) 1) tV (.cV J J J J Body264 (r_mul cA (Y*Y-1)) tV (.alloc (cs:=(Aa (List.replicate 32 0))) J A6 J ?_))));intro n5 hn5 hf5;refine .sA J J J J zE Sz207 zF Z0 sP zU ?_;refine .na (.seq (.draw (oP [102,300,301,303,304,205,406]) Ap zK (.lA J J J Y207.h J Sz207 Z1 zF ?_)));refine .cV J J J J Body265 (r_cA) tV (.cV J J J J Body265 (r_cB) tV (.cV J J J J Body264 (r_mul cB (Y*Y)) tV ?_));refine .cV J J J J Body301 (r_sub cA (cB*(Y*Y))) tV ?_;refine .alloc (cs:=(Aa (List.replicate 32 0))) J A6 J ?_;intro n6 hn6 hf6;refine .sA J J J J zE Sz207 zF Z0 sP zU ?_;refine .na (.seq (.draw (oP [100,101,302,303,304,5,6,407,8]) Ap zK (.lA J J J Y207.h J Sz207 Z1 zF ?_)));refine .lA J J J Y207.h J Sz207 Z0 zF ?_;refine .cV J J J J Body266 (hinv) tV (.cV J J J J Body264 (r_mul (cA*(Y*Y-1)) iz) tV (.cV J J J J Body302 (hroot) tV (.eX J J J J (.eX J J J J (.sA J J J J zE Sz207 zF Z3 sP (by exact upd3) ?_)))));refine .a J J J (.na ?_);refine .ret (en_r ?_);refine⟨_,[],Bh J J J Y207.h J Sz207 Z3 (by simp[An]),sP,sP,?_,rfl⟩;rfl
theorem bP_four:fe 4*finv (fe 5)=bP.y:=by
  have h1:bP.y*fe 5=fe 4:=by kernel_rfl
  have h2:fe 5*finv (fe 5)=1:=finv_mul (by
    intro h;have:=congrArg Fin.val h;revert this;decide)
  generalize finv (fe 5)=v at*;generalize fe 5=f at*;rw[←h1];generalize bP.y=y at*;grind
theorem bP_even:(decide (bP.x.val%2=1))=false:=by kernel_rfl
theorem bP_root:xOf bP.y=(bP.x,true):=by
  have h:=xOf_eq (x:=bP.x) (y:=bP.y) bP_on;rw[h,if_neg (of_decide_eq_false bP_even)]
theorem r5_Base  :Mv 200 [] (fun _=>True) (agg (ptc bP).cells):=by
 intro W hW;have hm:=r_mul (fe 4) (finv (fe 5));rw[bP_four]at hm;have hi:=r_inv (fe 5);have hr:=r5_root bP.y;rw[bP_root]at hr;have hb:bP=⟨bP.x,bP.y⟩:=rfl;rw[hb];clear hb;revert hm hi hr;generalize finv (fe 5)=iv;generalize bP.x=bx;generalize bP.y=bY;intro hm hi hr;refine Ac func200 J 16 ntmps200 J (.sr (.alloc (cs:=Point.zero.cells) J Point.zr J ?_));intro n0 hn0 hf0;refine .nsr (.cV J J J J Body265 (r_of 4 (fe 4) J) tV (.cV J J J J Body265 (r_of 5 (fe 5) J) tV (.cV J J J J Body266 (hi) tV (.cV J J J J Body264 (hm) tV (.alloc (cs:=(Aa (List.replicate 32 0))) J A6 J ?_)))));intro n1 hn1 hf1;refine .sA J J J J zE Sz207 zF Z0 sP zU ?_;refine .nsr (.lA J J J Y207.h J Sz207 Z0 zF ?_);refine .cV J J J J Body252 (hr) tV (.m J J J (.eX J J J J (.eX J J J J (.alloc (cs:=(Aa (List.replicate 32 0))) J A6 J ?_))));intro n2 hn2 hf2;refine .sA J J J J zE Sz207 zF Z0 sP zU ?_;refine .a J J J (.nsr (.lA J J J Y207.h J Sz207 Z0 zF ?_));refine .lA J J J Y207.h J Sz207 Z1 zF ?_;refine .build (cs:=(ptc (⟨bx,bY⟩:Pt Fp)).cells) J J J (fun w=>by kernel_rfl) ?_;refine .sA J J J J (Point.isCell zP) Sz210 (Point.length zP) Z2 (Point.length zZ) (by exact upd2) ?_;refine .na ?_;refine .ret (en_r ?_);refine⟨_,[],Am J J Y210.h J Sz210 Z2 (by exact Point.length zP),sP,sP,?_,rfl⟩;rfl
theorem r5_Check(P:Pt Fp)(hP:cv.on P):Mv 256 [agg (ptc P).cells] (fun _=>True) (i64 0):=by
 intro W hW;refine Ac func256 J 41 ntmps256 J (G3 ?_);intro n1 hn1 hf1;refine G7 ?_;refine .lN (Aa _) J J J Y207.h J Sz207 Z0 (Point.row_fX zP) (Point.rl_fX zP) ?_;refine .cV J J J J Body251 (r_canon P.x) tV (G3 ?_);refine .lN (Aa _) J J J Y207.h J Sz207 Z0 (Point.row_fY zP) (Point.rl_fY zP) ?_;refine .cV J J J J Body251 (r_canon P.y) tV (G4 ?_);refine .cond_f J J (G3 ?_);refine .draw (oP [0,101,2,103,5,106,7,108,304,309,210,211,412,413]) Ap zK (G1 ?_);refine .lN (Aa _) J J J Y207.h J Sz207 Z0 (Point.row_fX zP) (Point.rl_fX zP) ?_;refine G1 ?_;refine .lN (Aa _) J J J Y207.h J Sz207 Z0 (Point.row_fX zP) (Point.rl_fX zP) ?_;refine G1 ?_;refine .lN (Aa _) J J J Y207.h J Sz207 Z0 (Point.row_fY zP) (Point.rl_fY zP) ?_;refine G1 ?_;refine .lN (Aa _) J J J Y207.h J Sz207 Z0 (Point.row_fY zP) (Point.rl_fY zP) ?_;refine .cV J J J J Body264 (r_mul P.x P.x) tV (.cV J J J J Body264 (r_mul P.y P.y) tV (.alloc (cs:=(Aa (List.replicate 32 0))) J A6 J ?_));intro n3 hn3 hf3;refine .alloc (cs:=(Aa (List.replicate 32 0))) J A6 J ?_;intro n4 hn4 hf4;refine .sA J J J J zE Sz207 zF Z1 sP zV ?_;refine .sA J J J J zE Sz207 zF Z0 sP zU ?_;refine G3 ?_;refine .draw (oP [101,102,300,303,304,305,306,207,408]) Ap zK (G2 ?_);refine .cV J J J J Body265 (r_cA) tV (.cV J J J J Body301 (r_sub (P.y*P.y) (P.x*P.x)) tV (.cV J J J J Body265 (r_one) tV (.cV J J J J Body301 (r_sub (P.y*P.y-P.x*P.x) 1) tV (.cV J J J J Body264 (r_mul cA (P.y*P.y-P.x*P.x-1)) tV (.alloc (cs:=(Aa (List.replicate 32 0))) J A6 J ?_)))));intro n5 hn5 hf5;refine .sA J J J J zE Sz207 zF Z0 sP zU ?_;refine G4 ?_;refine .draw (oP [100,102,103,301,304,305,306,7]) Ap zK (G3 ?_);refine .cV J J J J Body265 (r_cB) tV (.cV J J J J Body264 (r_mul (P.x*P.x) (P.y*P.y)) tV (.cV J J J J Body264 (r_mul cB (P.x*P.x*(P.y*P.y))) tV ?_));refine .cV J J J J Body253 (r_neg (cB*(P.x*P.x*(P.y*P.y)))) tV ?_;refine .neq_bytes J J J J eqGuardType207 Y207.h Y5.h Sz5 zF zF (show(!decide _)=false from congrArg not (decide_eq_true (congrArg fb (check_eq hP)))) (G2 ?_);refine .cond_f J (rfl) (G7 ?_);refine G2 ?_;refine⟨_,[],Ae J J,sP,sP,?_,rfl⟩;rfl
structure FarFit(u:far):Prop where
  x:Fit10 u.fX
  y:Fit10 u.fY
  z:Fit10 u.fZ
theorem FarFit.ok{x:far}(h:FarFit x):x.ok:=⟨h.x.len,h.y.len,h.z.len⟩
def farV(x:far):Fr Fp:=⟨fe (v10 x.fX),fe (v10 x.fY),fe (v10 x.fZ)⟩
structure FarRep(x:far)(P:Pt Fp):Prop where
  fit:FarFit x
  rep:(farV x).rep P
def frA(p q:far):List Nat:=mulT p.fZ q.fZ
def frM(d:List Nat)(p q:far):List Nat:=mulT d (mulT (mulT p.fX q.fX) (mulT p.fY q.fY))
def frB(p q:far):List Nat:=plusT (mulT p.fX q.fX) (mulT p.fY q.fY)
def frC(p q:far):List Nat:=minusT (mulT (plusT p.fX p.fY) (plusT q.fX q.fY)) (frB p q)
def frF(d:List Nat)(p q:far):List Nat:=minusT (mulT (frA p q) (frA p q)) (frM d p q)
def frG(d:List Nat)(p q:far):List Nat:=plusT (mulT (frA p q) (frA p q)) (frM d p q)
def frT(d:List Nat)(p q:far):far:=⟨mulT (frA p q) (mulT (frF d p q) (frC p q)),mulT (frA p q) (mulT (frG d p q) (frB p q)),mulT (frF d p q) (frG d p q)⟩
section
variable{d:List Nat}{p q:far}
variable{x y:List Nat}
theorem frA_fit(hp:FarFit p)(hq:FarFit q):Fit10 (frA p q):=Be hp.z hq.z
theorem frM_fit(hd:Fit10 d)(hp:FarFit p)(hq:FarFit q):Fit10 (frM d p q):=Be hd (Be (Be hp.x hq.x) (Be hp.y hq.y))
theorem frB_fit(hp:FarFit p)(hq:FarFit q):Fit10 (frB p q):=plusT_fit (Be hp.x hq.x) (Be hp.y hq.y)
theorem frC_fit(hp:FarFit p)(hq:FarFit q):Fit10 (frC p q):=minusT_fit (Be (plusT_fit hp.x hp.y) (plusT_fit hq.x hq.y)) (frB_fit hp hq)
theorem frF_fit(hd:Fit10 d)(hp:FarFit p)(hq:FarFit q):Fit10 (frF d p q):=minusT_fit (Be (frA_fit hp hq) (frA_fit hp hq)) (frM_fit hd hp hq)
theorem frG_fit(hd:Fit10 d)(hp:FarFit p)(hq:FarFit q):Fit10 (frG d p q):=plusT_fit (Be (frA_fit hp hq) (frA_fit hp hq)) (frM_fit hd hp hq)
theorem frT_fit(hd:Fit10 d)(hp:FarFit p)(hq:FarFit q):FarFit (frT d p q):=
  ⟨Be (frA_fit hp hq) (Be (frF_fit hd hp hq) (frC_fit hp hq)),Be (frA_fit hp hq) (Be (frG_fit hd hp hq) (frB_fit hp hq)),Be (frF_fit hd hp hq) (frG_fit hd hp hq)⟩
theorem mv(hx:Fit10 x)(hy:Fit10 y):fe (v10 (mulT x y))=fe (v10 x)*fe (v10 y):=mulT_v hx.len hy.len
theorem pv'(hx:Fit10 x)(hy:Fit10 y):fe (v10 (plusT x y))=fe (v10 x)+fe (v10 y):=plusT_v hx.len hy.len
theorem nv(hx:Fit10 x)(hy:Fit10 y):fe (v10 (minusT x y))=fe (v10 x)-fe (v10 y):=minusT_v hx.len hy
theorem frT_v(hd:Fit10 d)(hp:FarFit p)(hq:FarFit q):farV (frT d p q)=Fr.add (fe (v10 d)) (farV p) (farV q):=by
  have a:=frA_fit hp hq;have m:=frM_fit hd hp hq;have b:=frB_fit hp hq;have c:=frC_fit hp hq;have f:=frF_fit hd hp hq;have g:=frG_fit hd hp hq;have c1:=Be hp.x hq.x;have c2:=Be hp.y hq.y;have va:fe (v10 (frA p q))=fe (v10 p.fZ)*fe (v10 q.fZ):=mv hp.z hq.z;have vm:fe (v10 (frM d p q))=fe (v10 d)*(fe (v10 p.fX)*fe (v10 q.fX)*(fe (v10 p.fY)*fe (v10 q.fY))):=by rw[frM,mv hd (Be c1 c2),mv c1 c2,mv hp.x hq.x,mv hp.y hq.y]
  have vb:fe (v10 (frB p q))=fe (v10 p.fX)*fe (v10 q.fX)+fe (v10 p.fY)*fe (v10 q.fY):=by rw[frB,pv' c1 c2,mv hp.x hq.x,mv hp.y hq.y]
  have vc:fe (v10 (frC p q))=(fe (v10 p.fX)+fe (v10 p.fY))*(fe (v10 q.fX)+fe (v10 q.fY))-(fe (v10 p.fX)*fe (v10 q.fX)+fe (v10 p.fY)*fe (v10 q.fY)):=by
    rw[frC,nv (Be (plusT_fit hp.x hp.y) (plusT_fit hq.x hq.y)) b,mv (plusT_fit hp.x hp.y) (plusT_fit hq.x hq.y),pv' hp.x hp.y,pv' hq.x hq.y,vb]
  have vf:fe (v10 (frF d p q))=fe (v10 (frA p q))*fe (v10 (frA p q))-fe (v10 (frM d p q)):=by rw[frF,nv (Be a a) m,mv a a]
  have vg:fe (v10 (frG d p q))=fe (v10 (frA p q))*fe (v10 (frA p q))+fe (v10 (frM d p q)):=by rw[frG,pv' (Be a a) m,mv a a]
  unfold farV frT Fr.add;simp only[mv a (Be f c),mv f c,mv a (Be g b),mv g b,mv f g,vf,vg,va,vm,vb,vc]
end
variable{A B E j t:Nat}{d:List Nat}{p x:far}
theorem FarRep.add{p q:far}{P Q:Pt Fp}(hd:Fit10 d)(hdv:fe (v10 d)=fD)(hp:FarRep p P)(hq:FarRep q Q)(hP:cv.on P)(hQ:cv.on Q):FarRep (frT d p q) (cv.add P Q):=by
  refine⟨frT_fit hd hp.fit hq.fit,?_⟩;rw[frT_v hd hp.fit hq.fit,hdv];exact cv.far_add hp.rep hq.rep hP hQ
def awT(P:Pt Fp):far:=⟨openT (le (fb P.x)),openT (le (fb P.y)),openT (le (fb (1:Fp)))⟩
theorem awT_fit(P:Pt Fp):FarFit (awT P):=⟨o_fit (An _),o_fit (An _),o_fit (An _)⟩
theorem awT_rep(P:Pt Fp):FarRep (awT P) P:=by
  refine⟨awT_fit P,?_⟩;have h:farV (awT P)=Fr.of P:=by
    unfold farV awT Fr.of;simp only[o_v (An _),fe_fb]
  rw[h];exact cv.far_of P
def dT:List Nat:=openT (le (fb fD))
theorem dT_fit:Fit10 dT:=o_fit (An _)
theorem dT_v:fe (v10 dT)=fD:=by
  have h:=o_v (An fD);rw[fe_fb]at h;exact h
theorem r5_openD:Mv 258 [agg (Aa (fb fD))] (fun _=>True) (agg (Bk dT)):=r3_Open (fb fD) (An _)
theorem r5_plus(d:List Nat)(p q:far)(hd:Fit10 d)(hp:FarFit p)(hq:FarFit q):Mv 261 [agg (Bk d),agg (p).cells,agg (q).cells] (fun _=>True) (agg (frT d p q).cells):=by
 intro W hW;have ldd:=hd.len;have hpo:=hp.ok;have hqo:=hq.ok;unfold frT frF frG frC frM frB frA;have fa:=Be hp.z hq.z;have ca:=r3_Times _ _ hp.z hq.z;revert fa ca;generalize mulT p.fZ q.fZ=a;intro fa ca;have la:=fa.len;have fb2:=Be fa fa;have cb:=r3_Times _ _ fa fa;revert fb2 cb;generalize mulT a a=b;intro fb2 cb;have lb:=fb2.len;have fc:=Be hp.x hq.x;have cc:=r3_Times _ _ hp.x hq.x;revert fc cc;generalize mulT p.fX q.fX=c;intro fc cc;have lc:=fc.len;have fe2:=Be hp.y hq.y;have ce:=r3_Times _ _ hp.y hq.y;revert fe2 ce;generalize mulT p.fY q.fY=e;intro fe2 ce;have le:=fe2.len;have fce:=Be fc fe2;have cce:=r3_Times _ _ fc fe2;revert fce cce;generalize mulT c e=ce2;intro fce cce;have lce2:=fce.len;have fm:=Be hd fce;have cm:=r3_Times _ _ hd fce;revert fm cm;generalize mulT d ce2=m;intro fm cm;have lm:=fm.len;have ff:=minusT_fit fb2 fm;have cf:=r3_Minus _ _ fb2 fm;revert ff cf;generalize minusT b m=f;intro ff cf;have lf:=ff.len;have fg:=plusT_fit fb2 fm;have cg:=r3_Plus _ _ fb2 fm;revert fg cg;generalize plusT b m=g;intro fg cg;have lg:=fg.len;have fbo:=plusT_fit fc fe2;have cbo:=r3_Plus _ _ fc fe2;revert fbo cbo;generalize plusT c e=both;intro fbo cbo;have lboth:=fbo.len;have fpp:=plusT_fit hp.x hp.y;have cpp:=r3_Plus _ _ hp.x hp.y;revert fpp cpp;generalize plusT p.fX p.fY=pp;intro fpp cpp;have lpp:=fpp.len;have fqq:=plusT_fit hq.x hq.y;have cqq:=r3_Plus _ _ hq.x hq.y;revert fqq cqq;generalize plusT q.fX q.fY=qq;intro fqq cqq;have lqq:=fqq.len;have fpq:=Be fpp fqq;have cpq:=r3_Times _ _ fpp fqq;revert fpq cpq;generalize mulT pp qq=pq;intro fpq cpq;have lpq:=fpq.len;have fcr:=minusT_fit fpq fbo;have ccr:=r3_Minus _ _ fpq fbo;revert fcr ccr;generalize minusT pq both=cr;intro fcr ccr;have lcr:=fcr.len;have ffc:=Be ff fcr;have cfc:=r3_Times _ _ ff fcr;revert ffc cfc;generalize mulT f cr=fcr2;intro ffc cfc;have lfcr2:=ffc.len;have fgb:=Be fg fbo;have cgb:=r3_Times _ _ fg fbo;revert fgb cgb;generalize mulT g both=gb;intro fgb cgb;have lgb:=fgb.len;have fX:=Be fa ffc;have cX:=r3_Times _ _ fa ffc;revert fX cX;generalize mulT a fcr2=X;intro fX cX;have lX:=fX.len;have fY:=Be fa fgb;have cY:=r3_Times _ _ fa fgb;revert fY cY;generalize mulT a gb=Y;intro fY cY;have lY:=fY.len;have fZ:=Be ff fg;have cZ:=r3_Times _ _ ff fg;revert fZ cZ;generalize mulT f g=Z;intro fZ cZ;have lZ:=fZ.len;refine Ac func261 J 75 ntmps261 J (G3 ?_);intro n3 hn3 hf3;refine G1 ?_;intro n4 hn4 hf4;refine G1 ?_;intro n5 hn5 hf5;refine .alloc (cs:=far.zero.cells) J far.zr J ?_;intro n6 hn6 hf6;refine G5 ?_;refine .lN (Bk _) J J J Cf J Sz262 Z2 (far.row_fZ (by exact hpo)) (far.rl_fZ (by exact hpo)) ?_;refine G1 ?_;refine .lN (Bk _) J J J Cf J Sz262 Z1 (far.row_fZ (by exact hqo)) (far.rl_fZ (by exact hqo)) ?_;refine .cV J J J J Body305 (ca) tV (.alloc (cs:=(B4 (List.replicate 10 0))) J Zr262 J ?_);intro n7 hn7 hf7
 refine .sA J J J J (by exact Cg _) Sz262 (by(simp[Al,la];done)) Z0 sP zU ?_;refine G4 ?_;refine .lA J J J Cf J Sz262 Z0 (by(simp[Al,la];done)) ?_;refine .lA J J J Cf J Sz262 Z0 (by(simp[Al,la];done)) ?_;refine .cV J J J J Body305 (cb) tV (.alloc (cs:=(B4 (List.replicate 10 0))) J Zr262 J ?_);intro n8 hn8 hf8;refine .sA J J J J (by exact Cg _) Sz262 (by(simp[Al,lb];done)) Z0 sP zU ?_;refine G3 ?_;refine .draw (oP [0,101,2,103,5,106,7,108,304,309,210,211,412,413]) Ap zK (G1 ?_);refine .lN (Bk _) J J J Cf J Sz262 Z4 (far.row_fX (by exact hpo)) (far.rl_fX (by exact hpo)) ?_;refine G1 ?_;refine .lN (Bk _) J J J Cf J Sz262 Z3 (far.row_fX (by exact hqo)) (far.rl_fX (by exact hqo)) ?_;refine G1 ?_;refine .lN (Bk _) J J J Cf J Sz262 Z4 (far.row_fY (by exact hpo)) (far.rl_fY (by exact hpo)) ?_;refine G1 ?_;refine .lN (Bk _) J J J Cf J Sz262 Z3 (far.row_fY (by exact hqo)) (far.rl_fY (by exact hqo)) ?_;refine .cV J J J J Body305 (cc) tV (.cV J J J J Body305 (ce) tV (.alloc (cs:=(B4 (List.replicate 10 0))) J Zr262 J ?_));intro n9 hn9 hf9;refine .alloc (cs:=(B4 (List.replicate 10 0))) J Zr262 J ?_;intro n10 hn10 hf10;refine .sA J J J J (by exact Cg _) Sz262 (by(simp[Al,lc];done)) Z1 sP zV ?_;refine .sA J J J J (by exact Cg _) Sz262 (by(simp[Al,le];done)) Z0 sP zU ?_;refine G3 ?_;refine .draw (oP [100,101,102,303,304,205,406]) Ap zK (.lA J J J Cf J Sz262 (by exact mem7) (by(simp[Al,ldd];done)) ?_);refine .lA J J J Cf J Sz262 Z1 (by(simp[Al,lc];done)) ?_;refine .lA J J J Cf J Sz262 Z0 (by(simp[Al,le];done)) ?_;refine .cV J J J J Body305 (cce) tV (.cV J J J J Body305 (cm) tV (.alloc (cs:=(B4 (List.replicate 10 0))) J Zr262 J ?_));intro n11 hn11 hf11;refine .sA J J J J (by exact Cg _) Sz262 (by(simp[Al,lm];done)) Z0 sP zU ?_;refine G3 ?_;refine .draw (oP [100,101,103,104,302,305,206,207,408,409]) Ap zK (.lA J J J Cf J Sz262 Z3 (by(simp[Al,lb];done)) ?_);refine .lA J J J Cf J Sz262 Z0 (by(simp[Al,lm];done)) ?_;refine .lA J J J Cf J Sz262 Z3 (by(simp[Al,lb];done)) ?_;refine .lA J J J Cf J Sz262 Z0 (by(simp[Al,lm];done)) ?_;refine .cV J J J J Body306 (cf) tV (.cV J J J J Body307 (cg) tV (.alloc (cs:=(B4 (List.replicate 10 0))) J Zr262 J ?_));intro n12 hn12 hf12;refine .alloc (cs:=(B4 (List.replicate 10 0))) J Zr262 J ?_;intro n13 hn13 hf13;refine .sA J J J J (by exact Cg _) Sz262 (by(simp[Al,lf];done)) Z1 sP zV ?_;refine .sA J J J J (by exact Cg _) Sz262 (by(simp[Al,lg];done)) Z0 sP zU ?_;refine G4 ?_;refine .lA J J J Cf J Sz262 Z4 (by(simp[Al,lc];done)) ?_;refine .lA J J J Cf J Sz262 Z3 (by(simp[Al,le];done)) ?_;refine .cV J J J J Body307 (cbo) tV (.alloc (cs:=(B4 (List.replicate 10 0))) J Zr262 J ?_);intro n14 hn14 hf14;refine .sA J J J J (by exact Cg _) Sz262 (by(simp[Al,lboth];done)) Z0 sP zU ?_;refine G3 ?_;refine .draw (oP [0,101,2,103,5,106,7,108,111,304,309,310,312,213,414]) Ap zK (G1 ?_)
 refine .lN (Bk _) J J J Cf J Sz262 mR (far.row_fX (by exact hpo)) (far.rl_fX (by exact hpo)) ?_;refine G1 ?_;refine .lN (Bk _) J J J Cf J Sz262 mR (far.row_fY (by exact hpo)) (far.rl_fY (by exact hpo)) ?_;refine G1 ?_;refine .lN (Bk _) J J J Cf J Sz262 mR (far.row_fX (by exact hqo)) (far.rl_fX (by exact hqo)) ?_;refine G1 ?_;refine .lN (Bk _) J J J Cf J Sz262 mR (far.row_fY (by exact hqo)) (far.rl_fY (by exact hqo)) ?_;refine .lA J J J Cf J Sz262 Z0 (by(simp[Al,lboth];done)) ?_;refine .cV J J J J Body307 (cpp) tV (.cV J J J J Body307 (cqq) tV (.cV J J J J Body305 (cpq) tV (.cV J J J J Body306 (ccr) tV (.alloc (cs:=(B4 (List.replicate 10 0))) J Zr262 J ?_))));intro n15 hn15 hf15;refine .sA J J J J (by exact Cg _) Sz262 (by(simp[Al,lcr];done)) Z0 sP zU ?_;refine G3 ?_;refine .draw (oP [100,101,102,105,106,107,110,111,303,304,308,309,312,13,414]) Ap zK (.lA J J J Cf J Sz262 mR (by(simp[Al,la];done)) ?_);refine .lA J J J Cf J Sz262 Z3 (by(simp[Al,lf];done)) ?_;refine .lA J J J Cf J Sz262 Z0 (by(simp[Al,lcr];done)) ?_;refine .lA J J J Cf J Sz262 mR (by(simp[Al,la];done)) ?_;refine .lA J J J Cf J Sz262 Z2 (by(simp[Al,lg];done)) ?_;refine .lA J J J Cf J Sz262 Z1 (by(simp[Al,lboth];done)) ?_;refine .lA J J J Cf J Sz262 Z3 (by(simp[Al,lf];done)) ?_;refine .lA J J J Cf J Sz262 Z2 (by(simp[Al,lg];done)) ?_;refine .cV J J J J Body305 (cfc) tV (.cV J J J J Body305 (cX) tV (.cV J J J J Body305 (cgb) tV (.cV J J J J Body305 (cY) tV (.cV J J J J Body305 (cZ) tV (.build (cs:=(⟨X,Y,Z⟩:far).cells) J J J (fun w=>by kernel_rfl) ?_)))));refine .sA J J J J (far.isCell (by exact⟨lX,lY,lZ⟩)) Sz265 (far.length (by exact⟨lX,lY,lZ⟩)) mR (far.length (by exact far.zero_ok)) (by(repeat(first|exact upd0|apply Upd.tail))) ?_;refine G2 ?_;refine G2 ?_;refine⟨_,[],Am J J Y265.h J Sz265 mR (by exact far.length (by exact⟨lX,lY,lZ⟩)),sP,sP,?_,rfl⟩;rfl
theorem r5_near(p:far)(P:Pt Fp)(hp:FarRep p P):Mv 263 [agg (p).cells] (fun _=>True) (agg (ptc P).cells):=by
 intro W hW;have hpo:=hp.fit.ok;have hpt:=cv.far_pt hp.rep;have h1:=r3_Close_v p.fZ hp.fit.z _ rfl;have h2:=r3_Close_v p.fX hp.fit.x _ rfl;have h3:=r3_Close_v p.fY hp.fit.y _ rfl;have hi:=r_inv (fe (v10 p.fZ));have e:P=⟨fe (v10 p.fX)*finv (fe (v10 p.fZ)),fe (v10 p.fY)*finv (fe (v10 p.fZ))⟩:=hpt.symm;rw[e];clear e hpt;revert h1 h2 h3 hi;generalize finv (fe (v10 p.fZ))=iz;generalize fe (v10 p.fZ)=z;generalize fe (v10 p.fX)=x;generalize fe (v10 p.fY)=y;intro h1 h2 h3 hi;refine Ac func263 J 19 ntmps263 J (.sr (.boxA J J ?_));intro n1 hn1 hf1;refine .alloc (cs:=Point.zero.cells) J Point.zr J ?_;intro n2 hn2 hf2;refine .nsr (.fld J J J Y265.h J Sz262 dE _ J (.lN (Bk _) J J J Cf J Sz262 Z1 (far.row_fZ (by exact hpo)) (far.rl_fZ (by exact hpo)) ?_));refine .cV J J J J Body308 (h1) tV (.cV J J J J Body266 (hi) tV (.alloc (cs:=(Aa (List.replicate 32 0))) J A6 J ?_));intro n3 hn3 hf3;refine .sA J J J J zE Sz207 zF Z0 sP zU ?_;refine .na (.seq (.draw (oP [0,101,103,5,106,108,302,304,307,309,10,411]) Ap zK (.fld J J J Y265.h J Sz262 dE _ J (.lN (Bk _) J J J Cf J Sz262 Z2 (far.row_fX (by exact hpo)) (far.rl_fX (by exact hpo)) ?_))));refine .lA J J J Y207.h J Sz207 Z0 zF ?_;refine .fld J J J Y265.h J Sz262 dE _ J (.lN (Bk _) J J J Cf J Sz262 Z2 (far.row_fY (by exact hpo)) (far.rl_fY (by exact hpo)) ?_);refine .lA J J J Y207.h J Sz207 Z0 zF ?_;refine .cV J J J J Body308 (h2) tV (.cV J J J J Body264 (r_mul x iz) tV (.cV J J J J Body308 (h3) tV (.cV J J J J Body264 (r_mul y iz) tV (.build (cs:=(ptc (⟨x*iz,y*iz⟩:Pt Fp)).cells) J J J (fun w=>by kernel_rfl) ?_))));refine .sA J J J J (Point.isCell zP) Sz210 (Point.length zP) Z1 (Point.length zZ) zV ?_;refine .na ?_;refine .ret (en_r ?_);refine⟨_,[],Am J J Y210.h J Sz210 Z1 (by exact Point.length zP),sP,sP,?_,rfl⟩;rfl
theorem r5_away(P:Pt Fp):Mv 260 [agg (ptc P).cells] (fun _=>True) (agg (awT P).cells):=by
 intro W hW;have h1:=r3_Open (fb P.x) (An _);have h2:=r3_Open (fb P.y) (An _);have h3:=r3_Open (fb 1) (An _);have lX:=openT_length (le (fb P.x));have lY:=openT_length (le (fb P.y));have lZ:=openT_length (le (fb 1));unfold awT;revert h1 h2 h3 lX lY lZ;generalize openT (le (fb P.x))=X;generalize openT (le (fb P.y))=Y;generalize openT (le (fb 1))=Z;intro h1 h2 h3 lX lY lZ;refine Ac func260 J 12 ntmps260 J (G3 ?_);intro n1 hn1 hf1;refine .alloc (cs:=far.zero.cells) J far.zr J ?_;intro n2 hn2 hf2;refine G3 ?_;refine .draw (oP [0,101,3,104,302,305,306,307,8,409]) Ap zK (G1 ?_);refine .lN (Aa _) J J J Y207.h J Sz207 Z1 (Point.row_fX zP) (Point.rl_fX zP) ?_;refine G1 ?_;refine .lN (Aa _) J J J Y207.h J Sz207 Z1 (Point.row_fY zP) (Point.rl_fY zP) ?_;refine .cV J J J J Body258 (h1) tV (.cV J J J J Body258 (h2) tV (.cV J J J J Body265 (r_one) tV (.cV J J J J Body258 (h3) tV (.build (cs:=(⟨X,Y,Z⟩:far).cells) J J J (fun w=>by kernel_rfl) ?_))));refine .sA J J J J (far.isCell (by exact⟨lX,lY,lZ⟩)) Sz265 (far.length (by exact⟨lX,lY,lZ⟩)) Z0 (far.length (by exact far.zero_ok)) zU ?_;refine G2 ?_;refine G2 ?_;refine⟨_,[],Am J J Y265.h J Sz265 Z0 (by exact far.length (by exact⟨lX,lY,lZ⟩)),sP,sP,?_,rfl⟩;rfl
theorem byte_plus:∀b:UInt8,b.toNat<128→b+128=b|||128:=by
  intro b hb;have h:∀n,n<128→UInt8.ofNat n+128=UInt8.ofNat n|||128:=by decide
  have h2:=h b.toNat hb;rwa[Lf5]at h2
theorem lin_d{a b j:Nat}(hj:j<256):a/2^(256-(j+1))=2*(a/2^(256-j))+a/2^(255-j)%2:=next_div a j hj
theorem frep_dbl{P Q:Pt Fp}(hd:Fit10 d)(hdv:fe (v10 d)=fD)(hP:cv.on P)(hQ:cv.on Q)(h:FarRep p (cv.lin A B P Q)):FarRep (frT d p p) (cv.lin (2*A) (2*B) P Q):=by
  rw[cv.lin_two hP hQ];exact FarRep.add hd hdv h h (cv.on_lin hP hQ _ _) (cv.on_lin hP hQ _ _)
theorem frep_l{P Q:Pt Fp}(hd:Fit10 d)(hdv:fe (v10 d)=fD)(hP:cv.on P)(hQ:cv.on Q)(h:FarRep p (cv.lin A B P Q))(hx:FarRep x P)(ht:t=1):FarRep (frT d p x) (cv.lin (A+t) B P Q):=by
  rw[ht,cv.lin_left hP hQ];exact FarRep.add hd hdv h hx (cv.on_lin hP hQ _ _) hP
theorem frep_r{P Q:Pt Fp}(hd:Fit10 d)(hdv:fe (v10 d)=fD)(hP:cv.on P)(hQ:cv.on Q)(h:FarRep p (cv.lin A B P Q))(hx:FarRep x Q)(ht:t=1):FarRep (frT d p x) (cv.lin A (B+t) P Q):=by
  rw[ht,cv.lin_right hP hQ];exact FarRep.add hd hdv h hx (cv.on_lin hP hQ _ _) hQ
theorem frep_first(a b:List UInt8)(ha:a.length=32)(hb:b.length=32)(P Q:Pt Fp):FarRep (awT (zero:Pt Fp)) (cv.lin (le a/2^(256-0)) (le b/2^(256-0)) P Q):=by
  have h1:=le32 ha;have h2:=le32 hb;rw[show 256-0=256 from rfl,Lax h1,Lax h2,cv.lin_zero];exact awT_rep zero
theorem bit_one(h:E.testBit j=true):E/2^j%2=1:=by have:=test_div E j true h;rwa[if_pos rfl]at this
theorem bit_nil(h:E.testBit j=false):E/2^j%2=0:=by have:=test_div E j false h;rwa[if_neg dE]at this
theorem r5_Mul2(a b:List UInt8)(P Q:Pt Fp)(ha:a.length=32)(hb:b.length=32)(hP:cv.on P)(hQ:cv.on Q):Mv 199 [agg (Aa a),agg (ptc P).cells,agg (Aa b),agg (ptc Q).cells] (fun _=>True) (agg (ptc (cv.lin (le a) (le b) P Q)).cells):=by
 intro W hW;have hDf:=dT_fit;have hDv:=dT_v;have hod:=r5_openD;revert hDf hDv hod;generalize dT=D;intro hDf hDv hod;have hDl:=hDf.len;have hAP:=awT_rep P;have hAQ:=awT_rep Q;have hAZ:=frep_first a b ha hb P Q;have cP:=r5_away P;have cQ:=r5_away Q;have cZ:=r5_away (zero:Pt Fp);revert hAP hAQ hAZ cP cQ cZ;generalize awT P=AP;generalize awT Q=AQ;generalize awT (zero:Pt Fp)=AZ;intro hAP hAQ hAZ cP cQ cZ;have hAPo:=hAP.fit.ok;have hAQo:=hAQ.fit.ok;have hAZo:=hAZ.fit.ok;have huo:True:=trivial;have hwo:True:=trivial;have hxo:True:=trivial;refine Ac func199 J 55 ntmps199 J (.sr (.boxA J J ?_));intro n4 hn4 hf4;refine .boxA J J ?_;intro n5 hn5 hf5;refine .boxA J J ?_;intro n6 hn6 hf6;refine .boxA J J ?_;intro n7 hn7 hf7;refine .alloc (cs:=Point.zero.cells) J Point.zr J ?_;intro n8 hn8 hf8;refine .na (.seq (.sr (.lA J J J Y210.h J Sz210 Z3 (Point.length zP) ?_)));refine .cV J J J J Body256 (r5_Check P hP) tV (.nei J J J J (show(!decide _)=false from congrArg not (decide_eq_true (rfl))) (.m J J J (.lA J J J Y210.h J Sz210 Z1 (Point.length zP) ?_)));refine .cV J J J J Body256 (r5_Check Q hQ) tV (.nei J J J J (show(!decide _)=false from congrArg not (decide_eq_true (rfl))) (.pick J J J J J J (.na (.cond_f J J (.skip (at_n (.seq (.draw (oP [104,106,300,301,302,303,305,307,208,209,210,211,412,413,414,415]) Ap zK (.lA J J J Y210.h J Sz210 Z3 (Point.length zP) ?_)))))))));refine .lA J J J Y210.h J Sz210 Z1 (Point.length zP) ?_;refine .cV J J J J Body259 (r5_D) tV (.cV J J J J Body258 (hod) tV (.cV J J J J Body257 (r5_Zero) tV (.cV J J J J Body260 (cZ) tV (.cV J J J J Body260 (cP) tV (.cV J J J J Body260 (cQ) tV (.alloc (cs:=(B4 (List.replicate 10 0))) J Zr262 J ?_))))));intro n9 hn9 hf9;refine .alloc (cs:=far.zero.cells) J far.zr J ?_;intro n10 hn10 hf10;refine .alloc (cs:=far.zero.cells) J far.zr J ?_;intro n11 hn11 hf11;refine .alloc (cs:=far.zero.cells) J far.zr J ?_;intro n12 hn12 hf12;refine .sA J J J J (by exact Cg _) Sz262 (by(simp[Al,hDl];done)) Z3 sP (by exact upd3) ?_;refine .sA J J J J (far.isCell (by exact hAZo)) Sz265 (far.length (by exact hAZo)) Z2 (far.length (by exact far.zero_ok)) (by exact upd2) ?_;refine .sA J J J J (far.isCell (by exact hAPo)) Sz265 (far.length (by exact hAPo)) Z1 (far.length (by exact far.zero_ok)) zV ?_;refine .sA J J J J (far.isCell (by exact hAQo)) Sz265 (far.length (by exact hAQo)) Z0 (far.length (by exact far.zero_ok)) zU ?_
 refine .na (.seq (.sr (.a J J J (.na (.block (.loop (ι:=Nat×far) (fun p=>⟨[(4,ptr n4 0),(6,ptr n6 0),(8,ptr n8 0),(9,ptr n9 0),(10,ptr n10 0),(11,ptr n11 0),(12,ptr n12 0),(13,i64 (255-(p.1:Int)))],[⟨n12,(AQ).cells,265,30⟩,⟨n11,(AP).cells,265,30⟩,⟨n10,(p.2).cells,265,30⟩,⟨n9,Bk D,262,10⟩,⟨n8,Point.zero.cells,210,64⟩,⟨n6,Aa b,207,(Aa b).length⟩,⟨n4,Aa a,207,(Aa a).length⟩]⟩) (fun p=>p.1≤256∧FarRep p.2 (cv.lin (le a/2^(256-p.1)) (le b/2^(256-p.1)) P Q)) (fun p=>256-p.1) ((0,AZ)) ?_ ?_ ?_))))))
 ·exact⟨Las _,hAZ⟩
 ·exact Ad wN (wh1 Z0 (wh1 Z1 (wh1 Z2 (wh1 Z3 (wh1 Z4 (wh1 (by exact mem6) wM)))))) nD
 rintro p ⟨hj1,hw⟩;have hwo:=hw.fit.ok;refine .seq (.sr (.m J J J (.geq J J J J J (.na (.condP J (fun hc1=>?_) (fun hc1=>?_))))))
 ·
  have hj3:p.1<256:=by omega
  have hu:=frep_dbl hDf hDv hP hQ hw;have cd:=r5_plus D p.2 p.2 hDf hw.fit hw.fit;revert hu cd;generalize frT D p.2 p.2=F1;intro hu cd;have huo:=hu.fit.ok;rw[show(255:Int)-(p.1:Int)=((255-p.1:Nat):Int) by omega];refine .skip (at_n (.join (ι:=far) (fun y=>⟨[(4,ptr n4 0),(6,ptr n6 0),(8,ptr n8 0),(9,ptr n9 0),(10,ptr n10 0),(11,ptr n11 0),(12,ptr n12 0),(13,i64 (((255-p.1:Nat):Int)))],[⟨n12,(AQ).cells,265,30⟩,⟨n11,(AP).cells,265,30⟩,⟨n10,(y).cells,265,30⟩,⟨n9,Bk D,262,10⟩,⟨n8,Point.zero.cells,210,64⟩,⟨n6,Aa b,207,(Aa b).length⟩,⟨n4,Aa a,207,(Aa a).length⟩]⟩) (fun y=>FarRep y (cv.lin (le a/2^(256-(p.1+1))) (le b/2^(256-(p.1+1))) P Q)) ?_ ?_))
  ·
   refine .block (.sr (.lA J J J Cf J Sz262 Z3 (by(simp[Al,hDl];done)) ?_));refine .lA J J J Y265.h J Sz265 Z2 (far.length (by exact hwo)) ?_;refine .lA J J J Y265.h J Sz265 Z2 (far.length (by exact hwo)) ?_;refine .cV J J J J Body261 (cd) tV (.sA J J J J (far.isCell (by exact huo)) Sz265 (far.length (by exact huo)) Z2 (far.length (by exact hwo)) (by exact upd2) ?_);refine .na (.join (ι:=far) (fun x=>⟨[(4,ptr n4 0),(6,ptr n6 0),(8,ptr n8 0),(9,ptr n9 0),(10,ptr n10 0),(11,ptr n11 0),(12,ptr n12 0),(13,i64 (((255-p.1:Nat):Int)))],[⟨n12,(AQ).cells,265,30⟩,⟨n11,(AP).cells,265,30⟩,⟨n10,(x).cells,265,30⟩,⟨n9,Bk D,262,10⟩,⟨n8,Point.zero.cells,210,64⟩,⟨n6,Aa b,207,(Aa b).length⟩,⟨n4,Aa a,207,(Aa a).length⟩]⟩) (fun x=>FarRep x (cv.lin (2*(le a/2^(256-p.1))+le a/2^(255-p.1)%2) (2*(le b/2^(256-p.1))) P Q)) ?_ ?_)
   ·
    refine .sr (.lA J J J Y207.h J Sz207 (by exact mem6) (by(simp[ha];done)) ?_);refine .m J J J (.cV J J J J Body262 (ref_bit_at a ha (255-p.1) oM) tV (.na (.cond J (fun hc2=>?_) (fun hc2=>?_))))
    ·
     have ca:=r5_plus D F1 AP hDf hu.fit hAP.fit;have hul:=frep_l hDf hDv hP hQ hu hAP (bit_one hc2);revert ca hul;generalize frT D F1 AP=F2;intro ca hul;have hulo:=hul.fit.ok;refine .region (.lA J J J Cf J Sz262 Z3 (by(simp[Al,hDl];done)) ?_);refine .lA J J J Y265.h J Sz265 Z2 (far.length (by exact huo)) ?_;refine .lA J J J Y265.h J Sz265 Z1 (far.length (by exact hAPo)) ?_;refine .cV J J J J Body261 (ca) tV (.sA J J J J (far.isCell (by exact hulo)) Sz265 (far.length (by exact hulo)) Z2 (far.length (by exact huo)) (by exact upd2) ?_);refine .na ?_;exact⟨F2,hul,Ad wN (wh1 Z0 (wh1 Z1 (wh1 Z2 (wh1 Z3 (wh1 Z4 (wh1 (by exact mem5) (wh1 (by exact mem6) wh0))))))) nD⟩
    refine .skip (at_n ?_);exact⟨F1,(by rw[bit_nil hc2,Lbs];exact hu),Ad wN (wh1 Z0 (wh1 Z1 (wh1 Z2 (wh1 Z3 (wh1 Z4 (wh1 (by exact mem5) (wh1 (by exact mem6) wh0))))))) nD⟩
   intro x hj;have hx:=hj;have hxo:=hx.fit.ok;refine .sr (.lA J J J Y207.h J Sz207 (by exact mem5) (by(simp[hb];done)) ?_);refine .m J J J (.cV J J J J Body262 (ref_bit_at b hb (255-p.1) oM) tV (.na (.cond J (fun hc3=>?_) (fun hc3=>?_))))
   ·
    have cx:=r5_plus D x AQ hDf hx.fit hAQ.fit;have hxr:=frep_r hDf hDv hP hQ hx hAQ (bit_one hc3);revert cx hxr;generalize frT D x AQ=F3;intro cx hxr;have hxro:=hxr.fit.ok;refine .region (.lA J J J Cf J Sz262 Z3 (by(simp[Al,hDl];done)) ?_);refine .lA J J J Y265.h J Sz265 Z2 (far.length (by exact hxo)) ?_;refine .lA J J J Y265.h J Sz265 Z0 (far.length (by exact hAQo)) ?_;refine .cV J J J J Body261 (cx) tV (.sA J J J J (far.isCell (by exact hxro)) Sz265 (far.length (by exact hxro)) Z2 (far.length (by exact hxo)) (by exact upd2) ?_);refine .nil (bl_n (at_n ?_));exact⟨F3,(by rw[lin_d (b:=0) hj3,lin_d (b:=0) hj3];exact hxr),Ad wN (wh1 Z0 (wh1 Z1 (wh1 Z2 (wh1 Z3 (wh1 Z4 (wh1 (by exact mem5) (wh1 (by exact mem6) wh0))))))) nD⟩
   refine .skip (bl_n (at_n ?_));exact⟨x,(by rw[lin_d (b:=0) hj3,lin_d (b:=0) hj3,bit_nil (E:=le b) hc3,Lbs];exact hx),Ad wN (wh1 Z0 (wh1 Z1 (wh1 Z2 (wh1 Z3 (wh1 Z4 (wh1 (by exact mem5) (wh1 (by exact mem6) wh0))))))) nD⟩
  intro y hj;have hy:=hj;have hyo:=hy.fit.ok;refine .region (.m J J J (.sub_i64 J J J J oM (.a J J J (.na ?_))));exact⟨(p.1+1,y),⟨by simp only[];omega,hy⟩,by simp only[];omega,Ad (wk1 rfl (wk1 rfl (wk1 rfl (wk1 rfl (wk1 rfl (wk1 rfl (wk1 rfl (wk1 (congrArg (fun z=>some (i64 z)) (show((255-p.1:Nat):Int)-1=255-((p.1+1:Nat):Int) by omega)) wk0)))))))) (wh1 Z0 (wh1 Z1 (wh1 Z2 (wh1 Z3 (wh1 Z4 (wh1 (by exact mem5) (wh1 (by exact mem6) wh0))))))) nD⟩
 have hje:p.1=256:=by omega
 have hfin:FarRep p.2 (cv.lin (le a) (le b) P Q):=by rw[hje,lin_last]at hw;exact hw
 refine .exit (at_x (at_x (bl_h (at_n (.sr (.lA J J J Y265.h J Sz265 Z2 (far.length (by exact hwo)) ?_))))));refine .cV J J J J Body263 (r5_near p.2 _ hfin) tV (.sA J J J J (Point.isCell zP) Sz210 (Point.length zP) Z4 (Point.length zZ) (by exact upd4) ?_);refine .na ?_;refine .ret (en_r ?_);refine⟨_,[],Am J J Y210.h J Sz210 Z4 (by exact Point.length zP),sP,sP,?_,rfl⟩;rfl
theorem r5_Mul2z(a:List UInt8)(P:Pt Fp)(ha:a.length=32)(hP:cv.on P):Mv 199 [agg (Aa a),agg (ptc P).cells,agg (Aa (List.replicate 32 0)),agg (ptc (zero:Pt Fp)).cells] (fun _=>True) (agg (ptc (cv.mul (le a) P)).cells):=by
  have h:=r5_Mul2 a (List.replicate 32 0) P zero ha rfl hP cv.on_zero;rwa[le_zero32,lin_one]at h
theorem r5_Mul(a:List UInt8)(P:Pt Fp)(ha:a.length=32)(hP:cv.on P):Mv 270 [agg (Aa a),agg (ptc P).cells] (fun _=>True) (agg (ptc (cv.mul (le a) P)).cells):=by
 intro W hW;refine Ac func270 J 10 ntmps270 J (.sr (.boxA J J ?_));intro n2 hn2 hf2;refine .boxA J J ?_;intro n3 hn3 hf3;refine .alloc (cs:=Point.zero.cells) J Point.zr J ?_;intro n4 hn4 hf4;refine .na (.seq (.draw (oP [100,101,2,303,304,405]) Ap zK (.lA J J J Y207.h J Sz207 Z2 (by(simp[ha];done)) ?_)));refine .lA J J J Y210.h J Sz210 Z1 (Point.length zP) ?_;refine .build (cs:=Aa (List.replicate 32 0)) J J J (fun w=>by kernel_rfl) ?_;refine .cV J J J J Body257 (r5_Zero) tV (.cV J J J J Body199 (r5_Mul2z a P ha hP) tV (.sA J J J J (Point.isCell zP) Sz210 (Point.length zP) Z0 (Point.length zZ) zU ?_));refine .na ?_;refine .ret (en_r ?_);refine⟨_,[],Am J J Y210.h J Sz210 Z0 (by exact Point.length zP),sP,sP,?_,rfl⟩;rfl
theorem r5_Bytes(P:Pt Fp)(hP:cv.on P):Mv 269 [agg (ptc P).cells] (fun _=>True) (.tuple #[agg (Aa (pb P)),i64 0]):=by
 intro W hW;refine Ac func269 J 19 ntmps269 J (.sr (.boxA J J ?_));intro n1 hn1 hf1;refine .alloc (cs:=(Aa (List.replicate 32 0))) J Zr33 J ?_;intro n2 hn2 hf2;refine .a J J J (.na (.seq (.sr (.lA J J J Y210.h J Sz210 Z1 (Point.length zP) ?_))));refine .cV J J J J Body256 (r5_Check P hP) tV (.nei J J J J (show(!decide _)=false from congrArg not (decide_eq_true (rfl))) (.na (.cond_f J (rfl) (.skip (at_n (.sr (.fld J J J Y210.h J Sz207 dE _ J (.lN (Aa _) J J J Y207.h J Sz207 Z1 (Point.row_fY zP) (Point.rl_fY zP) ?_))))))));refine .alloc (cs:=(Aa (List.replicate 32 0))) J Zr33 J ?_;intro n4 hn4 hf4;refine .sA J J J J zE Sz33 (by(simp[An,ptc_y];done)) Z0 sP zU ?_;refine .na (.join (ι:=Unit) (fun _u=>⟨[(2,ptr n2 0),(4,ptr n4 0)],[⟨n4,Aa (pb P),33,32⟩,⟨n2,Aa (List.replicate 32 0),33,32⟩]⟩) (fun _u=>True) ?_ ?_)
 ·
  refine .sr (.fld J J J Y210.h J Sz207 dE _ J (.lN (Aa _) J J J Y207.h J Sz207 Z2 (Point.row_fX zP) (Point.rl_fX zP) ?_));refine .cV J J J J Body312 (r_odd P.x) tV (.na (.condP J (fun hc1=>?_) (fun hc1=>?_)))
  ·
   refine .region (.i1 J J J J Y33.h Sz5 31 J dE (.load1 J J J Y5.h J Z0 (Co (by show 31<(fb P.y).length;rw[An];decide)) ?_));refine .add_u8 J J J (show Af _ _=some (u8 128)from rfl) (.i1 J J J J Y33.h Sz5 31 J dE ?_);rw[show((ptc P).fY.getD 31 0+128:UInt8)=(fb P.y).getD 31 0|||128 from byte_plus _ (fb_top P.y)];refine .s1 J J J J J Sz5 Z0 (by(simp[An,ptc_y];done)) (by exact Bf _ _ _) zU ?_;refine .na ?_
   (rw[show pb P=(fb P.y).set 31 ((fb P.y).getD 31 0|||128)from if_pos hc1];exact⟨(),trivial,Ad wN (wh1 Z0 (wh1 Z1 wh0)) nD⟩)
  refine .skip (at_n ?_)
  (rw[show pb P=fb P.y from if_neg hc1];exact⟨(),trivial,Ad wN (wh1 Z0 (wh1 Z1 wh0)) nD⟩)
 intro _u hj;skip;refine .sr (.lA J J J Y33.h J Sz33 Z0 (by(simp[Ch];done)) ?_);refine .sA J J J J zE Sz33 (by(simp[Ch];done)) Z1 sP zV ?_;refine .a J J J (.na ?_);refine .ret (en_r ?_);refine⟨_,[],Bh J J J Y33.h J Sz33 Z1 (by simp[Ch]),sP,sP,?_,rfl⟩;rfl
end Go.Proofs.YtpogmfngccolbaaGreat
namespace Go.Proofs.YtpogmfngccolbaaGreat
open Go Hw _root_.Go.Proofs.Tryz
theorem ref_mul(a b:List UInt8)(ha:a.length=32)(hb:b.length=32):Mv 314 [agg (Aa a),agg (Aa b)] (fun _=>True) (agg (Aa (leb 32 (le a*le b%L)))):=by
 intro W hW;refine Ac func314 J 58 ntmps314 J (.sr (.boxA J J ?_));intro n2 hn2 hf2;refine .boxA J J ?_;intro n3 hn3 hf3;refine .alloc (cs:=(Aa (List.replicate 32 0))) J A6 J ?_;intro n4 hn4 hf4;refine .nsr (.alloc (cs:=(B4 (List.replicate 64 0))) J Zr320 J ?_);intro n5 hn5 hf5;refine .na (.join (ι:=Unit) (fun _u=>⟨[(2,ptr n2 0),(3,ptr n3 0),(4,ptr n4 0),(5,ptr n5 0)],[⟨n5,natsV (out a b 32),320,64⟩,⟨n4,Aa (List.replicate 32 0),207,32⟩]⟩) (fun _u=>True) ?_ ?_)
 ·
  refine .sr (.a J J J (.na (.block (.loop (ι:=Nat) (fun p=>⟨[(2,ptr n2 0),(3,ptr n3 0),(4,ptr n4 0),(5,ptr n5 0),(6,i64 (p:Int))],[⟨n5,natsV (out a b p),320,64⟩,⟨n4,Aa (List.replicate 32 0),207,32⟩,⟨n3,Aa b,207,(Aa b).length⟩,⟨n2,Aa a,207,(Aa a).length⟩]⟩) (fun p=>p≤32) (fun p=>32-p) (0) ?_ ?_ ?_))))
  ·omega
  ·exact Ad wN (wh1 (by rw[out,natsV_zeros];exact Br) (wh1 Z1 (wh1 Z2 (wh1 Z3 wh0)))) nD
  rintro p hp;refine .seq (.sr (.m J J J (.lss J J J J J (.na (.condP J (fun hc0=>?_) (fun hc0=>?_))))))
  ·
   have hp2:p<32:=by omega
   refine .skip (at_n (.seq (.block (.sr (.a J J J (.na (.block (.loop (ι:=Nat) (fun q=>⟨[(2,ptr n2 0),(3,ptr n3 0),(4,ptr n4 0),(5,ptr n5 0),(6,i64 (p:Int)),(7,i64 (q:Int))],[⟨n5,natsV (inn a b p (out a b p) q),320,64⟩,⟨n4,Aa (List.replicate 32 0),207,32⟩,⟨n3,Aa b,207,(Aa b).length⟩,⟨n2,Aa a,207,(Aa a).length⟩]⟩) (fun q=>q≤32) (fun q=>32-q) (0) ?_ ?_ ?_))))))))
   ·omega
   ·exact Ad wN (wh1 Z0 (wh1 Z1 (wh1 Z2 (wh1 Z3 wh0)))) nD
   rintro q hq;refine .seq (.sr (.m J J J (.lss J J J J J (.na (.condP J (fun hc1=>?_) (fun hc1=>?_))))))
   ·
    have hq2:q<32:=by omega
    obtain⟨hm0,hm1⟩:=natCast_mul_le (a.getD p 0).toNat_lt (b.getD q 0).toNat_lt;have hcl:(inn a b p (out a b p) q).getD (p+q) 0≤2080800*p+65025*q:=inn_le a b p _ _ (out_le a b p) q (p+q);refine .skip (at_n (.seq (.block (.draw (oP [0,1,2,3,4,5,6,107,8,9,110,11,12,13,114,15,16,17,18,419]) Ap zK (.m J J J (.m J J J (.aI J J J J oM (.m J J J (.m J J J (.aI J J J J oM (.i1 J J J J underlying320 Sz3 (p+q) oM oM (.load1 J J J Y3.h J Z0 (get_nats (by simp[inn_length,out_length];omega)) ?_))))))))))));refine .m J J J (.i1 J J J J Y207.h Sz5 _ J oM (.load1 J J J Y5.h J Z3 zG ?_));refine .conv J J J Y5.h Y3.h (cv_u8_i64 _) (.m J J J (.i1 J J J J Y207.h Sz5 _ J oM (.load1 J J J Y5.h J Z2 zG ?_)))
    refine .conv J J J Y5.h Y3.h (cv_u8_i64 _) (.mul_i64 J J J J oM (.aI J J J J oM (.i1 J J J J underlying320 Sz3 (p+q) oM oM (.s1 J J J J J Sz3 Z0 (by(simp[natsV_length,inn_length,out_length];omega)) (by rfl) zU ?_))))
    refine .nil (bl_n (at_n (.region (.m J J J (.aI J J J J oM (.a J J J (.na ?_)))))));exact⟨q+1,by omega,by omega,Ad wN (wh1 (by rw[inn,addC_set];exact Br) (wh1 Z1 (wh1 Z2 (wh1 Z3 wh0)))) nD⟩
   obtain rfl:q=32:=by omega
   refine .exit (at_x (at_x (bl_h (bl_n (at_n (.region (.m J J J (.aI J J J J oM (.a J J J (.na ?_))))))))));exact⟨p+1,by omega,by omega,Ad wN (wh1 Z0 (wh1 Z1 (wh1 Z2 (wh1 Z3 wh0)))) nD⟩
  obtain rfl:p=32:=by omega
  refine .exit (at_x (at_x (bl_h (at_n ?_))));refine⟨(),trivial,Ad wN (wh1 Z0 (wh1 Z1 wh0)) nD⟩
 intro _u hj;skip;refine .sr (.mkSlice (z:=u8 0) (by':=1) 64 J J J J Y46.h Sz5 Zr5 (by unfold By;kernel_rfl) J oM oM oM ?_);intro n38;refine .a J J J (.nsr (.a J J J (.na (.join (ι:=Unit) (fun _u=>⟨[(4,ptr n4 0),(8, .slice (some ⟨n38,0,none⟩) 64 64)],[⟨n38,Aa (leb 64 (le a*le b)),5,64⟩,⟨n4,Aa (List.replicate 32 0),207,32⟩]⟩) (fun _u=>True) ?_ ?_))))
 ·
  refine .sr (.a J J J (.na (.block (.loop (ι:=Nat) (fun k=>⟨[(4,ptr n4 0),(5,ptr n5 0),(8, .slice (some ⟨n38,0,none⟩) 64 64),(9,i64 ((ev ((out a b 32).take k)/256^k:Nat):Int)),(10,i64 (k:Int))],[⟨n38,Aa (padW 64 (ev ((out a b 32).take k)) k),5,64⟩,⟨n5,natsV (out a b 32),320,64⟩,⟨n4,Aa (List.replicate 32 0),207,32⟩]⟩) (fun k=>k≤64) (fun k=>64-k) (0) ?_ ?_ ?_))))
  ·omega
  ·exact Ad (wk1 rfl (wk1 rfl (wk1 rfl (wk1 (by rw[Ldq];rfl) wN)))) (wh1 (by rw[padW_zero];exact Br) (wh1 Z1 (wh1 Z2 wh0))) nD
  rintro k hk;have hpl:=padW_length 64 (ev ((out a b 32).take k)) k hk;have hcb:=ev_take_le (out a b 32) _ (out_le a b 32) k;have hcn:(0:Int)≤((ev ((out a b 32).take k)/256^k:Nat):Int):=Le4 _;have hcb2:((ev ((out a b 32).take k)/256^k:Nat):Int)≤((2080800*32:Nat):Int):=Int.ofNat_le.2 hcb;refine .seq (.sr (.m J J J (.lss J J J J J (.na (.condP J (fun hc2=>?_) (fun hc2=>?_))))))
  ·
   have hk2:k<64:=by omega
   have hco:=out_le a b 32 k;have hs:((ev ((out a b 32).take k)/256^k:Nat):Int)+(((out a b 32).getD k 0:Nat):Int)=((ev ((out a b 32).take k)/256^k+(out a b 32).getD k 0:Nat):Int):=by rw[Lct]
   refine .skip (at_n (.seq (.block (.sr (.m J J J (.m J J J (.i1 J J J J underlying320 Sz3 _ J oM (.load1 J J J Y3.h J Z1 (get_nats (by simp[out_length];omega)) ?_))))))));refine .aI J J J J oM (.a J J J (.nsr (.m J J J (.m J J J (.m J J J (.rem_i64 J J J J oM (.conv J J J Y3.h Y5.h (cv_i64_u8 _) (.idxSl1 J J J J Y46.h Sz5 _ J oM (.s1 J J J J J Sz5 Z0 (by(simp;omega)) (by exact Bf _ _ _) zU ?_)))))))));refine .na (.region (.m J J J (.quo_i64 J J J J oM (.a J J J (.nil (bl_n (at_n (.region (.m J J J (.aI J J J J oM (.a J J J (.na ?_))))))))))));have hst:=ev_take_succ (out a b 32) k (by rw[out_length];omega);exact⟨k+1,by omega,by omega,Ad (wk1 rfl (wk1 rfl (wk1 rfl (wk1 (by rw[hst,←carry_step _ _ _ _ hs];rfl) wN)))) (wh1 (by rw[hst,←padW_step 64 _ _ k oM _ hs,byteOf_mod];exact Br) (wh1 Z1 (wh1 Z2 wh0))) nD⟩
  obtain rfl:k=64:=by omega
  refine .exit (at_x (at_x (bl_h (at_n ?_))));refine⟨(),trivial,Ad wN (wh1 (by rw[←padW_all,←ev_all a b ha hb];exact Br) (wh1 Z2 wh0)) nD⟩
 intro _u hj;skip;refine .sr (.m J J J (.cV J J J J Body311 (ref_rest _ 0 _ 64 (leb 64 (le a*le b)) (by simp[Ai]) oM) (fun W h=>Ao h Z0) ?_));refine .sA J J J J zB Sz207 (by(simp[Ai];done)) Z1 sP zV ?_;refine .na ?_;refine .ret (en_r ?_);refine⟨_,[],Am J J Y207.h J Sz207 Z1 (by simp[Ai]),sP,sP,?_,rfl⟩;rw[le_leb,Laa (le512 ha hb)]
theorem ref_muladd(a b c:List UInt8)(ha:a.length=32)(hb:b.length=32)(hc:c.length=32):Mv 273 [agg (Aa a),agg (Aa b),agg (Aa c)] (fun _=>True) (agg (Aa (leb 32 ((le a*le b+le c)%L)))):=by
 intro W hW;refine Ac func273 J 13 ntmps273 J (.sr (.boxA J J ?_));intro n3 hn3 hf3;refine .boxA J J ?_;intro n4 hn4 hf4;refine .boxA J J ?_;intro n5 hn5 hf5;refine .alloc (cs:=(Aa (List.replicate 32 0))) J A6 J ?_;intro n6 hn6 hf6;refine .na (.seq (.draw (oP [100,101,3,302,304,305,406]) Ap zK (.lA J J J Y207.h J Sz207 Z3 (by(simp[ha];done)) ?_)));refine .lA J J J Y207.h J Sz207 Z2 (by(simp[hb];done)) ?_;refine .sliceArr J J J Y207.h Sz5 (.cV J J J J Body314 (ref_mul a b ha hb) tV (.cV J J J J Body311 (ref_rest _ 0 _ 32 c (by simp[hc]) oM) (fun W h=>Ao h Z1) ?_));refine .cV J J J J Body313 (ref_plus_n _ _ (Lbr _ L_pos) (Lbr _ L_pos)) tV (.sA J J J J zB Sz207 (by(simp[Ai];done)) Z0 sP zU ?_);refine .na ?_;refine .ret (en_r ?_);refine⟨_,[],Am J J Y207.h J Sz207 Z0 (by simp[Ai]),sP,sP,?_,rfl⟩;rw[←Lei]
open Ed
variable{D:DB}{W w:World}{b n:Nat}{l:List UInt8}{v:Value}
theorem byte_8:∀b:UInt8,b-UInt8.ofNat (b.toNat%8)=b&&&248∧UInt8.ofNat (b.toNat%64)+64=(b&&&127)|||64:=by
  intro b;have h:∀n,n<256→UInt8.ofNat n-UInt8.ofNat ((UInt8.ofNat n).toNat%8)=UInt8.ofNat n&&&248∧UInt8.ofNat ((UInt8.ofNat n).toNat%64)+64=(UInt8.ofNat n&&&127)|||64:=by decide
  have h2:=h b.toNat b.toNat_lt;rwa[Lf5]at h2
theorem clamp_ref(h:l.length=32):(l.set 0 (l.getD 0 0-UInt8.ofNat ((l.getD 0 0).toNat%8))).set 31 (UInt8.ofNat (((l.set 0 (l.getD 0 0-UInt8.ofNat ((l.getD 0 0).toNat%8))).getD 31 0).toNat%64)+64)=clampB l:=by
  have g:(l.set 0 (l.getD 0 0-UInt8.ofNat ((l.getD 0 0).toNat%8))).getD 31 0=l.getD 31 0:=by
    rw[La2,Lea dE,←La2]
  rw[g,(byte_8 _).1,(byte_8 _).2];rfl
theorem upd_all{f:List UInt8}(h:f.length=32):upd (Aa (List.replicate 32 0)) 0 (Aa f)=Aa f:=by simp[upd,Aa,h]
theorem sees_take(h:C1 w b 0 (Aa l)):SeesP w (some ⟨b,0,none⟩) (Aa (l.take n)):=SeesP.of (fun i v hv=>h i v (take_sees hv))
theorem sees_drop(h:C1 w b 0 (Aa l)):SeesP w (some ⟨b,n,none⟩) (Aa (l.drop n)):=SeesP.of (fun i v hv=>by
  have e:(Aa l)[n+i]? =some v:=by rw[Aa,Le3,Lb8]at hv;exact hv
  have:=h _ v e;rwa[Law]at this)
theorem r6_secret(seed:List UInt8)(h32:seed.length=32)(s:List UInt8)(hs:Hid (sha512 seed=s)):Meets prog 272 [agg (Aa seed)] [] (fun _=>True) (fun v out=>∃q c,v= .tuple #[agg (Aa (clampB (s.take 32))), .slice (some ⟨q,0,none⟩) 32 c]∧32≤c∧out=[⟨q,Aa (s.drop 32),5,c*1⟩]):=by
 intro W hW;have hs64:s.length=64:=by rw[←hs.out];exact sha512_length seed
 have ht32:(s.take 32).length=32:=by rw[Laj,hs64];rfl
 have hd32:(s.drop 32).length=32:=by rw[Lc2,hs64]
 have hcl:=clampB_length ht32;refine Ac func272 J 28 ntmps272 J (G3 ?_);intro n1 hn1 hf1;refine .alloc (cs:=(Aa (List.replicate 32 0))) J A6 J ?_;intro n2 hn2 hf2;refine G6 ?_;refine .mkRow2 (z:= .slice none 0 0) [.slice (some ⟨n1,0,none⟩) 32 32] [.slice (some ⟨n1,0,none⟩) 32 32] rfl J Y183.h Sz46 Zr46 J J (by intro v hv;rw[La1.1 hv];rfl) dE J ?_;intro q7;refine .cV J J J J Body267 (r2_Sum512 (some ⟨q7,0,none⟩) 1 1 [⟨some ⟨n1,0,none⟩,32,32⟩] [seed] rfl J (fun j hj=>(by
   rcases(show j=0 by omega)with rfl
   ·exact⟨by show 32=List.length _;exact h32.symm,fun e=>by cases e⟩)) (seed) sP (by(simp[h32];done)) dE s hs) (fun w h=>⟨SeesP.of (Ao h Z0),(fun j hj=>(by
   rcases(show j=0 by omega)with rfl
   ·exact SeesP.of (Ao (cs:=Aa seed) h Z2)))⟩) ?_
 refine .alloc (cs:=(Aa (List.replicate 64 0))) J Zr47 J ?_;intro n4 hn4 hf4;refine .sA J J J J zE Sz47 (by(simp[hs64];done)) Z0 sP zU ?_;refine G4 ?_;refine .alloc (cs:=(Aa (List.replicate 32 0))) J A6 J ?_;intro n5 hn5 hf5;refine G3 ?_;refine .draw (oP [0,1,402]) Ap zK (G1 ?_);refine .sliceArrHi 32 J J J J J dE dE Y47.h Sz5 (.copyP (Aa (s.take 32)) 32 J J J J J Y46.h Sz5 (fun w h=>sees_take (Ao h Z1)) (fun e=>by cases e) (by rw[Aa,La0];exact ht32) J (by rw[Aa,←Lch,La6 (Lgd ht32)]) (Aw _) Z0 sP (by exact upd_all ht32) zU ?_);refine G4 ?_;refine .i1 J J J J Y207.h Sz5 0 J dE (G1 ?_);refine .i1 J J J J Y207.h Sz5 0 J dE (G1 ?_);refine .rem_u8 J J J J 8 J dE (.sub_u8 J J J J (.i1 J J J J Y207.h Sz5 0 J dE (.s1 J J J J J Sz5 Z0 (by(simp[hs64];done)) (by exact Bf _ _ _) zU ?_)));refine G4 ?_;refine .i1 J J J J Y207.h Sz5 31 J dE (.load1 J J J Y5.h J Z0 (by exact Co (by(simp[ht32];done))) ?_);refine .rem_u8 J J J J 64 J dE (.add_u8 J J J (show Af _ _=some (u8 64)from rfl) (.i1 J J J J Y207.h Sz5 31 J dE (.s1 J J J J J Sz5 Z0 (by(simp[hs64,ht32];done)) (by exact Bf _ _ _) zU ?_)));refine G3 ?_;refine .withK (sp_k (sp_v (sp_v (sp_v (sp_v sp_n))))) J (.draw (oP [0,2,201,403,404,5]) Ap zK ?_);rw[clamp_ref ht32];refine .kloadAll J J J Y207.h J Sz207 Z0 (by(simp[hcl];done)) ?_;refine .sliceArrLo 32 J J J J J dE Y47.h Sz5 (.mkRow2 (z:=u8 0) [] [] rfl J Y46.h Sz5 Zr5 J J (by intro v hv;cases hv) dE J ?_);intro q25;refine .appendSl (z:=u8 0) (by':=1) (Aa (s.drop 32)) J J J J J Y46.h Y46.h Sz5 Zr5 (by unfold By;kernel_rfl) J (fun w h=>sees_drop (Ao h Z1)) (fun e=>by cases e) (Aw _) rM J J oM oM oM (by rw[Aa,La0];exact hd32) ?_;intro q27 c27 hq27;refine .sA J J J J zE Sz207 (by(simp[hcl];done)) Z3 sP (by exact upd3) ?_;refine G3 ?_;refine G2 ?_;simp only[Lak,Lai,Lar];refine Az (out:=(⟨q27,[]++Aa (s.drop 32),5,c27*1⟩::[])) (Bh J J J Y207.h J Sz207 Z3 (by simp[hcl])) (Ab rM Ak) ?_;exact⟨q27,c27,rfl,by omega,rfl⟩
theorem r6_Secret(seed:List UInt8)(h32:seed.length=32)(s:List UInt8)(hs:Hid (sha512 seed=s)):Mv 271 [agg (Aa seed)] (fun _=>True) (agg (Aa (clampB (s.take 32)))):=by
 intro W hW;have hs64:s.length=64:=by rw[←hs.out];exact sha512_length seed
 have ht32:(s.take 32).length=32:=by rw[Laj,hs64];rfl
 have hd32:(s.drop 32).length=32:=by rw[Lc2,hs64]
 have hcl:=clampB_length ht32;revert hcl;have hsec:=r6_secret seed h32 s hs;revert hsec;generalize clampB (s.take 32)=N;intro hsec hcl;refine Ac func271 J 11 ntmps271 J (G3 ?_);intro n1 hn1 hf1;refine .alloc (cs:=(Aa (List.replicate 32 0))) J A6 J ?_;intro n2 hn2 hf2;refine G4 ?_;refine .lA J J J Y33.h J Sz33 Z1 (by(simp[h32];done)) ?_;refine .call4 J J J J J Body272 (hsec) tV ?_;rintro v7 out7 ⟨q7,c7,rfl,hc7,rfl⟩;simp only[Lak,Lai];refine G3 ?_;refine .alloc (cs:=(Aa (List.replicate 32 0))) J A6 J ?_;intro n3 hn3 hf3;refine .sA J J J J zE Sz207 (by(simp[hcl];done)) Z0 sP zU ?_;refine G5 ?_;refine .lA J J J Y207.h J Sz207 Z0 (by(simp[hcl];done)) ?_;refine .sA J J J J zE Sz207 (by(simp[hcl];done)) Z2 sP (by exact upd2) ?_;refine G2 ?_;refine G2 ?_;refine⟨_,[],Am J J Y207.h J Sz207 Z2 (by simp[hcl]),sP,sP,?_,rfl⟩;rfl
theorem r6_KeyQ(N:List UInt8)(hN:N.length=32)(Q:Pt Fp)(hQ:cv.mul (le N) bP=Q):cv.on Q∧Mv 270 [agg (Aa N),agg (ptc bP).cells] (fun _=>True) (agg (ptc Q).cells):=by
  rw[←hQ];exact⟨cv.on_mul bP_on _,r5_Mul N bP hN bP_on⟩
theorem r6_Key(seed:List UInt8)(h32:seed.length=32)(s:List UInt8)(hs:Hid (sha512 seed=s)):Mv 205 [agg (Aa seed)] (fun _=>True) (agg (Aa (sgK s))):=by
 intro W hW;have hs64:s.length=64:=by rw[←hs.out];exact sha512_length seed
 have ht32:(s.take 32).length=32:=by rw[Laj,hs64];rfl
 have hd32:(s.drop 32).length=32:=by rw[Lc2,hs64]
 have hcl:=clampB_length ht32;obtain⟨Q,hQ⟩:∃Q,cv.mul (le (clampB (s.take 32))) bP=Q:=⟨_,rfl⟩;have hsec:=r6_Secret seed h32 s hs;have hkq:=r6_KeyQ (clampB (s.take 32)) hcl Q hQ;rw[show sgK s=pb Q from by rw[sgK,hQ]];clear hQ;revert hcl hsec hkq;generalize clampB (s.take 32)=N;intro hcl hsec hkq;obtain⟨hQo,hmul⟩:=hkq;refine Ac func205 J 14 ntmps205 J (G3 ?_);intro n1 hn1 hf1;refine .alloc (cs:=(Aa (List.replicate 32 0))) J Zr44 J ?_;intro n2 hn2 hf2;refine G4 ?_;refine .lA J J J Y33.h J Sz33 Z1 (by(simp[h32];done)) ?_;refine .cV J J J J Body271 (hsec) tV (.cV J J J J Body200 (r5_Base) tV (.cV J J J J Body270 (hmul) tV (.cV J J J J Body269 (r5_Bytes Q hQo) tV (G3 ?_))));refine .alloc (cs:=(Aa (List.replicate 32 0))) J Zr33 J ?_;intro n3 hn3 hf3;refine .sA J J J J zE Sz33 (by(simp[Ch];done)) Z0 sP zU ?_;refine G5 ?_;refine .lA J J J Y33.h J Sz33 Z0 (by(simp[Ch];done)) ?_;refine .sA J J J J zE Sz44 (by(simp[Ch];done)) Z1 sP zV ?_;refine G2 ?_;refine G2 ?_;refine⟨_,[],Am J J Y44.h J Sz44 Z1 (by simp[Ch]),sP,sP,?_,rfl⟩;rfl
theorem r6_challenge(r k:List UInt8)(hr:r.length=32)(hk:k.length=32)(sb:Sl)(bb:List UInt8)(hbn:bb.length≤80000)(s:List UInt8)(hs:Hid (sha512 (r++(k++bb))=s)):Mv 201 [agg (Aa r),agg (Aa k),sb.v] (fun W=>BytesAt W sb bb) (agg (Aa (sgR s))):=by
 intro W hW;have hs64:s.length=64:=by rw[←hs.out];exact sha512_length _
 obtain⟨R,hR⟩:∃R,Hid (sgR s=R):=⟨_,⟨rfl⟩⟩;have hRl:R.length=32:=by rw[←hR.out];exact sgR_length s
 have hres:=fun b=>ref_Rest b 0 64 64 s hs64 dE;rw[show leb 32 (le s%L)=R from hR.out]at hres;rw[hR.out];refine Ac func201 J 21 ntmps201 J (G3 ?_);intro n3 hn3 hf3;refine G1 ?_;intro n4 hn4 hf4;refine .alloc (cs:=(Aa (List.replicate 32 0))) J A6 J ?_;intro n6 hn6 hf6;refine G3 ?_;refine .draw (oP [0,1,2,203,304,205,406]) Ap zK (G3 ?_);refine .mkRow2 (z:= .slice none 0 0) [.slice (some ⟨n3,0,none⟩) 32 32, .slice (some ⟨n4,0,none⟩) 32 32,sb.v] [.slice (some ⟨n3,0,none⟩) 32 32, .slice (some ⟨n4,0,none⟩) 32 32,sb.v] rfl J Y183.h Sz46 Zr46 J J (by intro v hv;simp only[Lal,Lc8,or_false]at hv;rcases hv with rfl|rfl|rfl<;>rfl) dE J ?_;intro q13;refine .cV J J J J Body267 (r2_Sum512 (some ⟨q13,0,none⟩) 3 3 [⟨some ⟨n3,0,none⟩,32,32⟩,⟨some ⟨n4,0,none⟩,32,32⟩,sb] [r,k,bb] rfl J (fun j hj=>(by
   rcases(show j=0∨j=1∨j=2 by omega)with rfl|rfl|rfl
   ·exact⟨by show 32=List.length _;exact hr.symm,fun e=>by cases e⟩
   ·exact⟨by show 32=List.length _;exact hk.symm,fun e=>by cases e⟩
   ·exact⟨by show sb.n=bb.length;exact hW.len.symm,fun e=>by have h1:=hW.nil e;have h2:=hW.cap;show sb.n=0;omega⟩)) (r++(k++bb)) sP (by(simp[hr,hk];omega)) dE s hs) (fun w h=>⟨SeesP.of (Ao h Z0),(fun j hj=>(by
   rcases(show j=0∨j=1∨j=2 by omega)with rfl|rfl|rfl
   ·exact SeesP.of (Ao (cs:=Aa r) h Z3)
   ·exact SeesP.of (Ao (cs:=Aa k) h Z2)
   ·exact A2 h rfl hW.see))⟩) ?_
 refine .alloc (cs:=(Aa (List.replicate 64 0))) J Zr47 J ?_;intro n7 hn7 hf7;refine .sA J J J J zE Sz47 (by(simp[hs64];done)) Z0 sP zU ?_;refine G5 ?_;refine .cV J J J J Body268 (hres n7) (fun w h=>Ao h Z0) ?_;refine G3 ?_;refine .alloc (cs:=(Aa (List.replicate 32 0))) J A6 J ?_;intro n8 hn8 hf8;refine .sA J J J J zE Sz207 (by(simp[hRl];done)) Z0 sP zU ?_;refine G5 ?_;refine .lA J J J Y207.h J Sz207 Z0 (by(simp[hRl];done)) ?_;refine .sA J J J J zE Sz207 (by(simp[hRl];done)) Z3 sP (by exact upd3) ?_;refine G2 ?_;refine G2 ?_;refine⟨_,[],Am J J Y207.h J Sz207 Z3 (by simp[hRl]),sP,sP,?_,rfl⟩;rfl
theorem r6_Sign(seed:List UInt8)(h32:seed.length=32)(sb:Sl)(bb:List UInt8)(hbn:bb.length≤80000)(s s1 s2:List UInt8)(hs:Hid (sha512 seed=s))(hs1:Hid (sha512 (s.drop 32++bb)=s1))(hs2:Hid (sha512 (sgF s1++(sgK s++bb))=s2)):Mv 206 [agg (Aa seed),sb.v] (fun W=>BytesAt W sb bb) (agg (Aa (sgF s1++sgS s s1 s2))):=by
 intro W hW;have hs64:s.length=64:=by rw[←hs.out];exact sha512_length seed
 have ht32:(s.take 32).length=32:=by rw[Laj,hs64];rfl
 have hd32:(s.drop 32).length=32:=by rw[Lc2,hs64]
 have hcl:=clampB_length ht32;have h64:s1.length=64:=by rw[←hs1.out];exact sha512_length _
 have csec:=r6_secret seed h32 s hs;have ckey:=r6_Key seed h32 s hs;have cch:=r6_challenge (sgF s1) (sgK s) (sgF_length s1) (sgK_length s) sb bb hbn s2 hs2;have cma:=ref_muladd (sgR s2) (clampB (s.take 32)) (sgR s1) (sgR_length s2) hcl (sgR_length s1);rw[show leb 32 ((le (sgR s2)*le (clampB (s.take 32))+le (sgR s1))%L)=sgS s s1 s2 from rfl]at cma;obtain⟨Q,hQ⟩:∃Q,cv.mul (le (sgR s1)) bP=Q:=⟨_,rfl⟩;have hkq:=r6_KeyQ (sgR s1) (sgR_length s1) Q hQ;have hF:sgF s1=pb Q:=by rw[sgF,hQ]
 rw[hF]at cch ⊢;clear hQ hs2 hF;have hres:=fun b=>ref_Rest b 0 64 64 s1 h64 dE;rw[show leb 32 (le s1%L)=sgR s1 from rfl]at hres;have lK:=sgK_length s;have lS:=sgS_length s s1 s2;have lR1:=sgR_length s1;have lR2:=sgR_length s2;revert hcl csec ckey cch cma hkq hres lK lS lR1 lR2;generalize sgS s s1 s2=S3;generalize sgK s=K;generalize sgR s1=r1;generalize sgR s2=r2;generalize clampB (s.take 32)=N;intro hcl csec ckey cma cch hkq hres lK lS lR1 lR2;obtain⟨hQo,hmul⟩:=hkq;have hpq:=Ch Q;refine Ac func206 J 50 ntmps206 J (G3 ?_);intro n2 hn2 hf2;refine .alloc (cs:=(Aa (List.replicate 64 0))) J Zr48 J ?_;intro n4 hn4 hf4;refine G4 ?_;refine .lA J J J Y33.h J Sz33 Z1 (by(simp[h32];done)) ?_;refine .call4 J J J J J Body272 (csec) tV ?_;rintro v7 out7 ⟨q7,c7,rfl,hc7,rfl⟩;simp only[Lak,Lai];refine G3 ?_;refine .alloc (cs:=(Aa (List.replicate 32 0))) J A6 J ?_;intro n5 hn5 hf5;refine .sA J J J J zE Sz207 (by(simp[hcl];done)) Z0 sP zU ?_;refine G7 ?_;refine .mkRow2 (z:= .slice none 0 0) [.slice (some ⟨q7,0,none⟩) 32 c7,sb.v] [.slice (some ⟨q7,0,none⟩) 32 c7,sb.v] rfl J Y183.h Sz46 Zr46 J J (by intro v hv;simp only[Lal,Lc8,or_false]at hv;rcases hv with rfl|rfl<;>rfl) dE J ?_;intro q21;refine .cV J J J J Body267 (r2_Sum512 (some ⟨q21,0,none⟩) 2 2 [⟨some ⟨q7,0,none⟩,32,c7⟩,sb] [s.drop 32,bb] rfl J (fun j hj=>(by
   rcases(show j=0∨j=1 by omega)with rfl|rfl
   ·exact⟨by show 32=List.length _;exact hd32.symm,fun e=>by cases e⟩
   ·exact⟨by show sb.n=bb.length;exact hW.len.symm,fun e=>by have h1:=hW.nil e;have h2:=hW.cap;show sb.n=0;omega⟩)) (s.drop 32++bb) sP (by(simp[hd32];omega)) dE s1 hs1) (fun w h=>⟨SeesP.of (Ao h Z0),(fun j hj=>(by
   rcases(show j=0∨j=1 by omega)with rfl|rfl
   ·exact SeesP.of (Ao (cs:=Aa (s.drop 32)) h Z2)
   ·exact A2 h rfl hW.see))⟩) ?_
 refine .alloc (cs:=(Aa (List.replicate 64 0))) J Zr47 J ?_;intro n7 hn7 hf7;refine .sA J J J J zE Sz47 (by(simp[h64];done)) Z0 sP zU ?_;refine G5 ?_;refine .cV J J J J Body268 (hres n7) (fun w h=>Ao h Z0) ?_;refine G3 ?_;refine .alloc (cs:=(Aa (List.replicate 32 0))) J A6 J ?_;intro n8 hn8 hf8;refine .sA J J J J zE Sz207 (by(simp[lR1];done)) Z0 sP zU ?_;refine G4 ?_;refine .draw (oP [100,301,302,303,4,5,6,207,408,9]) Ap zK (.lA J J J Y207.h J Sz207 Z0 (by(simp[lR1];done)) ?_);refine .cV J J J J Body200 (r5_Base) tV (.cV J J J J Body270 (hmul) tV (.cV J J J J Body269 (r5_Bytes Q hQo) tV (G3 ?_)));refine .alloc (cs:=(Aa (List.replicate 32 0))) J Zr33 J ?_;intro n10 hn10 hf10;refine .sA J J J J zE Sz33 (by(simp[Ch];done)) Z0 sP zU ?_;refine G4 ?_;refine .draw (oP [100,101,3,105,106,302,304,307,208,409]) Ap zK (.lA J J J Y33.h J Sz33 Z0 (by(simp[Ch];done)) ?_);refine .lA J J J Y33.h J Sz33 (by exact mem7) (by(simp[h32];done)) ?_;refine G1 ?_;refine .lA J J J Y207.h J Sz207 Z4 (by(simp[hcl];done)) ?_;refine .lA J J J Y207.h J Sz207 Z1 (by(simp[lR1];done)) ?_;refine .cV J J J J Body205 (ckey) tV (.cV J J J J Body201 (cch) (fun w h=>bytes_ext h J hW) (.cV J J J J Body273 (cma) tV (.alloc (cs:=(Aa (List.replicate 32 0))) J A6 J ?_)));intro n12 hn12 hf12;refine .sA J J J J zE Sz207 (by(simp[lS];done)) Z0 sP zU ?_;refine G4 ?_;refine .alloc (cs:=(Aa (List.replicate 64 0))) J Zr48 J ?_;intro n13 hn13 hf13;refine G3 ?_;refine .draw (oP [0,1,402]) Ap zK (G2 ?_);refine .copyP (Aa (pb Q)) 32 J J J J J Y46.h Sz5 (fun w h=>SeesP.of (Ao h Z2)) (fun e=>by cases e) (by rw[Aa,La0];exact(Ch Q)) J (by rw[Aa,←Lch,La6 (Lgd (Ch Q))]) (Aw _) Z0 sP (by exact upd_first (Ch Q)) zU ?_;refine G3 ?_;refine .draw (oP [0,1,402]) Ap zK (.sliceArrLo 32 J J J J J dE Y48.h Sz5 (G1 ?_));refine .copyP (Aa S3) 32 J J J J J Y46.h Sz5 (fun w h=>SeesP.of (Ao h Z1)) (fun e=>by cases e) (by rw[Aa,La0];exact lS) J (by rw[Aa,←Lch,La6 (Lgd lS)]) (Aw _) Z0 (by(simp;omega)) (by exact upd_last (Ch Q) lS) zU ?_;refine G4 ?_;refine .lA J J J Y48.h J Sz48 Z0 (by(simp[Ch,lS];done)) ?_;refine .sA J J J J zE Sz48 (by(simp[Ch,lS];done)) mR sP (by(repeat(first|exact upd0|apply Upd.tail))) ?_;refine G2 ?_;refine G2 ?_;refine⟨_,[],Am J J Y48.h J Sz48 mR (by simp[Ch,lS]),sP,sP,?_,rfl⟩;rfl
def btag:List UInt8:=[98,108,111,99,107]
def btxt(D:DB):List UInt8:=btag++D.body
def bsg(D:DB)(K G:List UInt8):DB:={ D with w:=K,sg:=G }
theorem DB.body_small(hd:D.ok)(h1:D.ls.length≤40)(h2:D.ds.length≤2000):(btxt D).length≤4005:=by
  have hz1:=Bp D.seq.toNat;have hz2:=Bp (UInt64.ofNat D.ls.length).toNat;have hz3:=Bp (UInt64.ofNat D.ds.length).toNat;have hfl:=B8 hd.ls (Lad D.ls.length);rw[Ld8]at hfl;simp only[btxt,btag,DB.body,La3,Bd,hd.w,hd.prev,hfl,Laz,Ley];omega
noncomputable def dgood(D:DB):Int:=if D.check=0 then(if goodB D.w (btxt D) D.sg=true then 0 else 9)else D.check
theorem cell_lt'{c o:Nat}(h:w.cell? ⟨c,o,none⟩=some v):c<w.heap.size:=by
  rcases Lau c w.heap.size with h1|h1
  ·exact h1
  ·simp[World.cell?,Lcn h1]at h
theorem acc_loose(cells:List Value)(E:TypeId)(n size:Nat)(hl:cells.length=n*size):Loose fun v out=>∃s:Sl,v=s.v∧Hw.Acc s out cells E n size:=fun l h=>by
  obtain⟨v,out,⟨q,c,h1,h2,h3⟩,h4⟩:=FreshRow.loose cells E n size l h;exact⟨v,out,⟨⟨some ⟨q,0,none⟩,n,c⟩,h1,by rw[h3];exact Acc.some h2 hl⟩,h4⟩
theorem lie_none{T:TypeId}(h:Lies [⟨n,[v],T,0⟩] W):False:=by
  obtain⟨full,fr,hb⟩:=h _ (La1.2 rfl);have h1:=hb.pre.length_le;have h2:=hb.size;simp at h1;simp only at h2;omega
structure SameB(B:Block)(D:DB):Prop where
  ok:B.ok
  w:B.fWriter=D.w
  seq:B.fSeq=D.seq
  prev:B.fPrev=D.prev
  sg:B.fSig=D.sg
  ln:B.fLinks.n=D.ls.length
  dn:B.fData.n=D.ds.length
theorem some_same(h:D.ok):SameB ⟨D.w,D.seq,D.prev,⟨none,D.ls.length,0⟩,⟨none,D.ds.length,0⟩,D.sg⟩ D:=⟨⟨h.w,h.prev,h.sg⟩,rfl,rfl,rfl,rfl,rfl,rfl⟩
def BlkR(e:Int)(D:DB)(v:Value)(out:List Blk):Prop:=∃B:Block,SameB B D∧v= .tuple #[agg B.cells,i64 e]∧∀W2,Lies out W2→BlockIs W2 B D
def BlkV(D:DB)(v:Value)(out:List Blk):Prop:=∃B:Block,SameB B D∧v=agg B.cells∧∀W2,Lies out W2→BlockIs W2 B D
theorem none_nodup{l:List Blk}(hl:(l.map (·.n)).Nodup)(hn:∀b∈l,b.n≠n)(v:Value):((([⟨n,[v],0,0⟩]:List Blk)++l).map (·.n)).Nodup:=by
  simp only[Lce,Lam,Lb4];exact⟨fun h2=>by obtain⟨b,hb,e⟩:=La7.1 h2;exact hn b hb e,hl⟩
theorem BlkR.loose(e:Int)(D:DB)(hD:D.ok):Loose (BlkR e D):=fun l hl=>by
  obtain⟨n,_,hn⟩:=fresh_is 0 l;exact⟨_,[⟨n,[undef],0,0⟩],⟨_,some_same hD,rfl,fun W2 h=>(lie_none h).elim⟩,none_nodup hl hn _⟩
theorem BlkV.loose(D:DB)(hD:D.ok):Loose (BlkV D):=fun l hl=>by
  obtain⟨n,_,hn⟩:=fresh_is 0 l;exact⟨_,[⟨n,[undef],0,0⟩],⟨_,some_same hD,rfl,fun W2 h=>(lie_none h).elim⟩,none_nodup hl hn _⟩
theorem own_btxt{q c:Nat}(hs:SeesP W (some ⟨q,0,none⟩) (Aa (btxt D)))(hc:(btxt D).length≤c)(hn:(btxt D).length≤4005):BytesAt W ⟨some ⟨q,0,none⟩,(btxt D).length,c⟩ (btxt D):=own_bytes hs rfl hc (by unfold maxLen;omega)
theorem db_text(B:Block)(D:DB)(hB:B.ok)(h1:D.ls.length≤40)(h2:D.ds.length≤2000):Meets prog 156 [agg B.cells] [] (fun W=>BlockIs W B D) (fun v out=>FreshRow v out (Aa (btxt D)) 5 (btxt D).length 1):=by
 intro W hW;have hbs:=DB.body_small hW.dok h1 h2;have e1:=hW.ls.len;have e2:=hW.ds.len;have hbl:(btxt D).length=5+D.body.length:=by rw[btxt,La3];rfl
 refine Ac func156 J 8 ntmps156 J (G3 ?_);intro n1 hn1 hf1;refine G5 ?_;refine .mkRow (z:=u8 0) [u8 98,u8 108,u8 111,u8 99,u8 107] (Aa btag) J J J Y46.h Sz5 Zr5 J J (by intro v hv;simp only[Lal,Lc8,or_false]at hv;rcases hv with rfl|rfl|rfl|rfl|rfl<;>rfl) dE J ?_;intro q3;refine .constB J J J J Y46.h Y5.h Z0 ?_;refine G1 ?_;refine .call4 J J J J J Body195 (block_body B hB D.ls D.ds oM oM) (fun w h=>⟨rows_ext h J hW.ls,bytes_ext h J hW.ds⟩) ?_;rintro v6 out6 ⟨N6,hN6,hN62,q6,c6,rfl,hc6,rfl⟩;rw[hW.body]at hN6 ⊢;subst hN6;refine .appendSl (z:=u8 0) (by':=1) (Aa D.body) J J J J J Y46.h Y46.h Sz5 Zr5 (by unfold By;kernel_rfl) J (fun w h=>SeesP.of (Ao (cs:=Aa D.body) h Z0)) (fun e=>by cases e) (Aw _) rM J J dE oM oM (by rw[Aa,La0,Lb3]) ?_;intro q7 c7 hq7;rw[←Cu];refine G3 ?_;refine G2 ?_;refine Az (out:=(⟨q7,Aa (btag++D.body),5,c7*1⟩::[])) (Ae J J) (Ab rM Ak) ?_;exact⟨q7,c7,(by(rw[hbl];done)),(by rw[hbl];exact hq7),rfl⟩
theorem cl_digs_nil  :Mv 81 [.slice none 0 0] (fun _=>True) (.slice none 0 0):=by
 intro W hW;refine Ac func81 J 8 ntmps81 J (G9 ?_);refine .eqNilS (r:=true) J J J J Y30.h J (G2 ?_);refine .cond_t J (rfl) (G5 ?_);refine G3 ?_;refine Az (out:=[]) (Ae J J) Ak ?_;exact⟨rfl,rfl⟩
theorem cl_digs_some(a:Addr)(n c:Nat)(ls:List (List UInt8))(hl:ls.length=n)(hr:∀l∈ls,l.length=32)(hn:n≤90000):Meets prog 81 [.slice (some a) n c] [] (fun W=>SeesP W (some a) (A3 ls)) (fun v out=>FreshRow v out (A3 ls) 34 n 32):=by
 intro W hW;refine Ac func81 J 8 ntmps81 J (G9 ?_);refine .eqNilS (r:=false) J J J J Y30.h J (G2 ?_);refine .cond_f J (rfl) (G4 ?_);refine .mkRow (z:=agg (Aa (List.replicate 32 0))) [] [] rfl J J Y30.h Sz34 Cs J J (by intro v hv;cases hv) dE J ?_;intro q0;refine G1 ?_;refine .appendSl (z:=agg (Aa (List.replicate 32 0))) (by':=32) (A3 ls) J J J J J Y30.h Y30.h Sz34 Cs (by unfold By;kernel_rfl) J (fun w h=>A2 h J hW) (fun e=>by cases e) (flatB_cell ls) Ay J J oM oM oM (by rw[A1 hr,hl]) ?_;intro q1 c1 hq1;refine G3 ?_;refine G2 ?_;refine⟨_,[⟨q1,[]++A3 ls,34,c1*32⟩],Ae J J,(by intro b hb;rw[La1.1 hb];exact Br),nodup1,⟨q1,c1,by rw[Law],by omega,rfl⟩⟩
theorem cl_byte_nil  :Mv 158 [.slice none 0 0] (fun _=>True) (.slice none 0 0):=by
 intro W hW;refine Ac func158 J 8 ntmps158 J (G9 ?_);refine .eqNilS (r:=true) J J J J Y46.h J (G2 ?_);refine .cond_t J (rfl) (G5 ?_);refine G3 ?_;refine Az (out:=[]) (Ae J J) Ak ?_;exact⟨rfl,rfl⟩
theorem cl_digs(s:Sl)(ls:List (List UInt8))(hn:s.n≤90000):Meets prog 81 [s.v] [] (fun W=>RowsAt W s 32 ls) (fun v out=>∃s':Sl,v=s'.v∧Hw.Acc s' out (A3 ls) 34 s.n 32):=fun W hW=>by
  obtain⟨p,n,c⟩:=s;cases p with
  | none=>
    obtain rfl:c=0:=hW.nil rfl;obtain rfl:n=0:=Nat.le_zero.1 hW.cap;obtain rfl:ls=[]:=List.length_eq_zero_iff.1 hW.len;exact(cl_digs_nil W trivial).mono fun e W' ⟨v,out,h1,⟨h2,h3⟩,h4⟩=>⟨v,out,h1,⟨Sl.nil,h2,by subst h3;exact Acc.none⟩,h4⟩
  |some a=>exact(cl_digs_some a n c ls hW.len hW.row hn W hW.see).mono fun e W' ⟨v,out,h1,⟨q,c',h2,h3,h5⟩,h4⟩=>⟨v,out,h1,⟨⟨some ⟨q,0,none⟩,n,c'⟩,h2,by rw[h5];exact Acc.some h3 (by rw[A1 hW.row,hW.len])⟩,h4⟩
theorem cl_byte(s:Sl)(l:List UInt8)(hn:s.n≤90000):Meets prog 158 [s.v] [] (fun W=>BytesAt W s l) (fun v out=>∃s':Sl,v=s'.v∧Hw.Acc s' out (Aa l) 5 s.n 1):=fun W hW=>by
  obtain⟨p,n,c⟩:=s;cases p with
  | none=>
    obtain rfl:c=0:=hW.nil rfl;obtain rfl:n=0:=Nat.le_zero.1 hW.cap;obtain rfl:l=[]:=List.length_eq_zero_iff.1 hW.len;exact(cl_byte_nil W trivial).mono fun e W' ⟨v,out,h1,⟨h2,h3⟩,h4⟩=>⟨v,out,h1,⟨Sl.nil,h2,by subst h3;exact Acc.none⟩,h4⟩
  |some a=>exact(clone_bytes a n c l hW.len hn W hW.see).mono fun e W' ⟨v,out,h1,⟨q,c',h2,h3,h5⟩,h4⟩=>⟨v,out,h1,⟨⟨some ⟨q,0,none⟩,n,c'⟩,h2,by rw[h5];exact Acc.some h3 (by rw[Aa,La0];exact hW.len.trans (Lb3 _).symm)⟩,h4⟩
theorem db_good(B:Block)(D:DB)(hB:B.ok):Mv 97 [agg B.cells] (fun W=>BlockIs W B D) (i64 (dgood D)):=by
 intro W hW;refine Ac func97 J 17 ntmps97 J (G3 ?_);intro n1 hn1 hf1;refine G7 ?_;refine .cV J J J J Body154 (db_check B D) (fun w h=>hW.ext h J) (G9 ?_);refine .condNP J (fun hc0=>?_) (fun hc0=>?_)
 ·
  have hq0:¬D.check=0:=by omega
  refine G6 ?_;refine G3 ?_;refine⟨_,[],Ae J J,sP,sP,?_,rfl⟩
  (unfold dgood;rw[if_neg hq0];done)
 have hq0:D.check=0:=by omega
 obtain⟨h1,h2⟩:=D.head_small hq0;have hvn:(btxt D).length≤4005:=DB.body_small hW.dok oM oM;refine G4 ?_;refine .draw (oP [0,101,102,4,105,303,306,7]) Ap zK (G1 ?_);refine .lN (Aa _) J J J Y44.h J Sz44 Z0 (Block.row_fWriter zA) (Block.rl_fWriter zA) ?_;refine G2 ?_;refine .lN (Aa _) J J J Y48.h J Sz48 Z0 (Block.row_fSig zA) (Block.rl_fSig zA) ?_;refine .call J J J J Body156 (db_text B D hB oM oM) (FreshRow.loose _ _ _ _) (fun w h=>hW.ext h J) ?_;rintro v12 out12 ⟨q12,c12,rfl,hc12,rfl⟩;refine .cV J J J J Body155 (sign_Good B.fWriter hB.l_fWriter ⟨some ⟨q12,0,none⟩,_,c12⟩ (btxt D) oM B.fSig hB.l_fSig) (fun w h=>own_btxt (SeesP.of (Ao h Z0)) hc12 hvn) ?_;refine G3 ?_;refine .cond J (fun hc1=>?_) (fun hc1=>?_)
 ·
  refine G5 ?_;refine G3 ?_;refine⟨_,[],Ae J J,sP,sP,?_,rfl⟩
  (unfold dgood;rw[if_pos hq0,←hW.w,←hW.sg,if_neg (by intro e;rw[e]at hc1;cases hc1)];done)
 refine G7 ?_;refine G2 ?_;refine⟨_,[],Ae J J,sP,sP,?_,rfl⟩
 (unfold dgood;rw[if_pos hq0,←hW.w,←hW.sg,if_pos (by simpa using hc1)];done)
theorem db_own(B:Block)(D:DB)(hn:D.ls.length≤500000)(hd:D.ds.length≤500000):Meets prog 42 [agg B.cells] [] (fun W=>BlockIs W B D) (BlkV D):=fun W hW=>by
  have e1:=hW.ls.len;have e2:=hW.ds.len;refine(kit_own_block B hW.ok D.ls D.ds oM oM W ⟨hW.ls,hW.ds⟩).mono fun e W' ⟨v,out,h1,⟨q1,c1,q2,c2,h2,h3,h4,h5⟩,h6⟩=>⟨v,out,h1,⟨ownB B q1 c1 q2 c2,⟨ownB_ok hW.ok q1 c1 q2 c2,hW.w,hW.seq,hW.prev,hW.sg,e1.symm,e2.symm⟩,h2,fun W2 hl=>?_⟩,h6⟩;subst h5;have hf:(A3 D.ls).length=B.fLinks.n*32:=by rw[A1 hW.ls.row,e1]
  have hb:(Aa D.ds).length=B.fData.n*1:=by rw[Aa,La0,e2,Lb3]
  refine⟨ownB_ok hW.ok q1 c1 q2 c2,hW.w,hW.seq,hW.prev,?_,?_,hW.sg⟩
  ·exact acc_rows (Acc.some (E:=34) h3 hf) (hl.sub (fun b hb=>by rw[La1.1 hb];exact mem1)) hW.ls.row e1 oM
  ·exact acc_bytes (Acc.some (E:=5) h4 hb) (hl.sub (fun b hb=>by rw[La1.1 hb];exact Br)) e2 oM
end Go.Proofs.YtpogmfngccolbaaGreat
namespace Go.Proofs.YtpogmfngccolbaaGreat
open Go Hw _root_.Go.Proofs.Tryz
variable{k:Nat}{x:UInt64}
theorem room_go(hk:1≤k)(h9:k<9)(h:¬((Ar x (7*k)).toNat:Int)=0):k+1≤szN x.toNat:=by
  rcases Lau k (szN x.toNat)with h1|h1
  ·exact h1
  ·exact absurd (show((Ar x (7*k)).toNat:Int)=0 by rw[A5,Lax ((szN_le hk oM).1 h1)];rfl) h
theorem room_end(hk:1≤k)(h9:k<9)(h:((Ar x (7*k)).toNat:Int)=0):szN x.toNat≤k:=by
  refine(szN_le hk oM).2 ?_;rw[A5]at h;rcases Nat.div_eq_zero_iff.1 (show x.toNat/2^(7*k)=0 by omega)with h1|h1
  ·exact absurd h1 (Nat.ne_of_gt (Lbg dE))
  ·exact h1
theorem head_or:∀r,r<9→1≤r→∀y,y<2^(8-r)→UInt8.ofNat (256-2^(9-r))+UInt8.ofNat y=shl8 255 (9-r)|||UInt8.ofNat y:=by decide
theorem head_9:shl8 255 0=255:=by decide
theorem headB_9(h:szN x.toNat=9):headB x=255:=by
  rw[headB,h,head_9];have:∀y:UInt8,255|||y=255:=by
    intro y;have hh:∀n,n<256→(255:UInt8)|||UInt8.ofNat n=255:=by decide
    have:=hh y.toNat y.toNat_lt;rwa[Lf5]at this
  exact this _
theorem headB_lt(h:szN x.toNat<9):((256:UInt64)-A0 1 (9-szN x.toNat)).toUInt8+(Ar x (8*(szN x.toNat-1))).toUInt8=headB x:=by
  have hp:=Bp x.toNat;have hy:(Ar x (8*(szN x.toNat-1))).toNat<2^(8-szN x.toNat):=by
    rw[A5,Ld2 (Lbg dE),←Lba,show 8-szN x.toNat+8*(szN x.toNat-1)=7*szN x.toNat by omega];exact szN_hi oM
  have h1:((256:UInt64)-A0 1 (9-szN x.toNat)).toUInt8=UInt8.ofNat (256-2^(9-szN x.toNat)):=by
    have:∀r,r<9→1≤r→((256:UInt64)-A0 1 (9-r)).toUInt8=UInt8.ofNat (256-2^(9-r)):=by decide
    exact this _ h hp.1
  have h2:(Ar x (8*(szN x.toNat-1))).toUInt8=UInt8.ofNat (Ar x (8*(szN x.toNat-1))).toNat:=rfl;rw[h1,headB,h2];exact head_or _ h hp.1 _ hy
theorem r1_room(x:UInt64):Mv 181 [u64 x] (fun _=>True) (i64 ((szN x.toNat:Nat):Int)):=by
 intro W hW;have hz:=Bp x.toNat;refine Ac func181 J 17 ntmps181 J (G12 ?_);refine .loop (ι:=Nat) (fun k=>⟨[(0,u64 x),(3,i64 (k:Int))],[]⟩) (fun k=>1≤k∧k≤szN x.toNat) (fun k=>9-k) (1) ?_ ?_ ?_
 ·exact⟨Lad _,hz.1⟩
 ·exact Ad wN wh0 nD
 rintro k ⟨hk1,hk2⟩;refine G4 ?_;refine two (fun r hr k=>Tr.lss J J J J hr k) (fun hs2_10=>?_) (fun hs2_10=>?_)
 ·
  have hs2_1:=of_decide_eq_true hs2_10;refine G3 ?_;refine .mul_i64 J J J J oM (G1 ?_);refine .shr_u64 J J J J (7*k) (by rw[show(7:Int)*(k:Int)=((7*k:Nat):Int) by omega,wordOf_id _ oM]) oM ?_;refine G4 ?_;refine .condNP J (fun hc0=>?_) (fun hc0=>?_)
  ·
   refine G10 ?_;exact⟨k+1,⟨by omega,room_go hk1 oM zA⟩,by omega,Ad (wk1 rfl (wk1 (by rw[Lct];rfl) wk0)) wh0 nD⟩
  refine G11 ?_;refine G2 ?_;refine⟨_,[],Ae J J,sP,sP,?_,rfl⟩
  (have:=room_end hk1 oM zA;congr 1;omega)
 have hs2_1:=of_decide_eq_false hs2_10;refine G10 ?_;refine .cond_f J J (G11 ?_);refine G2 ?_;refine⟨_,[],Ae J J,sP,sP,?_,rfl⟩
 (congr 1;omega)
theorem r1_Number(p0:Option Addr)(n c:Nat)(l:List UInt8)(x:UInt64)(hl:l.length=n)(hp0:p0=none→n=0)(hn:n≤90000):Meets prog 134 [.slice p0 n c,u64 x] [] (fun W=>SeesP W p0 (Aa l)) (fun v out=>FreshRow v out (Aa (l++numB x)) 5 (n+szN x.toNat) 1):=by
 intro W hW;have hz:=Bp x.toNat;refine Ac func134 J 51 ntmps134 J (G7 ?_);refine .mkRow2 (z:=u8 0) [] [] rfl J Y46.h Sz5 Zr5 J J (by intro v hv;cases hv) dE J ?_;intro q8;refine G1 ?_;refine .appendSl (z:=u8 0) (by':=1) (Aa l) J J J J J Y46.h Y46.h Sz5 Zr5 (by unfold By;kernel_rfl) J (fun w h=>A2 h J hW) hp0 (by simp[Aa,isCell,u8]) Ay J J oM oM oM (by simp[Aa,hl]) ?_;intro q10 c10 hq10;rw[Law n]at hq10 ⊢;refine G6 ?_;refine .cV J J J J Body181 (r1_room _) tV (G3 ?_);refine .join (ι:=Nat×Nat) (fun p=>⟨[(1,u64 x),(5, .slice (some ⟨p.1,0,none⟩) (n+1) p.2),(6,i64 ((szN x.toNat:Nat):Int))],[⟨p.1,Aa (l++[headB x]),5,p.2*1⟩]⟩) (fun p=>n+1≤p.2) ?_ ?_
 ·
  refine G6 ?_;refine .condP J (fun hc0=>?_) (fun hc0=>?_)
  ·
   refine G2 ?_;refine .mkRow (z:=u8 0) [u8 (255)] (Aa [255]) J J J Y46.h Sz5 Zr5 J J (by intro v hv;rw[La1.1 hv];rfl) dE J ?_;intro q16;refine .appendSl (z:=u8 0) (by':=1) (Aa [255]) J J J J J Y46.h Y46.h Sz5 Zr5 (by unfold By;kernel_rfl) J (fun w h=>SeesP.of (Ao h Br)) (fun e=>by cases e) (by simp[Aa,isCell,u8]) (rem_there Ay) J (by simp[Aa,hl]) oM oM oM (by rfl) ?_;intro q17 c17 hq17;refine G3 ?_;exact⟨(q17,c17),hq17,Ad wN (wh1 (by(rw[headB_9 (x:=x) oM];simp only[Aa,Lae];exact Br)) wh0) nD⟩
  refine G5 ?_;refine .shl_u64 J J (show Af _ _=some (u64 1)from rfl) J (9-szN x.toNat) (by rw[show(9:Int)-((szN x.toNat:Nat):Int)=((9-szN x.toNat:Nat):Int) by omega,wordOf_id _ oM]) oM ?_;refine .sub_u64 J J (show Af _ _=some (u64 256)from rfl) J (G4 ?_);refine .mul_i64 J J J J oM (G1 ?_);refine .shr_u64 J J J J (8*(szN x.toNat-1)) (by rw[show(8:Int)*(((szN x.toNat:Nat):Int)-1)=((8*(szN x.toNat-1):Nat):Int) by omega,wordOf_id _ oM]) oM ?_;refine G1 ?_;refine .add_u8 J J J J ?_;rw[headB_lt (x:=x) oM];refine .mkRow (z:=u8 0) [u8 (headB x)] (Aa [headB x]) J J J Y46.h Sz5 Zr5 J J (by intro v hv;rw[La1.1 hv];rfl) dE J ?_;intro q33;refine .appendSl (z:=u8 0) (by':=1) (Aa [headB x]) J J J J J Y46.h Y46.h Sz5 Zr5 (by unfold By;kernel_rfl) J (fun w h=>SeesP.of (Ao h Br)) (fun e=>by cases e) (by simp[Aa,isCell,u8]) (rem_there Ay) J (by simp[Aa,hl]) oM oM oM (by rfl) ?_;intro q17 c17 hq17;refine G3 ?_;exact⟨(q17,c17),hq17,Ad wN (wh1 (by(simp only[Aa,Lae];exact Br)) wh0) nD⟩
 intro p hj;have hjp:=hj;refine G9 ?_;refine .loop (ι:=Nat×Nat×Nat) (fun r=>⟨[(1,u64 x),(5, .slice (some ⟨r.2.1,0,none⟩) (n+1+r.1) r.2.2),(7,i64 (((szN x.toNat:Nat):Int)-2-(r.1:Int)))],[⟨r.2.1,Aa (l++numUp x r.1),5,r.2.2*1⟩]⟩) (fun r=>r.1≤szN x.toNat-1∧n+1+r.1≤r.2.2) (fun r=>szN x.toNat-1-r.1) ((0,p.1,p.2)) ?_ ?_ ?_
 ·exact⟨Las _,hjp⟩
 ·exact Ad (wk1 rfl (wk1 rfl (wk1 (by rw[show(((szN x.toNat:Nat):Int)-2-((0:Nat):Int))=((szN x.toNat:Nat):Int)-2 by omega];rfl) wk0))) (wh1 (by rw[numUp_zero];exact Br) wh0) nD
 rintro r ⟨hp1,hp2⟩;refine G7 ?_;refine .condP J (fun hc1=>?_) (fun hc1=>?_)
 ·
  have hp3:r.1<szN x.toNat-1:=by omega
  refine G8 ?_;refine .mul_i64 J J J J oM (G1 ?_);refine .shr_u64 J J J J (8*(szN x.toNat-2-r.1)) (by rw[show(8:Int)*(((szN x.toNat:Nat):Int)-2-(r.1:Int))=((8*(szN x.toNat-2-r.1):Nat):Int) by omega,wordOf_id _ oM]) oM ?_;refine G1 ?_;refine .mkRow (z:=u8 0) [u8 ((Ar x (8*(szN x.toNat-2-r.1))).toUInt8)] (Aa [(Ar x (8*(szN x.toNat-2-r.1))).toUInt8]) J J J Y46.h Sz5 Zr5 J J (by intro v hv;rw[La1.1 hv];rfl) dE J ?_;intro q48;refine .appendSl (z:=u8 0) (by':=1) (Aa [(Ar x (8*(szN x.toNat-2-r.1))).toUInt8]) J J J J J Y46.h Y46.h Sz5 Zr5 (by unfold By;kernel_rfl) J (fun w h=>SeesP.of (Ao h Br)) (fun e=>by cases e) (by simp[Aa,isCell,u8]) (rem_there Ay) J (by rw[Aa,La0,La3,hl,numUp_length x r.1 oM];omega) oM oM oM (by rfl) ?_;intro q2 c2 hq2;refine G10 ?_;exact⟨(r.1+1,q2,c2),⟨by simp only[];omega,by simp only[];omega⟩,by simp only[];omega,Ad (wk1 rfl (wk1 (by rw[show n+1+(r.1+1)=n+1+r.1+1 by omega];rfl) (wk1 (by rw[show(((szN x.toNat:Nat):Int)-2-((r.1+1:Nat):Int))=((szN x.toNat:Nat):Int)-2-(r.1:Int)-1 by omega];rfl) wk0))) (wh1 (by rw[numUp_step x r.1 oM,←La8];simp only[Aa,Lae];exact Br) wh0) nD⟩
 have hp3:r.1=szN x.toNat-1:=by omega
 refine G11 ?_;refine G2 ?_;refine⟨_,[⟨r.2.1,Aa (l++numB x),5,r.2.2*1⟩],Ae J J,(by intro b hb;rw[La1.1 hb,←numUp_all,←hp3];exact Br),nodup1,⟨r.2.1,r.2.2,by rw[show n+1+r.1=n+szN x.toNat by omega],by omega,rfl⟩⟩
open Ed
theorem cmpB_same(x:UInt8)(a b:List UInt8):Cn (x::a) (x::b)=Cn a b:=by simp[Cn,Go.Lib.compareBytes]
theorem cmpB_other{x y:UInt8}(h:x≠y)(a b:List UInt8):Cn (x::a) (y::b)=cmpI (x.toNat:Int) (y.toNat:Int):=by
  have h2:x.toNat≠y.toNat:=fun e=>h (Lca.1 e);simp only[Cn,Go.Lib.compareBytes,Les];unfold cmpI
  (repeat' split)<;>first|rfl|omega
theorem cmpB_at:∀(k:Nat) (a b:List UInt8),a.length=b.length→(∀j,j<k→a.getD j 0=b.getD j 0)→k<a.length→a.getD k 0≠b.getD k 0→Cn a b=cmpI ((a.getD k 0).toNat:Int) ((b.getD k 0).toNat:Int)
  |k,[],b,hl,hs,hk,hd=>absurd hk (Lfk _)
  |k,x::a,[],hl,hs,hk,hd=>by cases hl
  |0,x::a,y::b,hl,hs,hk,hd=>cmpB_other hd a b
  | k+1,x::a,y::b,hl,hs,hk,hd=>by
    have e:x=y:=hs 0 (Nat.succ_pos k);subst e;rw[cmpB_same];exact cmpB_at k a b (Nat.succ.inj hl) (fun j hj=>hs (j+1) (Nat.succ_lt_succ hj)) (Nat.lt_of_succ_lt_succ hk) hd
theorem cmpB_all{a b:List UInt8}(ha:a.length=32)(hb:b.length=32)(h:∀j,j<32→a.getD j 0=b.getD j 0):Cn a b=0:=by
  refine(cmpB_zero a b).2 (Ldz oM (fun i h1 h2=>?_));have:=h i oM;simpa[List.getD,h1,h2]using this
end Go.Proofs.YtpogmfngccolbaaGreat
namespace Go.Proofs.YtpogmfngccolbaaGreat
open Go Hw _root_.Go.Proofs.Tryz
variable{a a1:Nat}{d t xs:List UInt8}{e:Int}{x:UInt64}
theorem drop_cons{xs l:List UInt8}{f:UInt8}(h:xs.drop a=f::l):a<xs.length∧xs.getD a 0=f∧xs.drop (a+1)=l:=by
  have hlt:a<xs.length:=by
    rcases Lau a xs.length with h1|h1
    ·exact h1
    ·rw[List.drop_eq_nil_of_le h1]at h;cases h
  rw[Lbj hlt]at h;injection h with h1 h2;exact⟨hlt,by rw[La2,La4 hlt];exact h1,h2⟩
theorem drop_split{xs p t:List UInt8}(h:xs.drop a=p++t)(hp:0<p.length):a+p.length≤xs.length∧(xs.drop a).take p.length=p∧xs.drop (a+p.length)=t:=by
  have h1:=congrArg List.length h;rw[Lc2,La3]at h1;refine⟨by omega,by rw[h];simp,?_⟩;rw[←Lgg,h];simp
theorem dig_fwd(h:xs.drop a=d++t)(hd:d.length=32):digR xs a 0=(d,a+32,0)∧xs.drop (a+32)=t:=by
  obtain⟨h1,h2,h3⟩:=drop_split h oM;rw[hd]at h1 h2 h3;unfold digR;rw[if_neg sP,if_neg oM,h2];exact⟨rfl,h3⟩
theorem num_fwd(h:xs.drop a=numB x++t):numR xs a 0=(x,a+szN x.toNat,0)∧xs.drop (a+szN x.toNat)=t:=by
  have hp:=Bp x.toNat;have hl:=Bd x;obtain⟨h1,h2,h3⟩:=drop_split h oM;rw[hl]at h1 h2 h3;rw[numB,Lak]at h;obtain⟨g1,g2,g3⟩:=drop_cons h;obtain⟨n1,n2⟩:=num_back x;have hv:numV xs a=x:=by
    rw[numV,g2,g3,n1,List.take_left' (tailB_length x _)];exact n2
  unfold numR;rw[if_neg sP,if_neg oM,hv,g2,n1,if_neg oM,if_pos rfl];exact⟨rfl,h3⟩
theorem digs_fwd{xs t:List UInt8}{ls:List (List UInt8)}{a:Nat}(hls:∀l∈ls,l.length=32)(h:xs.drop a=ls.flatten++t):∀j,j≤ls.length→Cl xs j a 0=(ls.take j,a+32*j,0)∧xs.drop (a+32*j)=(ls.drop j).flatten++t
  |0,_=>⟨rfl,by simpa using h⟩
  | j+1,hj=>by
    obtain⟨h1,h2⟩:=digs_fwd hls h j oM;rw[Lbj (l:=ls) (i:=j) oM,Lcb,La8]at h2;obtain⟨h3,h4⟩:=dig_fwd h2 (hls _ (Lc9 oM));refine⟨?_,by rw[show a+32*(j+1)=a+32*j+32 by omega];exact h4⟩;rw[Cl,h1];simp only[h3];rw[Lap oM];rfl
theorem dig_bwd(h:digR xs a e=(d,a1,0)):e=0∧a1=a+32∧a+32≤xs.length∧xs.drop a=d++xs.drop a1:=by
  unfold digR at h;by_cases he:e=0
  · rw[if_neg (by simp[he])]at h
    by_cases h1:xs.length<a+32
    ·rw[if_pos h1]at h;simp at h
    · rw[if_neg h1]at h
      obtain⟨rfl,rfl⟩:(xs.drop a).take 32=d∧a+32=a1:=by simpa using h
      exact⟨he,rfl,by omega,by rw[←Lgg,Lcq]⟩
  · rw[if_pos he]at h
    simp at h;exact absurd h.2.2 he
theorem num_bwd(h:numR xs a e=(x,a1,0)):e=0∧a1=a+szN x.toNat∧a1≤xs.length∧xs.drop a=numB x++xs.drop a1:=by
  unfold numR at h;by_cases he:e=0
  · rw[if_neg (by simp[he])]at h
    by_cases h1:xs.length≤a
    ·rw[if_pos h1]at h;simp at h
    rw[if_neg h1]at h;by_cases h2:xs.length<a+C2 (xs.getD a 0)
    ·rw[if_pos h2]at h;simp at h
    rw[if_neg h2]at h;by_cases h3:szN (numV xs a).toNat=C2 (xs.getD a 0)
    · rw[if_pos h3]at h
      obtain⟨h4,h5⟩:numV xs a=x∧a+C2 (xs.getD a 0)=a1:=by simpa using h
      have hc:=(head_of (xs.getD a 0)).1;have hl:((xs.drop (a+1)).take (C2 (xs.getD a 0)-1)).length=C2 (xs.getD a 0)-1:=by rw[Laj,Lc2];omega
      have hb:=num_only hl h3;rw[show foldB (headV (xs.getD a 0)) ((xs.drop (a+1)).take (C2 (xs.getD a 0)-1))=x from h4]at hb;rw[h4]at h3;refine⟨he,by omega,by omega,?_⟩;have e3:xs.drop a1=(xs.drop (a+1)).drop (C2 (xs.getD a 0)-1):=by rw[Lgg];congr 1;omega
      rw[hb,e3,Lak,Lcq,Lbj (l:=xs) (i:=a) oM];congr 1;rw[La2,La4 oM];rfl
    ·rw[if_neg h3]at h;simp at h
  · rw[if_pos he]at h
    simp at h;exact absurd h.2.2 he
theorem digs_bwd{xs:List UInt8}{a:Nat}{e:Int}:∀(j:Nat) (ls:List (List UInt8)) (a1:Nat),Cl xs j a e=(ls,a1,0)→e=0∧ls.length=j∧xs.drop a=ls.flatten++xs.drop a1
  | 0,ls,a1,h=>by
    obtain⟨rfl,rfl,rfl⟩:[]=ls∧a=a1∧e=0:=by simpa[Cl]using h
    exact⟨rfl,rfl,rfl⟩
  | j+1,ls,a1,h=>by
    rw[Cl]at h;obtain⟨h1,h2⟩:(Cl xs j a e).1++[(digR xs (Cl xs j a e).2.1 (Cl xs j a e).2.2).1]=ls∧(digR xs (Cl xs j a e).2.1 (Cl xs j a e).2.2).2=(a1,0):=by simpa using h
    obtain⟨g1,g2,g3,g4⟩:=dig_bwd (xs:=xs) (d:=(digR xs (Cl xs j a e).2.1 (Cl xs j a e).2.2).1) (a:=(Cl xs j a e).2.1) (a1:=a1) (e:=(Cl xs j a e).2.2) (by rw[←h2]);obtain⟨k1,k2,k3⟩:=digs_bwd j (Cl xs j a e).1 (Cl xs j a e).2.1 (by rw[←g1]);refine⟨k1,by rw[←h1,La3,k2];rfl,?_⟩;rw[←h1,Lcr,k3,g4];simp
open Ed
variable{B:Block}{D:DB}{K:List UInt8}{W:World}
theorem seesP_tk{w:World}{p:Option Addr}{l:List UInt8}{n:Nat}(h:SeesP w p (Aa l)):SeesP w p (Aa (l.take n)):=fun j v hj=>by
  rw[Aa,Lch,Lbn]at hj;split at hj
  ·exact h j v hj
  ·cases hj
theorem r2_StartShort(k s0 i0:List UInt64)(G:List UInt8)(hk:Hid (kW=k))(hk80:k.length=80)(hs0:Hid (xorUp 8=s0))(hs8:s0.length=8)(hG:Hid (shaTag=G))(hGl:G.length=11)(hi0:Hid (allW k s0 G=i0))(hi8:i0.length=8)  :Mv 168 [] (fun _=>True) (agg (Ag i0)):=by
 intro W hW;refine Ac func168 J 18 ntmps168 J (G2 ?_);refine .alloc (cs:=(Ag (List.replicate 8 0))) J Zr185 J ?_;intro n0 hn0 hf0;refine G4 ?_;refine .cV J J J J Body209 (r2_Start startW ⟨rfl⟩) tV (.alloc (cs:=(Ag (List.replicate 8 0))) J Zr185 J ?_);intro n1 hn1 hf1;refine .sA J J J J zB Sz185 (by(simp[startW_length];done)) Z0 sP zU ?_;refine G9 ?_;refine .loop (ι:=Nat) (fun j=>⟨[(0,ptr n0 0),(1,ptr n1 0),(2,i64 (j:Int))],[⟨n1,Ag (xorUp j),185,8⟩,⟨n0,Ag (List.replicate 8 0),185,8⟩]⟩) (fun j=>j≤8) (fun j=>8-j) (0) ?_ ?_ ?_
 ·omega
 ·exact Aq wN (Ab rM (Ab rM Ak))
 rintro j hi;have hlj:=xorUp_length j;refine G7 ?_;refine .condP J (fun hc0=>?_) (fun hc0=>?_)
 ·
  refine G7 ?_;refine .i1 J J J J Y185.h Sz45 _ J oM (G1 ?_);refine .xor_u64 J J J (show Af _ _=some (u64 11936128518282651045)from rfl) (.i1 J J J J Y185.h Sz45 _ J oM (.s1 J J J J J Sz45 Z0 (by(simp[xorUp_length];omega)) (by exact A8 _ _ _) zU ?_));refine G9 ?_;exact⟨j+1,by omega,by omega,Aq wN (Ab rM (Ab rM Ak))⟩
 obtain rfl:j=8:=by omega
 rw[hs0.out];clear hlj;refine G7 ?_;refine .lA J J J Y185.h J Sz185 Z0 (by(simp[hs8];done)) ?_;refine .mkRow (z:=u8 0) [u8 83,u8 72,u8 65,u8 45,u8 53,u8 49,u8 50,u8 47,u8 50,u8 53,u8 54] (Aa shaTag) J J J Y46.h Sz5 Zr5 J J (by intro v hv;simp only[Lal,Lc8,or_false]at hv;rcases hv with rfl|rfl|rfl|rfl|rfl|rfl|rfl|rfl|rfl|rfl|rfl<;>rfl) dE J ?_;intro q15;rw[hG.out];refine .constB J J J J Y46.h Y5.h Z0 ?_;refine .cV J J J J Body167 (r2_run s0 hs8 k hk hk80 ⟨some ⟨q15,0,none⟩,11,11⟩ G (by simp[hGl]) (fun e=>by cases e) oM) (fun w h=>SeesP.of (Ao h Z0)) ?_;rw[hi0.out];refine .sA J J J J zB Sz185 (by(simp[hi8];done)) Z2 sP (by exact upd2) ?_;refine G2 ?_;refine G2 ?_;refine⟨_,[],Am J J Y185.h J Sz185 Z2 (by simp[hi8]),sP,sP,?_,rfl⟩;rfl
theorem r2_Sum(k s0 i0:List UInt64)(G:List UInt8)(hk:Hid (kW=k))(hk80:k.length=80)(hs0:Hid (xorUp 8=s0))(hs8:s0.length=8)(hG:Hid (shaTag=G))(hGl:G.length=11)(hi0:Hid (allW k s0 G=i0))(hi8:i0.length=8)(p:Option Addr)(n c:Nat)(ss:List Sl)(ls:List (List UInt8))(hss:ss.length=n)(hls:ls.length=n)(hsl:∀j,j<n→(ss.getD j Sl.nil).n=(ls.getD j []).length∧((ss.getD j Sl.nil).p=none→(ss.getD j Sl.nil).n=0))(F:List UInt8)(hF:ls.flatten=F)(htot:F.length≤90000)(hn:n≤1000000)(r:List UInt64)(hr:Hid (allW k i0 F=r))(s:List UInt8)(hs:Hid (sumUp r 64=s))  :Mv 122 [.slice p n c] (fun W=>SeesP W p (ss.map Sl.v)∧∀j,j<n→SeesP W (ss.getD j Sl.nil).p (Aa (ls.getD j []))) (agg (Aa (s.take 32))):=by
 intro W hW;have hr8:r.length=8:=by rw[←hr.out,allW_length];exact hi8
 have hs64:s.length=64:=by rw[←hs.out];exact B5 r 64
 have hs32:(s.take 32).length=32:=by rw[Laj,hs64];rfl
 have hrun:=fun(x:Sl) (h1:x.n=F.length) (h2:x.p=none→x.n=0)=>r2_run i0 hi8 k hk hk80 x F h1 h2 htot;rw[hr.out]at hrun;refine Ac func122 J 14 ntmps122 J (G2 ?_);refine .alloc (cs:=(Aa (List.replicate 32 0))) J Cs J ?_;intro n2 hn2 hf2;refine G4 ?_;refine .cV J J J J Body168 (r2_StartShort k s0 i0 G hk hk80 hs0 hs8 hG hGl hi0 hi8) tV (G1 ?_);refine .call4 J J J J J Body169 (r2_join p n c ss ls hss hls hsl F hF htot hn) (fun w h=>⟨A2 h J hW.1,fun j hj=>A2 h J (hW.2 j hj)⟩) ?_;rintro v7 out7 ⟨s7,rfl,hac7⟩;refine .cV J J J J Body167 (hrun s7 hac7.num hac7.nil) (fun w h=>hac7.see (Lies.of h (by repeat(exact A9)))) ?_;refine .cV J J J J Body166 (r2_bytes r hr8 s hs) tV (.alloc (cs:=(Aa (List.replicate 64 0))) J Zr47 J ?_);intro n3 hn3 hf3;refine .sA J J J J zE Sz47 (by(simp[hs64];done)) Z0 sP zU ?_;refine G4 ?_;refine .alloc (cs:=(Aa (List.replicate 32 0))) J Cs J ?_;intro n4 hn4 hf4;refine G3 ?_;refine .draw (oP [0,1,402]) Ap zK (G1 ?_);refine .sliceArrHi 32 J J J J J dE dE Y47.h Sz5 (.copyP (Aa (s.take 32)) 32 J J J J J Y46.h Sz5 (fun w h=>seesP_tk (SeesP.of (Ao h Z1))) (fun e=>by cases e) (by simp[Aa,hs64]) J (La6 (by simp[Aa,hs64])) (Aw _) Z0 (by simp[Aa]) (show upd (Aa (List.replicate 32 0)) 0 (Aa (s.take 32))=Aa (s.take 32) by simp[upd,Aa,hs64]) zU ?_);refine G4 ?_;refine .lA J J J Y34.h J Sz34 Z0 (by(simp[hs64];done)) ?_;refine .sA J J J J zE Sz34 (by(simp[hs64];done)) mR sP uU ?_;refine G2 ?_;refine G2 ?_;refine⟨_,[],Am J J Y34.h J Sz34 mR (by simp[hs64]),sP,sP,?_,rfl⟩;rfl
theorem dcheck_2(h:¬D.check=0):D.check=2:=by
  unfold DB.check at h ⊢;by_cases h1:D.head=true
  ·rw[if_pos h1]
  · rw[if_neg h1]at h ⊢
    by_cases h2:linksBad D.prev D.ls=true
    ·rw[if_pos h2]
    ·rw[if_neg h2]at h;exact absurd rfl h
theorem r15_cmp(a b:List UInt8)(ha:a.length=32)(hb:b.length=32):Mv 25 [agg (Aa a),agg (Aa b)] (fun _=>True) (i64 (Cn a b)):=by
 intro W hW;refine Ac func25 J 24 ntmps25 J (G3 ?_);intro n2 hn2 hf2;refine G1 ?_;intro n3 hn3 hf3;refine G10 ?_;refine .loop (ι:=Nat) (fun k=>⟨[(2,ptr n2 0),(3,ptr n3 0),(5,i64 (k:Int))],[⟨n3,Aa b,34,(Aa b).length⟩,⟨n2,Aa a,34,(Aa a).length⟩]⟩) (fun k=>k≤32∧∀j,j<k→a.getD j 0=b.getD j 0) (fun k=>32-k) (0) ?_ ?_ ?_
 ·exact⟨Las _,fun j hj=>absurd hj (Lfk _)⟩
 ·exact Ad wN (wh1 Z0 (wh1 Z1 wh0)) nD
 rintro k ⟨hk,hsm⟩;refine G7 ?_;refine .condP J (fun hc0=>?_) (fun hc0=>?_)
 ·
  have hk2:k<32:=by omega
  refine G6 ?_;refine .draw (oP [0,1,102,3,4,105,6]) Ap zK (G1 ?_);refine .i1 J J J J Y34.h Sz5 k J oM (G2 ?_);refine .i1 J J J J Y34.h Sz5 k J oM (G4 ?_);refine .condP J (fun hc1=>?_) (fun hc1=>?_)
  ·
   have hek:a.getD k 0≠b.getD k 0:=fun e=>by rw[e]at hc1;omega
   refine G5 ?_;refine G8 ?_;refine⟨_,[],Ae J J,sP,sP,?_,rfl⟩
   (rw[cmpB_at k a b oM hsm oM hek];unfold cmpI;rw[if_pos oM];done)
  refine G3 ?_;refine .draw (oP [0,1,102,3,4,105,6]) Ap zK (G1 ?_);refine .i1 J J J J Y34.h Sz5 k J oM (G2 ?_);refine .i1 J J J J Y34.h Sz5 k J oM (G4 ?_);refine .condP J (fun hc2=>?_) (fun hc2=>?_)
  ·
   have hek:a.getD k 0≠b.getD k 0:=fun e=>by rw[e]at hc2;omega
   refine G5 ?_;refine G7 ?_;refine⟨_,[],Ae J J,sP,sP,?_,rfl⟩
   (rw[cmpB_at k a b oM hsm oM hek];unfold cmpI;rw[if_neg oM,if_pos oM];done)
  have hek:a.getD k 0=b.getD k 0:=Lca.1 oM;refine G9 ?_;exact⟨k+1,⟨by omega,fun j hj=>by rcases Lau j k with h1|h1;exact hsm j h1;exact(show j=k by omega)▸hek⟩,by omega,Ad (wk1 rfl (wk1 rfl (wk1 (by rw[Lct];rfl) wk0))) (wh1 Z0 (wh1 Z1 wh0)) nD⟩
 have hk2:k=32:=by omega
 refine G10 ?_;refine G2 ?_;refine⟨_,[],Ae J J,sP,sP,?_,rfl⟩
 (rw[cmpB_all ha hb (fun j hj=>hsm j oM)];done)
theorem r15_check(B:Block)(hB:B.ok)(ls:List (List UInt8)):Mv 103 [agg B.cells] (fun W=>RowsAt W B.fLinks 32 ls) (i64 (bcheck B ls)):=by
 intro W hW;have hcx:B.fLinks.n≤maxLen:=hW.max;simp only[maxLen]at hcx;have hcn:=hW.cap;refine Ac func103 J 74 ntmps103 J (G3 ?_);intro n1 hn1 hf1;refine G5 ?_;refine .build (cs:=Aa (List.replicate 32 0)) J J J (fun w=>by kernel_rfl) ?_;refine .alloc (cs:=(Aa (List.replicate 32 0))) J Cs J ?_;intro n3 hn3 hf3;refine .sA J J J J zE Sz34 sP Z0 sP zU ?_;refine G4 ?_;refine .draw (oP [0,101,2,3,4,105,106,7,8,109,10,11,12,13,14,115,16,17,18,19,20,121,22,23,24]) Ap zK (G2 ?_);refine two (fun r hr k=>Tr.gtr J J J J hr k) (fun hs2_20=>?_) (fun hs2_20=>?_)
 ·
  have hs2_2:=of_decide_eq_true hs2_20;refine G24 ?_;refine .cond_t J J (G5 ?_);refine G3 ?_;refine⟨_,[],Ae J J,sP,sP,?_,rfl⟩;exact congrArg i64 (bcheck_head (by unfold bhead bheadB;simp_all)).symm
 have hs2_2:=of_decide_eq_false hs2_20;refine G2 ?_;refine .lN (Aa _) J J J Y34.h J Sz34 Z1 (Block.row_fPrev zA) (Block.rl_fPrev zA) ?_;refine .lA J J J Y34.h J Sz34 Z0 sP ?_;refine .eql_bytes J J J J eqGuardType34 Y34.h Y5.h Sz5 (by(simp[hB.l_fPrev];done)) sP J ?_;refine G3 ?_;refine two (fun r hr k=>Tr.neb J J J J underlying4 hr k) (fun hs2_110=>?_) (fun hs2_110=>?_)
 ·
  have hs2_11:=nd_t hs2_110;refine G15 ?_;refine .cond_t J J (G5 ?_);refine G3 ?_;refine⟨_,[],Ae J J,sP,sP,?_,rfl⟩;exact congrArg i64 (bcheck_head (by unfold bhead bheadB;simp_all)).symm
 have hs2_11:=nd_f hs2_110;refine G5 ?_;refine two (fun r hr k=>Tr.gtr J J J J hr k) (fun hs2_170=>?_) (fun hs2_170=>?_)
 ·
  have hs2_17:=of_decide_eq_true hs2_170;refine G9 ?_;refine .cond_t J J (G5 ?_);refine G3 ?_;refine⟨_,[],Ae J J,sP,sP,?_,rfl⟩;exact congrArg i64 (bcheck_head (by unfold bhead bheadB;simp_all)).symm
 have hs2_17:=of_decide_eq_false hs2_170;refine G9 ?_;refine .condP J (fun hc0=>?_) (fun hc0=>?_)
 ·
  refine G5 ?_;refine G3 ?_;refine⟨_,[],Ae J J,sP,sP,?_,rfl⟩;exact congrArg i64 (bcheck_head (by unfold bhead bheadB;simp_all)).symm
 have hnb:¬bhead B:=by unfold bhead bheadB;simp_all
 refine G9 ?_;refine .loop (ι:=Nat) (fun k=>⟨[(1,ptr n1 0),(3,ptr n3 0),(4,i64 (k:Int))],[⟨n3,Aa (List.replicate 32 0),34,32⟩,⟨n1,B.cells,50,B.cells.length⟩]⟩) (fun k=>k≤B.fLinks.n∧∀j,j<k→badAt B.fPrev ls j=false) (fun k=>B.fLinks.n-k) (0) ?_ ?_ ?_
 ·exact⟨by omega,fun j hj=>by omega⟩
 ·exact Ad wN (wh1 Z0 (wh1 Z1 wh0)) nD
 rintro k ⟨hk,hg⟩;refine G10 ?_;refine .condP J (fun hc1=>?_) (fun hc1=>?_)
 ·
  have hk2:k<B.fLinks.n:=by omega
  have hll:=hW.len;obtain⟨b,o,hbp,hbs⟩:=hW.see.at (by rw[A1 hW.row];omega);have hr0:(ls.getD k []).length=32:=Bg hW.row oM;have hr1:(ls.getD (k-1) []).length=32:=Bg hW.row oM;refine G2 ?_;refine .join (ι:=Unit) (fun _u=>⟨[(1,ptr n1 0),(3,ptr n3 0),(4,i64 (k:Int))],[⟨n3,Aa (List.replicate 32 0),34,32⟩,⟨n1,B.cells,50,B.cells.length⟩]⟩) (fun _u=>badAt B.fPrev ls k=false) ?_ ?_
  ·
   refine G2 ?_;refine .draw (oP [0,101,2,3,104,105,6,7,8,109,10,11,112,13,114,15,16,17,18,19,20,21,122,23,24,25,126,27,128,29,30,131,332,33,34,35]) Ap zK (G3 ?_);refine .idxSlP 32 J J J hbp J Y30.h Sz34 k J oM (.loadEN (Aa (ls.getD (k) [])) J J J Y34.h J Sz34 sP (by rw[Aa,La0];exact Bg hW.row (by rw[hW.len];omega)) (B3 hW.row hbs (by rw[hW.len];omega)) ?_);refine .lA J J J Y34.h J Sz34 Z0 sP ?_;refine two (fun r hr k=>Tr.eql_bytes J J J J eqGuardType34 Y34.h Y5.h Sz5 zA sP hr k) (fun hs7_60=>?_) (fun hs7_60=>?_)
   ·
    have hs7_6:=of_decide_eq_true hs7_60;refine G31 ?_;refine .cond_t J J (G5 ?_);refine G7 ?_;refine⟨_,[],Ae J J,sP,sP,?_,rfl⟩;exact congrArg i64 (bcheck_bad hnb (linksBad_at (k:=k) oM (by unfold badAt;simp_all))).symm
   have hs7_6:=of_decide_eq_false hs7_60;refine G4 ?_;refine .idxSlP 32 J J J hbp J Y30.h Sz34 k J oM (.loadEN (Aa (ls.getD (k) [])) J J J Y34.h J Sz34 sP (by rw[Aa,La0];exact Bg hW.row (by rw[hW.len];omega)) (B3 hW.row hbs (by rw[hW.len];omega)) ?_);refine G1 ?_;refine .lN (Aa _) J J J Y34.h J Sz34 Z1 (Block.row_fPrev zA) (Block.rl_fPrev zA) ?_;refine two (fun r hr k=>Tr.eql_bytes J J J J eqGuardType34 Y34.h Y5.h Sz5 zA (by(simp[hB.l_fPrev];done)) hr k) (fun hs7_150=>?_) (fun hs7_150=>?_)
   ·
    have hs7_15:=of_decide_eq_true hs7_150;refine G22 ?_;refine .cond_t J J (G5 ?_);refine G7 ?_;refine⟨_,[],Ae J J,sP,sP,?_,rfl⟩;exact congrArg i64 (bcheck_bad hnb (linksBad_at (k:=k) oM (by unfold badAt;simp_all))).symm
   have hs7_15:=of_decide_eq_false hs7_150;refine G3 ?_;refine two (fun r hr k=>Tr.gtr J J J J hr k) (fun hs7_190=>?_) (fun hs7_190=>?_)
   ·
    have hs7_19:=of_decide_eq_true hs7_190;refine G5 ?_;refine .idxSlP 32 J J J hbp J Y30.h Sz34 (k-1) oM oM (.loadEN (Aa (ls.getD (k-1) [])) J J J Y34.h J Sz34 sP (by rw[Aa,La0];exact Bg hW.row (by rw[hW.len];omega)) (B3 hW.row hbs (by rw[hW.len];omega)) ?_);refine G3 ?_;refine .idxSlP 32 J J J hbp J Y30.h Sz34 k J oM (.loadEN (Aa (ls.getD (k) [])) J J J Y34.h J Sz34 sP (by rw[Aa,La0];exact Bg hW.row (by rw[hW.len];omega)) (B3 hW.row hbs (by rw[hW.len];omega)) ?_);refine .cV J J J J Body25 (r15_cmp _ _ hr1 hr0) tV (G5 ?_);refine .condP J (fun hc2=>?_) (fun hc2=>?_)
    ·
     refine G5 ?_;refine G7 ?_;refine⟨_,[],Ae J J,sP,sP,?_,rfl⟩;exact congrArg i64 (bcheck_bad hnb (linksBad_at (k:=k) oM (by unfold badAt;simp_all))).symm
    refine G3 ?_;refine⟨(),by unfold badAt;simp_all,Ad wN (wh1 Z0 (wh1 Z1 wh0)) nD⟩
   have hs7_19:=of_decide_eq_false hs7_190;refine G18 ?_;refine .cond_f J J (G3 ?_);refine⟨(),by unfold badAt;simp_all,Ad wN (wh1 Z0 (wh1 Z1 wh0)) nD⟩
  intro _u hj;have hgk:=hj;refine G6 ?_;exact⟨k+1,⟨by omega,fun j hj=>by rcases Lco.1 hj with h|rfl;exact hg j h;exact hgk⟩,by omega,Ad (wk1 rfl (wk1 rfl (wk1 (by rw[Lct];rfl) wk0))) (wh1 Z0 (wh1 Z1 wh0)) nD⟩
 obtain rfl:k=B.fLinks.n:=by omega
 refine G10 ?_;refine G2 ?_;refine⟨_,[],Ae J J,sP,sP,?_,rfl⟩;exact congrArg i64 (bcheck_ok hnb (linksBad_not (by rw[hW.len];exact hg))).symm
theorem r15_Check(B:Block)(D:DB):Mv 103 [agg B.cells] (fun W=>BlockIs W B D) (i64 D.check):=
  fun W hW=>by rw[←hW.check];exact r15_check B hW.ok D.ls W hW.ls
theorem r1_Block(p r:Option Addr)(n c m d:Nat)(l ys:List UInt8)(hl:l.length=n)(hy:ys.length=m)(hp:p=none→n=0)(hr:r=none→m=0)(hn:n≤40000)(hm:m≤40000):Meets prog 203 [.slice p n c, .slice r m d] [] (fun W=>SeesP W p (Aa l)∧SeesP W r (Aa ys)) (fun v out=>FreshRow v out (Aa (l++numB (UInt64.ofNat m)++ys)) 5 (n+szN m+m) 1):=by
 intro W hW;have hz:=Bp m;have hw:Bz (m:Int)=UInt64.ofNat m:=by simp only[Bz];congr 1;omega
 have hmn:(UInt64.ofNat m).toNat=m:=by rw[Lb2,Laa oM]
 refine Ac func203 J 12 ntmps203 J (G11 ?_);rw[hw];refine .call4 J J J J J Body134 (r1_Number p n c l (UInt64.ofNat m) hl hp oM) (fun w h=>A2 h J hW.1) ?_;rintro v9 out9 ⟨q9,c9,rfl,hc9,rfl⟩;rw[hmn]at hc9 ⊢;refine G1 ?_;refine .appendSl (z:=u8 0) (by':=1) (Aa ys) J J J J J Y46.h Y46.h Sz5 Zr5 (by unfold By;kernel_rfl) J (fun w h=>A2 h J hW.2) hr (Aw _) rM J (by rw[Aa,La0,La3,Bd,hl,hmn,Lb3]) oM oM oM (by rw[Aa,La0,hy,Lb3]) ?_;intro q11 c11 hq11;rw[←Cu];refine G3 ?_;refine G2 ?_;refine Az (out:=(⟨q11,Aa (l++numB (UInt64.ofNat m)++ys),5,c11*1⟩::[])) (Ae J J) (Ab rM Ak) ?_;exact⟨q11,c11,rfl,hq11,rfl⟩
theorem btag_length:btag.length=5:=rfl
theorem r15_Text(B:Block)(D:DB)(hB:B.ok)(h1:D.ls.length≤40)(h2:D.ds.length≤2000):Meets prog 161 [agg B.cells] [] (fun W=>BlockIs W B D) (fun v out=>FreshRow v out (Aa (btxt D)) 5 (btxt D).length 1):=by
 intro W hW;have hbs0:=DB.body_small hW.dok h1 h2;have e1:=hW.ls.len;have e2:=hW.ds.len;have hz1:=Bp B.fSeq.toNat;have hz2:=Bp (UInt64.ofNat B.fLinks.n).toNat;have hz3:=Bp B.fData.n;have hw2:=word_nat (n:=B.fLinks.n) oM;have hrow:=hW.ls.row;refine Ac func161 J 41 ntmps161 J (G3 ?_);intro n1 hn1 hf1;refine G5 ?_;refine .mkRow (z:=u8 0) [u8 98,u8 108,u8 111,u8 99,u8 107] (Aa btag) J J J Y46.h Sz5 Zr5 J J (by intro v hv;simp only[Lal,Lc8,or_false]at hv;rcases hv with rfl|rfl|rfl|rfl|rfl<;>rfl) dE J ?_;intro q5;refine .constB J J J J Y46.h Y5.h Z0 ?_;refine G2 ?_;refine .appendSl (z:=u8 0) (by':=1) (Aa B.fWriter) J J J J J Y46.h Y46.h Sz5 Zr5 (by unfold By;kernel_rfl) J (fun w h=>SeesP.of (sees_part h Z1 (Block.see_fWriter hB))) (fun e=>by cases e) (Aw _) rM J J dE dE dE (by simp[hB.l_fWriter]) ?_;intro q9 c9 hq9;rw[←Cu];refine G4 ?_;refine .draw (oP [0,1,102,4,5,403,406,7]) Ap zK (G5 ?_);refine .call4 J J J J J Body134 (r1_Number (some ⟨q9,0,none⟩) (5+32) c9 (btag++B.fWriter) (B.fSeq) (by simp only[La3,Bd,hB.l_fWriter,hB.l_fPrev,btag_length]) (fun e=>by cases e) oM) (fun w h=>SeesP.of (Ao (cs:=Aa (btag++B.fWriter)) h Z0)) ?_;rintro v13 out13 ⟨q13,c13,rfl,hc13,rfl⟩;refine .appendSl (z:=u8 0) (by':=1) (Aa B.fPrev) J J J J J Y46.h Y46.h Sz5 Zr5 (by unfold By;kernel_rfl) J (fun w h=>SeesP.of (sees_part h Z2 (Block.see_fPrev hB))) (fun e=>by cases e) (Aw _) rM J (by rw[Aa,La0,Lb3];simp only[La3,Bd,hB.l_fWriter,hB.l_fPrev,btag_length]) oM oM oM (by simp[hB.l_fPrev]) ?_;intro q16 c16 hq16;rw[←Cu];refine G10 ?_;rw[hw2];refine .call4 J J J J J Body134 (r1_Number (some ⟨q16,0,none⟩) (5+32+szN B.fSeq.toNat+32) c16 (btag++B.fWriter++numB B.fSeq++B.fPrev) (UInt64.ofNat B.fLinks.n) (by simp only[La3,Bd,hB.l_fWriter,hB.l_fPrev,btag_length]) (fun e=>by cases e) oM) (fun w h=>SeesP.of (Ao (cs:=Aa (btag++B.fWriter++numB B.fSeq++B.fPrev)) h Z0)) ?_;rintro v22 out22 ⟨q22,c22,rfl,hc22,rfl⟩;refine G10 ?_;refine .loop (ι:=Nat×Nat×Nat) (fun p=>⟨[(1,ptr n1 0),(3, .slice (some ⟨p.2.1,0,none⟩) (5+32+szN B.fSeq.toNat+32+szN (UInt64.ofNat B.fLinks.n).toNat+32*p.1) p.2.2),(4,i64 (p.1:Int))],[⟨p.2.1,Aa (btag++B.fWriter++numB B.fSeq++B.fPrev++numB (UInt64.ofNat B.fLinks.n)++(D.ls.take p.1).flatten),5,p.2.2*1⟩,⟨n1,B.cells,50,B.cells.length⟩]⟩) (fun p=>p.1≤B.fLinks.n∧5+32+szN B.fSeq.toNat+32+szN (UInt64.ofNat B.fLinks.n).toNat+32*p.1≤p.2.2) (fun p=>B.fLinks.n-p.1) ((0,q22,c22)) ?_ ?_ ?_
 ·exact⟨Las _,by simp only[];omega⟩
 ·exact Aq wN (pm_consE rM (by simp only[Ldq,Lg4,Lar]) rfl (Ab rM Ak))
 rintro p ⟨hp1,hp2⟩;refine G10 ?_;refine .condP J (fun hc0=>?_) (fun hc0=>?_)
 ·
  have hp3:p.1<B.fLinks.n:=by omega
  obtain⟨b,o,hbp,hbs⟩:=hW.ls.see.at (by rw[A1 hrow];omega);have hrk:(D.ls.getD p.1 []).length=32:=Bg hrow oM;refine G9 ?_;refine .idxSlP 32 J J J hbp J Y30.h Sz34 p.1 J oM (G1 ?_);refine .appendSl (z:=u8 0) (by':=1) (Aa (D.ls.getD p.1 [])) J J J J J Y46.h Y46.h Sz5 Zr5 (by unfold By;kernel_rfl) J (fun w h=>SeesP.of (sees_ext h sP (B3 hrow hbs oM))) (fun e=>by cases e) (Aw _) rM J (by simp only[Aa,La0,La3,Bd,hB.l_fWriter,hB.l_fPrev,btag_length,B8 hrow (show p.1≤D.ls.length by omega)];omega) oM oM oM (by rw[Aa,La0,hrk]) ?_;intro q36 c36 hq36;rw[←Cu];refine G10 ?_;exact⟨(p.1+1,q36,c36),⟨by simp only[];omega,by simp only[];omega⟩,by simp only[];omega,Aq (wk1 rfl (wk1 (by rw[show 5+32+szN B.fSeq.toNat+32+szN (UInt64.ofNat B.fLinks.n).toNat+32*(p.1+1)=5+32+szN B.fSeq.toNat+32+szN (UInt64.ofNat B.fLinks.n).toNat+32*p.1+32 by omega];rfl) (wk1 (by rw[Lct];rfl) wk0))) (pm_consE rM (by rw[flatten_take_step oM,←La8]) rfl (Ab rM Ak))⟩
 have hp3:p.1=B.fLinks.n:=by omega
 refine G10 ?_;refine .call4 J J J J J Body203 (r1_Block (some ⟨p.2.1,0,none⟩) B.fData.p (5+32+szN B.fSeq.toNat+32+szN (UInt64.ofNat B.fLinks.n).toNat+32*p.1) p.2.2 B.fData.n B.fData.c (btag++B.fWriter++numB B.fSeq++B.fPrev++numB (UInt64.ofNat B.fLinks.n)++(D.ls.take p.1).flatten) D.ds (by simp only[La3,Bd,hB.l_fWriter,hB.l_fPrev,btag_length,B8 hrow (show p.1≤D.ls.length by omega)];omega) e2 (fun e=>by cases e) (fun e=>by have h3:=hW.ds.nil e;have h4:=hW.ds.cap;omega) oM oM) (fun w h=>⟨SeesP.of (Ao h Z0),A2 h J hW.ds.see⟩) ?_;rintro v40 out40 ⟨q40,c40,rfl,hc40,rfl⟩;refine G3 ?_;refine G2 ?_;refine Az (out:=(⟨q40,Aa (btag++B.fWriter++numB B.fSeq++B.fPrev++numB (UInt64.ofNat B.fLinks.n)++(D.ls.take p.1).flatten++numB (UInt64.ofNat B.fData.n)++D.ds),5,c40*1⟩::[])) (Ae J J) (Ab rM Ak) ?_;have hfin:btag++B.fWriter++numB B.fSeq++B.fPrev++numB (UInt64.ofNat B.fLinks.n)++(D.ls.take p.1).flatten++numB (UInt64.ofNat B.fData.n)++D.ds=btxt D:=by rw[btxt,DB.body,←hW.w,←hW.seq,←hW.prev,e1,e2,La6 oM];simp only[La8]
 have hlen:5+32+szN B.fSeq.toNat+32+szN (UInt64.ofNat B.fLinks.n).toNat+32*p.1+szN B.fData.n+B.fData.n=(btxt D).length:=by rw[←hfin];simp only[La3,Bd,hB.l_fWriter,hB.l_fPrev,btag_length,B8 hrow (show p.1≤D.ls.length by omega),e2,ofNat_nat (show B.fData.n≤1000000 by omega)];omega
 rw[hfin];exact⟨q40,c40,by rw[hlen],by omega,rfl⟩
theorem r15_Copy(B:Block)(D:DB)(hB:B.ok)(hn:D.ls.length≤500000)(hd:D.ds.length≤500000):Meets prog 85 [agg B.cells] [] (fun W=>BlockIs W B D) (BlkV D):=by
 intro W hW;have e1:=hW.ls.len;have e2:=hW.ds.len;refine Ac func85 J 14 ntmps85 J (G3 ?_);intro n1 hn1 hf1;refine .alloc (cs:=Block.zero.cells) J Block.zr J ?_;intro n2 hn2 hf2;refine G3 ?_;refine .draw (oP [1,102,5,106,200,303,8,204,307,409,10,411]) Ap zK (G4 ?_);refine .mkRow2 (z:=agg (Aa (List.replicate 32 0))) [] [] rfl J Y30.h Sz34 Cs J J (by intro v hv;cases hv) dE J ?_;intro q3;refine .appendE (z:=agg (Aa (List.replicate 32 0))) (by':=32) (A3 D.ls) J J J J Y30.h Y30.h Sz34 Cs (by unfold By;kernel_rfl) J (fun w h=>A2 h J hW.ls.see) (fun e=>by have:=hW.ls.nil e;have:=hW.ls.cap;omega) (flatB_cell _) oM oM (by rw[A1 hW.ls.row,e1]) ?_;intro s6 bl6 hr6;refine G1 ?_;refine .mkRow2 (z:=u8 0) [] [] rfl J Y46.h Sz5 Zr5 J J (by intro v hv;cases hv) dE J ?_;intro q7;refine .appendE (z:=u8 0) (by':=1) (Aa D.ds) J J J J Y46.h Y46.h Sz5 Zr5 (by unfold By;kernel_rfl) J (fun w h=>A2 h J hW.ds.see) (fun e=>by have:=hW.ds.nil e;have:=hW.ds.cap;omega) (Aw _) oM oM (by rw[Aa,La0,e2,Lb3]) ?_;intro s10 bl10 hr10;refine .s1 J J J J J Sz30 mR (by rw[Block.length zA];decide) (by exact Block.set_fLinks zA _) uU ?_;refine G1 ?_;refine .s1 J J J J J Sz46 mR (by rw[Block.length (by exact⟨hB.l_fWriter,hB.l_fPrev,hB.l_fSig⟩)];decide) (by exact Block.set_fData (by exact⟨hB.l_fWriter,hB.l_fPrev,hB.l_fSig⟩) _) uU ?_;refine G4 ?_;refine .lA J J J Y50.h J Sz50 mR (Block.length (by exact⟨hB.l_fWriter,hB.l_fPrev,hB.l_fSig⟩)) ?_;refine .sA J J J J (Block.isCell (by exact⟨hB.l_fWriter,hB.l_fPrev,hB.l_fSig⟩)) Sz50 (Block.length (by exact⟨hB.l_fWriter,hB.l_fPrev,hB.l_fSig⟩)) mR (Block.length (by exact Block.zero_ok)) uU ?_;refine G2 ?_;refine G2 ?_;refine Az (out:=(bl10++(bl6++[]))) (Am J J Y50.h J Sz50 mR (by exact Block.length (by exact⟨hB.l_fWriter,hB.l_fPrev,hB.l_fSig⟩))) (Ah sG (Ah sG Ak)) ?_;have g6:=hr6.num;have g10:=hr10.num;exact⟨({ B with fLinks:=s6,fData:=s10 }:Block),⟨⟨hB.l_fWriter,hB.l_fPrev,hB.l_fSig⟩,hW.w,hW.seq,hW.prev,hW.sg,g6.trans e1.symm,g10.trans e2.symm⟩,rfl,fun W2 h2=>⟨⟨hB.l_fWriter,hB.l_fPrev,hB.l_fSig⟩,hW.w,hW.seq,hW.prev,⟨e1.trans g6.symm,hW.ls.row,hr6.cap,hr6.see W2 (h2.sub (in_seg A9)),by show s6.n≤maxLen;rw[g6];unfold maxLen;omega,hr6.nil⟩,⟨e2.trans g10.symm,hr10.cap,hr10.see W2 (h2.sub A9),by show s10.n≤maxLen;rw[g10];unfold maxLen;omega,hr10.nil⟩,hW.sg⟩⟩
theorem with_w'(h:BlockIs W B D)(hK:K.length=32):BlockIs W { B with fWriter:=K } { D with w:=K }:=⟨⟨hK,h.ok.l_fPrev,h.ok.l_fSig⟩,rfl,h.seq,h.prev,h.ls,h.ds,h.sg⟩
theorem with_wg'(h:BlockIs W B D){K G:List UInt8}(hK:K.length=32)(hG:G.length=64):BlockIs W { B with fWriter:=K,fSig:=G } { D with w:=K,sg:=G }:=⟨⟨hK,h.ok.l_fPrev,hG⟩,rfl,h.seq,h.prev,h.ls,h.ds,rfl⟩
theorem r15_Sign(B:Block)(D:DB)(hB:B.ok)(hn:D.ls.length≤40)(hd:D.ds.length≤2000)(seed:List UInt8)(h32:seed.length=32)(s s1 s2:List UInt8)(hs:Hid (sha512 seed=s))(hs1:Hid (sha512 (s.drop 32++btxt ({ D with w:=sgK s }:DB))=s1))(hs2:Hid (sha512 (sgF s1++(sgK s++btxt ({ D with w:=sgK s }:DB)))=s2))(hc:D.check=0):Meets prog 164 [agg (Aa seed),agg B.cells] [] (fun W=>BlockIs W B D) (BlkR 0 (bsg D (sgK s) (sgF s1++sgS s s1 s2))):=by
 intro W hW;have lG:(sgF s1++sgS s s1 s2).length=64:=by rw[La3,sgF_length,sgS_length]
 have lK:=sgK_length s;have cK:=r6_Key seed h32 s hs;have e1:=hW.ls.len;have e2:=hW.ds.len;have hDk:({ D with w:=sgK s }:DB).ok:=⟨lK,hW.dok.prev,hW.dok.sg,hW.dok.ls⟩;have hvn:(btxt { D with w:=sgK s }).length≤4005:=DB.body_small hDk oM oM;have cS:=fun(x:Sl)=>r6_Sign seed h32 x (btxt { D with w:=sgK s }) oM s s1 s2 hs hs1 hs2;clear hs hs1 hs2;revert lG lK cK hDk hvn cS;generalize sgF s1++sgS s s1 s2=G;generalize sgK s=K;intro lG lK cK hDk hvn cS;refine Ac func164 J 21 ntmps164 J (G3 ?_);intro n2 hn2 hf2;refine G1 ?_;intro n3 hn3 hf3;refine .alloc (cs:=Block.zero.cells) J Block.zr J ?_;intro n4 hn4 hf4;refine G6 ?_;refine .call4 J J J J J Body85 (r15_Copy B D hB oM oM) (fun w h=>hW.ext h J) ?_;rintro v7 out7 ⟨B7,h7,rfl,ho7⟩;have okX:({ B7 with fWriter:=K }:Block).ok:=⟨lK,h7.ok.l_fPrev,h7.ok.l_fSig⟩;have okG:({ B7 with fWriter:=K,fSig:=G }:Block).ok:=⟨lK,h7.ok.l_fPrev,lG⟩;have cC:=r15_Check ({ B7 with fWriter:=K }:Block) { D with w:=K };rw[show({ D with w:=K }:DB).check=D.check from rfl]at cC;have cT:=r15_Text ({ B7 with fWriter:=K }:Block) { D with w:=K } okX hn hd
 try simp only[La8,Lak,Lai]
 refine .sA J J J J (Block.isCell (by exact h7.ok)) Sz50 (Block.length (by exact h7.ok)) mR (Block.length zA) uU ?_;refine G4 ?_;refine .lA J J J Y33.h J Sz33 mR (by(simp[h32];done)) ?_;refine .cV J J J J Body205 (cK) tV (G1 ?_);refine .storeN (Aa _) J J J J J zE Sz44 (by simp[lK]) mR (by rw[Block.length (by exact h7.ok)];simp[lK]) (Block.upd_fWriter (by exact h7.ok) _ (by simp[lK])) uU ?_;refine G6 ?_;refine .cV J J J J Body103 (cC) (fun w h=>with_w' (ho7 w (Lies.of h (by repeat(exact A9)))) lK) ?_;refine G3 ?_;refine .cond_f J (by simpa using hc) ?_;refine G3 ?_;refine .draw (oP [100,101,302,303,4,405]) Ap zK (.lA J J J Y33.h J Sz33 mR (by(simp[h32];done)) ?_);refine G1 ?_;refine .call J J J J Body161 (cT) (FreshRow.loose _ _ _ _) (fun w h=>with_w' (ho7 w (Lies.of h (by repeat(exact A9)))) lK) ?_;rintro v17 out17 ⟨q17,c17,rfl,hc17,rfl⟩;refine .cV J J J J Body206 (cS ⟨some ⟨q17,0,none⟩,_,c17⟩) (fun w h=>own_btxt (SeesP.of (Ao h Z0)) hc17 hvn) ?_;refine G1 ?_;refine .storeN (Aa _) J J J J J zE Sz48 (by simp[lG]) mR (by rw[Block.length zA];simp[lG]) (Block.upd_fSig zA _ (by simp[lG])) uU ?_;refine G9 ?_;refine G2 ?_;refine Az (out:=(out7++[])) (Bh J J J Y50.h J Sz50 mR (by exact Block.length zA)) (Ah sG Ak) ?_;rw[Lar];exact⟨({ B7 with fWriter:=K,fSig:=G }:Block),⟨okG,rfl,h7.seq,h7.prev,rfl,h7.ln,h7.dn⟩,rfl,fun W2 h2=>with_wg' (ho7 W2 h2) lK lG⟩
def ByR(e:Int)(l:List UInt8)(v:Value)(out:List Blk):Prop:=∃s:Sl,v= .tuple #[s.v,i64 e]∧s.n=l.length∧(s.p=none→s.n=0)∧∀W2,Lies out W2→SeesP W2 s.p (Aa l)
theorem body_pos(D:DB):0<D.body.length:=by
  have:=Bp D.seq.toNat;simp only[DB.body,La3,Bd];omega
theorem text_off{q c:Nat}{E:TypeId}(hc:(btxt D).length≤c)(hl:(btxt D).length=5+D.body.length):AccO ⟨some ⟨q,if c=5 then 0 else 0+5*1,none⟩,(btxt D).length-5,c-5⟩ [⟨q,Aa (btxt D),E,c*1⟩] (Aa D.body) E ((btxt D).length-5):=by
  refine .inr ⟨q,if c=5 then 0 else 0+5*1,c-5,c*1,Aa (if c=5 then[]else btag),Aa [],rfl,by omega,by rw[Aa,La0];omega,?_, .inl rfl,?_,?_⟩
  ·split<;>rfl
  ·split<;>omega
  · by_cases h5:c=5
    ·exfalso;have hb:0<D.body.length:=body_pos D;omega
    ·rw[if_neg h5,←Cu,←Cu,Lar];rfl
theorem r15_Bytes(B:Block)(D:DB)(hB:B.ok):Meets prog 121 [agg B.cells] [] (fun W=>BlockIs W B D) (ByR D.check (bytesR D)):=by
 intro W hW;have hsl:=hB.l_fSig;have hsg:=hW.sg;refine Ac func121 J 13 ntmps121 J (G3 ?_);intro n1 hn1 hf1;refine G8 ?_;refine .cV J J J J Body103 (r15_Check B D) (fun w h=>hW.ext h J) (G3 ?_);refine .condNP J (fun hc0=>?_) (fun hc0=>?_)
 ·
  have hq0:¬D.check=0:=by omega
  refine G6 ?_;refine G3 ?_;refine Az (out:=[]) (Cb J J J) Ak ?_;rw[dcheck_2 hq0];exact⟨Sl.nil,rfl,by rw[show bytesR D=[]from if_neg hq0];rfl,fun _=>rfl,fun W2 _=>by rw[show bytesR D=[]from if_neg hq0];exact SeesP.nil⟩
 have hq0:D.check=0:=by omega
 obtain⟨h1,h2⟩:=D.head_small hq0;have hvn:(btxt D).length≤4005:=DB.body_small hW.dok oM oM;have hbl5:(btxt D).length=5+D.body.length:=by rw[btxt,La3];rfl
 refine G3 ?_;refine .draw (oP [100,3,4,301,2,405,6,7]) Ap zK (G3 ?_);refine .call J J J J Body161 (r15_Text B D hB oM oM) (FreshRow.loose _ _ _ _) (fun w h=>hW.ext h J) ?_;rintro v8 out8 ⟨q8,c8,rfl,hc8,rfl⟩;refine .sliceLoN 5 J J J J J oM oM Y46.h Sz5 (.appendO (z:=u8 0) (by':=1) (Aa B.fSig) J J J J J Y46.h Y46.h Sz5 Zr5 (by unfold By;kernel_rfl) J (text_off hc8 hbl5) sG (fun w h=>SeesP.of (sees_part h Z1 (Block.see_fSig hB))) dE (fun e=>by cases e) (Aw _) oM oM (by simp[hsl]) ?_);intro s12 bl12 hac12;refine G4 ?_;refine G2 ?_;refine Az (out:=(bl12++[])) (Cb J J J) (Ah sG Ak) ?_;rw[hq0,show bytesR D=D.body++D.sg from if_pos hq0,←hsg,Lar];refine⟨s12,rfl,by rw[hac12.num,La3,hsl];omega,fun e=>by have:=hac12.nilc e;have:=hac12.cap;omega,fun W2 h2=>?_⟩;rw[Cu];exact hac12.see h2
theorem r15_Name(B:Block)(D:DB)(hB:B.ok):Mv 54 [agg B.cells] (fun W=>BlockIs W B D) (agg (Aa (Bj D))):=by
 intro W hW;have hvl:(bytesR D).length≤5000:=by
  unfold bytesR;split
  ·rename_i h9;exact D.bytes_small h9 hW.dok
  ·exact Las _
 obtain⟨k,hk⟩:∃k,Hid (kW=k):=⟨_,⟨rfl⟩⟩;obtain⟨s0,hs0⟩:∃s0,Hid (xorUp 8=s0):=⟨_,⟨rfl⟩⟩;obtain⟨G,hG⟩:∃G,Hid (shaTag=G):=⟨_,⟨rfl⟩⟩;obtain⟨i0,hi0⟩:∃i0,Hid (allW k s0 G=i0):=⟨_,⟨rfl⟩⟩;have hk80:k.length=80:=by rw[←hk.out];rfl
 have hs8:s0.length=8:=by rw[←hs0.out];exact xorUp_length 8
 have hGl:G.length=11:=by rw[←hG.out];rfl
 have hi8:i0.length=8:=by rw[←hi0.out,allW_length];exact hs8
 obtain⟨r,hr⟩:∃r,Hid (allW k i0 (bytesR D)=r):=⟨_,⟨rfl⟩⟩;obtain⟨s,hs⟩:∃s,Hid (sumUp r 64=s):=⟨_,⟨rfl⟩⟩;have hsd:Hid (s.take 32=sha256 (bytesR D)):=⟨by rw[←hs.out,←hr.out,←hi0.out,←hG.out,←hs0.out,←hk.out];rfl⟩;have hs64:s.length=64:=by rw[←hs.out];exact B5 r 64
 have hs32:(s.take 32).length=32:=by rw[Laj,hs64];rfl
 refine Ac func54 J 16 ntmps54 J (G3 ?_);intro n1 hn1 hf1;refine .alloc (cs:=(Aa (List.replicate 32 0))) J Cs J ?_;intro n2 hn2 hf2;refine G5 ?_;refine .call4 J J J J J Body121 (r15_Bytes B D hB) (fun w h=>hW.ext h J) ?_;rintro v7 out7 ⟨s7,rfl,hn7,hp7,hs7⟩;refine G14 ?_;refine .condNP J (fun hc0=>?_) (fun hc0=>?_)
 ·
  have hq0:¬D.check=0:=by omega
  refine G2 ?_;refine .build (cs:=Aa (List.replicate 32 0)) J J J (fun w=>by kernel_rfl) ?_;refine .sA J J J J zE Sz34 sP mR sP (by(repeat(first|exact upd0|apply Upd.seg))) ?_;refine G2 ?_;refine G3 ?_;refine⟨_,[],Am J J Y34.h J Sz34 mR sP,sP,sP,?_,rfl⟩
  (rw[Bj,if_neg hq0];done)
 have hq0:D.check=0:=by omega
 refine G5 ?_;refine .mkRow (z:= .slice none 0 0) [s7.v] [s7.v] rfl J J Y183.h Sz46 Zr46 J J (by intro v hv;rw[La1.1 hv];rfl) dE J ?_;intro q14;refine .cV J J J J Body122 (r2_Sum k s0 i0 G hk hk80 hs0 hs8 hG hGl hi0 hi8 (some ⟨q14,0,none⟩) 1 1 [s7] [bytesR D] rfl J (fun j hj=>(by obtain rfl:j=0:=oM;exact⟨by simp[hn7],hp7⟩)) (bytesR D) sP oM dE r hr s hs) (fun w h=>⟨SeesP.of (Ao h Z0),fun j hj=>(by obtain rfl:j=0:=oM;exact hs7 w (Lies.of h (by repeat(first|exact A9|refine Bl ?_))))⟩) ?_;refine .sA J J J J zE Sz34 (by(simp[hs64];done)) mR sP uU ?_;refine G2 ?_;refine G2 ?_;refine⟨_,[],Am J J Y34.h J Sz34 mR (by simp[hs64]),sP,sP,?_,rfl⟩
 (rw[Bj,if_pos hq0,←show bytesR D=D.bytes from if_pos hq0,hsd.out];done)
def Cm(D:DB):List (List UInt8):=if D.seq=0 then D.ls else D.prev::D.ls
theorem parL_row(h:D.ok):∀l∈Cm D,l.length=32:=by
  intro l hl;unfold Cm at hl;split at hl
  ·exact h.ls l hl
  · rcases Lal.1 hl with rfl|hl
    ·exact h.prev
    ·exact h.ls l hl
end Go.Proofs.YtpogmfngccolbaaGreat
namespace Go.Proofs.YtpogmfngccolbaaGreat
open Go Hw _root_.Go.Proofs.Tryz
variable{W:World}{b c:Nat}{z:Value}{ν:Type}{ev:ν→Value}{fs:List (List UInt8×ν)}
theorem key_seqB(M:MOk prog 132 34 50 (As 32 ev) z)(hb:BlkOk W (A7 b (As 32 ev) fs))(hc:CapM W c b)(hcl:c<W.heap.size):KeySeq prog 250 #[ptr c 0] (fs.map (·.1)) W:=by
  intro σ X vis s0 names l w1 hk hn hv hH hY;obtain⟨es,clock,h1,F⟩:=hb.map;have hb1:w1.heap[b]? =some (.map es clock):=(hk.block b hb.lt sP).trans h1;have hbn:b∉names:=fun h=>by have:=hn b h;have:=hb.lt;simp only at this;omega
  have hcn:c∉names:=fun h=>by have:=hn c h;omega
  have hc1:CapM w1 c b:=by
    unfold CapM World.cell? at hc ⊢;rw[hk.block c hcl sP];exact hc
  have hcl1:c<w1.heap.size:=Lbf hcl hk.size;refine callsIn_wide.2 ((keys_iterB M X vis s0 names l c b fs es clock w1 F hv hbn hcn w1 ⟨rfl,hH,hb1,hc1,hcl1,fun s k h32 hvl W2 h=>hY s k h32 (by simpa using hvl) W2 h⟩).mono fun e W' ⟨v,out,he,⟨_,s,hp,ho⟩,hr⟩=>⟨⟨v,he⟩,s,hp,?_⟩);subst ho;exact⟨hr.cells,hr.nodup,hr.own,hr.keeps,fun _ h=>(by cases h),fun _ _ _ h=>(by cases h)⟩
theorem key_seqU(M:MOk prog 114 34 145 (As 32 ev) z)(hb:BlkOk W (A7 b (As 32 ev) fs))(hc:CapM W c b)(hcl:c<W.heap.size):KeySeq prog 227 #[ptr c 0] (fs.map (·.1)) W:=by
  intro σ X vis s0 names l w1 hk hn hv hH hY;obtain⟨es,clock,h1,F⟩:=hb.map;have hb1:w1.heap[b]? =some (.map es clock):=(hk.block b hb.lt sP).trans h1;have hbn:b∉names:=fun h=>by have:=hn b h;have:=hb.lt;simp only at this;omega
  have hcn:c∉names:=fun h=>by have:=hn c h;omega
  have hc1:CapM w1 c b:=by
    unfold CapM World.cell? at hc ⊢;rw[hk.block c hcl sP];exact hc
  have hcl1:c<w1.heap.size:=Lbf hcl hk.size;refine callsIn_wide.2 ((keys_iterU M X vis s0 names l c b fs es clock w1 F hv hbn hcn w1 ⟨rfl,hH,hb1,hc1,hcl1,fun s k h32 hvl W2 h=>hY s k h32 (by simpa using hvl) W2 h⟩).mono fun e W' ⟨v,out,he,⟨_,s,hp,ho⟩,hr⟩=>⟨⟨v,he⟩,s,hp,?_⟩);subst ho;exact⟨hr.cells,hr.nodup,hr.own,hr.keeps,fun _ h=>(by cases h),fun _ _ _ h=>(by cases h)⟩
theorem KeySeq.keep{P:Program}{gf:Nat}{lb:Array Value}{keys:List (List UInt8)}{C:Cx}{hp:List Blk}{w:World}(h:KeySeq P gf lb keys C.W0)(hh:HRep C hp w)(hl:C.lent=[]:=by rfl):KeySeq P gf lb keys w:=by
  intro σ X vis s0 names l w1 hk hn hv hH hY;have k0:=hh.keeps;rw[hl]at k0;exact h σ X vis s0 names l w1 (k0.trans hk) (fun n hm=>Lbk k0.size (hn n hm)) hv hH hY
theorem append_keys(gf:Nat)(lb:Array Value)(keys:List (List UInt8))(hgf:Av prog gf)(hkn:keys.length≤100000):Meets prog 286 [.slice none 0 0, .func (.func gf) #[] lb] [] (fun W=>KeySeq prog gf lb keys W) (fun v out=>∃(s:Sl) (ks:List (List UInt8)),ks.Perm keys∧v=s.v∧Hw.Acc s out (A3 ks) 34 ks.length 32):=by
  intro W hW;refine calls_rangeR (hp0:=[]) func286 rfl 13 ntmps286 rfl (HRep.nil _) ?_;refine Sat.region ?_;refine Tr.box1 rfl rfl rfl ?_;intro n2 hn2 hf2;refine G7 ?_;refine⟨gf,lb,{t:Sl×List Blk×List (List UInt8)//Hw.Acc t.1 t.2.1 (A3 t.2.2) 34 t.2.2.length 32},fun t=>⟨n2,[t.1.1.v],30,1⟩::t.1.2.1,⟨(Sl.nil,[],[]),Acc.none⟩,[n2],(fun t v=>∃k,v=agg (Aa k)∧k.length=32∧t.1.2.2.length<keys.length),(fun t v t2=>∃k,v=agg (Aa k)∧t2.1.2.2=t.1.2.2++[k]),(fun t=>t.1.2.2.Perm keys),(fun sl t v st=>∃k n5 m5,v=agg (Aa k)∧st=⟨(5,ptr n5 0)::(7,v)::sl,⟨n5,Aa k,34,m5⟩::⟨n2,[t.1.1.v],30,1⟩::t.1.2.1⟩),rfl,rfl,hgf,dE,rfl,?_,?_,?_,?_⟩
  ·
    intro l w1 hk hh hy;refine(hW _ (fun t: {t:Sl×List Blk×List (List UInt8)//Hw.Acc t.1 t.2.1 (A3 t.2.2) 34 t.2.2.length 32}=>⟨n2,[t.1.1.v],30,1⟩::t.1.2.1) (fun t=>t.1.2.2) ⟨(Sl.nil,[],[]),Acc.none⟩ [n2] l w1 hk (fun n hn=>by rw[La1.1 hn];exact hn2) rfl hh fun s k h32 hvl W2 h=>?_);obtain⟨fn,tmps,ae,bd,hrun,hR⟩:=hy s (agg (Aa k)) ⟨k,rfl,h32,hvl⟩ W2 h;exact⟨fn,tmps,ae,bd,hrun,RoundIn.mono hR fun e W3 ⟨he,s2,⟨k2,e2,hs2⟩,hr⟩=>⟨he,s2,by rw[agg_bytes_inj e2];exact hs2,hr⟩⟩
  ·
    intro t v hok l W2 ns hns hh;obtain⟨k,rfl,hk32,hlt⟩:=hok;refine SatI.region zK ?_;refine Tr.alloc (cs:=(Aa (List.replicate 32 0))) rfl Cs rfl ?_;intro n5 hn5 hf5;refine Tr.sA rfl rfl rfl rfl zE Sz34 (by(rw[Aa,La0];assumption)) Z0 sP zU ?_;refine Tr.nil ?_;exact⟨k,_,_,rfl,rfl⟩
  ·
    intro t v hok st hmid l W2 ns hns hh;obtain⟨k,n5,m5,rfl,rfl⟩:=hmid;obtain⟨k1,ek,hk32,hlt⟩:=hok;obtain rfl:=agg_bytes_inj ek;refine SatI.block ?_;refine SatI.region zK ?_;refine G1 ?_;refine Tr.lA rfl rfl rfl Y34.h rfl Sz34 Z0 (by(rw[Aa,La0];assumption)) ?_;refine Tr.mkRow2 (z:=agg (Aa (List.replicate 32 0))) [agg (Aa k)] (Aa k) rfl rfl Y30.h Sz34 Cs rfl rfl (by intro v hv;rw[La1.1 hv];simp[Value.cells,Aa,hk32]) dE (by simp[Value.cells,agg]) ?_;intro q10;refine Tr.appendAcc (z:=agg (Aa (List.replicate 32 0))) (by':=32) (Aa k) rfl rfl rfl rfl rfl Y30.h Y30.h Sz34 Cs (by unfold By;kernel_rfl) rfl t.2 (by repeat(first|exact sg_end|apply sg_there)) (fun w h=>SeesP.of (Ao h Z0)) (fun e=>by cases e) (Aw _) oM oM (by rw[Aa,La0,hk32]) ?_;intro s11 bl11 hac11;refine Tr.s1 rfl rfl rfl rfl rfl Sz30 mR sP (by rfl) uU ?_;refine Tr.nil ?_;refine⟨⟨(s11,bl11,t.1.2.2++[k]),by simpa[flatB_append,A3]using hac11⟩,_,⟨k,rfl,rfl⟩,(Ab rM sG)⟩
  intro t hdn D W2 ns hns;skip;refine G6 ?_;refine Sat.ret ?_;refine enA_r ?_;refine endA_perm (out:=(t.1.2.1++[])) (fun W names=>Ae rfl rfl) (Ah (by repeat(first|exact sg_end|apply sg_there)) Ak) ?_;exact⟨t.1.1,t.1.2.2,hdn,rfl,by simpa using t.2⟩
theorem collect_keys(gf:Nat)(lb:Array Value)(keys:List (List UInt8))(hgf:Av prog gf)(hkn:keys.length≤100000):Meets prog 226 [.func (.func gf) #[] lb] [] (fun W=>KeySeq prog gf lb keys W) (fun v out=>∃(s:Sl) (ks:List (List UInt8)),ks.Perm keys∧v=s.v∧Hw.Acc s out (A3 ks) 34 ks.length 32):=by
 intro W hW;refine Ac func226 J 5 ntmps226 J (G8 ?_);refine .call4 J J J J J Body286 (append_keys gf lb keys hgf hkn) (fun w h=>hW.keep h) ?_;rintro v4 out4 ⟨s4,ks,hp,rfl,hac⟩;refine G3 ?_;refine G2 ?_;refine Az (out:=(out4++[])) (Ae J J) (Ah sG Ak) ?_;exact⟨s4,ks,hp,rfl,by simpa using hac⟩
open Go.RowKit Go.Shelf Go.Lib Go.Sort
set_option maxHeartbeats 2000000
theorem bytes70(W:World){p q:Option Addr}{c1 c2 n m:Nat}{a b:List UInt8}(ha:a.length=n)(hb:b.length=m)(h1:SeesP W p (Aa a))(h2:SeesP W q (Aa b)):Calls prog 153 #[.slice p n c1, .slice q m c2] W fun e w'=>e= .returned (i64 (Cn a b))∧w'=W:=by
  have hr:=bytealg_run (w:=W) (c1:=c1) (c2:=c2) ha hb h1 h2;rw[show[Value.slice p n c1,Value.slice q m c2].toArray= #[.slice p n c1, .slice q m c2]from rfl]at hr;generalize Cn a b=r at hr ⊢;clear h1 h2 ha hb
  go_enter func153,ntmps153
  go_wp2
  go_ret
  exact⟨rfl,rfl⟩
theorem cmp47(x y:List UInt8)(hx:x.length=32)(hy:y.length=32)(W:World):Calls prog 95 #[agg (Aa x),agg (Aa y)] W fun e w'=>e= .returned (i64 (Cn x y))∧∃q os',w'=grow (W.drewN q) os':=by
  obtain⟨r,hr⟩:∃r,Cn x y=r:=⟨_,rfl⟩;rw[hr];have hs:∀W':World,(∀i,i<W.heap.size+2→W'.heap[i]? =((W.alloc (.cells (Aa x).toArray 34)).alloc (.cells (Aa y).toArray 34)).heap[i]?)→Calls prog 153 #[.slice (some ⟨W.heap.size,0,none⟩) 32 32, .slice (some ⟨W.heap.size+1,0,none⟩) 32 32] W' fun e w'=>e= .returned (i64 r)∧w'=W':=fun W' h=>by
    rw[←hr];refine bytes70 W' hx hy (SeesP.of fun j v hj=>?_) (SeesP.of fun j v hj=>?_)
    · have e:=h W.heap.size oM
      have e2:((W.alloc (.cells (Aa x).toArray 34)).alloc (.cells (Aa y).toArray 34)).heap[W.heap.size]? =some (.cells (Aa x).toArray 34):=by
        show((W.heap.push _).push _)[W.heap.size]? =_;rw[Lbz,if_neg sP,Lbz,if_pos rfl]
      rw[e2]at e;simpa[World.cell?,e]using hj
    · have e:=h (W.heap.size+1) oM
      have e2:((W.alloc (.cells (Aa x).toArray 34)).alloc (.cells (Aa y).toArray 34)).heap[W.heap.size+1]? =some (.cells (Aa y).toArray 34):=by
        show((W.heap.push _).push _)[W.heap.size+1]? =_;rw[Lbz,if_pos sP]
      rw[e2]at e;simpa[World.cell?,e]using hj
  go_enter func95,ntmps95
  go_wp2
  generalize hw2:(W.alloc (.cells (Aa x).toArray 34)).alloc (.cells (Aa y).toArray 34)=w2 at hs ⊢
  go_quiet ((go_at_call 153;exact Calls.quiet_of_same (hs _ (fun i hi=>rfl))))
  go_wp2
  go_ret
  refine⟨rfl,nq, #[.cells (Aa x).toArray 34, .cells (Aa y).toArray 34],?_⟩;rw[←hw2,alloc_eq_grow,alloc_eq_grow,grow_grow];rfl
abbrev L32:={l:List UInt8//l.length=32}
instance:Inhabited L32:=⟨⟨List.replicate 32 0,by simp⟩⟩
def cf32(x y:L32):Int:=Cn x.1 y.1
theorem lt32(x y:L32):ltOf cf32 x y=decide (Cn x.1 y.1<0):=rfl
theorem swo32:SWO (ltOf cf32) where
  irrefl x:=by rw[lt32,cmpB_self];rfl
  trans x y z h1 h2:=by
    rw[lt32]at*;simp only[decide_eq_true_eq]at*;exact(cmpB_trans _ _ _ oM oM).2 (.inl h1)
  ntrans x y z h1 h2:=by
    rw[lt32]at*;simp only[decide_eq_false_iff_not]at*;have e1:=cmpB_neg x.1 y.1;have e2:=cmpB_neg y.1 z.1;have e3:=cmpB_neg x.1 z.1;have:=(cmpB_trans z.1 y.1 x.1 oM oM).1;omega
theorem enc32_cells(x:L32):∀v∈Aa x.1,v.oneCell'=true:=fun v hv=>by
  obtain⟨u,_,rfl⟩:=La7.1 hv;rfl
def up32(ks:List (List UInt8))(h:∀l∈ks,l.length=32):List L32:=ks.attach.map fun x=>⟨x.1,h x.1 x.2⟩
theorem up32_val(ks:List (List UInt8))(h:∀l∈ks,l.length=32):(up32 ks h).map (·.1)=ks:=by
  unfold up32;rw[List.map_map];show ks.attach.map Subtype.val=ks;simp
theorem flatK_list(d:Array L32):∀(j:Nat) (v:Value),(A3 (d.toList.map (·.1)))[j]? =some v→j<d.size*32∧(flatK (fun x:L32=>Aa x.1) 32 d)[j]! =v:=fun j v hj=>by
  have h32:∀l∈d.toList.map (·.1),l.length=32:=fun l hl=>by obtain⟨x,_,rfl⟩:=La7.1 hl;exact x.2
  have hlen:=A1 h32;have hlt:=(Lag.1 hj).1;rw[hlen]at hlt;have hlt2:j<d.size*32:=by simpa using hlt
  refine⟨hlt2,?_⟩;rw[get_flatK _ _ _ _ hlt2];have hi:j/32<d.size:=by omega
  have hc:((d.toList.map (·.1)).map Aa)[j/32]? =some (Aa d[j/32]!.1):=by
    rw[Laq,Laq];have:d.toList[j/32]? =some d[j/32]! :=by simp[hi]
    rw[this];rfl
  have hm:j%32<(Aa d[j/32]!.1).length:=by rw[Aa,La0,d[j/32]!.2];omega
  have:=flat_get (m:=32) (fun l hl=>flatB_all h32 l hl) hc hm;have e:j/32*32+j%32=j:=by omega
  rw[e]at this;have hj2:((d.toList.map (·.1)).map Aa).flatten[j]? =some v:=hj;rw[hj2]at this;rw[List.getElem!_eq_getElem?_getD,←this];rfl
def SortB(ks:List (List UInt8)):Prop:=ks.Pairwise fun a b=>Cn a b≤0
theorem sort_digs(q n c m:Nat)(ks:List (List UInt8))(h32:∀l∈ks,l.length=32)(hl:ks.length=n)(hbig:n≤1000000)(hm:n*32≤m):Meets prog 140 [.slice (some ⟨q,0,none⟩) n c, .func (.func 95) #[] #[]] [q] (fun W=>BlkOk W ⟨q,A3 ks,34,m⟩)
    (fun v out=>v= .tuple #[]∧∃ks':List (List UInt8),ks'.Perm ks∧SortB ks'∧out=[⟨q,A3 ks',34,m⟩]):=fun W hb=>by
  obtain⟨d,hd⟩:∃d:Array L32,d=(up32 ks h32).toArray:=⟨_,rfl⟩;have hdl:d.toList.map (·.1)=ks:=by rw[hd];exact up32_val ks h32
  have hds:d.size=n:=by rw[←hl,←hdl];simp
  have hb0:∃full fr,BlkAt W ⟨q,A3 ks,34,m⟩ full fr:=hb;obtain⟨full,fr,hbk⟩:=hb0;have hfl:=A1 h32;have hH:HoldsK (fun x:L32=>Aa x.1) 32 W q 0 d:=fun j hj=>by
    rw[size_flatK]at hj;have hj2:j<(A3 ks).length:=by rw[hfl,hl,←hds];exact hj
    have h1:=La4 hj2;have h2:=(flatK_list d j _ (by rw[hdl];exact h1)).2;rw[h2];exact⟨hb.cell (b:=⟨q,A3 ks,34,m⟩) (by simpa using h1),hbk.unfrozen (by show 0+j<m;omega)⟩
  have eg:∀args w,(callFunc 95 args).run prog w= .ok (.enter 95 args) w:=enters_of func95 zK rfl;have hcmp:CmpLays prog 95 #[] (fun x:L32=>Aa x.1) 32 cf32 q 0 d.size W:=fun k os dk hk x y=>cmp47 x.1 y.1 x.2 y.2 _;have hz25:∀w,(Go.sizeOf (sortD_ren.t 24)).run prog w= .ok 32 w:=by
    intro w;have e:sortD_ren.t 24=34:=by rfl
    rw[e];exact Ce Sz34 w
  have hcon:=AnyQ.slices_SortFunc sortD 32 (fun w=>run_isAgg_arr Y34.h rfl w) (fun w=>hz25 w) (fun x:L32=>Aa x.1) (fun x=>by rw[Aa,La0,x.2]) enc32_cells cf32 swo32 95 #[] q 0 c d W eg hcmp hH hb.lt oM;have hcon2:Calls prog 140 #[.slice (some ⟨q,0,none⟩) d.size c, .func (.func 95) #[] #[]] W _:=hcon;rw[hds]at hcon2;refine hcon2.mono fun e W' ⟨he,d',k,os,hp,hs,hw⟩=>?_;subst hw;have hsz':d'.size=d.size:=hp.1;obtain⟨ks',hk'⟩:∃ks',ks'=d'.toList.map (·.1):=⟨_,rfl⟩;have h32':∀l∈ks',l.length=32:=fun l hl=>by rw[hk']at hl;obtain⟨x,_,rfl⟩:=La7.1 hl;exact x.2
  have hlen':ks'.length=n:=by rw[hk'];simp[hsz',hds]
  have hperm:ks'.Perm ks:=by
    rw[hk',←hdl];refine List.Perm.map _ ?_;have h3:=hp.2.2;have e1:d.extract 0 d.size=d:=by simp
    have e2:d'.extract 0 d.size=d':=by rw[←hsz'];simp
    rw[←hds]at h3;rwa[e1,e2]at h3
  have hsort:SortB ks':=by
    rw[hk'];refine List.pairwise_map.2 (List.pairwise_iff_getElem.2 fun i j hi hj hij=>?_);have h4:=hs i j (Las _) hij (by rw[←hds,←hsz'];simpa using hj);rw[lt32,decide_eq_false_iff_not]at h4;have hi2:i<d'.size:=by simpa using hi
    have hj2:j<d'.size:=by simpa using hj
    rw[getElem!_pos d' j hj2,getElem!_pos d' i hi2]at h4;have:=cmpB_neg d'.toList[i].1 d'.toList[j].1;simp only[Array.getElem_toList]at this ⊢;omega
  refine⟨_,_,he,⟨rfl,ks',hperm,hsort,rfl⟩,⟨⟨rfl,rfl,rfl,?_,Lgs W.drawn k,fun i hi hn=>?_⟩,fun b hb2=>?_,by simp,fun b hb2=>?_⟩⟩
  ·simp[sortWorldK,grow,putRowK]
  · have hne:i≠q:=by simpa using hn
    simp only[sortWorldK,grow,putRowK,putRow,mapBlock];rw[Array.getElem?_append_left (by simpa using hi),Lf3];rw[if_neg (fun e:q=i=>hne e.symm)];rfl
  · rw[La1.1 hb2]
    have hq:W.heap[q]? =some (.cells full 34 fr):=hbk.heap;have hql:q<W.heap.size:=hb.lt;refine⟨putCells id 0 (flatK (fun x:L32=>Aa x.1) 32 d') full,fr,?_,by simpa[putCells]using hbk.size,?_,hbk.free⟩
    · simp only[sortWorldK,grow,putRowK,putRow,mapBlock]
      rw[Array.getElem?_append_left (by simpa using hql),Lf3,if_pos rfl,show(Go.Sort.ahead W k).heap[q]? =some (Obj.cells full 34 fr)from hq];rfl
    · have hms:=hbk.size
      simp only at hms;rw[prefix_iff];intro j v hj;simp only at hj;have hf:=flatK_list d' j v (by rw[←hk'];exact hj);simp only[putCells,Lf2,Array.getElem?_mapIdx];have hjf:j<full.size:=by rw[hms];have:=hf.1;omega
      rw[Lcy hjf];simp only[Lbo,La5,Las,true_and,Law,size_flatK,Lgc];rw[if_pos hf.1,hf.2];rfl
  ·rw[La1.1 hb2];exact .inr sP
theorem sort_none(p:Option Addr)(c:Nat):Mv 140 [.slice p 0 c, .func (.func 95) #[] #[]] (fun _=>True) (.tuple #[]):=fun W _=>by
  have hcon:=AnyF.slices_SortFunc_none sortD p c (.func (.func 95) #[] #[]) W;have hcon2:Calls prog 140 #[.slice p 0 c, .func (.func 95) #[] #[]] W _:=hcon;refine hcon2.mono fun e W' h=>?_;obtain⟨he,hw⟩:=h;subst hw;exact⟨_,[],he,⟨rfl,rfl⟩,⟨Keeps.refl _ _,fun b hb=>(by cases hb),Le5,fun b hb=>(by cases hb)⟩⟩
end Go.Proofs.YtpogmfngccolbaaGreat
namespace Go.Proofs.YtpogmfngccolbaaGreat
open Go Hw _root_.Go.Proofs.Tryz
variable{C:Cx}{T:TypeId}{hp:List Blk}{w:World}{z:Value}{ν:Type}{ev:ν→Value}
theorem sort_acc(s:Sl)(bl:List Blk)(ks:List (List UInt8))(h32:∀l∈ks,l.length=32)(hbig:ks.length≤1000000)(hac:Hw.Acc s bl (A3 ks) 34 ks.length 32):Meets prog 140 [s.v, .func (.func 95) #[] #[]] (bl.map (·.n)) (fun W=>Lies bl W)
    (fun v out=>v= .tuple #[]∧∃ks':List (List UInt8),ks'.Perm ks∧SortB ks'∧Hw.Acc s out (A3 ks') 34 ks.length 32):=by
  rcases hac with ⟨rfl,rfl,hz,hn⟩|⟨q,c,rfl,hnc,hfl,rfl⟩
  · obtain rfl:=Lab hn
    intro W _;exact(sort_none none 0 W trivial).mono fun e W' ⟨v,out,he,⟨hv,ho⟩,hr⟩=>⟨v,out,he,⟨hv,[],Lds _,List.Pairwise.nil, .inl ⟨rfl,ho,rfl,rfl⟩⟩,hr⟩
  · intro W hW
    have hb:BlkOk W ⟨q,A3 ks,34,c*32⟩:=hW _ (La1.2 rfl);refine(sort_digs q ks.length c (c*32) ks h32 rfl hbig (Le8 32 hnc) W hb).mono fun e W' ⟨v,out,he,⟨hv,ks',hp,hs,ho⟩,hr⟩=>⟨v,out,he,⟨hv,ks',hp,hs,?_⟩,hr⟩;have h32':∀l∈ks',l.length=32:=fun l hl=>h32 l (hp.mem_iff.1 hl);exact .inr ⟨q,c,rfl,hnc,by rw[A1 h32',hp.length_eq],ho⟩
theorem mblk_keep{B:Blk}(h:BlkOk C.W0 B)(hh:HRep C hp w)(hl:C.lent=[]:=by rfl):BlkOk w B:=
  h.of_heap (hh.keeps.block B.n h.lt (by rw[hl];simp))
theorem CapM.of_own{c b:Nat}(hh:HRep C hp w)(hc:(⟨c,[.map (some b)],T,1⟩:Blk)∈hp):CapM w c b∧c<w.heap.size:=
  ⟨(hh.cells _ hc).cell (o:=0) rfl,(hh.cells _ hc).lt⟩
theorem sorted_keys(gf:Nat)(lb:Array Value)(keys:List (List UInt8))(hgf:Av prog gf)(hkn:keys.length≤100000)(hk32:∀l∈keys,l.length=32):Meets prog 186 [.func (.func gf) #[] lb, .func (.func 95) #[] #[]] [] (fun W=>KeySeq prog gf lb keys W) (fun v out=>∃(s:Sl) (ks:List (List UInt8)),ks.Perm keys∧SortB ks∧v=s.v∧Hw.Acc s out (A3 ks) 34 ks.length 32):=by
 intro W hW;refine Ac func186 J 12 ntmps186 J (G8 ?_);refine .call4 J J J J J Body226 (collect_keys gf lb keys hgf hkn) (fun w h=>hW.keep h) ?_;rintro v7 out7 ⟨s7,ks,hp,rfl,hac⟩;refine G7 ?_;refine .callL (L:=out7) J J J J J Body140 (sort_acc s7 out7 ks (fun l hl=>hk32 l (hp.mem_iff.1 hl)) (by have:=hp.length_eq;omega) hac) sG (Cz J) (fun w h=>Lies.of h (by repeat(exact A9))) ?_;rintro v10 out10 ⟨rfl,ks2,hp2,hs2,hac2⟩;refine G8 ?_;refine G2 ?_;refine Az (out:=(out10++[])) (Ae J J) (Ah sG Ak) ?_;exact⟨s7,ks2,hp2.trans hp,hs2,rfl,by rw[hp2.length_eq];simpa using hac2⟩
theorem dag_sortedB(M:MOk prog 132 34 50 (As 32 ev) z)(b:Nat)(fs:List (List UInt8×ν))(h32:∀p∈fs,p.1.length=32)(hn:fs.length≤100000):Meets prog 159 [.map (some b)] [] (fun W=>BlkOk W (A7 b (As 32 ev) fs)) (fun v out=>∃(s:Sl) (ks:List (List UInt8)),ks.Perm (fs.map (·.1))∧SortB ks∧v=s.v∧Hw.Acc s out (A3 ks) 34 ks.length 32):=by
 intro W hW;refine Ac func159 J 6 ntmps159 J (G8 ?_);refine .call4 J J J J J Body196 (mk_keysB b) tV ?_;rintro v4 out4 ⟨c,rfl,rfl⟩;refine .call4 J J J J J Body186 (sorted_keys 250 #[ptr c 0] (fs.map (·.1)) Body250 (by simpa using hn) (fun l hl=>by obtain⟨p,hp,rfl⟩:=La7.1 hl;exact h32 p hp)) (fun w h=>key_seqB M (mblk_keep (B:=A7 b (As 32 ev) fs) hW h) (CapM.of_own h Z0).1 (CapM.of_own h Z0).2) ?_;rintro v5 out5 ⟨s5,ks,hp,hs,rfl,hac⟩;refine G3 ?_;refine G2 ?_;refine Az (out:=(out5++[])) (Ae J J) (Ah sG Ak) ?_;exact⟨s5,ks,hp,hs,rfl,by simpa using hac⟩
theorem dag_sortedU(M:MOk prog 114 34 145 (As 32 ev) z)(b:Nat)(fs:List (List UInt8×ν))(h32:∀p∈fs,p.1.length=32)(hn:fs.length≤100000):Meets prog 145 [.map (some b)] [] (fun W=>BlkOk W (A7 b (As 32 ev) fs)) (fun v out=>∃(s:Sl) (ks:List (List UInt8)),ks.Perm (fs.map (·.1))∧SortB ks∧v=s.v∧Hw.Acc s out (A3 ks) 34 ks.length 32):=by
 intro W hW;refine Ac func145 J 6 ntmps145 J (G8 ?_);refine .call4 J J J J J Body187 (mk_keysU b) tV ?_;rintro v4 out4 ⟨c,rfl,rfl⟩;refine .call4 J J J J J Body186 (sorted_keys 227 #[ptr c 0] (fs.map (·.1)) Body227 (by simpa using hn) (fun l hl=>by obtain⟨p,hp,rfl⟩:=La7.1 hl;exact h32 p hp)) (fun w h=>key_seqU M (mblk_keep (B:=A7 b (As 32 ev) fs) hW h) (CapM.of_own h Z0).1 (CapM.of_own h Z0).2) ?_;rintro v5 out5 ⟨s5,ks,hp,hs,rfl,hac⟩;refine G3 ?_;refine G2 ?_;refine Az (out:=(out5++[])) (Ae J J) (Ah sG Ak) ?_;exact⟨s5,ks,hp,hs,rfl,by simpa using hac⟩
abbrev EV:=DEnt×DB
abbrev BV:=Block×DB
structure RV where
  s:Sl
  bl:List Blk
  ks:List (List UInt8)
def RV.none:RV:=⟨Sl.nil,[],[]⟩
structure RV.ok(r:RV):Prop where
  acc:Hw.Acc r.s r.bl (A3 r.ks) 34 r.ks.length 32
  r32:∀l∈r.ks,l.length=32
theorem RV.none_ok:RV.none.ok:=⟨.inl ⟨rfl,rfl,rfl,rfl⟩,fun l h=>by cases h⟩
abbrev evE(x:EV):Value:=agg x.1.cells
abbrev evB(x:BV):Value:=agg x.1.cells
abbrev evU(_:Unit):Value:=agg []
abbrev evR(r:RV):Value:=r.s.v
theorem A25:WideMaps.ArrKey prog 34 5 32:=⟨Y34.h,by kernel_rfl,by kernel_rfl,by kernel_rfl⟩
theorem A23:WideMaps.ArrKey prog 44 5 32:=⟨Y44.h,by kernel_rfl,by kernel_rfl,by kernel_rfl⟩
theorem K25:Maps.Keyed prog 34:= .of_law (deep_law (m:=3) dE zK zK (by rw[Y34.h]))
theorem K23:Maps.Keyed prog 44:= .of_law (deep_law (m:=3) dE zK zK (by rw[Y44.h]))
theorem K87:Maps.Keyed prog 177:= .of_law (deep_law (m:=4) dE zK zK (by rw[underlying177]))
theorem size_pos:∃m,prog.types.size=m+1:=⟨prog.types.size-1,by kernel_rfl⟩
theorem size_two:∃m,prog.types.size=m+2:=⟨prog.types.size-2,by kernel_rfl⟩
theorem zr_run{v:Value}(h:Zr prog T v)(w:World):(zeroValue T).run prog w= .ok v w:=by
  unfold Zr at h;cases hi:prog.info? T with
  |none=>rw[hi]at h;cases h
  | some i=>
    rw[hi]at h;simp only[Lby]at h;simp[zeroValue,typeInfo,hi,h]
theorem ME:MOk prog 131 34 164 (As 32 evE) (agg DEnt.zero.cells):=bytesT_ok _ Y131.h A25 Y5.h size_pos K25 (zr_run DEnt.zr)
theorem MH:MOk prog 114 34 145 (As 32 evU) (agg []):=bytesT_ok _ Y114.h A25 Y5.h size_pos K25 (zr_run Zr145)
theorem MO:MOk prog 132 34 50 (As 32 evB) (agg Block.zero.cells):=bytesT_ok _ Y132.h A25 Y5.h size_pos K25 (zr_run Block.zr)
theorem MW:MOk prog 134 44 30 (As 32 evR) (.slice none 0 0):=bytesT_ok _ underlying134 A23 Y5.h size_pos K23 (zr_run Zr30)
theorem MP:MOk prog 133 177 30 (placeT 32 evR) (.slice none 0 0):=
  placeT_ok _ underlying133 (fun l x hl=>keyOf_place underlying177 rfl zK rfl rfl zK zK zK A23 Y5.h Y45.h zK size_two hl x) K87 (zr_run Zr30)
section
variable{κ ν μ:Type}[DecidableEq κ]
variable{fs:List (κ×ν)}{k:κ}{p:κ×ν}{v:ν}
theorem Ck(h:Au fs k=some v):(k,v)∈fs:=by
  unfold Au at h;cases hf:fs.find? (fun p=>decide (p.1=k))with
  |none=>rw[hf]at h;cases h
  | some p=>
    rw[hf]at h;simp only[Lbo,La5]at h;have h1:=Lfb hf;have h2:=List.find?_some hf;simp only[decide_eq_true_eq]at h2;rw[←h2,←h];exact h1
theorem mput_mem(h:p∈Bm fs k v):p∈fs∨p=(k,v):=by
  unfold Bm at h;split at h
  ·exact Lfa h
  · rcases Lac.1 h with h|h
    ·exact .inl h
    ·exact .inr (La1.1 h)
theorem mdel_mem(h:p∈mdel fs k):p∈fs:=by
  unfold mdel at h;split at h
  ·exact(Ldg _ _).subset h
  ·exact h
theorem mput_len(fs:List (κ×ν))(k:κ)(v:ν):(Bm fs k v).length≤fs.length+1:=by
  unfold Bm;split
  ·rw[Lbw];omega
  ·simp
theorem mdel_len(fs:List (κ×ν))(k:κ):(mdel fs k).length≤fs.length:=by
  unfold mdel;split
  ·exact(Ldg _ _).length_le
  ·exact Lad _
theorem midx_map(f:ν→μ)(fs:List (κ×ν))(k:κ):midx (fs.map fun p=>(p.1,f p.2)) k=midx fs k:=by
  unfold midx;rw[List.findIdx?_map];rfl
theorem mget_map(f:ν→μ)(fs:List (κ×ν))(k:κ):Au (fs.map fun p=>(p.1,f p.2)) k=(Au fs k).map f:=by
  unfold Au;rw[List.find?_map];cases h:fs.find? (fun p=>decide (p.1=k))with
  | none=>
    have:List.find? ((fun p:κ×μ=>decide (p.1=k))∘fun p:κ×ν=>(p.1,f p.2)) fs=none:=h;rw[this];rfl
  | some p=>
    have:List.find? ((fun p:κ×μ=>decide (p.1=k))∘fun p:κ×ν=>(p.1,f p.2)) fs=some p:=h;rw[this];rfl
theorem mput_map(f:ν→μ)(fs:List (κ×ν))(k:κ)(v:ν):(Bm fs k v).map (fun p=>(p.1,f p.2))=Bm (fs.map fun p=>(p.1,f p.2)) k (f v):=by
  unfold Bm;rw[midx_map];split
  ·rw[Ldr]
  ·rw[Lae];rfl
theorem mdel_map(f:ν→μ)(fs:List (κ×ν))(k:κ):(mdel fs k).map (fun p=>(p.1,f p.2))=mdel (fs.map fun p=>(p.1,f p.2)) k:=by
  unfold mdel;rw[midx_map];split
  ·exact(ChangeMaps.map_eraseIdx ..)
  ·rfl
theorem mput_mput(k:κ)(v v2:ν):Bm (Bm fs k v) k v2=Bm fs k v2:=by
  cases h:midx fs k with
  | some j=>
    have e1:Bm fs k v=fs.set j (k,v):=by unfold Bm;rw[h]
    have e2:Bm fs k v2=fs.set j (k,v2):=by unfold Bm;rw[h]
    have h2:midx (fs.set j (k,v)) k=some j:=by
      unfold midx at h ⊢;rw[Lbx]at h ⊢;obtain⟨hl,he,hn⟩:=h;refine⟨by simpa using hl,by simp,fun i hi=>?_⟩;rw[List.getElem_set_ne oM];exact hn i hi
    rw[e1,e2];unfold Bm;rw[h2];simp
  | none=>
    have e1:Bm fs k v=fs++[(k,v)]:=by unfold Bm;rw[h]
    have e2:Bm fs k v2=fs++[(k,v2)]:=by unfold Bm;rw[h]
    have h2:midx (fs++[(k,v)]) k=some fs.length:=by
      unfold midx at h ⊢;rw[List.findIdx?_append,h];simp[List.findIdx?_cons]
    rw[e1,e2];unfold Bm;rw[h2];simp
theorem flat_set{α:Type}(f:α→List Blk){l:List α}{j:Nat}{x:α}(h:l[j]? =some x):∃R,(l.map f).flatten.Perm (f x++R)∧∀y,((l.set j y).map f).flatten.Perm (f y++R):=by
  obtain⟨hl,he⟩:=Lag.1 h;refine⟨((l.take j).map f).flatten++((l.drop (j+1)).map f).flatten,?_,?_⟩
  · have e:l=l.take j++x::l.drop (j+1):=by rw[←he,←Lbj hl,Lcq]
    have e2:(l.map f).flatten=((l.take j).map f).flatten++(f x++((l.drop (j+1)).map f).flatten):=by
      conv=>lhs;rw[e]
      simp[Lae,Lcr]
    rw[e2,←La8,←La8];exact Ld9 _ Le2
  · intro y
    have e:l.set j y=l.take j++y::l.drop (j+1):=Lfp .. |>.trans (by rw[if_pos hl]);have e2:((l.set j y).map f).flatten=((l.take j).map f).flatten++(f y++((l.drop (j+1)).map f).flatten):=by
      rw[e];simp[Lae,Lcr]
    rw[e2,←La8,←La8];exact Ld9 _ Le2
end
def rbl{κ:Type}(fs:List (κ×RV)):List Blk:=(fs.map fun p=>p.2.bl).flatten
variable{C:Cx}{D:DB}{a b:UInt64}{hp:List Blk}{k:List UInt8}{p:Nat}{v:Value}{w:World}
theorem rbl_put{κ:Type}[DecidableEq κ](fs:List (κ×RV))(k:κ):∃R,(rbl fs).Perm (((Au fs k).getD RV.none).bl++R)∧∀r,(rbl (Bm fs k r)).Perm (r.bl++R):=by
  cases h:midx fs k with
  | some j=>
    have e:∀r,Bm fs k r=fs.set j (k,r):=fun r=>by unfold Bm;rw[h]
    unfold midx at h;have hg:∃x,fs[j]? =some x∧Au fs k=some x.2:=by
      have h2:=h;rw[Lbx]at h2;obtain⟨hl,he,hn⟩:=h2;refine⟨fs[j],La4 hl,?_⟩;unfold Au;have h3:fs.find? (fun q=>decide (q.1=k))=some fs[j]:=Ldf.2 ⟨he,j,hl,rfl,fun i hi=>by simpa using hn i hi⟩;rw[h3];rfl
    obtain⟨x,hx,hm⟩:=hg;rw[hm];obtain⟨R,h1,h2⟩:=flat_set (fun p:κ×RV=>p.2.bl) hx;exact⟨R,h1,fun r=>by rw[e r];exact h2 (k,r)⟩
  | none=>
    have e:∀r,Bm fs k r=fs++[(k,r)]:=fun r=>by unfold Bm;rw[h]
    have hm:Au fs k=none:=by
      refine mget_none fun p hp e2=>?_;unfold midx at h;rw[Le6]at h;have:=h p hp;simp[e2]at this
    rw[hm];refine⟨rbl fs,Lds _,fun r=>?_⟩;rw[e r];unfold rbl;simp only[Lae,Lcr,Lam,Lde,Lcb,Lg4,Lar];exact Le2
structure DD where
  nm:Sl
  nb:List Blk
  names:List (List UInt8)
  ent:List (List UInt8×EV)
  hds:List (List UInt8×Unit)
  orp:List (List UInt8×BV)
  pls:List ((List UInt8×UInt64)×RV)
  wrs:List (List UInt8×RV)
  cb:List Blk
  bE:Nat
  bH:Nat
  bO:Nat
  bP:Nat
  bW:Nat
def DD.blks(x:DD)(p:Nat):List Blk:=
  ⟨p,[ptr p 0,x.nm.v, .map (some x.bE), .map (some x.bH), .map (some x.bO), .map (some x.bP), .map (some x.bW)],136,7⟩::A7 x.bE (As 32 evE) x.ent::A7 x.bH (As 32 evU) x.hds::A7 x.bO (As 32 evB) x.orp::A7 x.bP (placeT 32 evR) x.pls::A7 x.bW (As 32 evR) x.wrs::(x.nb++(x.cb++(rbl x.pls++(rbl x.wrs++[]))))
def Held(cb:List Blk)(B:Block)(D:DB):Prop:=SameB B D∧∀W,Lies cb W→BlockIs W B D
structure DD.ok(x:DD):Prop where
  nm:Hw.Acc x.nm x.nb (A3 x.names) 34 x.names.length 32
  n32:∀l∈x.names,l.length=32
  big:x.names.length+x.orp.length≤20000
  orpn:x.orp.length≤64
  ent:∀p∈x.ent,p.1.length=32∧Held x.cb p.2.1.fBlock p.2.2∧0≤p.2.1.fDepth∧p.2.1.fDepth≤x.names.length
  entn:x.ent.length≤x.names.length
  hds:∀p∈x.hds,p.1.length=32
  hdsn:x.hds.length≤x.names.length
  orp:∀p∈x.orp,p.1.length=32∧Held x.cb p.2.1 p.2.2∧p.2.2.ls.length≤16
  pls:∀p∈x.pls,p.1.1.length=32∧p.2.ok∧p.2.ks.length≤x.names.length
  wrs:∀p∈x.wrs,p.1.length=32∧p.2.ok∧p.2.ks.length≤x.names.length
theorem DD.ok.entOk{x:DD}(h:x.ok){e:EV}(hg:Au x.ent k=some e):e.1.ok:=⟨(h.ent _ (Ck hg)).2.1.1.ok⟩
theorem DD.ok.orpOk{x:DD}(h:x.ok){e:BV}(hg:Au x.orp k=some e):e.1.ok:=(h.orp _ (Ck hg)).2.1.1.ok
theorem DEnt.part{e:DEnt}(h:e.ok)(o n:Nat)(hn:o+n≤131):(e.cells.drop o).take n=(e.fBlock.cells.drop o).take n:=by
  have hl:=Block.length h.o_fBlock;unfold DEnt.cells;rw[Ldj oM,Lcz (by rw[Lc2];omega)]
theorem Held.more{cb cb2:List Blk}{B:Block}(h:Held cb B D)(hs:∀b∈cb,b∈cb2):Held cb2 B D:=⟨h.1,fun W hW=>h.2 W (hW.sub hs)⟩
def RowA(L:List (List UInt8))(v:Value)(out:List Blk):Prop:=∃s:Sl,v=s.v∧Hw.Acc s out (A3 L) 34 L.length 32
theorem fresh_rowA{L:List (List UInt8)}{n:Nat}(hr:∀l∈L,l.length=32)(hn:L.length=n){out:List Blk}(h:FreshRow v out (A3 L) 34 n 32):RowA L v out:=by
  obtain⟨q,c,h1,h2,h3⟩:=h;subst h3;subst hn;exact⟨⟨some ⟨q,0,none⟩,L.length,c⟩,h1,Acc.some h2 (A1 hr)⟩
theorem db_parA(B:Block)(D:DB)(hn:D.ls.length≤500000):Meets prog 116 [agg B.cells] [] (fun W=>BlockIs W B D) (RowA (Cm D)):=fun W hW=>by
  have e1:=hW.ls.len;have hsq:=hW.seq;have hL:=parL_row hW.dok;by_cases hs:(B.fSeq.toNat:Int)=0
  · have hp:Cm D=D.ls:=if_pos (by rw[←hsq];exact Lbc.1 (by show B.fSeq.toNat=0;omega))
    rw[hp]at hL ⊢;by_cases h0:B.fLinks.n=0
    · have hl0:D.ls=[]:=Lab oM
      exact(parents_nil B hW.ok D.ls oM hs h0 W hW.ls).mono fun e W' ⟨v,out,h1,⟨h2,h3⟩,h4⟩=>⟨v,out,h1,⟨Sl.nil,h2,by rw[hl0,h3];exact Acc.none⟩,h4⟩
    ·exact(parents_0 B hW.ok D.ls oM hs oM W hW.ls).mono fun e W' ⟨v,out,h1,h2,h4⟩=>⟨v,out,h1,fresh_rowA hL e1 h2,h4⟩
  · have hp:Cm D=D.prev::D.ls:=if_neg (fun e=>hs (by rw[hsq,e];rfl))
    rw[hp]at hL ⊢;rw[←hW.prev]at hL ⊢;exact(parents_s B hW.ok D.ls oM hs W hW.ls).mono fun e W' ⟨v,out,h1,h2,h4⟩=>⟨v,out,h1,fresh_rowA hL (by rw[Laz];omega) h2,h4⟩
def DD.P(x:DD):List (List UInt8×DB):=x.ent.map fun p=>(p.1,p.2.2)
theorem DD.getP(x:DD)(k:List UInt8):Au x.P k=(Au x.ent k).map (·.2):=mget_map (fun e:EV=>e.2) x.ent k
def wrongB(P:List (List UInt8×DB))(D:DB):Bool:=decide (D.seq≠0)&&(match Au P D.prev with|none=>false|some e=>decide (e.w≠D.w)||decide (e.seq≠D.seq-1))
def readyB(P:List (List UInt8×DB))(D:DB):Bool:=(Cm D).all fun n=>(Au P n).isSome
def Ct(P:List (List UInt8×DB))(D:DB):Int:=if wrongB P D=true then 2 else if readyB P D=true then 1 else 0
theorem parL_len(D:DB):(Cm D).length≤D.ls.length+1:=by unfold Cm;split<;>simp
theorem judge_wrong{P:List (List UInt8×DB)}(h:wrongB P D=true):Ct P D=2:=if_pos h
theorem judge_waits{P:List (List UInt8×DB)}(h:wrongB P D=false){k:Nat}(hk:k<(Cm D).length)(hn:Au P ((Cm D).getD k [])=none):Ct P D=0:=by
  have h2:readyB P D=false:=by
    unfold readyB;rw[List.all_eq_false];refine⟨(Cm D)[k],Lc9 hk,?_⟩;rw[La2,La4 hk]at hn;simp only[Lbp]at hn;rw[hn];simp
  unfold Ct;rw[h,h2];rfl
theorem judge_fits{P:List (List UInt8×DB)}(h:wrongB P D=false)(hall:∀j,j<(Cm D).length→(Au P ((Cm D).getD j [])).isSome=true):Ct P D=1:=by
  have h2:readyB P D=true:=by
    unfold readyB;rw[Lbq];intro n hn;obtain⟨j,hj,rfl⟩:=Lda hn;have:=hall j hj;rwa[La2,La4 hj]at this
  unfold Ct;rw[h,h2];rfl
theorem u64_ne(h:¬((a.toNat:Int)=(b.toNat:Int))):a≠b:=fun e=>h (by rw[e])
theorem u64_eq(h:(a.toNat:Int)=(b.toNat:Int)):a=b:=Lbc.1 oM
theorem wrong_seq{P:List (List UInt8×DB)}(h:D.seq=0):wrongB P D=false:=by simp[wrongB,h]
theorem wrong_none{P:List (List UInt8×DB)}(h:Au P D.prev=none):wrongB P D=false:=by simp[wrongB,h]
theorem wrong_some{P:List (List UInt8×DB)}{D e:DB}(hs:D.seq≠0)(h:Au P D.prev=some e):wrongB P D=(decide (e.w≠D.w)||decide (e.seq≠D.seq-1)):=by simp[wrongB,h,hs]
def DagSee(x:DD)(p:Nat)(W:World):Prop:=BlkOk W ⟨p,[ptr p 0,x.nm.v, .map (some x.bE), .map (some x.bH), .map (some x.bO), .map (some x.bP), .map (some x.bW)],136,7⟩∧BlkOk W (A7 x.bE (As 32 evE) x.ent)
theorem DagSee.of{x:DD}(hh:HRep C hp w)(h1:⟨p,[ptr p 0,x.nm.v, .map (some x.bE), .map (some x.bH), .map (some x.bO), .map (some x.bP), .map (some x.bW)],136,7⟩∈hp)(h2:A7 x.bE (As 32 evE) x.ent∈hp):DagSee x p w:=⟨hh.cells _ h1,hh.cells _ h2⟩
theorem DagSee.at{x:DD}{W:World}(h:DagSee x p W){o:Nat}(hv:[ptr p 0,x.nm.v, .map (some x.bE), .map (some x.bH), .map (some x.bO), .map (some x.bP), .map (some x.bW)][o]? =some v):W.cell? ⟨p,o,none⟩=some v:=h.1.cell hv
theorem DagSee.ext{x:DD}(hh:HRep C hp w)(h:DagSee x p C.W0)(hl:C.lent=[]:=by rfl):DagSee x p w:=⟨mblk_keep h.1 hh hl,mblk_keep h.2 hh hl⟩
theorem dag_new  :Meets prog 77 [] [] (fun _=>True) (fun v out=>∃p bE bH bO bP bW,v=ptr p 0∧out=(⟨Sl.nil,[],[],[],[],[],[],[],[],bE,bH,bO,bP,bW⟩:DD).blks p):=by
 intro W hW;refine Ac func77 J 14 ntmps77 J (G7 ?_);refine .mkMap (As 32 evE) J J ?_;intro bE;refine .mkMap (As 32 evU) J J ?_;intro bH;refine .mkMap (As 32 evB) J J ?_;intro bO;refine .mkMap (placeT 32 evR) J J ?_;intro bP;refine .mkMap (As 32 evR) J J ?_;intro bW;refine .build (cs:=[.pointer none, .slice none 0 0, .map (some bE), .map (some bH), .map (some bO), .map (some bP), .map (some bW)]) J J J (fun w=>by kernel_rfl) ?_;refine G1 ?_;intro n8 hn8 hf8;refine G9 ?_;refine .s1 J J J J J Sz26 Z0 sP (by rfl) zU ?_;refine G8 ?_;refine G2 ?_;refine Az (out:=(⟨n8,[ptr n8 0, .slice none 0 0, .map (some bE), .map (some bH), .map (some bO), .map (some bP), .map (some bW)],136,7⟩::(A7 bE (As 32 evE) []::(A7 bH (As 32 evU) []::(A7 bO (As 32 evB) []::(A7 bP (placeT 32 evR) []::(A7 bW (As 32 evR) []::[]))))))) (Ae J J) (Ab rM (Ab rM (Ab rM (Ab rM (Ab rM (Ab rM Ak)))))) ?_;exact⟨n8,bE,bH,bO,bP,bW,rfl,rfl⟩
theorem dag_valid(x:DD)(p:Nat):Mv 96 [ptr p 0] (fun W=>DagSee x p W) (.bool true):=by
 intro W hW;refine Ac func96 J 13 ntmps96 J (G8 ?_);refine .neqNilP J J J J underlying26 (G4 ?_);refine .loadE J J J underlying26 J sP (hW.at (o:=0) J) (G1 ?_);refine .eqSameP J J J J underlying26 Sz136 (G4 ?_);refine G2 ?_;refine⟨_,[],Ae J J,sP,sP,?_,rfl⟩;rfl
theorem dag_has(x:DD)(hx:x.ok)(p:Nat)(n:List UInt8)(h32:n.length=32):Mv 79 [ptr p 0,agg (Aa n)] (fun W=>DagSee x p W) (.bool (Au x.ent n).isSome):=by
 intro W hW;refine Ac func79 J 20 ntmps79 J (G3 ?_);intro n3 hn3 hf3;refine G7 ?_;refine .cV J J J J Body96 (dag_valid x p) (fun w h=>hW.ext h) (G3 ?_);refine .cond_f J J (G3 ?_);refine .draw (oP [0,1,2,103,104,105,6,7,8,209,410,11]) Ap zK (G3 ?_);refine .loadE J J J Y131.h J sP (hW.at (o:=2) J) (.lA J J J Y34.h J Sz34 Z0 (by(simp[h32];done)) ?_);refine .lookFC evE ME hW.2 sP J J J J h32 (fun hg=>?_) (fun e hg=>?_)
 ·
  skip;refine G3 ?_;refine .alloc (cs:=DEnt.zero.cells) J DEnt.zr J ?_;intro n5 hn5 hf5;refine G10 ?_;refine G2 ?_;refine⟨_,[],Ae J J,sP,sP,?_,rfl⟩;rw[hg];rfl
 skip;refine G3 ?_;refine .alloc (cs:=DEnt.zero.cells) J DEnt.zr J ?_;intro n5 hn5 hf5;refine .sA J J J J (DEnt.isCell (by exact hx.entOk hg)) Sz164 (DEnt.length (by exact hx.entOk hg)) Z0 (DEnt.length (by exact DEnt.zero_ok)) zU ?_;refine G9 ?_;refine G2 ?_;refine⟨_,[],Ae J J,sP,sP,?_,rfl⟩;rw[hg];rfl
theorem dag_judge(x:DD)(hx:x.ok)(p:Nat)(B:Block)(D:DB)(hB:SameB B D)(hs:D.ls.length≤500000):Mv 99 [ptr p 0,agg B.cells] (fun W=>DagSee x p W∧BlockIs W B D) (i64 (Ct x.P D)):=by
 intro W hW;have hrow0:=parL_row hW.2.dok;refine Ac func99 J 61 ntmps99 J (G3 ?_);intro n3 hn3 hf3;refine G3 ?_;refine .join (ι:=Unit) (fun u=>⟨[(0,ptr p 0),(3,ptr n3 0)],[⟨n3,B.cells,50,B.cells.length⟩]⟩) (fun u=>wrongB x.P D=false) ?_ ?_
 ·
  refine G3 ?_;refine .load1 J J J Y45.h J Z0 (by exact Block.get_fSeq (by exact hB.ok)) ?_;refine G3 ?_;refine .condP J (fun hc0=>?_) (fun hc0=>?_)
  ·
   refine .seq (.draw (oP [0,1,2,103,4,105,106,7,8,9,210,411,12]) Ap zK (G3 ?_));refine .loadE J J J Y131.h J sP (hW.1.at (o:=2) J) (G1 ?_);refine .lN (Aa _) J J J Y34.h J Sz34 Z0 (Block.row_fPrev (by exact hB.ok)) (Block.rl_fPrev (by exact hB.ok)) ?_;refine .lookFC evE ME hW.1.2 sP J J J J hB.ok.l_fPrev (fun hg=>?_) (fun e hg=>?_)
   ·
    skip;refine G3 ?_;refine .alloc (cs:=DEnt.zero.cells) J DEnt.zr J ?_;intro n5 hn5 hf5;refine G26 ?_;refine .cond_f J J (G2 ?_);exact⟨(),wrong_none (by rw[x.getP,←hB.prev,hg];rfl),Aq wN (Ab rM Ak)⟩
   have he:=(hx.ent _ (Ck hg)).2.1.1;have hP:Au x.P D.prev=some e.2:=by rw[x.getP,←hB.prev,hg];rfl
   have hsq:D.seq≠0:=fun h=>by rw[hB.seq,h]at hc0;simp at hc0
   refine G3 ?_;refine .alloc (cs:=DEnt.zero.cells) J DEnt.zr J ?_;intro n5 hn5 hf5;refine .sA J J J J (DEnt.isCell (by exact hx.entOk hg)) Sz164 (DEnt.length (by exact hx.entOk hg)) Z0 (DEnt.length (by exact DEnt.zero_ok)) zU ?_;refine G9 ?_;have hwl:=(hx.entOk hg).o_fBlock.l_fWriter;refine .lN (Aa e.1.fBlock.fWriter) J J J Y44.h J Sz44 Z0 ((DEnt.part (hx.entOk hg) 0 32 dE).trans (Block.row_fWriter (hx.entOk hg).o_fBlock)) (by rw[Aa,La0];exact hwl) ?_;refine G1 ?_;refine .lN (Aa _) J J J Y44.h J Sz44 Z1 (Block.row_fWriter (by exact hB.ok)) (Block.rl_fWriter (by exact hB.ok)) ?_;refine two (fun r hr k=>Tr.neq_bytes J J J J eqGuardType44 Y44.h Y5.h Sz5 zA (by(simp[hB.ok.l_fWriter];done)) hr k) (fun hs3_70=>?_) (fun hs3_70=>?_)
   ·
    have hs3_7:=nd_t hs3_70;refine G12 ?_;refine .cond_t J J (G5 ?_);refine G3 ?_;refine⟨_,[],Ae J J,sP,sP,?_,rfl⟩;rw[judge_wrong (by rw[wrong_some hsq hP,←he.w,←hB.w];simp[hs3_7])]
   have hs3_7:=nd_f hs3_70;refine G3 ?_;refine .load1 J J J Y45.h J Z0 (DEnt.see_fBlock (hx.entOk hg) 32 _ (Block.get_fSeq (hx.entOk hg).o_fBlock)) ?_;refine G1 ?_;refine .load1 J J J Y45.h J Z1 (by exact Block.get_fSeq (by exact hB.ok)) ?_;refine .sub_u64 J J J (show Af _ _=some (u64 1)from rfl) (G5 ?_);refine .condNP J (fun hc1=>?_) (fun hc1=>?_)
   ·
    refine G5 ?_;refine G3 ?_;refine⟨_,[],Ae J J,sP,sP,?_,rfl⟩;rw[judge_wrong (by have h9:=u64_ne hc1;rw[wrong_some hsq hP,←he.seq,←hB.seq];simp[h9])]
   refine G2 ?_;exact⟨(),(by have h9:=u64_eq hc1;rw[wrong_some hsq hP,←he.w,←he.seq,←hB.w,←hB.seq,hs3_7,h9];simp),Aq wN (Ab rM Ak)⟩
  refine G2 ?_;exact⟨(),wrong_seq (by rw[←hB.seq];exact u64_eq (b:=0) (by have h9:((0:UInt64).toNat:Int)=0:=rfl;omega)),Aq wN (Ab rM Ak)⟩
 intro u hj;skip;refine G3 ?_;refine .lA J J J Y50.h J Sz50 Z0 (Block.length (by exact hB.ok)) ?_;refine .call4 J J J J J Body116 (db_parA B D hs) (fun w h=>hW.2.ext h J) ?_;rintro v43 out43 ⟨s43,rfl,hac⟩;have hn43:s43.n=(Cm D).length:=hac.num;refine G5 ?_;refine .loop (ι:=Nat) (fun k=>⟨[(0,ptr p 0),(3,ptr n3 0),(43,s43.v),(44,i64 (s43.n:Int)),(45,i64 (k:Int))],(⟨n3,B.cells,50,B.cells.length⟩::(out43++[]))⟩) (fun k=>k≤(Cm D).length∧∀j,j<k→(Au x.P ((Cm D).getD j [])).isSome=true) (fun k=>(Cm D).length-k) (0) ?_ ?_ ?_
 ·exact⟨Las _,fun j hj=>by omega⟩
 ·exact Aq wN (Ab (by repeat(first|exact Ay|apply Cj)) (Ah sG Ak))
 rintro k ⟨hk0,hall⟩;refine G6 ?_;refine .condP J (fun hc2=>?_) (fun hc2=>?_)
 ·
  refine G6 ?_;have hk:k<(Cm D).length:=by omega
  have hkb:k≤600000:=by have:=parL_len D;omega
  rcases hac with ⟨_,_,_,h0⟩|⟨qr,cr,rfl,hnc,hfl,rfl⟩
  ·exfalso;omega
  have hrow:=hrow0;obtain⟨kk,hkk⟩:∃kk,kk=(Cm D).getD k []:=⟨_,rfl⟩;have h32k:kk.length=32:=by rw[hkk,La2,La4 hk];exact hrow _ (Lc9 hk)
  refine .idxSlP 32 J J J J J Y30.h Sz34 k J oM (.loadSN (n:=32) (Aa kk) J J J Y34.h J Sz34 (by rw[Aa,La0];exact h32k) (fun w h=>by rw[hkk];simpa using B3 hrow (Ao h Z1) hk) ?_);refine .alloc (cs:=(Aa (List.replicate 32 0))) J Cs J ?_;intro n8 hn8 hf8;refine .sA J J J J zE Sz34 (by(rw[Aa,La0];assumption)) Z0 sP zU ?_;refine G3 ?_;refine .draw (oP [0,1,2,103,104,105,6,7,8,209,410,11]) Ap zK (G3 ?_);refine .loadE J J J Y131.h J sP (hW.1.at (o:=2) J) (.lA J J J Y34.h J Sz34 Z0 (by(rw[Aa,La0];assumption)) ?_);refine .lookFC evE ME hW.1.2 sP J J J J h32k (fun hg=>?_) (fun e hg=>?_)
  ·
   skip;refine G3 ?_;refine .alloc (cs:=DEnt.zero.cells) J DEnt.zr J ?_;intro n9 hn9 hf9;refine G10 ?_;refine .cond_t J J (G5 ?_);refine G7 ?_;refine⟨_,[],Ae J J,sP,sP,?_,rfl⟩;rw[judge_waits hj hk (by rw[←hkk,x.getP,hg];rfl)]
  skip;refine G3 ?_;refine .alloc (cs:=DEnt.zero.cells) J DEnt.zr J ?_;intro n9 hn9 hf9;refine .sA J J J J (DEnt.isCell (by exact hx.entOk hg)) Sz164 (DEnt.length (by exact hx.entOk hg)) Z0 (DEnt.length (by exact DEnt.zero_ok)) zU ?_;refine G9 ?_;refine .cond_f J J (G8 ?_);exact⟨k+1,⟨hk,fun j hj=>by rcases Lfl (Lgi hj)with h|h;exact hall j h;rw[h,←hkk,x.getP,hg];rfl⟩,by omega,Aq wN (Ab rM (Ah sG Ak))⟩
 refine G10 ?_;refine G2 ?_;refine⟨_,[],Ae J J,sP,sP,?_,rfl⟩;rw[judge_fits hj (by rw[Nat.le_antisymm hk0 oM]at hall;exact hall)]
end Go.Proofs.YtpogmfngccolbaaGreat
end
