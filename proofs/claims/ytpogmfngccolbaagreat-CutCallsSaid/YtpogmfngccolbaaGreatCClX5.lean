/- Contracts of functions of the loaded program, and the lemmas that they need (part 5). It proves no statement by itself; it has no conditions. -/
import Derived.WalkKit
import Derived.Orders
import Derived.Deep.LoopGhost
import Derived.IntWalk
import Derived.Laws.StructEq
import Derived.ArgAppend
import Derived.Deep.AppendSrc
import Derived.Lib.Bytealg
import Derived.Lib.BytesEntry
import Derived.Laws.IdiomStrings
import Derived.WideKeyArr2
import Derived.ProofKit
import Derived.OpenShut
import Derived.Deep.Slices
import Derived.Laws.Pointers
import Derived.Laws.Cover3
import Derived.LaidEqlPtr
import Derived.LoopN
import Derived.RangeFuncLeaves
import Derived.RangeFuncSeq
import Derived.OrdersIn
import Derived.Maps.Keyed
import Derived.Maps.RangeRun
import Derived.DeepKeys4
import Derived.Below
import Derived.Test.YtpogmfngccolbaaGreatRows
import Derived.KernelRfl
import Derived.Laws.Externs
import Derived.Defers
import Derived.Laws.MathBits
import Derived.Shelf.SlSortCmp.WholeK
import Derived.Shelf.SlGeneric
import Derived.Test.YtpogmfngccolbaaGreatProg
import Derived.Shelf.SlSortCmp.NoneTotal
import Derived.Deep.QuietTactic
import Derived.BigQuiet
import Derived.ScopeJumps
import Derived.DeepKeys3
import Derived.ChangeOld
import Derived.JoinedOf
import Derived.Test.YtpogmfngccolbaaGreatCClX4
set_option maxRecDepth 100000
set_option maxHeartbeats 8000000
set_option linter.unusedVariables false
set_option linter.unusedSimpArgs false
set_option linter.unusedSectionVars false
set_option linter.unnecessarySimpa false
section
namespace Go.Proofs.YtpogmfngccolbaaGreat
open Go Hw _root_.Go.Proofs.Tryz
open Ed
variable{N i k m:Nat}{a b:List UInt8}{w x y:List Nat}
theorem bits_even(h:(i:Int).tmod 2=0):A5 i=26:=by
  unfold A5;have e:(i:Int).tmod 2=((i%2:Nat):Int):=rfl;rw[if_pos oM]
theorem bits_odd(h:¬(i:Int).tmod 2=0):A5 i=25:=by
  unfold A5;have e:(i:Int).tmod 2=((i%2:Nat):Int):=rfl;rw[if_neg oM]
theorem bits_w(i:Nat):((UInt64.ofNat (A5 i)).toNat:Int)=((A5 i:Nat):Int):=by
  have:=bits_26 i;rw[Laz,Lab oM]
theorem bits_wn(i:Nat):(UInt64.ofNat (A5 i)).toNat=A5 i:=by
  have:=bits_26 i;rw[Laz,Lab oM]
theorem carAt_nine(h:(k:Int)=9):Cz w (k+1)=((Cz w k).set k ((Cz w k).getD k 0%2^A5 k)).set 0 (((Cz w k).set k ((Cz w k).getD k 0%2^A5 k)).getD 0 0+19*((Cz w k).getD k 0/2^A5 k)):=stepC_nine oM
theorem carAt_low(h:¬(k:Int)=9):Cz w (k+1)=((Cz w k).set k ((Cz w k).getD k 0%2^A5 k)).set (k+1) (((Cz w k).set k ((Cz w k).getD k 0%2^A5 k)).getD (k+1) 0+(Cz w k).getD k 0/2^A5 k):=stepC_low oM
theorem opB_nine(h:(i:Int)=9):opB i=26:=if_pos oM
theorem opB_low(h:¬(i:Int)=9):opB i=A5 i:=if_neg oM
theorem natc{a b:Nat}(h:a=b):some (i64 (a:Int))=some (i64 (b:Int)):=by rw[h]
theorem r3_bits(i:Nat)(hi:i<10):Mv 303 [i64 (i:Int)] (fun _=>True) (u64 (UInt64.ofNat (A5 i))):=by
 intro W hW;refine Ac func303 J 6 ntmps303 J (G2 ?_);refine .a J J (show Ag _ _=some (u64 0)from rfl) (G6 ?_);refine .rem_i64 J J J J oM (G3 ?_);refine .condP J (fun hc0=>?_) (fun hc0=>?_)
 ·
  rw[bits_even hc0];refine G2 ?_;refine .a J J (show Ag _ _=some (u64 26)from rfl) (G2 ?_);refine G3 ?_;refine⟨_,[],Ae J J,sP,sP,?_,rfl⟩;rfl
 rw[bits_odd hc0];refine G4 ?_;refine .a J J (show Ag _ _=some (u64 25)from rfl) (G2 ?_);refine G2 ?_;refine⟨_,[],Ae J J,sP,sP,?_,rfl⟩;rfl
theorem r3_carry(w:List Nat)(h:Mid10 w):Mv 304 [agg (Bn w)] (fun _=>True) (agg (Bn (C0 w))):=by
 intro W hW;have hlw:=h.len;obtain⟨u,hu0⟩:∃u,Hid (C0 w=u):=⟨_,⟨rfl⟩⟩;have hul:u.length=10:=by rw[←hu0.out];exact car10_length w
 rw[hu0.out];refine Ac func304 J 43 ntmps304 J (G3 ?_);intro n1 hn1 hf1;refine .alloc (cs:=(B9 (List.replicate 10 0))) J Zr262 J ?_;intro n2 hn2 hf2;refine G9 ?_;refine .loop (ι:=Nat) (fun k=>⟨[(1,ptr n1 0),(2,ptr n2 0),(3,i64 (k:Int))],[⟨n2,(B9 (List.replicate 10 0)),262,10⟩,⟨n1,Bn (Cz w k),262,(Bn w).length⟩]⟩) (fun k=>k≤10) (fun k=>10-k) (0) ?_ ?_ ?_
 ·omega
 ·exact Ad wN (wh1 Z0 (wh1 Z1 wh0)) nD
 rintro k hi;have hlc:=carAt_length h.len k;refine G7 ?_;refine .condP J (fun hc0=>?_) (fun hc0=>?_)
 ·
  have hk2:k<10:=by omega
  have ck:=carK h hk2;have hb26:=bits_26 k;have hcut:=car_cut ((Cz w k).getD k 0) (A5 k);have hx:=ck.x;have hq:=ck.q;have hsl:((Cz w k).set k ((Cz w k).getD k 0%2^A5 k)).length=10:=by rw[Lc0];exact hlc
  refine G5 ?_;refine .draw (oP [0,1,102,3,304,5,6]) Ao zK (G1 ?_);refine .i1 J J J J Co Sz2 _ J oM (.load1 J J J Y2 J Z1 (by exact get_wds oM) ?_);refine G1 ?_;refine .cV J J J J Body303 (r3_bits k hk2) tV (.shrN ((Cz w k).getD k 0) (A5 k) J J J J (bits_w k) oM (G4 ?_));refine .draw (oP [0,1,2,103,4,5,306,7,8,9,410]) Ao zK (G2 ?_);refine .i1 J J J J Co Sz2 _ J oM (.load1 J J J Y2 J Z1 (by exact get_wds oM) ?_);refine G2 ?_;refine .cV J J J J Body303 (r3_bits k hk2) tV (.shlN ((Cz w k).getD k 0/2^A5 k) (A5 k) J J J J (bits_w k) oM oM (.subN ((Cz w k).getD k 0) ((Cz w k).getD k 0/2^A5 k*2^A5 k) J J J J oM (.i1 J J J J Co Sz2 _ J oM ?_)));rw[hcut.2];refine .s1 J J J J J Sz2 Z1 (by(simp[Al];omega)) (by exact set_wds _ _ _) zV ?_;refine G8 ?_;refine .condP J (fun hc1=>?_) (fun hc1=>?_)
  ·
   have hfs:=ck.fs oM;refine .region (.i1 J J J J Co Sz2 0 J dE (.load1 J J J Y2 J Z1 (by exact get_wds oM) ?_));refine G1 ?_;refine .mulN (19) ((Cz w k).getD k 0/2^A5 k) J J J J oM (.addN (((Cz w k).set k ((Cz w k).getD k 0%2^A5 k)).getD 0 0) (19*((Cz w k).getD k 0/2^A5 k)) J J J J oM (.i1 J J J J Co Sz2 0 J dE (.s1 J J J J J Sz2 Z1 (by(simp[Al];omega)) (by exact set_wds _ _ _) zV ?_)));refine G9 ?_;exact⟨k+1,by omega,by omega,Ad wN (wh1 Z0 (wh1 (by(rw[carAt_nine hc1];exact mem1)) wh0)) nD⟩
  have hnx:=ck.nx oM;refine G2 ?_;refine .addN (k) (1) J J J J oM (G1 ?_);refine .addN (k) (1) J J J J oM (.i1 J J J J Co Sz2 _ J oM (.load1 J J J Y2 J Z1 (by exact get_wds oM) ?_));refine G1 ?_;refine .addN (((Cz w k).set k ((Cz w k).getD k 0%2^A5 k)).getD (k+1) 0) ((Cz w k).getD k 0/2^A5 k) J J J J oM (.i1 J J J J Co Sz2 _ J oM (.s1 J J J J J Sz2 Z1 (by(simp[Al];omega)) (by exact set_wds _ _ _) zV ?_));refine G9 ?_;exact⟨k+1,by omega,by omega,Ad wN (wh1 Z0 (wh1 (by(rw[carAt_low hc1];exact mem1)) wh0)) nD⟩
 rw[show Cz w k=u from by rw[show k=10 by omega,carAt_eq h.len,hu0.out]];refine G7 ?_;refine .lA J J J Co J Sz262 Z1 (by(simp[Al,hul];done)) ?_;refine .sA J J J J (by exact Cp _) Sz262 (by(simp[Al,hul];done)) Z0 sP zU ?_;refine G2 ?_;refine G2 ?_;refine⟨_,[],Am J J Co J Sz262 Z0 (by simp[Al,hul]),sP,sP,?_,rfl⟩;rfl
theorem op_on(hi:i<10)(hb:N.testBit (Bv i+k)=true):((opAt N i).set i (N/2^Bv i%2^k)).set i (((opAt N i).set i (N/2^Bv i%2^k)).getD i 0+1*2^k)=(opAt N i).set i (N/2^Bv i%2^(k+1)):=by
  have hl:=opAt_length N i oM;rw[getD_set' oM,if_pos rfl,List.set_set,op_bit,hb,if_pos rfl,Ldl]
theorem op_off(hb:N.testBit (Bv i+k)=false):(opAt N i).set i (N/2^Bv i%2^k)=(opAt N i).set i (N/2^Bv i%2^(k+1)):=by
  rw[op_bit,hb,if_neg dE,Lbt]
theorem op_val(hi:i<10)(hk:k≤26):((opAt N i).set i (N/2^Bv i%2^k)).getD i 0≤67108864∧2^k≤67108864:=by
  have hl:=opAt_length N i oM;have h1:2^k≤2^26:=Lbv dE hk;have h2:N/2^Bv i%2^k<2^k:=Lbs _ (Lbe dE);rw[getD_set' oM,if_pos rfl];omega
theorem bit_is(h:(((UInt8.ofNat ((shr8 (a.getD (m/8) 0) (m%8)).toNat%2)).toNat:Int)=1)):(le a).testBit m=true:=by rw[←bit_rem];exact decide_eq_true h
theorem bit_isn(h:¬(((UInt8.ofNat ((shr8 (a.getD (m/8) 0) (m%8)).toNat%2)).toNat:Int)=1)):(le a).testBit m=false:=by rw[←bit_rem];exact decide_eq_false h
theorem r3_Open(a:List UInt8)(ha:a.length=32):Mv 258 [agg (Aa a)] (fun _=>True) (agg (Bn (openT (le a)))):=by
 intro W hW;obtain⟨u,hu⟩:∃u,Hid (openT (le a)=u):=⟨_,⟨rfl⟩⟩;obtain⟨D,hD⟩:∃D,Hid (opD (le a)=D):=⟨_,⟨rfl⟩⟩;have hu10:u.length=10:=by rw[←hu.out];exact openT_length _
 have hd10:D.length=10:=by rw[←hD.out];exact opD_length _
 have hc:=r3_carry D (by rw[←hD.out];exact opD_mid _);rw[show C0 D=u from by rw[←hD.out];exact hu.out]at hc;rw[hu.out];have hsl:=hd10;refine Ac func258 J 58 ntmps258 J (G3 ?_);intro n1 hn1 hf1;refine .alloc (cs:=(B9 (List.replicate 10 0))) J Zr262 J ?_;intro n2 hn2 hf2;refine G4 ?_;refine .alloc (cs:=(B9 (List.replicate 10 0))) J Zr262 J ?_;intro n3 hn3 hf3;refine G14 ?_;refine .loop (ι:=Nat) (fun i=>⟨[(1,ptr n1 0),(2,ptr n2 0),(3,ptr n3 0),(4,i64 ((Bv i:Nat):Int)),(5,i64 (i:Int))],[⟨n3,Bn (opAt (le a) i),262,10⟩,⟨n2,(B9 (List.replicate 10 0)),262,10⟩,⟨n1,Aa a,207,(Aa a).length⟩]⟩) (fun i=>i≤10) (fun i=>10-i) (0) ?_ ?_ ?_
 ·omega
 ·exact Ad wN (wh1 (by rw[show Bn (opAt (le a) 0)=B9 (List.replicate 10 0)from rfl];exact Bp) (wh1 Z1 (wh1 Z2 wh0))) nD
 rintro i hi;refine G7 ?_;refine .condP J (fun hc0=>?_) (fun hc0=>?_)
 ·
  have hi2:i<10:=by omega
  have hb26:=bits_26 i;have hbw:=bits_wn i;have hop:=at_op hi2;have hopl:=op_le i;have hat:=at_le hi2;refine G7 ?_;refine .cV J J J J Body303 (r3_bits i hi2) tV (.conv J J J Y172.h Y3.h (cv_u64_i64 oM) ?_);rw[bits_wn];refine G3 ?_;refine .join (ι:=Unit) (fun _u=>⟨[(1,ptr n1 0),(2,ptr n2 0),(3,ptr n3 0),(4,i64 ((Bv i:Nat):Int)),(5,i64 (i:Int)),(6,i64 ((opB i:Nat):Int))],[⟨n3,Bn (opAt (le a) i),262,10⟩,⟨n2,(B9 (List.replicate 10 0)),262,10⟩,⟨n1,Aa a,207,(Aa a).length⟩]⟩) (fun _u=>True) ?_ ?_
  ·
   refine G6 ?_;refine .condP J (fun hc1=>?_) (fun hc1=>?_)
   ·
    refine G4 ?_
    (rw[opB_nine hc1];exact⟨(),trivial,Ad wN (wh1 Z0 (wh1 Z1 (wh1 Z2 wh0))) nD⟩)
   refine G2 ?_
   (rw[opB_low hc1];exact⟨(),trivial,Ad wN (wh1 Z0 (wh1 Z1 (wh1 Z2 wh0))) nD⟩)
  intro _u hj;skip;refine G7 ?_;refine .loop (ι:=Nat) (fun k=>⟨[(1,ptr n1 0),(2,ptr n2 0),(3,ptr n3 0),(4,i64 ((Bv i:Nat):Int)),(5,i64 (i:Int)),(6,i64 ((opB i:Nat):Int)),(7,i64 (k:Int))],[⟨n3,Bn ((opAt (le a) i).set i (le a/2^Bv i%2^k)),262,10⟩,⟨n2,(B9 (List.replicate 10 0)),262,10⟩,⟨n1,Aa a,207,(Aa a).length⟩]⟩) (fun k=>k≤opB i) (fun k=>opB i-k) (0) ?_ ?_ ?_
  ·exact Laj _
  ·exact Ad wN (wh1 (by rw[opAt_first _ hi2];exact Bp) (wh1 Z1 (wh1 Z2 wh0))) nD
  rintro k hk;have hsl:((opAt (le a) i).set i (le a/2^Bv i%2^k)).length=10:=by rw[Lc0];exact opAt_length _ i oM
  refine G5 ?_;refine two (fun r hr k=>Tr.lss J J J J hr k) (fun hs10_20=>?_) (fun hs10_20=>?_)
  ·
   have hs10_2:=of_decide_eq_true hs10_20;skip;refine G3 ?_;refine .addN (Bv i) (k) J J J J oM (.lss J J J J (decide_eq_true oM) (G3 ?_));refine .cond_t J J (G8 ?_);refine .addN (Bv i) (k) J J J J oM (.quoN (Bv i+k) (8) J J J J ⟨by decide,by omega⟩ ?_);refine .i1 J J J J Y207.h Sz5 _ J oM (G3 ?_);refine .addN (Bv i) (k) J J J J oM (.remN (Bv i+k) (8) J J J J dE (G1 ?_));refine .shr_u8 J J J J ((Bv i+k)%8) (by rw[Cg _ oM]) oM ?_;refine .rem_u8 J J J J 2 J dE (G3 ?_);refine .condP J (fun hc3=>?_) (fun hc3=>?_)
   ·
    have hbt:=bit_is hc3;have hov:=op_val (N:=le a) hi2 (show k≤26 by omega);refine G3 ?_;refine .i1 J J J J Co Sz2 _ J oM (.load1 J J J Y2 J Z0 (by exact get_wds oM) ?_);refine G2 ?_;refine .shlN 1 k J J J J (Cg _ oM) oM oM (.addN (((opAt (le a) i).set i (le a/2^Bv i%2^k)).getD i 0) (1*2^k) J J J J oM (.i1 J J J J Co Sz2 _ J oM (.s1 J J J J J Sz2 Z0 (by(simp[Al,hsl];omega)) (by exact set_wds _ _ _) zU ?_)));refine G9 ?_;exact⟨k+1,by omega,by omega,Ad wN (wh1 (by(rw[←op_on hi2 hbt];exact Bp)) (wh1 Z1 (wh1 Z2 wh0))) nD⟩
   have hbf:=bit_isn hc3;refine G9 ?_;exact⟨k+1,by omega,by omega,Ad wN (wh1 (by(rw[←op_off hbf];exact Bp)) (wh1 Z1 (wh1 Z2 wh0))) nD⟩
  have hs10_2:=of_decide_eq_false hs10_20;skip;refine G8 ?_;refine .cond_f J J (G8 ?_);refine .cV J J J J Body303 (r3_bits i hi2) tV (.conv J J J Y172.h Y3.h (cv_u64_i64 oM) ?_);rw[bits_wn];refine .addN (Bv i) (A5 i) J J J J oM (G10 ?_);exact⟨i+1,by omega,by omega,Ad (wk1 rfl (wk1 rfl (wk1 rfl (wk1 (natc (at_succ hi2)) wN)))) (wh1 (by rw[←opAt_set (le a) hi2,show opB i=k by omega];exact Bp) (wh1 Z1 (wh1 Z2 wh0))) nD⟩
 rw[show opAt (le a) i=D from by rw[show i=10 by omega,opAt_ten];exact hD.out];refine G7 ?_;refine .lA J J J Co J Sz262 Z0 (by(simp[Al,hd10];done)) ?_;refine .cV J J J J Body304 (hc) tV (.sA J J J J (by exact Cp _) Sz262 (by(simp[Al,hu10];done)) Z1 sP zV ?_);refine G2 ?_;refine G2 ?_;refine⟨_,[],Am J J Co J Sz262 Z1 (by simp[Al,hu10]),sP,sP,?_,rfl⟩;rfl
theorem close_first(X:Nat):leb 32 (X%2^Bv 0)=List.replicate 32 0:=by
  rw[show Bv 0=0 from rfl,Lde,Ley,leb_zero32]
theorem r3_Close(w:List Nat)(hw:Fit10 w):Mv 308 [agg (Bn w)] (fun _=>True) (agg (Aa (fb (fe (v10 w))))):=by
 intro W hW;have hlw:=hw.len;obtain⟨X,hX⟩:∃X,Hid (low10 w=X):=⟨_,⟨rfl⟩⟩;have hX255:X<2^255:=by rw[←hX.out];exact low10_lt hw
 have h4:=car10_four hw;rw[hX.out]at h4;have hfx:fe (v10 w)=fe X:=by rw[←hX.out];exact(low10_fe w).symm
 rw[hfx];have f1:Fit10 (C0 w):=car10_fit (by have:=hw.v;omega);have f2:Fit10 (C0 (C0 w)):=car10_fit (by have:=f1.v;omega);have f3:Fit10 (C0 (C0 (C0 w))):=car10_fit (by have:=f2.v;omega);have c1:=r3_carry w hw.mid;have c2:=r3_carry _ f1.mid;have c3:=r3_carry _ f2.mid;have c4:=r3_carry _ f3.mid;rw[h4]at c4;have hl1:=f1.len;have hl2:=f2.len;have hl3:=f3.len;have hDl:(dg X b10).length=10:=by rw[dg_length];rfl
 have hDb:∀i k,i<10→k<A5 i→(((((dg X b10).getD i 0/2^k%2:Nat):Int)=1)↔X.testBit (Bv i+k)=true):=fun i k h1 h2=>dg_bit_dec X h1 h2;have ht:=fun h=>not_top hX255 h;have hm:=fun i h1 h2 h=>not_mid (i:=i) hX255 h1 h2 h;have htop:=fun h1 h2 h3=>is_top hX255 h1 h2 h3;obtain⟨O,hO⟩:∃O,Hid (leb 32 X=O):=⟨_,⟨rfl⟩⟩;have hOl:O.length=32:=by rw[←hO.out];exact Ak _ _
 rw[hO.out]at ht hm htop;clear f1 f2 f3 h4;revert c1 c2 c3 c4 hl1 hl2 hl3 hDl hDb;generalize C0 (C0 (C0 w))=w3;generalize C0 (C0 w)=w2;generalize C0 w=w1;generalize dg X b10=D;intro c1 c2 c3 c4 hl1 hl2 hl3 hDl hDb;generalize hFB:fb (fe X)=FB at ht hm htop ⊢;refine Ac func308 J 77 ntmps308 J (G3 ?_);intro n1 hn1 hf1;refine .alloc (cs:=(Aa (List.replicate 32 0))) J A8 J ?_;intro n2 hn2 hf2;refine G4 ?_;refine .lA J J J Co J Sz262 Z1 (by(simp[Al,hlw];done)) ?_;refine .cV J J J J Body304 (c1) tV (.cV J J J J Body304 (c2) tV (.cV J J J J Body304 (c3) tV (.cV J J J J Body304 (c4) tV (.sA J J J J (by exact Cp _) Sz262 (by(simp[Al,hDl];done)) Z1 (by(simp[Al,hlw];done)) zV ?_))));refine G4 ?_;refine .alloc (cs:=(Aa (List.replicate 32 0))) J A8 J ?_;intro n3 hn3 hf3;refine G14 ?_;refine .loop (ι:=Nat) (fun i=>⟨[(1,ptr n1 0),(2,ptr n2 0),(3,ptr n3 0),(4,i64 ((Bv i:Nat):Int)),(5,i64 (i:Int))],[⟨n3,Aa (leb 32 (X%2^Bv i)),207,32⟩,⟨n2,Aa (List.replicate 32 0),207,32⟩,⟨n1,Bn D,262,(Bn w).length⟩]⟩) (fun i=>i≤10) (fun i=>10-i) (0) ?_ ?_ ?_
 ·omega
 ·exact Ad wN (wh1 (by rw[close_first];exact Bp) (wh1 Z1 (wh1 Z2 wh0))) nD
 rintro i hi;refine G7 ?_;refine .condP J (fun hc0=>?_) (fun hc0=>?_)
 ·
  have hi2:i<10:=by omega
  have hb26:=bits_26 i;have hbw:=bits_wn i;have hat:=at_le hi2;have hat2:=at_succ hi2;have hat3:Bv (i+1)≤255:=by unfold Bv;omega
  refine G11 ?_;refine .loop (ι:=Nat) (fun k=>⟨[(1,ptr n1 0),(2,ptr n2 0),(3,ptr n3 0),(4,i64 ((Bv i:Nat):Int)),(5,i64 (i:Int)),(6,i64 (k:Int))],[⟨n3,Aa (leb 32 (X%2^(Bv i+k))),207,32⟩,⟨n2,Aa (List.replicate 32 0),207,32⟩,⟨n1,Bn D,262,(Bn w).length⟩]⟩) (fun k=>k≤A5 i) (fun k=>A5 i-k) (0) ?_ ?_ ?_
  ·exact Laj _
  ·exact Ad wN (wh1 (by rw[Lbt];exact Bp) (wh1 Z1 (wh1 Z2 wh0))) nD
  rintro k hk;refine G5 ?_;refine .cV J J J J Body303 (r3_bits i hi2) tV (.conv J J J Y172.h Y3.h (cv_u64_i64 oM) ?_);rw[bits_wn];refine G3 ?_;refine .condP J (fun hc1=>?_) (fun hc1=>?_)
  ·
   refine G7 ?_;refine .i1 J J J J Co Sz2 _ J oM (.load1 J J J Y2 J Z2 (by exact get_wds oM) ?_);refine G2 ?_;refine .shrN (D.getD i 0) (k) J J J J (Cg _ oM) oM (.remN (D.getD i 0/2^k) (2) J J J J dE (G3 ?_));refine .condP J (fun hc2=>?_) (fun hc2=>?_)
   ·
    have hbt:=(hDb i k hi2 oM).1 hc2;have hbs:leb 32 (X%2^(Bv i+(k+1)))=_:=(bit_set X (m:=Bv i+k) oM hbt).symm;refine G3 ?_;refine .addN (Bv i) (k) J J J J oM (.quoN (Bv i+k) (8) J J J J ⟨by decide,by omega⟩ ?_);refine G2 ?_;refine .addN (Bv i) (k) J J J J oM (.quoN (Bv i+k) (8) J J J J ⟨by decide,by omega⟩ ?_);refine .i1 J J J J Y207.h Sz5 _ J oM (.load1 J J J Y5.h J Z0 (by exact B0 (by(simp[Ak];omega))) ?_);refine G2 ?_;refine .addN (Bv i) (k) J J J J oM (.remN (Bv i+k) (8) J J J J dE (G1 ?_));refine .shl_u8 J J (show Ag _ _=some (u8 1)from rfl) J ((Bv i+k)%8) (by rw[Cg _ oM]) oM ?_;refine .add_u8 J J J J (.i1 J J J J Y207.h Sz5 _ J oM (.s1 J J J J J Sz5 Z0 (by(simp[Ak];omega)) (by exact Bi _ _ _) zU ?_));refine G9 ?_;exact⟨k+1,by omega,by omega,Ad wN (wh1 (by rw[hbs];exact Bp) (wh1 Z1 (wh1 Z2 wh0))) nD⟩
   have hbf:X.testBit (Bv i+k)=false:=Bool.eq_false_iff.2 (fun e=>hc2 ((hDb i k hi2 oM).2 e));have hbs:leb 32 (X%2^(Bv i+(k+1)))=leb 32 (X%2^(Bv i+k)):=(bit_off X (Bv i+k) hbf).symm;refine G9 ?_;exact⟨k+1,by omega,by omega,Ad wN (wh1 (by rw[hbs];exact Bp) (wh1 Z1 (wh1 Z2 wh0))) nD⟩
  refine G8 ?_;refine .cV J J J J Body303 (r3_bits i hi2) tV (.conv J J J Y172.h Y3.h (cv_u64_i64 oM) ?_);rw[bits_wn];refine .addN (Bv i) (A5 i) J J J J oM (G10 ?_);exact⟨i+1,by omega,by omega,Ad (wk1 rfl (wk1 rfl (wk1 rfl (wk1 (natc (at_succ hi2)) wN)))) (wh1 (by rw[←at_succ hi2,show A5 i=k by omega];exact Bp) (wh1 Z1 (wh1 Z2 wh0))) nD⟩
 rw[show leb 32 (X%2^Bv i)=O from by rw[show Bv i=255 from by rw[show i=10 by omega];rfl,Lab hX255];exact hO.out];refine G8 ?_;refine .i1 J J J J Y207.h Sz5 0 J dE (G1 ?_);refine two (fun r hr k=>Tr.lss J J J J hr k) (fun hs13_20=>?_) (fun hs13_20=>?_)
 ·
  have hs13_2:=of_decide_eq_true hs13_20;refine G7 ?_;refine .cond_t J J (G2 ?_);refine .lA J J J Y207.h J Sz207 Z0 (by(simp[hOl];done)) ?_;refine .sA J J J J zE Sz207 (by(simp[hOl];done)) Z1 sP zV ?_;refine G2 ?_;refine G3 ?_;refine⟨_,[],Am J J Y207.h J Sz207 Z1 (by simp[hOl]),sP,sP,?_,rfl⟩;exact congrArg (fun l=>agg (Aa l)) (ht oM)
 have hs13_2:=of_decide_eq_false hs13_20;refine G1 ?_;refine .i1 J J J J Y207.h Sz5 31 J dE (G1 ?_);refine two (fun r hr k=>Tr.nei J J J J hr k) (fun hs13_60=>?_) (fun hs13_60=>?_)
 ·
  have hs13_6:=nd_t hs13_60;refine G3 ?_;refine .cond_t J J (G2 ?_);refine .lA J J J Y207.h J Sz207 Z0 (by(simp[hOl];done)) ?_;refine .sA J J J J zE Sz207 (by(simp[hOl];done)) Z1 sP zV ?_;refine G2 ?_;refine G3 ?_;refine⟨_,[],Am J J Y207.h J Sz207 Z1 (by simp[hOl]),sP,sP,?_,rfl⟩;exact congrArg (fun l=>agg (Aa l)) (ht oM)
 have hs13_6:=nd_f hs13_60;refine G3 ?_;refine .cond_f J J (G9 ?_);refine .loop (ι:=Nat) (fun j=>⟨[(2,ptr n2 0),(3,ptr n3 0),(7,i64 (j:Int))],[⟨n3,Aa O,207,32⟩,⟨n2,Aa (List.replicate 32 0),207,32⟩]⟩) (fun j=>1≤j∧j≤31∧∀m,0<m→m<j→(O.getD m 0).toNat=255) (fun j=>31-j) (1) ?_ ?_ ?_
 ·exact⟨Lae _,by omega,fun m h1 h2=>by omega⟩
 ·exact Ad wN (wh1 Z0 (wh1 Z1 wh0)) nD
 rintro j ⟨hj1,hj2,hj3⟩;refine G7 ?_;refine .condP J (fun hc4=>?_) (fun hc4=>?_)
 ·
  refine G7 ?_;refine .i1 J J J J Y207.h Sz5 _ J oM (G4 ?_);refine .condNP J (fun hc5=>?_) (fun hc5=>?_)
  ·
   refine G2 ?_;refine .lA J J J Y207.h J Sz207 Z0 (by(simp[hOl];done)) ?_;refine .sA J J J J zE Sz207 (by(simp[hOl];done)) Z1 sP zV ?_;refine G2 ?_;refine G7 ?_;refine⟨_,[],Am J J Y207.h J Sz207 Z1 (by simp[hOl]),sP,sP,?_,rfl⟩;exact congrArg (fun l=>agg (Aa l)) (hm j oM oM oM)
  refine G9 ?_;exact⟨j+1,⟨by omega,by omega,fun m h1 h2=>by
    by_cases e:m=j
    ·rw[e];omega
    ·exact hj3 m h1 oM⟩,by omega,Ad wN (wh1 Z0 (wh1 Z1 wh0)) nD⟩
 refine G7 ?_;refine .i1 J J J J Y207.h Sz5 0 J dE (G1 ?_);refine .sub_u8 J J J (show Ag _ _=some (u8 237)from rfl) (.build (cs:=Aa ((O.getD 0 0-237)::List.replicate 31 0)) J J J (fun w=>by kernel_rfl) ?_);refine .sA J J J J zE Sz207 (by(simp[hOl];done)) Z1 sP zV ?_;refine G2 ?_;refine G2 ?_;refine⟨_,[],Am J J Y207.h J Sz207 Z1 (by simp[hOl]),sP,sP,?_,rfl⟩;exact congrArg (fun l=>agg (Aa l)) (htop oM oM (fun m h1 h2=>hj3 m h1 oM))
def p1(i:Nat):Nat:=2^A5 i-1-(if i=0 then 18 else 0)
theorem p1_z(h:(i:Int)=0):p1 i=1*2^A5 i-1-18:=by rw[p1,if_pos oM,Ldl]
theorem p1_n(h:¬(i:Int)=0):p1 i=1*2^A5 i-1:=by rw[p1,if_neg oM,Ldl,Lgc]
theorem p4_p1(i:Nat):p4 i=4*p1 i:=rfl
def cf2(i k:Nat):Nat:=if i%2=1∧k%2=1 then 2 else 1
theorem cf2_t(P:Nat)(h:((i%2:Nat):Int)=1)(h2:((k%2:Nat):Int)=1):cf2 i k*P=2*P:=by rw[cf2,if_pos ⟨by omega,by omega⟩]
theorem cf2_a(P:Nat)(h:¬((i%2:Nat):Int)=1):cf2 i k*P=P:=by rw[cf2,if_neg (fun e=>h oM),Ldl]
theorem cf2_b(P:Nat)(h:¬((k%2:Nat):Int)=1):cf2 i k*P=P:=by rw[cf2,if_neg (fun e=>h oM),Ldl]
theorem cf2_le(i k:Nat):cf2 i k≤2:=by unfold cf2;split<;>omega
theorem coef_hi(P:Nat)(h:(9:Int)<((i+k:Nat):Int)):coef i k*P=19*(cf2 i k*P):=by
  rw[coef,if_pos oM,Lbo];rfl
theorem coef_lo(P:Nat)(h:¬(9:Int)<((i+k:Nat):Int)):coef i k*P=cf2 i k*P:=by
  rw[coef,if_neg oM,Ldl];rfl
theorem tRow_bd(hx:Fit10 x)(hy:Fit10 y)(hi:i<10)(hk:k≤10)(hm:m<10):(tRow x y i (tAll x y i) k).getD m 0≤6845471433603153920:=by
  have h1:=tRow_le hi (fun k hk=>term_le hx hy i k hi hk) (tAll_length x y i) k hk m hm;have h2:=tAll_le (term_le hx hy) i oM m hm;have h3:(if(m+10-i)%10<k then 38*(2^27*2^27)else 0)≤38*(2^27*2^27):=by split<;>omega
  omega
theorem prod_le(hx:Fit10 x)(hy:Fit10 y)(hi:i<10)(hk:k<10):x.getD i 0*y.getD k 0≤18014398509481984:=
  Lbc (Lcq (Lg4 (hx.all hi)) (Lg4 (hy.all hk))) dE
theorem r3_Plus(x y:List Nat)(hx:Fit10 x)(hy:Fit10 y):Mv 307 [agg (Bn x),agg (Bn y)] (fun _=>True) (agg (Bn (plusT x y))):=by
 intro W hW;have hxl:=hx.len;have hyl:=hy.len;obtain⟨A,hA⟩:∃A,Hid (addAt x y 10=A):=⟨_,⟨rfl⟩⟩;obtain⟨U,hU⟩:∃U,Hid (plusT x y=U):=⟨_,⟨rfl⟩⟩;have hAl:A.length=10:=by rw[←hA.out];exact addAt_length y hx.len 10
 have hUl:U.length=10:=by rw[←hU.out];exact car10_length _
 have hc:=r3_carry A (by rw[←hA.out];exact addAt_mid hx hy);rw[show C0 A=U from by rw[←hA.out];exact hU.out]at hc;rw[hU.out];have hal:=hAl;refine Ac func307 J 21 ntmps307 J (G3 ?_);intro n2 hn2 hf2;refine G1 ?_;intro n3 hn3 hf3;refine .alloc (cs:=(B9 (List.replicate 10 0))) J Zr262 J ?_;intro n4 hn4 hf4;refine G9 ?_;refine .loop (ι:=Nat) (fun i=>⟨[(2,ptr n2 0),(3,ptr n3 0),(4,ptr n4 0),(5,i64 (i:Int))],[⟨n4,(B9 (List.replicate 10 0)),262,10⟩,⟨n3,Bn y,262,(Bn y).length⟩,⟨n2,Bn (addAt x y i),262,(Bn x).length⟩]⟩) (fun i=>i≤10) (fun i=>10-i) (0) ?_ ?_ ?_
 ·omega
 ·exact Ad wN (wh1 Z0 (wh1 Z1 (wh1 Z2 wh0))) nD
 rintro i hi;have hal:=addAt_length y hxl i;refine G7 ?_;refine .condP J (fun hc0=>?_) (fun hc0=>?_)
 ·
  have hi2:i<10:=by omega
  have hxi:(addAt x y i).getD i 0=x.getD i 0+0:=by rw[addAt_get hx.len i oM i hi2,if_neg oM]
  have hx2:=hx.all hi2;have hy2:=hy.all hi2;refine G4 ?_;refine .draw (oP [0,1,2,103,4,5,106,7,8,409]) Ao zK (G2 ?_);refine .i1 J J J J Co Sz2 _ J oM (.load1 J J J Y2 J Z2 (by exact get_wds oM) ?_);refine G1 ?_;refine .i1 J J J J Co Sz2 _ J oM (.load1 J J J Y2 J Z1 (by exact get_wds oM) ?_);refine .addN ((addAt x y i).getD i 0) (y.getD i 0) J J J J oM (.i1 J J J J Co Sz2 _ J oM (.s1 J J J J J Sz2 Z2 (by(simp[Al,hal];omega)) (by exact set_wds _ _ _) (by exact upd2) ?_));refine G9 ?_;exact⟨i+1,by omega,by omega,Ad wN (wh1 Z0 (wh1 Z1 (wh1 Z2 wh0))) nD⟩
 rw[show addAt x y i=A from by rw[show i=10 by omega];exact hA.out];refine G7 ?_;refine .lA J J J Co J Sz262 Z2 (by(simp[Al,hAl];done)) ?_;refine .cV J J J J Body304 (hc) tV (.sA J J J J (by exact Cp _) Sz262 (by(simp[Al,hUl];done)) Z0 sP zU ?_);refine G2 ?_;refine G2 ?_;refine⟨_,[],Am J J Co J Sz262 Z0 (by simp[Al,hUl]),sP,sP,?_,rfl⟩;rfl
theorem r3_Minus(x y:List Nat)(hx:Fit10 x)(hy:Fit10 y):Mv 306 [agg (Bn x),agg (Bn y)] (fun _=>True) (agg (Bn (minusT x y))):=by
 intro W hW;have hxl:=hx.len;have hyl:=hy.len;obtain⟨A,hA⟩:∃A,Hid (subAt x y 10=A):=⟨_,⟨rfl⟩⟩;obtain⟨U,hU⟩:∃U,Hid (minusT x y=U):=⟨_,⟨rfl⟩⟩;have hAl:A.length=10:=by rw[←hA.out];exact subAt_length y hx.len 10
 have hUl:U.length=10:=by rw[←hU.out];exact car10_length _
 have hc:=r3_carry A (by rw[←hA.out];exact subAt_mid hx);rw[show C0 A=U from by rw[←hA.out];exact hU.out]at hc;rw[hU.out];have hal:=hAl;refine Ac func306 J 33 ntmps306 J (G3 ?_);intro n2 hn2 hf2;refine G1 ?_;intro n3 hn3 hf3;refine .alloc (cs:=(B9 (List.replicate 10 0))) J Zr262 J ?_;intro n4 hn4 hf4;refine G9 ?_;refine .loop (ι:=Nat) (fun i=>⟨[(2,ptr n2 0),(3,ptr n3 0),(4,ptr n4 0),(5,i64 (i:Int))],[⟨n4,(B9 (List.replicate 10 0)),262,10⟩,⟨n3,Bn y,262,(Bn y).length⟩,⟨n2,Bn (subAt x y i),262,(Bn x).length⟩]⟩) (fun i=>i≤10) (fun i=>10-i) (0) ?_ ?_ ?_
 ·omega
 ·exact Ad wN (wh1 Z0 (wh1 Z1 (wh1 Z2 wh0))) nD
 rintro i hi;have hal:=subAt_length y hxl i;refine G7 ?_;refine .condP J (fun hc0=>?_) (fun hc0=>?_)
 ·
  have hi2:i<10:=by omega
  have hxi:(subAt x y i).getD i 0=x.getD i 0+0:=by rw[subAt_get hx.len i oM i hi2,if_neg oM]
  have hx2:=hx.all hi2;have hy2:=hy.all hi2;have hpg:=p4_ge hy hi2;have hpl:=p4_le i;rw[p4_p1]at hpg hpl;have hbg:=bits_ge i;have hbl:=bits_le i;have hb26:=bits_26 i;have hsub:(subAt x y i).getD i 0+4*p1 i-y.getD i 0=(subAt x y i).getD i 0+(p4 i-y.getD i 0):=by rw[p4_p1];omega
  refine G7 ?_;refine .cV J J J J Body303 (r3_bits i hi2) tV (.shlN (1) (A5 i) J J J J (bits_w i) oM oM (.subN (1*2^A5 i) (1) J J J J oM (G3 ?_)));refine .join (ι:=Unit) (fun _u=>⟨[(2,ptr n2 0),(3,ptr n3 0),(4,ptr n4 0),(5,i64 (i:Int)),(6,i64 ((p1 i:Nat):Int))],[⟨n4,(B9 (List.replicate 10 0)),262,10⟩,⟨n3,Bn y,262,(Bn y).length⟩,⟨n2,Bn (subAt x y i),262,(Bn x).length⟩]⟩) (fun _u=>True) ?_ ?_
  ·
   refine G6 ?_;refine .condP J (fun hc1=>?_) (fun hc1=>?_)
   ·
    refine G2 ?_;refine .subN (1*2^A5 i-1) (18) J J J J oM (G3 ?_)
    (rw[p1_z hc1];exact⟨(),trivial,Ad wN (wh1 Z0 (wh1 Z1 (wh1 Z2 wh0))) nD⟩)
   refine G2 ?_
   (rw[p1_n hc1];exact⟨(),trivial,Ad wN (wh1 Z0 (wh1 Z1 (wh1 Z2 wh0))) nD⟩)
  intro _u hj;skip;refine .draw (oP [0,1,2,103,4,5,6,7,8,109,10,11,412]) Ao zK (G2 ?_);refine .i1 J J J J Co Sz2 _ J oM (.load1 J J J Y2 J Z2 (by exact get_wds oM) ?_);refine G1 ?_;refine .mulN (4) (p1 i) J J J J oM (.addN ((subAt x y i).getD i 0) (4*p1 i) J J J J oM (G1 ?_));refine .i1 J J J J Co Sz2 _ J oM (.load1 J J J Y2 J Z1 (by exact get_wds oM) ?_);refine .subN ((subAt x y i).getD i 0+4*p1 i) (y.getD i 0) J J J J oM (.i1 J J J J Co Sz2 _ J oM ?_);rw[hsub];refine .s1 J J J J J Sz2 Z2 (by(simp[Al,hal];omega)) (by exact set_wds _ _ _) (by exact upd2) ?_;refine G9 ?_;exact⟨i+1,by omega,by omega,Ad wN (wh1 Z0 (wh1 Z1 (wh1 Z2 wh0))) nD⟩
 rw[show subAt x y i=A from by rw[show i=10 by omega];exact hA.out];refine G7 ?_;refine .lA J J J Co J Sz262 Z2 (by(simp[Al,hAl];done)) ?_;refine .cV J J J J Body304 (hc) tV (.sA J J J J (by exact Cp _) Sz262 (by(simp[Al,hUl];done)) Z0 sP zU ?_);refine G2 ?_;refine G2 ?_;refine⟨_,[],Am J J Co J Sz262 Z0 (by simp[Al,hUl]),sP,sP,?_,rfl⟩;rfl
theorem r3_Times(x y:List Nat)(hx:Fit10 x)(hy:Fit10 y):Mv 305 [agg (Bn x),agg (Bn y)] (fun _=>True) (agg (Bn (mulT x y))):=by
 intro W hW;have hxl:=hx.len;have hyl:=hy.len;obtain⟨A,hA⟩:∃A,Hid (tAll x y 10=A):=⟨_,⟨rfl⟩⟩;obtain⟨U,hU⟩:∃U,Hid (C0 (tAll x y 10)=U):=⟨_,⟨rfl⟩⟩;have hAl:A.length=10:=by rw[←hA.out];exact tAll_length x y 10
 have hUl:U.length=10:=by rw[←hU.out];exact car10_length _
 have hc:=r3_carry A (by rw[←hA.out];exact tAll_mid hx hy);rw[show C0 A=U from by rw[←hA.out];exact hU.out]at hc;have hcc:=r3_carry U (by rw[←hU.out];exact car10_mid (tAll_v10 hx hy));obtain⟨V,hV⟩:∃V,Hid (mulT x y=V):=⟨_,⟨rfl⟩⟩;have hVl:V.length=10:=by rw[←hV.out];exact car10_length _
 rw[show C0 U=V from by rw[←hU.out];exact hV.out]at hcc;rw[hV.out];have hal:=hAl;refine Ac func305 J 56 ntmps305 J (G3 ?_);intro n2 hn2 hf2;refine G1 ?_;intro n3 hn3 hf3;refine .alloc (cs:=(B9 (List.replicate 10 0))) J Zr262 J ?_;intro n4 hn4 hf4;refine G4 ?_;refine .alloc (cs:=(B9 (List.replicate 10 0))) J Zr262 J ?_;intro n5 hn5 hf5;refine G9 ?_;refine .loop (ι:=Nat) (fun i=>⟨[(2,ptr n2 0),(3,ptr n3 0),(4,ptr n4 0),(5,ptr n5 0),(6,i64 (i:Int))],[⟨n5,Bn (tAll x y i),262,10⟩,⟨n4,(B9 (List.replicate 10 0)),262,10⟩,⟨n3,Bn y,262,(Bn y).length⟩,⟨n2,Bn x,262,(Bn x).length⟩]⟩) (fun i=>i≤10) (fun i=>10-i) (0) ?_ ?_ ?_
 ·omega
 ·exact Ad wN (wh1 (by rw[show Bn (tAll x y 0)=B9 (List.replicate 10 0)from rfl];exact Bp) (wh1 Z1 (wh1 Z2 (wh1 Z3 wh0)))) nD
 rintro i hi;refine G7 ?_;refine .condP J (fun hc0=>?_) (fun hc0=>?_)
 ·
  have hi2:i<10:=by omega
  refine G10 ?_;refine .loop (ι:=Nat) (fun k=>⟨[(2,ptr n2 0),(3,ptr n3 0),(4,ptr n4 0),(5,ptr n5 0),(6,i64 (i:Int)),(7,i64 (k:Int))],[⟨n5,Bn (tRow x y i (tAll x y i) k),262,10⟩,⟨n4,(B9 (List.replicate 10 0)),262,10⟩,⟨n3,Bn y,262,(Bn y).length⟩,⟨n2,Bn x,262,(Bn x).length⟩]⟩) (fun k=>k≤10) (fun k=>10-k) (0) ?_ ?_ ?_
  ·omega
  ·exact Ad wN (wh1 Z0 (wh1 Z1 (wh1 Z2 (wh1 Z3 wh0)))) nD
  rintro k hk;have hal:=tRow_length x y i (tAll_length x y i) k;refine G7 ?_;refine .condP J (fun hc1=>?_) (fun hc1=>?_)
  ·
   have hk2:k<10:=by omega
   have hxy:=prod_le hx hy hi2 hk2;have hcf:cf2 i k*(x.getD i 0*y.getD k 0)≤2*18014398509481984:=Lcq (cf2_le i k) hxy;have hco:=term_le hx hy i k hi2 hk2;have hbd:=tRow_bd hx hy (m:=(i+k)%10) hi2 (show k≤10 by omega) (Lbs _ dE);refine G5 ?_;refine .draw (oP [0,1,102,3,4,105,6,7]) Ao zK (G1 ?_);refine .i1 J J J J Co Sz2 _ J oM (.load1 J J J Y2 J Z3 (by exact get_wds oM) ?_);refine G1 ?_;refine .i1 J J J J Co Sz2 _ J oM (.load1 J J J Y2 J Z2 (by exact get_wds oM) ?_);refine .mulN (x.getD i 0) (y.getD k 0) J J J J oM (G3 ?_);refine .join (ι:=Unit) (fun _u=>⟨[(2,ptr n2 0),(3,ptr n3 0),(4,ptr n4 0),(5,ptr n5 0),(6,i64 (i:Int)),(7,i64 (k:Int)),(8,i64 ((cf2 i k*(x.getD i 0*y.getD k 0):Nat):Int))],[⟨n5,Bn (tRow x y i (tAll x y i) k),262,10⟩,⟨n4,(B9 (List.replicate 10 0)),262,10⟩,⟨n3,Bn y,262,(Bn y).length⟩,⟨n2,Bn x,262,(Bn x).length⟩]⟩) (fun _u=>True) ?_ ?_
   ·
    refine G3 ?_;refine .remN (i) (2) J J J J dE (two (fun r hr k=>Tr.eqi J J J J hr k) (fun hs9_20=>?_) (fun hs9_20=>?_))
    ·
     have hs9_2:=of_decide_eq_true hs9_20;refine G2 ?_;refine .remN (k) (2) J J J J dE (two (fun r hr k=>Tr.eqi J J J J hr k) (fun hs9_60=>?_) (fun hs9_60=>?_))
     ·
      have hs9_6:=of_decide_eq_true hs9_60;refine G3 ?_;refine .cond_t J J (G2 ?_);refine .mulN (2) (x.getD i 0*y.getD k 0) J J J J oM (G3 ?_)
      (rw[cf2_t _ hs9_2 hs9_6];exact⟨(),trivial,Ad wN (wh1 Z0 (wh1 Z1 (wh1 Z2 (wh1 Z3 wh0)))) nD⟩)
     have hs9_6:=of_decide_eq_false hs9_60;refine G3 ?_;refine .cond_f J J (G2 ?_)
     (rw[cf2_b _ hs9_6];exact⟨(),trivial,Ad wN (wh1 Z0 (wh1 Z1 (wh1 Z2 (wh1 Z3 wh0)))) nD⟩)
    have hs9_2:=of_decide_eq_false hs9_20;refine G7 ?_;refine .cond_f J J (G2 ?_)
    (rw[cf2_a _ hs9_2];exact⟨(),trivial,Ad wN (wh1 Z0 (wh1 Z1 (wh1 Z2 (wh1 Z3 wh0)))) nD⟩)
   intro _u hj;skip;refine .join (ι:=Unit) (fun _u=>⟨[(2,ptr n2 0),(3,ptr n3 0),(4,ptr n4 0),(5,ptr n5 0),(6,i64 (i:Int)),(7,i64 (k:Int)),(8,i64 ((coef i k*(x.getD i 0*y.getD k 0):Nat):Int))],[⟨n5,Bn (tRow x y i (tAll x y i) k),262,10⟩,⟨n4,(B9 (List.replicate 10 0)),262,10⟩,⟨n3,Bn y,262,(Bn y).length⟩,⟨n2,Bn x,262,(Bn x).length⟩]⟩) (fun _u=>True) ?_ ?_
   ·
    refine G4 ?_;refine .addN (i) (k) J J J J oM (G3 ?_);refine .condP J (fun hc3=>?_) (fun hc3=>?_)
    ·
     refine G2 ?_;refine .mulN (19) (cf2 i k*(x.getD i 0*y.getD k 0)) J J J J oM (G3 ?_)
     (rw[coef_hi _ hc3];exact⟨(),trivial,Ad wN (wh1 Z0 (wh1 Z1 (wh1 Z2 (wh1 Z3 wh0)))) nD⟩)
    refine G2 ?_
    (rw[coef_lo _ hc3];exact⟨(),trivial,Ad wN (wh1 Z0 (wh1 Z1 (wh1 Z2 (wh1 Z3 wh0)))) nD⟩)
   intro _u hj;skip;refine G3 ?_;refine .addN (i) (k) J J J J oM (.remN (i+k) (10) J J J J dE (G2 ?_));refine .addN (i) (k) J J J J oM (.remN (i+k) (10) J J J J dE (.i1 J J J J Co Sz2 _ J oM (.load1 J J J Y2 J Z0 (by exact get_wds oM) ?_)));refine G1 ?_;refine .addN ((tRow x y i (tAll x y i) k).getD ((i+k)%10) 0) (coef i k*(x.getD i 0*y.getD k 0)) J J J J oM (.i1 J J J J Co Sz2 _ J oM (.s1 J J J J J Sz2 Z0 (by(simp[Al,hal];omega)) (by exact set_wds _ _ _) zU ?_));refine G9 ?_;exact⟨k+1,by omega,by omega,Ad wN (wh1 Z0 (wh1 Z1 (wh1 Z2 (wh1 Z3 wh0)))) nD⟩
  refine G12 ?_;exact⟨i+1,by omega,by omega,Ad wN (wh1 (by rw[show tAll x y (i+1)=(tRow x y i (tAll x y i) k)from by rw[show k=10 by omega];rfl];exact Bp) (wh1 Z1 (wh1 Z2 (wh1 Z3 wh0)))) nD⟩
 rw[show tAll x y i=A from by rw[show i=10 by omega];exact hA.out];refine G7 ?_;refine .lA J J J Co J Sz262 Z0 (by(simp[Al,hAl];done)) ?_;refine .cV J J J J Body304 (hc) tV (.cV J J J J Body304 (hcc) tV (.sA J J J J (by exact Cp _) Sz262 (by(simp[Al,hVl];done)) Z1 sP zV ?_));refine G2 ?_;refine G2 ?_;refine⟨_,[],Am J J Co J Sz262 Z1 (by simp[Al,hVl]),sP,sP,?_,rfl⟩;rfl
theorem o_fit(ha:a.length=32):Fit10 (openT (le a)):=openT_fit (le32 ha)
theorem o_v(ha:a.length=32):fe (v10 (openT (le a)))=fe (le a):=openT_v (le32 ha)
theorem r3_Close_v(w:List Nat)(hw:Fit10 w)(X:Fp)(h:fe (v10 w)=X):Mv 308 [agg (Bn w)] (fun _=>True) (agg (Aa (fb X))):=by
  rw[←h];exact r3_Close w hw
theorem r3_Rest(a:List UInt8)(ha:a.length=32):Mv 300 [agg (Aa a)] (fun _=>True) (agg (Aa (fb (fe (le a))))):=by
 intro W hW;refine Ac func300 J 6 ntmps300 J (G3 ?_);intro n1 hn1 hf1;refine .alloc (cs:=(Aa (List.replicate 32 0))) J A8 J ?_;intro n2 hn2 hf2;refine G4 ?_;refine .lA J J J Y207.h J Sz207 Z1 (by(simp[ha];done)) ?_;refine .cV J J J J Body258 (r3_Open (a) (ha)) tV (.cV J J J J Body308 (r3_Close_v (_) (o_fit ha) (_) (o_v ha)) tV (.sA J J J J zE Sz207 zF Z0 sP zU ?_));refine G2 ?_;refine G2 ?_;refine⟨_,[],Am J J Y207.h J Sz207 Z0 (by simp[Aq]),sP,sP,?_,rfl⟩;rfl
theorem r3_Canon(a:List UInt8)(ha:a.length=32):Mv 251 [agg (Aa a)] (fun _=>True) (.bool (decide (fb (fe (le a))=a))):=by
 intro W hW;refine Ac func251 J 7 ntmps251 J (G3 ?_);intro n1 hn1 hf1;refine G4 ?_;refine .draw (oP [100,102,301,3,4]) Ao zK (.lA J J J Y207.h J Sz207 Z0 (by(simp[ha];done)) ?_);refine .lA J J J Y207.h J Sz207 Z0 (by(simp[ha];done)) ?_;refine .cV J J J J Body300 (r3_Rest (a) (ha)) tV (.eql_bytes J J J J eqGuardType207 Y207.h Y5.h Sz5 zF (by(simp[ha];done)) J ?_);refine G3 ?_;refine G2 ?_;refine⟨_,[],Ae J J,sP,sP,?_,rfl⟩;rfl
theorem r3_Same(a b:List UInt8)(ha:a.length=32)(hb:b.length=32):Mv 325 [agg (Aa a),agg (Aa b)] (fun _=>True) (.bool (decide (fe (le a)=fe (le b)))):=by
 intro W hW;refine Ac func325 J 10 ntmps325 J (G3 ?_);intro n2 hn2 hf2;refine G1 ?_;intro n3 hn3 hf3;refine G4 ?_;refine .draw (oP [100,102,301,303,4,5]) Ao zK (.lA J J J Y207.h J Sz207 Z1 (by(simp[ha];done)) ?_);refine .lA J J J Y207.h J Sz207 Z0 (by(simp[hb];done)) ?_;refine .cV J J J J Body300 (r3_Rest (a) (ha)) tV (.cV J J J J Body300 (r3_Rest (b) (hb)) tV (.eql_bytes J J J J eqGuardType207 Y207.h Y5.h Sz5 zF zF J (G3 ?_)));refine G2 ?_;refine⟨_,[],Ae J J,sP,sP,?_,rfl⟩;rw[fb_dec]
theorem odd_byte2(x:Fp):decide (((UInt8.ofNat (((fb x).getD 0 0).toNat%2)).toNat:Int)=1)=decide (x.val%2=1):=by
  have e:(UInt8.ofNat (((fb x).getD 0 0).toNat%2)).toNat=x.val%2:=by
    rw[fb_head,Lb1,Lb1];omega
  rw[e];congr 1;exact propext ⟨fun h=>by omega,fun h=>by omega⟩
theorem r3_Odd(a:List UInt8)(ha:a.length=32):Mv 312 [agg (Aa a)] (fun _=>True) (.bool (decide ((fe (le a)).val%2=1))):=by
 intro W hW;refine Ac func312 J 8 ntmps312 J (G3 ?_);intro n1 hn1 hf1;refine G5 ?_;refine .lA J J J Y207.h J Sz207 Z0 (by(simp[ha];done)) ?_;refine .cV J J J J Body300 (r3_Rest (a) (ha)) tV (.idxA1 J J J J Y207.h Sz5 Y5.h J 0 J oM (by rfl) ?_);refine .rem_u8 J J J J 2 J dE (G4 ?_);refine G2 ?_;refine⟨_,[],Ae J J,sP,sP,?_,rfl⟩;exact congrArg Value.bool (odd_byte2 _)
theorem r3_Of(x:UInt64):Mv 265 [u64 x] (fun _=>True) (agg (Aa (fb (fe x.toNat)))):=by
 intro W hW;have hpl:True:=trivial;refine Ac func265 J 18 ntmps265 J (G2 ?_);refine .alloc (cs:=(Aa (List.replicate 32 0))) J A8 J ?_;intro n2 hn2 hf2;refine G4 ?_;refine .alloc (cs:=(Aa (List.replicate 32 0))) J A8 J ?_;intro n3 hn3 hf3;refine G9 ?_;refine .loop (ι:=Nat) (fun k=>⟨[(0,u64 x),(2,ptr n2 0),(3,ptr n3 0),(4,i64 (k:Int))],[⟨n3,Aa (padW 32 x.toNat k),207,32⟩,⟨n2,Aa (List.replicate 32 0),207,32⟩]⟩) (fun k=>k≤8) (fun k=>8-k) (0) ?_ ?_ ?_
 ·omega
 ·exact Ad wN (wh1 (by rw[padW_zero];exact Bp) (wh1 Z1 wh0)) nD
 rintro k hi;have hpl:=padW_length 32 x.toNat k oM;refine G7 ?_;refine .condP J (fun hc0=>?_) (fun hc0=>?_)
 ·
  refine G8 ?_;refine .mul_i64 J J J J oM (G1 ?_);refine .shr_u64 J J J J (8*k) (by rw[Cg _ oM];omega) oM ?_;refine G1 ?_;refine .i1 J J J J Y207.h Sz5 _ J oM (.s1 J J J J J Sz5 Z0 (by(simp[hpl];omega)) (by exact Bi _ _ _) zU ?_);refine G9 ?_;exact⟨k+1,by omega,by omega,Ad wN (wh1 (by rw[←zero_set x k oM];exact Bp) (wh1 Z1 wh0)) nD⟩
 obtain rfl:k=8:=by omega
 rw[pad_small]at*;refine G7 ?_;refine .lA J J J Y207.h J Sz207 Z0 (by(simp[hpl];done)) ?_;refine .sA J J J J zE Sz207 (by(simp[hpl];done)) Z1 sP zV ?_;refine G2 ?_;refine G2 ?_;refine⟨_,[],Am J J Y207.h J Sz207 Z1 (by simp[hpl]),sP,sP,?_,rfl⟩;rw[fe_small]
theorem mul_ab(ha:a.length=32)(hb:b.length=32):fe (v10 (mulT (openT (le a)) (openT (le b))))=fe (le a)*fe (le b):=by rw[mulT_v (o_fit ha).len (o_fit hb).len,o_v ha,o_v hb]
theorem sub_ab(ha:a.length=32)(hb:b.length=32):fe (v10 (minusT (openT (le a)) (openT (le b))))=fe (le a)-fe (le b):=by rw[minusT_v (o_fit ha).len (o_fit hb),o_v ha,o_v hb]
theorem r3_Mul(a b:List UInt8)(ha:a.length=32)(hb:b.length=32):Mv 264 [agg (Aa a),agg (Aa b)] (fun _=>True) (agg (Aa (fb (fe (le a)*fe (le b))))):=by
 intro W hW;refine Ac func264 J 11 ntmps264 J (G3 ?_);intro n2 hn2 hf2;refine G1 ?_;intro n3 hn3 hf3;refine .alloc (cs:=(Aa (List.replicate 32 0))) J A8 J ?_;intro n4 hn4 hf4;refine G3 ?_;refine .draw (oP [100,102,301,303,304,305,406]) Ao zK (.lA J J J Y207.h J Sz207 Z2 (by(simp[ha];done)) ?_);refine .lA J J J Y207.h J Sz207 Z1 (by(simp[hb];done)) ?_;refine .cV J J J J Body258 (r3_Open (a) (ha)) tV (.cV J J J J Body258 (r3_Open (b) (hb)) tV (.cV J J J J Body305 (r3_Times (_) (_) (o_fit ha) (o_fit hb)) tV (.cV J J J J Body308 (r3_Close_v (_) (Bh (o_fit ha) (o_fit hb)) (_) (mul_ab ha hb)) tV (.sA J J J J zE Sz207 zF Z0 sP zU ?_))));refine G2 ?_;refine G2 ?_;refine⟨_,[],Am J J Y207.h J Sz207 Z0 (by simp[Aq]),sP,sP,?_,rfl⟩;rfl
theorem r3_Sub(a b:List UInt8)(ha:a.length=32)(hb:b.length=32):Mv 301 [agg (Aa a),agg (Aa b)] (fun _=>True) (agg (Aa (fb (fe (le a)-fe (le b))))):=by
 intro W hW;refine Ac func301 J 11 ntmps301 J (G3 ?_);intro n2 hn2 hf2;refine G1 ?_;intro n3 hn3 hf3;refine .alloc (cs:=(Aa (List.replicate 32 0))) J A8 J ?_;intro n4 hn4 hf4;refine G3 ?_;refine .draw (oP [100,102,301,303,304,305,406]) Ao zK (.lA J J J Y207.h J Sz207 Z2 (by(simp[ha];done)) ?_);refine .lA J J J Y207.h J Sz207 Z1 (by(simp[hb];done)) ?_;refine .cV J J J J Body258 (r3_Open (a) (ha)) tV (.cV J J J J Body258 (r3_Open (b) (hb)) tV (.cV J J J J Body306 (r3_Minus (_) (_) (o_fit ha) (o_fit hb)) tV (.cV J J J J Body308 (r3_Close_v (_) (minusT_fit (o_fit ha) (o_fit hb)) (_) (sub_ab ha hb)) tV (.sA J J J J zE Sz207 zF Z0 sP zU ?_))));refine G2 ?_;refine G2 ?_;refine⟨_,[],Am J J Y207.h J Sz207 Z0 (by simp[Aq]),sP,sP,?_,rfl⟩;rfl
theorem r3_Neg(a:List UInt8)(ha:a.length=32):Mv 253 [agg (Aa a)] (fun _=>True) (agg (Aa (fb (-fe (le a))))):=by
 intro W hW;refine Ac func253 J 6 ntmps253 J (G3 ?_);intro n1 hn1 hf1;refine .alloc (cs:=(Aa (List.replicate 32 0))) J A8 J ?_;intro n2 hn2 hf2;refine G4 ?_;refine .build (cs:=Aa (List.replicate 32 0)) J J J (fun w=>by kernel_rfl) ?_;refine .lA J J J Y207.h J Sz207 Z1 (by(simp[ha];done)) ?_;refine .cV J J J J Body301 (r3_Sub (List.replicate 32 0) (a) (rfl) (ha)) tV (.sA J J J J zE Sz207 zF Z0 sP zU ?_);refine G2 ?_;refine G2 ?_;refine⟨_,[],Am J J Y207.h J Sz207 Z0 (by simp[Aq]),sP,sP,?_,rfl⟩;rw[show fe (le (List.replicate 32 0))-fe (le a)= -fe (le a)from by rw[show fe (le (List.replicate 32 0))=0 by kernel_rfl];grind]
theorem oneT_l:oneT.length=10:=rfl
theorem r3_Power(x:List Nat)(e:List UInt8)(hx:Fit10 x)(he:e.length=32):Mv 326 [agg (Bn x),agg (Aa e)] (fun _=>True) (agg (Bn (powT x (le e) 256))):=by
 intro W hW;have hxl:=hx.len;have hE:=le32 he;obtain⟨U,hU⟩:∃U,Hid (powT x (le e) 256=U):=⟨_,⟨rfl⟩⟩;have hUl:U.length=10:=by rw[←hU.out];exact(powT_ok hx hE 256 (Lae _)).1.len
 rw[hU.out];have hpl:=hUl;refine Ac func326 J 29 ntmps326 J (G3 ?_);intro n2 hn2 hf2;refine G1 ?_;intro n3 hn3 hf3;refine .alloc (cs:=(B9 (List.replicate 10 0))) J Zr262 J ?_;intro n4 hn4 hf4;refine G4 ?_;refine .build (cs:=Bn oneT) J J J (fun w=>by kernel_rfl) ?_;refine .alloc (cs:=(B9 (List.replicate 10 0))) J Zr262 J ?_;intro n5 hn5 hf5;refine .sA J J J J (by exact Cp _) Sz262 (by(simp[Al,oneT_l];done)) Z0 sP zU ?_;refine G9 ?_;refine .loop (ι:=Nat) (fun j=>⟨[(2,ptr n2 0),(3,ptr n3 0),(4,ptr n4 0),(5,ptr n5 0),(6,i64 (255-(j:Int)))],[⟨n5,Bn (powT x (le e) j),262,10⟩,⟨n4,(B9 (List.replicate 10 0)),262,10⟩,⟨n3,Aa e,207,(Aa e).length⟩,⟨n2,Bn x,262,(Bn x).length⟩]⟩) (fun j=>j≤256) (fun j=>256-j) (0) ?_ ?_ ?_
 ·omega
 ·exact Ad wN (wh1 (by rw[show powT x (le e) 0=oneT from rfl];exact Bp) (wh1 Z1 (wh1 Z2 (wh1 Z3 wh0)))) nD
 rintro j hj;obtain⟨hfit,hfv⟩:=powT_ok hx hE j hj;have hpl:=hfit.len;have hml:(mulT (powT x (le e) j) (powT x (le e) j)).length=10:=mulT_length _ _;refine G7 ?_;refine .condP J (fun hc0=>?_) (fun hc0=>?_)
 ·
  have hj2:j<256:=by omega
  rw[show(255:Int)-(j:Int)=((255-j:Nat):Int) by omega];refine G6 ?_;refine .lA J J J Co J Sz262 Z0 (by(simp[Al,hpl];done)) ?_;refine .lA J J J Co J Sz262 Z0 (by(simp[Al,hpl];done)) ?_;refine .cV J J J J Body305 (r3_Times _ _ hfit hfit) tV (.sA J J J J (by exact Cp _) Sz262 (by(simp[Al,mulT_length];done)) Z0 (by(simp[Al,hpl];done)) zU ?_);refine G5 ?_;refine .quoN (255-j) (8) J J J J ⟨by decide,by omega⟩ ?_;refine .i1 J J J J Y207.h Sz5 _ J oM (G2 ?_);refine .remN (255-j) (8) J J J J dE (G1 ?_);refine .shr_u8 J J J J ((255-j)%8) (by rw[Cg _ oM]) oM ?_;refine .rem_u8 J J J J 2 J dE (G3 ?_);refine .condP J (fun hc1=>?_) (fun hc1=>?_)
  ·
   have hbt:=bit_is hc1;refine .region (.lA J J J Co J Sz262 Z0 (by(simp[Al,mulT_length];done)) ?_);refine .lA J J J Co J Sz262 Z3 (by(simp[Al,hxl];done)) ?_;refine .cV J J J J Body305 (r3_Times _ _ (Bh hfit hfit) hx) tV (.sA J J J J (by exact Cp _) Sz262 (by(simp[Al,mulT_length];done)) Z0 (by(simp[Al,mulT_length];done)) zU ?_);refine G9 ?_;exact⟨j+1,by omega,by omega,Ad (wk1 rfl (wk1 rfl (wk1 rfl (wk1 rfl (wk1 (congrArg (fun z=>some (i64 z)) (show((255-j:Nat):Int)-1=255-((j+1:Nat):Int) by omega)) wk0))))) (wh1 (by(rw[powT_t hbt];exact Bp)) (wh1 Z1 (wh1 Z2 (wh1 Z3 wh0)))) nD⟩
  have hbf:=bit_isn hc1;refine G9 ?_;exact⟨j+1,by omega,by omega,Ad (wk1 rfl (wk1 rfl (wk1 rfl (wk1 rfl (wk1 (congrArg (fun z=>some (i64 z)) (show((255-j:Nat):Int)-1=255-((j+1:Nat):Int) by omega)) wk0))))) (wh1 (by(rw[powT_f hbf];exact Bp)) (wh1 Z1 (wh1 Z2 (wh1 Z3 wh0)))) nD⟩
 rw[show powT x (le e) j=U from by rw[show j=256 by omega];exact hU.out];refine G7 ?_;refine .lA J J J Co J Sz262 Z0 (by(simp[Al,hUl];done)) ?_;refine .sA J J J J (by exact Cp _) Sz262 (by(simp[Al,hUl];done)) Z1 sP zV ?_;refine G2 ?_;refine G2 ?_;refine⟨_,[],Am J J Co J Sz262 Z1 (by simp[Al,hUl]),sP,sP,?_,rfl⟩;rfl
theorem pow_ab{a e:List UInt8}(ha:a.length=32)(he:e.length=32):fe (v10 (powT (openT (le a)) (le e) 256))=Cy (fe (le a)) (le e):=by rw[powT_all (o_fit ha) (le32 he),o_v ha]
theorem r3_Pow(a e:List UInt8)(ha:a.length=32)(he:e.length=32):Mv 309 [agg (Aa a),agg (Aa e)] (fun _=>True) (agg (Aa (fb (Cy (fe (le a)) (le e))))):=by
 intro W hW;refine Ac func309 J 10 ntmps309 J (G3 ?_);intro n2 hn2 hf2;refine G1 ?_;intro n3 hn3 hf3;refine .alloc (cs:=(Aa (List.replicate 32 0))) J A8 J ?_;intro n4 hn4 hf4;refine G3 ?_;refine .draw (oP [100,102,301,303,304,405]) Ao zK (.lA J J J Y207.h J Sz207 Z2 (by(simp[ha];done)) ?_);refine .lA J J J Y207.h J Sz207 Z1 (by(simp[he];done)) ?_;refine .cV J J J J Body258 (r3_Open (a) (ha)) tV (.cV J J J J Body326 (r3_Power (_) (e) (o_fit ha) (he)) tV (.cV J J J J Body308 (r3_Close_v (_) ((powT_ok (o_fit ha) (le32 he) 256 (Lae _)).1) (_) (pow_ab ha he)) tV (.sA J J J J zE Sz207 zF Z0 sP zU ?_)));refine G2 ?_;refine G2 ?_;refine⟨_,[],Am J J Y207.h J Sz207 Z0 (by simp[Aq]),sP,sP,?_,rfl⟩;rfl
theorem half_rem{p:UInt8}:((UInt8.ofNat (p.toNat%2)).toNat:Int)=1↔p.toNat%2=1:=by
  rw[Lb1];omega
theorem ones_three(n:Nat):((List.replicate 32 (255:UInt8)).set 0 (UInt8.ofNat (237-n))).set 31 127=leb 32 (le (onesB (UInt8.ofNat (237-n)) 127)/2^0):=by
  rw[Lde,Lej,ones_leb];rfl
theorem half_pow(V j:Nat):leb 32 (V/2^(j+1))=Ci (V/2^j) 32:=by
  rw[halfAt_end,Lav,←Lb8]
theorem r3_shifted(n k:Nat)(hn:n≤237)(hk:k≤9):Mv 310 [i64 (n:Int),i64 (k:Int)] (fun _=>True) (agg (Aa (expT n k))):=by
 intro W hW;obtain⟨V,hV⟩:∃V,Hid (le (onesB (UInt8.ofNat (237-n)) 127)=V):=⟨_,⟨rfl⟩⟩;have hV2:V<2^256:=by rw[←hV.out];exact le32 (onesB_length _ _)
 have hx:expT n k=leb 32 (V/2^k):=by rw[expT,hV.out]
 rw[hx];have hon:=ones_three n;rw[hV.out]at hon;have hhl:True:=trivial;have hsl:True:=trivial;refine Ac func310 J 50 ntmps310 J (G2 ?_);refine .alloc (cs:=(Aa (List.replicate 32 0))) J A8 J ?_;intro n4 hn4 hf4;refine G4 ?_;refine .alloc (cs:=(Aa (List.replicate 32 0))) J A8 J ?_;intro n5 hn5 hf5;refine G9 ?_;refine .loop (ι:=Nat) (fun i=>⟨[(0,i64 (n:Int)),(1,i64 (k:Int)),(4,ptr n4 0),(5,ptr n5 0),(6,i64 (i:Int))],[⟨n5,Aa (List.replicate i 255++List.replicate (32-i) 0),207,32⟩,⟨n4,Aa (List.replicate 32 0),207,32⟩]⟩) (fun i=>i≤32) (fun i=>32-i) (0) ?_ ?_ ?_
 ·omega
 ·exact Ad wN (wh1 Z0 (wh1 Z1 wh0)) nD
 rintro i hi;refine G7 ?_;refine .condP J (fun hc0=>?_) (fun hc0=>?_)
 ·
  have hi2:i<32:=by omega
  refine G6 ?_;refine .i1 J J J J Y207.h Sz5 _ J oM (.s1 J J J (show Ag _ _=some (u8 255)from rfl) J Sz5 Z0 (by(simp;omega)) (by exact Bi _ _ _) zU ?_);refine G9 ?_;exact⟨i+1,by omega,by omega,Ad wN (wh1 (by rw[←ones_step hi2];exact Bp) (wh1 Z1 wh0)) nD⟩
 obtain rfl:i=32:=by omega
 rw[show((List.replicate 32 255++List.replicate (32-32) 0):List UInt8)=List.replicate 32 255 from rfl];refine G8 ?_;refine .subN (237) (n) J J J J oM (G1 ?_);refine .i1 J J J J Y207.h Sz5 0 J dE ?_;rw[byteOf_nat];refine .s1 J J J J J Sz5 Z0 sP (by exact Bi _ _ _) zU ?_;refine .i1 J J J J Y207.h Sz5 31 J dE (.s1 J J J (show Ag _ _=some (u8 127)from rfl) J Sz5 Z0 sP (by exact Bi _ _ _) zU ?_);refine G4 ?_;refine .loop (ι:=Nat) (fun j=>⟨[(1,i64 ((k:Int)-(j:Int))),(4,ptr n4 0),(5,ptr n5 0)],[⟨n5,Aa (leb 32 (V/2^j)),207,32⟩,⟨n4,Aa (List.replicate 32 0),207,32⟩]⟩) (fun j=>j≤k) (fun j=>k-j) (0) ?_ ?_ ?_
 ·exact Laj _
 ·exact Ad (wk1 (congrArg (fun z=>some (i64 z)) (show(k:Int)=(k:Int)-((0:Nat):Int) by omega)) wN) (wh1 (by rw[←hon];exact Bp) (wh1 Z1 wh0)) nD
 rintro j hj;refine G7 ?_;refine .condP J (fun hc1=>?_) (fun hc1=>?_)
 ·
  have hVj:V/2^j<2^256:=Le4 (Lco _ _) hV2;refine G10 ?_;refine .loop (ι:=Nat) (fun i=>⟨[(1,i64 ((k:Int)-(j:Int))),(4,ptr n4 0),(5,ptr n5 0),(7,i64 (i:Int))],[⟨n5,Aa (Ci (V/2^j) i),207,32⟩,⟨n4,Aa (List.replicate 32 0),207,32⟩]⟩) (fun i=>i≤32) (fun i=>32-i) (0) ?_ ?_ ?_
  ·omega
  ·exact Ad wN (wh1 (by rw[halfAt_zero];exact Bp) (wh1 Z1 wh0)) nD
  rintro i hi;have hhl:=halfAt_length (V/2^j) i hi;have hsl:((Ci (V/2^j) i).set i (UInt8.ofNat (((Ci (V/2^j) i).getD i 0).toNat/2))).length=32:=by rw[Lc0];exact hhl
  refine G7 ?_;refine .condP J (fun hc2=>?_) (fun hc2=>?_)
  ·
   have hi2:i<32:=by omega
   refine G8 ?_;refine .i1 J J J J Y207.h Sz5 _ J oM (G1 ?_);refine .quo_u8 J J J J 2 J dE (.i1 J J J J Y207.h Sz5 _ J oM (.s1 J J J J J Sz5 Z0 (by(simp[hhl];omega)) (by exact Bi _ _ _) zU ?_));refine G5 ?_;refine two (fun r hr k=>Tr.lss J J J J hr k) (fun hs13_10=>?_) (fun hs13_10=>?_)
   ·
    have hs13_1:=of_decide_eq_true hs13_10;refine G2 ?_;refine .addN (i) (1) J J J J oM (.i1 J J J J Y207.h Sz5 _ J oM (G1 ?_));refine .rem_u8 J J J J 2 J dE (two (fun r hr k=>Tr.eqi J J J J hr k) (fun hs13_80=>?_) (fun hs13_80=>?_))
    ·
     have hs13_8:=of_decide_eq_true hs13_80;refine G3 ?_;refine .cond_t J J (G3 ?_);refine .i1 J J J J Y207.h Sz5 _ J oM (G1 ?_);refine .add_u8 J J J (show Ag _ _=some (u8 128)from rfl) (.i1 J J J J Y207.h Sz5 _ J oM (.s1 J J J J J Sz5 Z0 (by(simp[hhl];omega)) (by exact Bi _ _ _) zU ?_));refine G9 ?_;exact⟨i+1,by omega,by omega,Ad wN (wh1 (by(rw[←half_odd (V/2^j) oM (half_rem.1 hs13_8)];exact Bp)) (wh1 Z1 wh0)) nD⟩
    have hs13_8:=of_decide_eq_false hs13_80;refine G3 ?_;refine .cond_f J J (G9 ?_);exact⟨i+1,by omega,by omega,Ad wN (wh1 (by(rw[←half_even (V/2^j) oM (fun e=>hs13_8 (half_rem.2 e))];exact Bp)) (wh1 Z1 wh0)) nD⟩
   have hs13_1:=of_decide_eq_false hs13_10;refine G10 ?_;refine .cond_f J J (G9 ?_);exact⟨i+1,by omega,by omega,Ad wN (wh1 (by(rw[show i=31 by omega,←half_last _ hVj];exact Bp)) (wh1 Z1 wh0)) nD⟩
  refine G12 ?_;exact⟨j+1,by omega,by omega,Ad (wk1 (congrArg (fun z=>some (i64 z)) (show(k:Int)-(j:Int)-1=(k:Int)-((j+1:Nat):Int) by omega)) wN) (wh1 (by rw[half_pow,show(32:Nat)=i by omega];exact Bp) (wh1 Z1 wh0)) nD⟩
 obtain rfl:j=k:=by omega
 refine G7 ?_;refine .lA J J J Y207.h J Sz207 Z0 (by(simp[Ak];done)) ?_;refine .sA J J J J zE Sz207 (by(simp[Ak];done)) Z1 sP zV ?_;refine G2 ?_;refine G2 ?_;refine⟨_,[],Am J J Y207.h J Sz207 Z1 (by simp[Ak]),sP,sP,?_,rfl⟩;rfl
theorem r3_Pow_e(a e:List UInt8)(ha:a.length=32)(he:e.length=32)(N:Nat)(X:Fp)(hN:le e=N)(hX:fe (le a)=X):Mv 309 [agg (Aa a),agg (Aa e)] (fun _=>True) (agg (Aa (fb (Cy X N)))):=by
  rw[←hN,←hX];exact r3_Pow a e ha he
theorem r3_Inv(a:List UInt8)(ha:a.length=32):Mv 266 [agg (Aa a)] (fun _=>True) (agg (Aa (fb (finv (fe (le a)))))):=by
 intro W hW;obtain⟨E,hE⟩:∃E,Hid (expT 2 0=E):=⟨_,⟨rfl⟩⟩;have hEl:E.length=32:=by rw[←hE.out];exact expT_length _ _
 have hs:=r3_shifted 2 0 dE dE;rw[hE.out]at hs;have hp:=r3_Pow_e a E ha hEl (PF-2) _ (by rw[←hE.out];exact expT_inv) rfl;rw[show Cy (fe (le a)) (PF-2)=finv (fe (le a))from rfl]at hp;obtain⟨R,hR⟩:∃R,Hid (finv (fe (le a))=R):=⟨_,⟨rfl⟩⟩;rw[hR.out]at hp ⊢;refine Ac func266 J 6 ntmps266 J (G3 ?_);intro n1 hn1 hf1;refine .alloc (cs:=(Aa (List.replicate 32 0))) J A8 J ?_;intro n2 hn2 hf2;refine G3 ?_;refine .draw (oP [100,301,302,403]) Ao zK (.lA J J J Y207.h J Sz207 Z1 (by(simp[ha];done)) ?_);refine .cV J J J J Body310 (hs) tV (.cV J J J J Body309 (hp) tV (.sA J J J J zE Sz207 zF Z0 sP zU ?_));refine G2 ?_;refine G2 ?_;refine⟨_,[],Am J J Y207.h J Sz207 Z0 (by simp[Aq]),sP,sP,?_,rfl⟩;rfl
end Go.Proofs.YtpogmfngccolbaaGreat
namespace Go.Proofs.YtpogmfngccolbaaGreat
open Go Hw _root_.Go.Proofs.Tryz
theorem ref_L  :Mv 255 [] (fun _=>True) (agg (Aa (leb 32 L))):=by
 intro W hW;refine Ac func255 J 2 ntmps255 J (G2 ?_);refine .alloc (cs:=(Aa (List.replicate 32 0))) J A8 J ?_;intro n0 hn0 hf0;refine G4 ?_;refine .build (cs:=Aa (leb 32 L)) J J J (fun w=>by kernel_rfl) ?_;refine .sA J J J J zB Sz207 (by(simp[Ak];done)) Z0 sP zU ?_;refine G2 ?_;refine G2 ?_;refine⟨_,[],Am J J Y207.h J Sz207 Z0 (by simp[Ak]),sP,sP,?_,rfl⟩;rfl
theorem ref_below(a b:List UInt8)(ha:a.length=32)(hb:b.length=32):Mv 254 [agg (Aa a),agg (Aa b)] (fun _=>True) (.bool (decide (le a<le b))):=by
  intro W hW;refine Ac func254 J 24 ntmps254 J (G3 ?_);intro n2 hn2 hf2;refine G1 ?_;intro n3 hn3 hf3;refine G10 ?_;refine .loop (ι:=Nat) (fun k=>⟨[(2,ptr n2 0),(3,ptr n3 0),(5,i64 (31-(k:Int)))],[⟨n3,Aa b,207,(Aa b).length⟩,⟨n2,Aa a,207,(Aa a).length⟩]⟩) (fun k=>k≤32∧a.drop (32-k)=b.drop (32-k)) (fun k=>32-k) (0) ?_ ?_ ?_
  ·exact⟨by omega,by rw[Lap oM,Lap oM]⟩
  ·exact Ad wN (wh1 Z0 (wh1 Z1 wh0)) nD
  rintro k ⟨hk,hd⟩;refine G7 ?_;refine .condP J (fun hc0=>?_) (fun hc0=>?_)
  ·
    have hk2:k<32:=by omega
    refine G5 ?_;refine .draw (oP [0,1,102,3,4,105,6]) Ao zK (G1 ?_);refine .i1 J J J J Y207.h Sz5 (31-k) oM oM (G2 ?_);refine .i1 J J J J Y207.h Sz5 (31-k) oM oM (G4 ?_);refine .condNP J (fun hc1=>?_) (fun hc1=>?_)
    ·
      have hlt:=le_lt_at ha hb (i:=31-k) oM (by rw[show 31-k+1=32-k by omega];exact hd) oM;refine .seq (.draw (oP [0,1,102,3,4,105,6,7]) Ao zK (G1 ?_));refine .i1 J J J J Y207.h Sz5 (31-k) oM oM (G2 ?_);refine .i1 J J J J Y207.h Sz5 (31-k) oM oM (G5 ?_);refine G7 ?_;refine⟨_,[],Ae J J,sP,sP,?_,rfl⟩;first
        |(rw[show decide (le a<le b)=decide (((a.getD (31-k) 0).toNat:Int)<((b.getD (31-k) 0).toNat:Int))from decide_eq_decide.2 (hlt.symm.trans oM)])
        | (have he:a=b:=by simpa using hd
           rw[he,decide_eq_false (Nat.lt_irrefl _)])
    refine G9 ?_;exact⟨k+1,⟨by omega,drop_step ha hb oM (by rw[show 32-(k+1)+1=32-k by omega];exact hd) (by rw[show 32-(k+1)=31-k by omega];omega)⟩,by omega,Ad (wk1 rfl (wk1 rfl (wk1 (by rw[show(31-((k+1:Nat):Int))=31-(k:Int)-1 by omega];rfl) wk0))) (wh1 Z0 (wh1 Z1 wh0)) nD⟩
  obtain rfl:k=32:=by omega
  refine G10 ?_;refine G2 ?_;refine⟨_,[],Ae J J,sP,sP,?_,rfl⟩;first
    |(rw[show decide (le a<le b)=decide (((a.getD (31-k) 0).toNat:Int)<((b.getD (31-k) 0).toNat:Int))from decide_eq_decide.2 (hlt.symm.trans oM)])
    | (have he:a=b:=by simpa using hd
       rw[he,decide_eq_false (Nat.lt_irrefl _)])
theorem ref_plus(a b:List UInt8)(ha:a.length=32)(hb:b.length=32)(hla:le a<L)(hlb:le b<L):Mv 313 [agg (Aa a),agg (Aa b)] (fun _=>True) (agg (Aa (leb 32 ((le a+le b)%L)))):=by
 intro W hW;have hL:L<2^253:=by decide
 refine Ac func313 J 61 ntmps313 J (G3 ?_);intro n2 hn2 hf2;refine G1 ?_;intro n3 hn3 hf3;refine .alloc (cs:=(Aa (List.replicate 32 0))) J A8 J ?_;intro n4 hn4 hf4;refine G4 ?_;refine .alloc (cs:=(Aa (List.replicate 32 0))) J A8 J ?_;intro n5 hn5 hf5;refine G7 ?_;refine .join (ι:=Unit) (fun _u=>⟨[(4,ptr n4 0),(5,ptr n5 0)],[⟨n5,Aa (leb 32 (le a+le b)),207,32⟩,⟨n4,Aa (List.replicate 32 0),207,32⟩]⟩) (fun _u=>True) ?_ ?_
 ·
  refine G6 ?_;refine .loop (ι:=Nat) (fun k=>⟨[(2,ptr n2 0),(3,ptr n3 0),(4,ptr n4 0),(5,ptr n5 0),(6,i64 (((le (a.take k)+le (b.take k))/256^k:Nat):Int)),(7,i64 (k:Int))],[⟨n5,Aa (padW 32 (le (a.take k)+le (b.take k)) k),207,32⟩,⟨n4,Aa (List.replicate 32 0),207,32⟩,⟨n3,Aa b,207,(Aa b).length⟩,⟨n2,Aa a,207,(Aa a).length⟩]⟩) (fun k=>k≤32) (fun k=>32-k) (0) ?_ ?_ ?_
  ·omega
  ·exact Ad (wk1 rfl (wk1 rfl (wk1 rfl (wk1 rfl (wk1 (by rw[Ldu,Ldu];rfl) wN))))) (wh1 (by rw[padW_zero];exact Bp) (wh1 Z1 (wh1 Z2 (wh1 Z3 wh0)))) nD
  rintro k hk;have hpl:=padW_length 32 (le (a.take k)+le (b.take k)) k hk;have hcb:(le (a.take k)+le (b.take k))/256^k≤1:=by
   have h1:=le_take_lt a k;have h2:=le_take_lt b k;rw[←Nat.lt_succ_iff,Ld4 (Lbe dE)];omega
  have hcn:(0:Int)≤(((le (a.take k)+le (b.take k))/256^k:Nat):Int):=Ldk _;have hcb2:(((le (a.take k)+le (b.take k))/256^k:Nat):Int)≤1:=Int.ofNat_le.2 hcb;refine G7 ?_;refine .condP J (fun hc0=>?_) (fun hc0=>?_)
  ·
   have hk2:k<32:=by omega
   have ha8:=(a.getD k 0).toNat_lt;have hb8:=(b.getD k 0).toNat_lt;have hs:(((le (a.take k)+le (b.take k))/256^k:Nat):Int)+((a.getD k 0).toNat:Int)+((b.getD k 0).toNat:Int)=(((le (a.take k)+le (b.take k))/256^k+((a.getD k 0).toNat+(b.getD k 0).toNat):Nat):Int):=by rw[Lbr,Lbr,Int.add_assoc]
   refine G5 ?_;refine .draw (oP [0,1,2,103,4,5,6,7,108,9,10,11]) Ao zK (G2 ?_);refine .i1 J J J J Y207.h Sz5 _ J oM (G4 ?_);refine .i1 J J J J Y207.h Sz5 _ J oM (G10 ?_);refine .rem_i64 J J J J oM (G1 ?_);refine .i1 J J J J Y207.h Sz5 _ J oM (.s1 J J J J J Sz5 Z0 (by(simp;omega)) (by exact Bi _ _ _) zU ?_);refine G4 ?_;refine .quo_i64 J J J J oM (G10 ?_);have hst:le (a.take (k+1))+le (b.take (k+1))=(le (a.take k)+le (b.take k))+256^k*((a.getD k 0).toNat+(b.getD k 0).toNat):=by
    rw[le_take_succ a k oM,le_take_succ b k oM,Lc9];omega
   exact⟨k+1,by omega,by omega,Ad (wk1 rfl (wk1 rfl (wk1 rfl (wk1 rfl (wk1 (by rw[hst,←carry_step _ _ _ _ hs];rfl) wN))))) (wh1 (by rw[hst,←padW_step 32 _ _ k oM _ hs,byteOf_mod];exact Bp) (wh1 Z1 (wh1 Z2 (wh1 Z3 wh0)))) nD⟩
  obtain rfl:k=32:=by omega
  have hta:le (a.take 32)=le a:=by rw[La5 oM]
  have htb:le (b.take 32)=le b:=by rw[La5 oM]
  refine G5 ?_;refine⟨(),trivial,Ad wN (wh1 (by rw[←padW_all,←hta,←htb];exact Bp) (wh1 Z1 wh0)) nD⟩
 intro _u hj;skip;refine G2 ?_;refine .draw (oP [100,301,302]) Ao zK (.lA J J J Y207.h J Sz207 Z0 (by(simp[Ak];done)) ?_);refine .cV J J J J Body255 (ref_L) tV (.cV J J J J Body254 (ref_below _ _ (by simp[Ak]) (by simp[Ak])) tV ?_);refine G2 ?_;refine .condP J (fun hc1=>?_) (fun hc1=>?_)
 ·
  have hS:le a+le b<L:=by rw[le_leb32 oM,le_leb32 L_lt]at hc1;exact hc1
  refine G2 ?_;refine .lA J J J Y207.h J Sz207 Z0 (by(simp[Ak];done)) ?_;refine .sA J J J J zB Sz207 (by(simp[Ak];done)) Z1 sP zV ?_;refine G2 ?_;refine G3 ?_;refine⟨_,[],Am J J Y207.h J Sz207 Z1 (by simp[Ak]),sP,sP,?_,rfl⟩
  (rw[Lab hS];done)
 have hge:L≤le a+le b:=by rw[le_leb32 oM,le_leb32 L_lt]at hc1;exact Nat.le_of_not_lt hc1
 refine G4 ?_;refine .cV J J J J Body255 (ref_L) tV (.alloc (cs:=(Aa (List.replicate 32 0))) J A8 J ?_);intro n8 hn8 hf8;refine .sA J J J J zB Sz207 (by(simp[Ak];done)) Z0 sP zU ?_;refine G14 ?_;refine .loop (ι:=Nat) (fun k=>⟨[(4,ptr n4 0),(5,ptr n5 0),(8,ptr n8 0),(6,i64 (-((bor (le a+le b-L) L k:Nat):Int))),(9,i64 (k:Int))],[⟨n8,Aa (leb 32 L),207,32⟩,⟨n5,Aa (subB (le a+le b-L) L k),207,32⟩,⟨n4,Aa (List.replicate 32 0),207,32⟩]⟩) (fun k=>k≤32) (fun k=>32-k) (0) ?_ ?_ ?_
 ·omega
 ·exact Ad (wk1 rfl (wk1 rfl (wk1 rfl (wk1 (by rw[bor_zero];rfl) wN)))) (wh1 Z0 (wh1 (by rw[subB_zero,Nat.sub_add_cancel hge];exact mem1) (wh1 Z2 wh0))) nD
 rintro k hk;have hpl:=subB_length (le a+le b-L) L k hk;have hbl:=bor_le (le a+le b-L) L k;refine G7 ?_;refine .condP J (fun hc2=>?_) (fun hc2=>?_)
 ·
  have hk3:k<32:=by omega
  have hx8:=((subB (le a+le b-L) L k).getD k 0).toNat_lt;have hy8:=((leb 32 L).getD k 0).toNat_lt;have hJ:(((subB (le a+le b-L) L k).getD k 0).toNat:Int)-(((leb 32 L).getD k 0).toNat:Int)+ -((bor (le a+le b-L) L k:Nat):Int)=(((le a+le b-L+L)/256^k%256:Nat):Int)-((L/256^k%256:Nat):Int)+ -((bor (le a+le b-L) L k:Nat):Int):=by rw[subB_get _ _ k hk3,leb_getD 32 L k hk3,ofNat8_toNat,ofNat8_toNat]
  have hbn:=bor_next _ _ k _ hJ;refine G2 ?_;refine .join (ι:=Unit) (fun _u=>⟨[(4,ptr n4 0),(5,ptr n5 0),(8,ptr n8 0),(6,i64 (-((bor (le a+le b-L) L (k+1):Nat):Int))),(9,i64 (k:Int))],[⟨n8,Aa (leb 32 L),207,32⟩,⟨n5,Aa (subB (le a+le b-L) L (k+1)),207,32⟩,⟨n4,Aa (List.replicate 32 0),207,32⟩]⟩) (fun _u=>True) ?_ ?_
  ·
   refine G2 ?_;refine .draw (oP [0,1,102,3,4,5,106,7,8,9,10,11]) Ao zK (G1 ?_);refine .i1 J J J J Y207.h Sz5 _ J oM (G3 ?_);refine .i1 J J J J Y207.h Sz5 _ J oM (.load1 J J J Y5.h J Z0 (by exact B0 (by(simp[Ak];omega))) ?_);refine G12 ?_;refine .rem_i64 J J J J oM (G1 ?_);refine .i1 J J J J Y207.h Sz5 _ J oM (.s1 J J J J J Sz5 Z1 (by(simp;omega)) (by exact Bi _ _ _) zV ?_);refine G8 ?_;refine .condP J (fun hc3=>?_) (fun hc3=>?_)
   ·
    have hn3:=hbn.1 hc3;refine G5 ?_;refine⟨(),trivial,Ad (wk1 J (wk1 J (wk1 J (wk1 (by rw[hn3];rfl) wN)))) (wh1 Z0 (wh1 (by rw[←subB_step _ _ k hk3 _ hJ,byteOf_mod];exact mem1) (wh1 Z2 wh0))) nD⟩
   have hn3:=hbn.2 hc3;refine G5 ?_;refine⟨(),trivial,Ad (wk1 J (wk1 J (wk1 J (wk1 (by rw[hn3];rfl) wN)))) (wh1 Z0 (wh1 (by rw[←subB_step _ _ k hk3 _ hJ,byteOf_mod];exact mem1) (wh1 Z2 wh0))) nD⟩
  intro _u hj;skip;refine G6 ?_;exact⟨k+1,by omega,by omega,Ad wN (wh1 Z0 (wh1 Z1 (wh1 Z2 wh0))) nD⟩
 obtain rfl:k=32:=by omega
 refine G7 ?_;refine .lA J J J Y207.h J Sz207 Z1 (by(simp[Ak,subB_all];done)) ?_;refine .sA J J J J zB Sz207 (by(simp[Ak,subB_all];done)) Z2 sP (by exact upd2) ?_;refine G2 ?_;refine G2 ?_;refine⟨_,[],Am J J Y207.h J Sz207 Z2 (by simp[Ak,subB_all]),sP,sP,?_,rfl⟩
 (rw[subB_all,Nat.mod_eq_sub_mod hge,Lab (a:=le a+le b-L) oM])
theorem ref_plus_n(x y:Nat)(hx:x<L)(hy:y<L):Mv 313 [agg (Aa (leb 32 x)),agg (Aa (leb 32 y))] (fun _=>True) (agg (Aa (leb 32 ((x+y)%L)))):=by
  have e1:=le_leb32 (Ld9 hx L_lt);have e2:=le_leb32 (Ld9 hy L_lt);have:=ref_plus (leb 32 x) (leb 32 y) (Ak 32 x) (Ak 32 y) (by rw[e1];exact hx) (by rw[e2];exact hy);rw[e1,e2]at this;exact this
theorem ref_plus_one(x:Nat)(hx:x<L):Mv 313 [agg (Aa (leb 32 x)),agg (Aa ((List.replicate 32 0).set 0 1))] (fun _=>True) (agg (Aa (leb 32 ((x+1)%L)))):=by
  have e1:=le_leb32 (Ld9 hx L_lt);have:=ref_plus (leb 32 x) ((List.replicate 32 0).set 0 1) (Ak 32 x) sP (by rw[e1];exact hx) (by rw[le_one'];decide);rw[e1,le_one']at this;exact this
theorem ref_rest(b o c n:Nat)(xs:List UInt8)(hx:xs.length=n)(hn:n≤1000000):Mv 311 [.slice (some ⟨b,o,none⟩) n c] (fun W=>Cd W b o (Aa xs)) (agg (Aa (leb 32 (le xs%L)))):=by
 intro W hW;refine Ac func311 J 33 ntmps311 J (G2 ?_);refine .alloc (cs:=(Aa (List.replicate 32 0))) J A8 J ?_;intro n2 hn2 hf2;refine G4 ?_;refine .alloc (cs:=(Aa (List.replicate 32 0))) J A8 J ?_;intro n3 hn3 hf3;refine .alloc (cs:=(Aa (List.replicate 32 0))) J A8 J ?_;intro n4 hn4 hf4;refine G4 ?_;refine .i1 J J J J Y207.h Sz5 0 J dE (.s1 J J J (show Ag _ _=some (u8 1)from rfl) J Sz5 Z0 sP (by exact Bi _ _ _) zU ?_);refine G7 ?_;refine .mul_i64 J J J J oM (G5 ?_);refine .loop (ι:=Nat) (fun k=>⟨[(0, .slice (some ⟨b,o,none⟩) n c),(2,ptr n2 0),(3,ptr n3 0),(4,ptr n4 0),(5,i64 (8*(n:Int)-1-(k:Int)))],[⟨n4,Aa ((List.replicate 32 0).set 0 1),207,32⟩,⟨n3,Aa (leb 32 ((le xs/2^(8*n-k))%L)),207,32⟩,⟨n2,Aa (List.replicate 32 0),207,32⟩]⟩) (fun k=>k≤8*n) (fun k=>8*n-k) (0) ?_ ?_ ?_
 ·omega
 ·exact Ad (wk1 rfl (wk1 rfl (wk1 rfl (wk1 rfl (wk1 (by rw[show(8*(n:Int)-1-((0:Nat):Int))=8*(n:Int)-1 by omega];rfl) wk0))))) (wh1 Z0 (wh1 (by rw[Lgc,le_zero_div xs n hx,zero_modL,leb_zero32];exact mem1) (wh1 Z2 wh0))) nD
 rintro k hk;refine G7 ?_;refine .condP J (fun hc0=>?_) (fun hc0=>?_)
 ·
  have hk2:k<8*n:=by omega
  have hdv:=div_bit (le xs) (8*n-(k+1));rw[show 8*n-(k+1)+1=8*n-k by omega]at hdv;have hbr:=bit_rem xs (8*n-(k+1));rw[show 8*n-(k+1)=8*n-1-k by omega]at hbr hdv;refine G2 ?_;refine .join (ι:=Unit) (fun _u=>⟨[(0, .slice (some ⟨b,o,none⟩) n c),(2,ptr n2 0),(3,ptr n3 0),(4,ptr n4 0),(5,i64 (8*(n:Int)-1-(k:Int)))],[⟨n4,Aa ((List.replicate 32 0).set 0 1),207,32⟩,⟨n3,Aa (leb 32 ((le xs/2^(8*n-(k+1)))%L)),207,32⟩,⟨n2,Aa (List.replicate 32 0),207,32⟩]⟩) (fun _u=>True) ?_ ?_
  ·
   refine G3 ?_;refine .lA J J J Y207.h J Sz207 Z1 (by(simp[Ak];done)) ?_;refine .lA J J J Y207.h J Sz207 Z1 (by(simp[Ak];done)) ?_;refine .cV J J J J Body313 (ref_plus_n _ _ (Lbs _ L_pos) (Lbs _ L_pos)) tV (.sA J J J J zB Sz207 (by(simp[Ak];done)) Z1 (by(simp[Ak];done)) zV ?_);refine G6 ?_;refine .quo_i64 J J J J oM (.idxSlO J J J J Y46.h Sz5 ((8*n-1-k)/8) oM oM (.loadE J J J Y5.h J sP (hW _ _ (B0 oM)) (G1 ?_)));refine .rem_i64 J J J J oM (G1 ?_);refine .shr_u8 J J J J ((8*n-1-k)%8) (by rw[Cg _ oM];omega) oM ?_;refine .rem_u8 J J J J 2 J dE (G3 ?_);refine .condP J (fun hc1=>?_) (fun hc1=>?_)
   ·
    have hdb:le xs/2^(8*n-(k+1))=2*(le xs/2^(8*n-k))+1:=by rw[show 8*n-(k+1)=8*n-1-k by omega,hdv,←hbr,if_pos (decide_eq_true hc1)]
    refine .region (.lA J J J Y207.h J Sz207 Z1 (by(simp[Ak];done)) ?_);refine .lA J J J Y207.h J Sz207 Z0 sP ?_;refine .cV J J J J Body313 (ref_plus_one _ (Lbs _ L_pos)) tV (.sA J J J J zB Sz207 (by(simp[Ak];done)) Z1 (by(simp[Ak];done)) zV ?_);refine G3 ?_;refine⟨(),trivial,Ad wN (wh1 Z0 (wh1 (by(rw[hdb,←dbl_mod1];exact mem1)) (wh1 Z2 wh0))) nD⟩
   have hdb:le xs/2^(8*n-(k+1))=2*(le xs/2^(8*n-k)):=by rw[show 8*n-(k+1)=8*n-1-k by omega,hdv,←hbr,if_neg (by simpa using hc1),Lbt]
   refine G3 ?_;refine⟨(),trivial,Ad wN (wh1 Z0 (wh1 (by(rw[hdb,←dbl_mod];exact mem1)) (wh1 Z2 wh0))) nD⟩
  intro _u hj;skip;refine G6 ?_;exact⟨k+1,by omega,by omega,Ad (wk1 rfl (wk1 rfl (wk1 rfl (wk1 rfl (wk1 (by rw[show(8*(n:Int)-1-((k+1:Nat):Int))=8*(n:Int)-1-(k:Int)-1 by omega];rfl) wk0))))) (wh1 Z0 (wh1 Z1 (wh1 Z2 wh0))) nD⟩
 obtain rfl:k=8*n:=by omega
 refine G7 ?_;refine .lA J J J Y207.h J Sz207 Z1 (by(simp[Ak];done)) ?_;refine .sA J J J J zB Sz207 (by(simp[Ak];done)) Z2 sP (by exact upd2) ?_;refine G2 ?_;refine G2 ?_;refine⟨_,[],Am J J Y207.h J Sz207 Z2 (by simp[Ak]),sP,sP,?_,rfl⟩;rw[Lew,Lde,Lej]
theorem ref_Rest(b o c n:Nat)(xs:List UInt8)(hx:xs.length=n)(hn:n≤64):Mv 268 [.slice (some ⟨b,o,none⟩) n c] (fun W=>Cd W b o (Aa xs)) (.tuple #[agg (Aa (leb 32 (le xs%L))),i64 0]):=by
 intro W hW;refine Ac func268 J 10 ntmps268 J (G2 ?_);refine .alloc (cs:=(Aa (List.replicate 32 0))) J A8 J ?_;intro n2 hn2 hf2;refine G8 ?_;refine .gtr J J J J (decide_eq_false oM) (G2 ?_);refine .cond_f J (rfl) (G5 ?_);refine .cV J J J J Body311 (ref_rest _ _ _ n xs hx oM) (fun W h=>sees_ext h sP hW) (.sA J J J J zB Sz207 (by(simp[Ak];done)) Z0 sP zU ?_);refine G3 ?_;refine G2 ?_;refine⟨_,[],Bd J J J Y207.h J Sz207 Z0 (by simp[Ak]),sP,sP,?_,rfl⟩;rfl
theorem ref_bit_at(a:List UInt8)(ha:a.length=32)(k:Nat)(hk:k<256):Mv 262 [agg (Aa a),i64 (k:Int)] (fun _=>True) (.bool ((le a).testBit k)):=by
 intro W hW;refine Ac func262 J 23 ntmps262 J (G3 ?_);intro n2 hn2 hf2;refine G6 ?_;refine .geq J J J J (decide_eq_true oM) (G2 ?_);refine .lss J J J J (decide_eq_true oM) (G3 ?_);refine .quo_i64 J J J J oM (.i1 J J J J Y207.h Sz5 (k/8) oM oM (G2 ?_));refine .rem_i64 J J J J oM (G1 ?_);refine .shr_u8 J J J J (k%8) (by rw[Cg _ oM];omega) oM ?_;refine .rem_u8 J J J J 2 J dE (G5 ?_);refine G2 ?_;refine⟨_,[],Ae J J,sP,sP,?_,rfl⟩;rw[←bit_rem a k];rfl
open Ed
theorem r_mul(x y:Fp):Mv 264 [agg (Aa (fb x)),agg (Aa (fb y))] (fun _=>True) (agg (Aa (fb (x*y)))):=by
  have h:=r3_Mul (fb x) (fb y) (Aq x) (Aq y);rwa[fe_fb x,fe_fb y]at h
theorem r_sub(x y:Fp):Mv 301 [agg (Aa (fb x)),agg (Aa (fb y))] (fun _=>True) (agg (Aa (fb (x-y)))):=by
  have h:=r3_Sub (fb x) (fb y) (Aq x) (Aq y);rwa[fe_fb x,fe_fb y]at h
theorem r_neg(x:Fp):Mv 253 [agg (Aa (fb x))] (fun _=>True) (agg (Aa (fb (-x)))):=by
  have h:=r3_Neg (fb x) (Aq x);rwa[fe_fb x]at h
theorem r_inv(x:Fp):Mv 266 [agg (Aa (fb x))] (fun _=>True) (agg (Aa (fb (finv x)))):=by
  have h:=r3_Inv (fb x) (Aq x);rwa[fe_fb x]at h
theorem r_odd(x:Fp):Mv 312 [agg (Aa (fb x))] (fun _=>True) (.bool (decide (x.val%2=1))):=by
  have h:=r3_Odd (fb x) (Aq x);rwa[fe_fb x]at h
theorem r_canon(x:Fp):Mv 251 [agg (Aa (fb x))] (fun _=>True) (.bool true):=by
  have h:=r3_Canon (fb x) (Aq x);rw[fe_fb x]at h;rwa[decide_eq_true rfl]at h
theorem r_same_raw(x:Fp)(a:List UInt8)(ha:a.length=32):Mv 325 [agg (Aa (fb x)),agg (Aa a)] (fun _=>True) (.bool (decide (x=fe (le a)))):=by
  have h:=r3_Same (fb x) a (Aq x) ha;rwa[fe_fb x]at h
theorem r_of(x:UInt64)(X:Fp)(h:fe x.toNat=X):Mv 265 [u64 x] (fun _=>True) (agg (Aa (fb X))):=by
  rw[←h];exact r3_Of x
theorem r_one:Mv 265 [u64 1] (fun _=>True) (agg (Aa (fb 1))):=r_of 1 1 rfl
theorem r_cA:Mv 265 [u64 121666] (fun _=>True) (agg (Aa (fb cA))):=r_of 121666 cA rfl
theorem r_cB:Mv 265 [u64 121665] (fun _=>True) (agg (Aa (fb cB))):=r_of 121665 cB rfl
theorem r_pow_root(a:List UInt8)(ha:a.length=32)(X:Fp)(hX:fe (le a)=X):Mv 309 [agg (Aa a),agg (Aa (expT 5 3))] (fun _=>True) (agg (Aa (fb (Cy X ((PF-5)/8))))):=r3_Pow_e a _ ha (expT_length _ _) _ X expT_root hX
theorem r_pow_unit:Mv 309 [agg (Aa (fb (fe 2))),agg (Aa (expT 1 2))] (fun _=>True) (agg (Aa (fb (Cy (fe 2) ((PF-1)/4))))):=r3_Pow_e _ _ (Aq _) (expT_length _ _) _ _ expT_unit (fe_fb _)
theorem r_mul_a(p r:Fp)(a:List UInt8)(ha:a.length=32)(h:p*fe (le a)=r):Mv 264 [agg (Aa (fb p)),agg (Aa a)] (fun _=>True) (agg (Aa (fb r))):=by
  have h1:=r3_Mul (fb p) a (Aq p) ha;rwa[fe_fb p,h]at h1
theorem r3_Root(a:List UInt8)(X:Fp)(ha:a.length=32)(hX:fe (le a)=X):Mv 302 [agg (Aa a)] (fun _=>True) (.tuple #[agg (Aa (fb (fRoot X).1)), .bool (fRoot X).2]):=by
 intro W hW;obtain⟨r0,hr0⟩:∃r,Cy X ((PF+3)/8)=r:=⟨_,rfl⟩;obtain⟨un,hun⟩:∃r,Cy (fe 2) ((PF-1)/4)=r:=⟨_,rfl⟩;obtain⟨r1,hr1⟩:∃r,fRoot1 X=r:=⟨_,rfl⟩;have hp0:=r_pow_root a ha X hX;have hstep:=root_step X;obtain⟨p0,hpp⟩:∃r,Cy X ((PF-5)/8)=r:=⟨_,rfl⟩;rw[hpp]at hp0 hstep;rw[hr0]at hstep;have hm0:=r_mul_a p0 r0 a ha (by rw[hX];exact hstep);have hpu:=r_pow_unit;rw[hun]at hpu;have hm:=fun y=>r_same_raw y a ha;rw[hX]at hm;have hr1':r1=if r0*r0=X then r0 else r0*un:=by rw[←hr1,fRoot1,hr0,hun]
 have hR:fRoot X=if r1*r1=X then((if r1.val%2=1 then-r1 else r1),true)else(0,false):=by rw[fRoot,hr1]
 clear hr1 hstep;have hs53:=r3_shifted 5 3 dE dE;have hs12:=r3_shifted 1 2 dE dE;obtain⟨E,hE⟩:∃E,Hid (expT 5 3=E):=⟨_,⟨rfl⟩⟩;obtain⟨G,hG⟩:∃E,Hid (expT 1 2=E):=⟨_,⟨rfl⟩⟩;have hEl:E.length=32:=by rw[←hE.out];exact expT_length _ _
 have hGl:G.length=32:=by rw[←hG.out];exact expT_length _ _
 rw[hE.out]at hs53 hp0;rw[hG.out]at hs12 hpu;refine Ac func302 J 33 ntmps302 J (G3 ?_);intro n1 hn1 hf1;refine .alloc (cs:=(Aa (List.replicate 32 0))) J A8 J ?_;intro n2 hn2 hf2;refine G4 ?_;refine .draw (oP [100,103,301,302,304,205,406]) Ao zK (.lA J J J Y207.h J Sz207 Z1 (by(simp[ha];done)) ?_);refine .lA J J J Y207.h J Sz207 Z1 (by(simp[ha];done)) ?_;refine .cV J J J J Body310 (hs53) tV (.cV J J J J Body309 (hp0) tV (.cV J J J J Body264 (hm0) tV (.alloc (cs:=(Aa (List.replicate 32 0))) J A8 J ?_)));intro n4 hn4 hf4;refine .sA J J J J zE Sz207 zF Z0 sP zU ?_;refine G2 ?_;refine .join (ι:=Unit) (fun _u=>⟨[(1,ptr n1 0),(2,ptr n2 0),(4,ptr n4 0)],[⟨n4,Aa (fb r1),207,32⟩,⟨n2,Aa (List.replicate 32 0),207,32⟩,⟨n1,Aa a,207,(Aa a).length⟩]⟩) (fun _u=>True) ?_ ?_
 ·
  refine .seq (.draw (oP [100,101,103,302,304,5]) Ao zK (G2 ?_));refine .lA J J J Y207.h J Sz207 Z2 (by(simp[ha];done)) ?_;refine .cV J J J J Body264 (r_mul r0 r0) tV (.cV J J J J Body325 (hm (r0*r0)) tV (G3 ?_));refine .condNP J (fun hc0=>?_) (fun hc0=>?_)
  ·
   refine .draw (oP [100,301,302,303,304,405]) Ao zK (G1 ?_);refine .cV J J J J Body265 (r_of 2 (fe 2) J) tV (.cV J J J J Body310 (hs12) tV (.cV J J J J Body309 (hpu) tV (.cV J J J J Body264 (r_mul r0 un) tV (G3 ?_))))
   (rw[hr1',if_neg hc0];exact⟨(),trivial,Ad wN (wh1 Z0 (wh1 Z1 (wh1 Z2 wh0))) nD⟩)
  refine G2 ?_
  (rw[hr1',if_pos hc0];exact⟨(),trivial,Ad wN (wh1 Z0 (wh1 Z1 (wh1 Z2 wh0))) nD⟩)
 intro _u hj;skip;refine G2 ?_;refine .draw (oP [100,101,103,302,304,5]) Ao zK (G2 ?_);refine .lA J J J Y207.h J Sz207 Z2 (by(simp[ha];done)) ?_;refine .cV J J J J Body264 (r_mul r1 r1) tV (.cV J J J J Body325 (hm (r1*r1)) tV (G3 ?_));refine .condNP J (fun hc1=>?_) (fun hc1=>?_)
 ·
  refine G2 ?_;refine .build (cs:=Aa (List.replicate 32 0)) J J J (fun w=>by kernel_rfl) ?_;refine .sA J J J J zE Sz207 sP Z1 sP zV ?_;refine G3 ?_;refine G3 ?_;refine⟨_,[],Bd J J J Y207.h J Sz207 Z1 sP,sP,sP,?_,rfl⟩
  (rw[hR,if_neg hc1,fb_zero];done)
 refine G2 ?_;refine .join (ι:=Unit) (fun _u=>⟨[(2,ptr n2 0),(4,ptr n4 0)],[⟨n4,Aa (fb (if r1.val%2=1 then-r1 else r1)),207,32⟩,⟨n2,Aa (List.replicate 32 0),207,32⟩]⟩) (fun _u=>True) ?_ ?_
 ·
  refine G3 ?_;refine .cV J J J J Body312 (r_odd r1) tV (G2 ?_);refine .condP J (fun hc2=>?_) (fun hc2=>?_)
  ·
   refine G2 ?_;refine .cV J J J J Body253 (r_neg r1) tV (G3 ?_)
   (rw[if_pos hc2];exact⟨(),trivial,Ad wN (wh1 Z0 (wh1 Z1 wh0)) nD⟩)
  refine G2 ?_
  (rw[if_neg hc2];exact⟨(),trivial,Ad wN (wh1 Z0 (wh1 Z1 wh0)) nD⟩)
 intro _u hj;skip;refine G3 ?_;refine .sA J J J J zE Sz207 zF Z1 sP zV ?_;refine G3 ?_;refine G2 ?_;refine⟨_,[],Bd J J J Y207.h J Sz207 Z1 (by simp[Aq]),sP,sP,?_,rfl⟩
 (rw[hR,if_pos hc1];done)
theorem check_eq{P:Pt Fp}(h:cv.on P):cA*(P.y*P.y-P.x*P.x-1)= -(cB*(P.x*P.x*(P.y*P.y))):=by
  have h1:=(cv.on_iff P).1 h;have h2:P.y*P.y-P.x*P.x=1+fD*(P.x*P.x*(P.y*P.y)):=h1;have h3:=fD_cA;rw[h2];generalize P.x*P.x*(P.y*P.y)=q at*;generalize cA=a at*;generalize cB=b at*;generalize fD=d at*;grind
theorem r5_D  :Mv 259 [] (fun _=>True) (agg (Aa (fb fD))):=by
 intro W hW;have hm:=r_mul (-cB) (finv cA);rw[ref_D]at hm;have hi:=r_inv cA;revert hm hi;generalize finv cA=ia;intro hm hi;refine Ac func259 J 6 ntmps259 J (G2 ?_);refine .alloc (cs:=(Aa (List.replicate 32 0))) J A8 J ?_;intro n0 hn0 hf0;refine G4 ?_;refine .cV J J J J Body265 (r_cB) tV (.cV J J J J Body253 (r_neg cB) tV ?_);refine .cV J J J J Body265 (r_cA) tV (.cV J J J J Body266 (hi) tV (.cV J J J J Body264 (hm) tV (.sA J J J J zE Sz207 zF Z0 sP zU ?_)));refine G2 ?_;refine G2 ?_;refine⟨_,[],Am J J Y207.h J Sz207 Z0 (by simp[Aq]),sP,sP,?_,rfl⟩;rfl
theorem r5_Zero  :Mv 257 [] (fun _=>True) (agg (ptc (zero:Pt Fp)).cells):=by
 intro W hW;refine Ac func257 J 3 ntmps257 J (G2 ?_);refine .alloc (cs:=Point.zero.cells) J Point.zr J ?_;intro n0 hn0 hf0;refine G4 ?_;refine .cV J J J J Body265 (r_one) tV (.build (cs:=(⟨fb 0,fb 1⟩:Point).cells) J J J (fun w=>by kernel_rfl) ?_);refine .sA J J J J (Point.isCell (by exact⟨fb32 _,fb32 _⟩)) Sz210 (Point.length (by exact⟨fb32 _,fb32 _⟩)) Z0 (Point.length zZ) zU ?_;refine G2 ?_;refine G2 ?_;refine⟨_,[],Am J J Y210.h J Sz210 Z0 (by exact Point.length (by exact⟨fb32 _,fb32 _⟩)),sP,sP,?_,rfl⟩;rfl
theorem r5_root(Y:Fp):Mv 252 [agg (Aa (fb Y))] (fun _=>True) (.tuple #[agg (Aa (fb (xOf Y).1)), .bool (xOf Y).2]):=by
 intro W hW;have hq:=ref_quot Y;have hxo:xOf Y=fRoot ((Y*Y-1)*finv (fD*(Y*Y)+1)):=rfl;rw[←hq]at hxo;have hinv:=r_inv (cA-cB*(Y*Y));revert hinv hxo;clear hq;generalize finv (cA-cB*(Y*Y))=iz;intro hxo hinv;have hroot:=r3_Root (fb (cA*(Y*Y-1)*iz)) (cA*(Y*Y-1)*iz) (Aq _) (fe_fb _);rw[←hxo]at hroot;clear hxo;revert hroot;generalize xOf Y=xr;intro hroot;refine Ac func252 J 27 ntmps252 J (.sr (.boxA J J ?_));intro n1 hn1 hf1;refine .alloc (cs:=(Aa (List.replicate 32 0))) J A8 J ?_;intro n2 hn2 hf2;refine .a J J J (.nsr (.lA J J J Y207.h J Sz207 Z1 zF ?_));refine .lA J J J Y207.h J Sz207 Z1 zF ?_;refine .cV J J J J Body264 (r_mul Y Y) tV (.alloc (cs:=(Aa (List.replicate 32 0))) J A8 J ?_);intro n4 hn4 hf4;refine .sA J J J J zE Sz207 zF Z0 sP zU ?_;refine .na (.seq (.draw (oP [101,300,302,303,304,205,406]) Ao zK (.lA J J J Y207.h J Sz207 Z0 zF ?_)));refine .cV J J J J Body265 (r_cA) tV (.cV J J J J Body265 (r_one) tV (.cV J J J J Body301 (r_sub (Y*Y) 1) tV (.cV J J J J Body264 (r_mul cA (Y*Y-1)) tV (.alloc (cs:=(Aa (List.replicate 32 0))) J A8 J ?_))));intro n5 hn5 hf5;refine .sA J J J J zE Sz207 zF Z0 sP zU ?_;refine .na (.seq (.draw (oP [102,300,301,303,304,205,406]) Ao zK (.lA J J J Y207.h J Sz207 Z1 zF ?_)));refine .cV J J J J Body265 (r_cA) tV (.cV J J J J Body265 (r_cB) tV (.cV J J J J Body264 (r_mul cB (Y*Y)) tV ?_));refine .cV J J J J Body301 (r_sub cA (cB*(Y*Y))) tV ?_;refine .alloc (cs:=(Aa (List.replicate 32 0))) J A8 J ?_;intro n6 hn6 hf6;refine .sA J J J J zE Sz207 zF Z0 sP zU ?_;refine .na (.seq (.draw (oP [100,101,302,303,304,5,6,407,8]) Ao zK (.lA J J J Y207.h J Sz207 Z1 zF ?_)));refine .lA J J J Y207.h J Sz207 Z0 zF ?_;refine .cV J J J J Body266 (hinv) tV (.cV J J J J Body264 (r_mul (cA*(Y*Y-1)) iz) tV (.cV J J J J Body302 (hroot) tV (.eX J J J J (.eX J J J J (.sA J J J J zE Sz207 zF Z3 sP (by exact upd3) ?_)))));refine .a J J J (.na ?_);refine .ret (en_r ?_);refine⟨_,[],Bd J J J Y207.h J Sz207 Z3 (by simp[Aq]),sP,sP,?_,rfl⟩;rfl
theorem bP_four:fe 4*finv (fe 5)=bP.y:=by
  have h1:bP.y*fe 5=fe 4:=by kernel_rfl
  have h2:fe 5*finv (fe 5)=1:=finv_mul (by
    intro h;have:=congrArg Fin.val h;revert this;decide)
  generalize finv (fe 5)=v at*;generalize fe 5=f at*;rw[←h1];generalize bP.y=y at*;grind
theorem bP_even:(decide (bP.x.val%2=1))=false:=by kernel_rfl
theorem bP_root:xOf bP.y=(bP.x,true):=by
  have h:=xOf_eq (x:=bP.x) (y:=bP.y) bP_on;rw[h,if_neg (of_decide_eq_false bP_even)]
theorem r5_Base  :Mv 200 [] (fun _=>True) (agg (ptc bP).cells):=by
 intro W hW;have hm:=r_mul (fe 4) (finv (fe 5));rw[bP_four]at hm;have hi:=r_inv (fe 5);have hr:=r5_root bP.y;rw[bP_root]at hr;have hb:bP=⟨bP.x,bP.y⟩:=rfl;rw[hb];clear hb;revert hm hi hr;generalize finv (fe 5)=iv;generalize bP.x=bx;generalize bP.y=bY;intro hm hi hr;refine Ac func200 J 16 ntmps200 J (.sr (.alloc (cs:=Point.zero.cells) J Point.zr J ?_));intro n0 hn0 hf0;refine .nsr (.cV J J J J Body265 (r_of 4 (fe 4) J) tV (.cV J J J J Body265 (r_of 5 (fe 5) J) tV (.cV J J J J Body266 (hi) tV (.cV J J J J Body264 (hm) tV (.alloc (cs:=(Aa (List.replicate 32 0))) J A8 J ?_)))));intro n1 hn1 hf1;refine .sA J J J J zE Sz207 zF Z0 sP zU ?_;refine .nsr (.lA J J J Y207.h J Sz207 Z0 zF ?_);refine .cV J J J J Body252 (hr) tV (.m J J J (.eX J J J J (.eX J J J J (.alloc (cs:=(Aa (List.replicate 32 0))) J A8 J ?_))));intro n2 hn2 hf2;refine .sA J J J J zE Sz207 zF Z0 sP zU ?_;refine .a J J J (.nsr (.lA J J J Y207.h J Sz207 Z0 zF ?_));refine .lA J J J Y207.h J Sz207 Z1 zF ?_;refine .build (cs:=(ptc (⟨bx,bY⟩:Pt Fp)).cells) J J J (fun w=>by kernel_rfl) ?_;refine .sA J J J J (Point.isCell zP) Sz210 (Point.length zP) Z2 (Point.length zZ) (by exact upd2) ?_;refine .na ?_;refine .ret (en_r ?_);refine⟨_,[],Am J J Y210.h J Sz210 Z2 (by exact Point.length zP),sP,sP,?_,rfl⟩;rfl
theorem r5_Check(P:Pt Fp)(hP:cv.on P):Mv 256 [agg (ptc P).cells] (fun _=>True) (i64 0):=by
 intro W hW;refine Ac func256 J 41 ntmps256 J (G3 ?_);intro n1 hn1 hf1;refine G7 ?_;refine .lN (Aa _) J J J Y207.h J Sz207 Z0 (Point.row_fX zP) (Point.rl_fX zP) ?_;refine .cV J J J J Body251 (r_canon P.x) tV (G3 ?_);refine .lN (Aa _) J J J Y207.h J Sz207 Z0 (Point.row_fY zP) (Point.rl_fY zP) ?_;refine .cV J J J J Body251 (r_canon P.y) tV (G4 ?_);refine .cond_f J J (G3 ?_);refine .draw (oP [0,101,2,103,5,106,7,108,304,309,210,211,412,413]) Ao zK (G1 ?_);refine .lN (Aa _) J J J Y207.h J Sz207 Z0 (Point.row_fX zP) (Point.rl_fX zP) ?_;refine G1 ?_;refine .lN (Aa _) J J J Y207.h J Sz207 Z0 (Point.row_fX zP) (Point.rl_fX zP) ?_;refine G1 ?_;refine .lN (Aa _) J J J Y207.h J Sz207 Z0 (Point.row_fY zP) (Point.rl_fY zP) ?_;refine G1 ?_;refine .lN (Aa _) J J J Y207.h J Sz207 Z0 (Point.row_fY zP) (Point.rl_fY zP) ?_;refine .cV J J J J Body264 (r_mul P.x P.x) tV (.cV J J J J Body264 (r_mul P.y P.y) tV (.alloc (cs:=(Aa (List.replicate 32 0))) J A8 J ?_));intro n3 hn3 hf3;refine .alloc (cs:=(Aa (List.replicate 32 0))) J A8 J ?_;intro n4 hn4 hf4;refine .sA J J J J zE Sz207 zF Z1 sP zV ?_;refine .sA J J J J zE Sz207 zF Z0 sP zU ?_;refine G3 ?_;refine .draw (oP [101,102,300,303,304,305,306,207,408]) Ao zK (G2 ?_);refine .cV J J J J Body265 (r_cA) tV (.cV J J J J Body301 (r_sub (P.y*P.y) (P.x*P.x)) tV (.cV J J J J Body265 (r_one) tV (.cV J J J J Body301 (r_sub (P.y*P.y-P.x*P.x) 1) tV (.cV J J J J Body264 (r_mul cA (P.y*P.y-P.x*P.x-1)) tV (.alloc (cs:=(Aa (List.replicate 32 0))) J A8 J ?_)))));intro n5 hn5 hf5;refine .sA J J J J zE Sz207 zF Z0 sP zU ?_;refine G4 ?_;refine .draw (oP [100,102,103,301,304,305,306,7]) Ao zK (G3 ?_);refine .cV J J J J Body265 (r_cB) tV (.cV J J J J Body264 (r_mul (P.x*P.x) (P.y*P.y)) tV (.cV J J J J Body264 (r_mul cB (P.x*P.x*(P.y*P.y))) tV ?_));refine .cV J J J J Body253 (r_neg (cB*(P.x*P.x*(P.y*P.y)))) tV ?_;refine .neq_bytes J J J J eqGuardType207 Y207.h Y5.h Sz5 zF zF (show(!decide _)=false from congrArg not (decide_eq_true (congrArg fb (check_eq hP)))) (G2 ?_);refine .cond_f J (rfl) (G7 ?_);refine G2 ?_;refine⟨_,[],Ae J J,sP,sP,?_,rfl⟩;rfl
structure FarFit(u:far):Prop where
  x:Fit10 u.fX
  y:Fit10 u.fY
  z:Fit10 u.fZ
theorem FarFit.ok{x:far}(h:FarFit x):x.ok:=⟨h.x.len,h.y.len,h.z.len⟩
def farV(x:far):Fr Fp:=⟨fe (v10 x.fX),fe (v10 x.fY),fe (v10 x.fZ)⟩
structure FarRep(x:far)(P:Pt Fp):Prop where
  fit:FarFit x
  rep:(farV x).rep P
def frA(p q:far):List Nat:=mulT p.fZ q.fZ
def frM(d:List Nat)(p q:far):List Nat:=mulT d (mulT (mulT p.fX q.fX) (mulT p.fY q.fY))
def frB(p q:far):List Nat:=plusT (mulT p.fX q.fX) (mulT p.fY q.fY)
def frC(p q:far):List Nat:=minusT (mulT (plusT p.fX p.fY) (plusT q.fX q.fY)) (frB p q)
def frF(d:List Nat)(p q:far):List Nat:=minusT (mulT (frA p q) (frA p q)) (frM d p q)
def frG(d:List Nat)(p q:far):List Nat:=plusT (mulT (frA p q) (frA p q)) (frM d p q)
def frT(d:List Nat)(p q:far):far:=⟨mulT (frA p q) (mulT (frF d p q) (frC p q)),mulT (frA p q) (mulT (frG d p q) (frB p q)),mulT (frF d p q) (frG d p q)⟩
section
variable{d:List Nat}{p q:far}
variable{x y:List Nat}
theorem frA_fit(hp:FarFit p)(hq:FarFit q):Fit10 (frA p q):=Bh hp.z hq.z
theorem frM_fit(hd:Fit10 d)(hp:FarFit p)(hq:FarFit q):Fit10 (frM d p q):=Bh hd (Bh (Bh hp.x hq.x) (Bh hp.y hq.y))
theorem frB_fit(hp:FarFit p)(hq:FarFit q):Fit10 (frB p q):=plusT_fit (Bh hp.x hq.x) (Bh hp.y hq.y)
theorem frC_fit(hp:FarFit p)(hq:FarFit q):Fit10 (frC p q):=minusT_fit (Bh (plusT_fit hp.x hp.y) (plusT_fit hq.x hq.y)) (frB_fit hp hq)
theorem frF_fit(hd:Fit10 d)(hp:FarFit p)(hq:FarFit q):Fit10 (frF d p q):=minusT_fit (Bh (frA_fit hp hq) (frA_fit hp hq)) (frM_fit hd hp hq)
theorem frG_fit(hd:Fit10 d)(hp:FarFit p)(hq:FarFit q):Fit10 (frG d p q):=plusT_fit (Bh (frA_fit hp hq) (frA_fit hp hq)) (frM_fit hd hp hq)
theorem frT_fit(hd:Fit10 d)(hp:FarFit p)(hq:FarFit q):FarFit (frT d p q):=
  ⟨Bh (frA_fit hp hq) (Bh (frF_fit hd hp hq) (frC_fit hp hq)),Bh (frA_fit hp hq) (Bh (frG_fit hd hp hq) (frB_fit hp hq)),Bh (frF_fit hd hp hq) (frG_fit hd hp hq)⟩
theorem mv(hx:Fit10 x)(hy:Fit10 y):fe (v10 (mulT x y))=fe (v10 x)*fe (v10 y):=mulT_v hx.len hy.len
theorem pv'(hx:Fit10 x)(hy:Fit10 y):fe (v10 (plusT x y))=fe (v10 x)+fe (v10 y):=plusT_v hx.len hy.len
theorem nv(hx:Fit10 x)(hy:Fit10 y):fe (v10 (minusT x y))=fe (v10 x)-fe (v10 y):=minusT_v hx.len hy
theorem frT_v(hd:Fit10 d)(hp:FarFit p)(hq:FarFit q):farV (frT d p q)=Fr.add (fe (v10 d)) (farV p) (farV q):=by
  have a:=frA_fit hp hq;have m:=frM_fit hd hp hq;have b:=frB_fit hp hq;have c:=frC_fit hp hq;have f:=frF_fit hd hp hq;have g:=frG_fit hd hp hq;have c1:=Bh hp.x hq.x;have c2:=Bh hp.y hq.y;have va:fe (v10 (frA p q))=fe (v10 p.fZ)*fe (v10 q.fZ):=mv hp.z hq.z;have vm:fe (v10 (frM d p q))=fe (v10 d)*(fe (v10 p.fX)*fe (v10 q.fX)*(fe (v10 p.fY)*fe (v10 q.fY))):=by rw[frM,mv hd (Bh c1 c2),mv c1 c2,mv hp.x hq.x,mv hp.y hq.y]
  have vb:fe (v10 (frB p q))=fe (v10 p.fX)*fe (v10 q.fX)+fe (v10 p.fY)*fe (v10 q.fY):=by rw[frB,pv' c1 c2,mv hp.x hq.x,mv hp.y hq.y]
  have vc:fe (v10 (frC p q))=(fe (v10 p.fX)+fe (v10 p.fY))*(fe (v10 q.fX)+fe (v10 q.fY))-(fe (v10 p.fX)*fe (v10 q.fX)+fe (v10 p.fY)*fe (v10 q.fY)):=by
    rw[frC,nv (Bh (plusT_fit hp.x hp.y) (plusT_fit hq.x hq.y)) b,mv (plusT_fit hp.x hp.y) (plusT_fit hq.x hq.y),pv' hp.x hp.y,pv' hq.x hq.y,vb]
  have vf:fe (v10 (frF d p q))=fe (v10 (frA p q))*fe (v10 (frA p q))-fe (v10 (frM d p q)):=by rw[frF,nv (Bh a a) m,mv a a]
  have vg:fe (v10 (frG d p q))=fe (v10 (frA p q))*fe (v10 (frA p q))+fe (v10 (frM d p q)):=by rw[frG,pv' (Bh a a) m,mv a a]
  unfold farV frT Fr.add;simp only[mv a (Bh f c),mv f c,mv a (Bh g b),mv g b,mv f g,vf,vg,va,vm,vb,vc]
end
variable{A B E j t:Nat}{P Q:Pt Fp}{d:List Nat}{p x:far}
theorem FarRep.add{p q:far}(hd:Fit10 d)(hdv:fe (v10 d)=fD)(hp:FarRep p P)(hq:FarRep q Q)(hP:cv.on P)(hQ:cv.on Q):FarRep (frT d p q) (cv.add P Q):=by
  refine⟨frT_fit hd hp.fit hq.fit,?_⟩;rw[frT_v hd hp.fit hq.fit,hdv];exact cv.far_add hp.rep hq.rep hP hQ
def awT(P:Pt Fp):far:=⟨openT (le (fb P.x)),openT (le (fb P.y)),openT (le (fb (1:Fp)))⟩
theorem awT_fit(P:Pt Fp):FarFit (awT P):=⟨o_fit (Aq _),o_fit (Aq _),o_fit (Aq _)⟩
theorem awT_rep(P:Pt Fp):FarRep (awT P) P:=by
  refine⟨awT_fit P,?_⟩;have h:farV (awT P)=Fr.of P:=by
    unfold farV awT Fr.of;simp only[o_v (Aq _),fe_fb]
  rw[h];exact cv.far_of P
def dT:List Nat:=openT (le (fb fD))
theorem dT_fit:Fit10 dT:=o_fit (Aq _)
theorem dT_v:fe (v10 dT)=fD:=by
  have h:=o_v (Aq fD);rw[fe_fb]at h;exact h
theorem r5_openD:Mv 258 [agg (Aa (fb fD))] (fun _=>True) (agg (Bn dT)):=r3_Open (fb fD) (Aq _)
theorem r5_plus(d:List Nat)(p q:far)(hd:Fit10 d)(hp:FarFit p)(hq:FarFit q):Mv 261 [agg (Bn d),agg (p).cells,agg (q).cells] (fun _=>True) (agg (frT d p q).cells):=by
 intro W hW;have ldd:=hd.len;have hpo:=hp.ok;have hqo:=hq.ok;unfold frT frF frG frC frM frB frA;have fa:=Bh hp.z hq.z;have ca:=r3_Times _ _ hp.z hq.z;revert fa ca;generalize mulT p.fZ q.fZ=a;intro fa ca;have la:=fa.len;have fb2:=Bh fa fa;have cb:=r3_Times _ _ fa fa;revert fb2 cb;generalize mulT a a=b;intro fb2 cb;have lb:=fb2.len;have fc:=Bh hp.x hq.x;have cc:=r3_Times _ _ hp.x hq.x;revert fc cc;generalize mulT p.fX q.fX=c;intro fc cc;have lc:=fc.len;have fe2:=Bh hp.y hq.y;have ce:=r3_Times _ _ hp.y hq.y;revert fe2 ce;generalize mulT p.fY q.fY=e;intro fe2 ce;have le:=fe2.len;have fce:=Bh fc fe2;have cce:=r3_Times _ _ fc fe2;revert fce cce;generalize mulT c e=ce2;intro fce cce;have lce2:=fce.len;have fm:=Bh hd fce;have cm:=r3_Times _ _ hd fce;revert fm cm;generalize mulT d ce2=m;intro fm cm;have lm:=fm.len;have ff:=minusT_fit fb2 fm;have cf:=r3_Minus _ _ fb2 fm;revert ff cf;generalize minusT b m=f;intro ff cf;have lf:=ff.len;have fg:=plusT_fit fb2 fm;have cg:=r3_Plus _ _ fb2 fm;revert fg cg;generalize plusT b m=g;intro fg cg;have lg:=fg.len;have fbo:=plusT_fit fc fe2;have cbo:=r3_Plus _ _ fc fe2;revert fbo cbo;generalize plusT c e=both;intro fbo cbo;have lboth:=fbo.len;have fpp:=plusT_fit hp.x hp.y;have cpp:=r3_Plus _ _ hp.x hp.y;revert fpp cpp;generalize plusT p.fX p.fY=pp;intro fpp cpp;have lpp:=fpp.len;have fqq:=plusT_fit hq.x hq.y;have cqq:=r3_Plus _ _ hq.x hq.y;revert fqq cqq;generalize plusT q.fX q.fY=qq;intro fqq cqq;have lqq:=fqq.len;have fpq:=Bh fpp fqq;have cpq:=r3_Times _ _ fpp fqq;revert fpq cpq;generalize mulT pp qq=pq;intro fpq cpq;have lpq:=fpq.len;have fcr:=minusT_fit fpq fbo;have ccr:=r3_Minus _ _ fpq fbo;revert fcr ccr;generalize minusT pq both=cr;intro fcr ccr;have lcr:=fcr.len;have ffc:=Bh ff fcr;have cfc:=r3_Times _ _ ff fcr;revert ffc cfc;generalize mulT f cr=fcr2;intro ffc cfc;have lfcr2:=ffc.len;have fgb:=Bh fg fbo;have cgb:=r3_Times _ _ fg fbo;revert fgb cgb;generalize mulT g both=gb;intro fgb cgb;have lgb:=fgb.len;have fX:=Bh fa ffc;have cX:=r3_Times _ _ fa ffc;revert fX cX;generalize mulT a fcr2=X;intro fX cX;have lX:=fX.len;have fY:=Bh fa fgb;have cY:=r3_Times _ _ fa fgb;revert fY cY;generalize mulT a gb=Y;intro fY cY;have lY:=fY.len;have fZ:=Bh ff fg;have cZ:=r3_Times _ _ ff fg;revert fZ cZ;generalize mulT f g=Z;intro fZ cZ;have lZ:=fZ.len;refine Ac func261 J 75 ntmps261 J (G3 ?_);intro n3 hn3 hf3;refine G1 ?_;intro n4 hn4 hf4;refine G1 ?_;intro n5 hn5 hf5;refine .alloc (cs:=far.zero.cells) J far.zr J ?_;intro n6 hn6 hf6;refine G5 ?_;refine .lN (Bn _) J J J Co J Sz262 Z2 (far.row_fZ (by exact hpo)) (far.rl_fZ (by exact hpo)) ?_;refine G1 ?_;refine .lN (Bn _) J J J Co J Sz262 Z1 (far.row_fZ (by exact hqo)) (far.rl_fZ (by exact hqo)) ?_;refine .cV J J J J Body305 (ca) tV (.alloc (cs:=(B9 (List.replicate 10 0))) J Zr262 J ?_);intro n7 hn7 hf7
 refine .sA J J J J (by exact Cp _) Sz262 (by(simp[Al,la];done)) Z0 sP zU ?_;refine G4 ?_;refine .lA J J J Co J Sz262 Z0 (by(simp[Al,la];done)) ?_;refine .lA J J J Co J Sz262 Z0 (by(simp[Al,la];done)) ?_;refine .cV J J J J Body305 (cb) tV (.alloc (cs:=(B9 (List.replicate 10 0))) J Zr262 J ?_);intro n8 hn8 hf8;refine .sA J J J J (by exact Cp _) Sz262 (by(simp[Al,lb];done)) Z0 sP zU ?_;refine G3 ?_;refine .draw (oP [0,101,2,103,5,106,7,108,304,309,210,211,412,413]) Ao zK (G1 ?_);refine .lN (Bn _) J J J Co J Sz262 Z4 (far.row_fX (by exact hpo)) (far.rl_fX (by exact hpo)) ?_;refine G1 ?_;refine .lN (Bn _) J J J Co J Sz262 Z3 (far.row_fX (by exact hqo)) (far.rl_fX (by exact hqo)) ?_;refine G1 ?_;refine .lN (Bn _) J J J Co J Sz262 Z4 (far.row_fY (by exact hpo)) (far.rl_fY (by exact hpo)) ?_;refine G1 ?_;refine .lN (Bn _) J J J Co J Sz262 Z3 (far.row_fY (by exact hqo)) (far.rl_fY (by exact hqo)) ?_;refine .cV J J J J Body305 (cc) tV (.cV J J J J Body305 (ce) tV (.alloc (cs:=(B9 (List.replicate 10 0))) J Zr262 J ?_));intro n9 hn9 hf9;refine .alloc (cs:=(B9 (List.replicate 10 0))) J Zr262 J ?_;intro n10 hn10 hf10;refine .sA J J J J (by exact Cp _) Sz262 (by(simp[Al,lc];done)) Z1 sP zV ?_;refine .sA J J J J (by exact Cp _) Sz262 (by(simp[Al,le];done)) Z0 sP zU ?_;refine G3 ?_;refine .draw (oP [100,101,102,303,304,205,406]) Ao zK (.lA J J J Co J Sz262 (by exact mem7) (by(simp[Al,ldd];done)) ?_);refine .lA J J J Co J Sz262 Z1 (by(simp[Al,lc];done)) ?_;refine .lA J J J Co J Sz262 Z0 (by(simp[Al,le];done)) ?_;refine .cV J J J J Body305 (cce) tV (.cV J J J J Body305 (cm) tV (.alloc (cs:=(B9 (List.replicate 10 0))) J Zr262 J ?_));intro n11 hn11 hf11;refine .sA J J J J (by exact Cp _) Sz262 (by(simp[Al,lm];done)) Z0 sP zU ?_;refine G3 ?_;refine .draw (oP [100,101,103,104,302,305,206,207,408,409]) Ao zK (.lA J J J Co J Sz262 Z3 (by(simp[Al,lb];done)) ?_);refine .lA J J J Co J Sz262 Z0 (by(simp[Al,lm];done)) ?_;refine .lA J J J Co J Sz262 Z3 (by(simp[Al,lb];done)) ?_;refine .lA J J J Co J Sz262 Z0 (by(simp[Al,lm];done)) ?_;refine .cV J J J J Body306 (cf) tV (.cV J J J J Body307 (cg) tV (.alloc (cs:=(B9 (List.replicate 10 0))) J Zr262 J ?_));intro n12 hn12 hf12;refine .alloc (cs:=(B9 (List.replicate 10 0))) J Zr262 J ?_;intro n13 hn13 hf13;refine .sA J J J J (by exact Cp _) Sz262 (by(simp[Al,lf];done)) Z1 sP zV ?_;refine .sA J J J J (by exact Cp _) Sz262 (by(simp[Al,lg];done)) Z0 sP zU ?_;refine G4 ?_;refine .lA J J J Co J Sz262 Z4 (by(simp[Al,lc];done)) ?_;refine .lA J J J Co J Sz262 Z3 (by(simp[Al,le];done)) ?_;refine .cV J J J J Body307 (cbo) tV (.alloc (cs:=(B9 (List.replicate 10 0))) J Zr262 J ?_);intro n14 hn14 hf14;refine .sA J J J J (by exact Cp _) Sz262 (by(simp[Al,lboth];done)) Z0 sP zU ?_;refine G3 ?_;refine .draw (oP [0,101,2,103,5,106,7,108,111,304,309,310,312,213,414]) Ao zK (G1 ?_)
 refine .lN (Bn _) J J J Co J Sz262 mR (far.row_fX (by exact hpo)) (far.rl_fX (by exact hpo)) ?_;refine G1 ?_;refine .lN (Bn _) J J J Co J Sz262 mR (far.row_fY (by exact hpo)) (far.rl_fY (by exact hpo)) ?_;refine G1 ?_;refine .lN (Bn _) J J J Co J Sz262 mR (far.row_fX (by exact hqo)) (far.rl_fX (by exact hqo)) ?_;refine G1 ?_;refine .lN (Bn _) J J J Co J Sz262 mR (far.row_fY (by exact hqo)) (far.rl_fY (by exact hqo)) ?_;refine .lA J J J Co J Sz262 Z0 (by(simp[Al,lboth];done)) ?_;refine .cV J J J J Body307 (cpp) tV (.cV J J J J Body307 (cqq) tV (.cV J J J J Body305 (cpq) tV (.cV J J J J Body306 (ccr) tV (.alloc (cs:=(B9 (List.replicate 10 0))) J Zr262 J ?_))));intro n15 hn15 hf15;refine .sA J J J J (by exact Cp _) Sz262 (by(simp[Al,lcr];done)) Z0 sP zU ?_;refine G3 ?_;refine .draw (oP [100,101,102,105,106,107,110,111,303,304,308,309,312,13,414]) Ao zK (.lA J J J Co J Sz262 mR (by(simp[Al,la];done)) ?_);refine .lA J J J Co J Sz262 Z3 (by(simp[Al,lf];done)) ?_;refine .lA J J J Co J Sz262 Z0 (by(simp[Al,lcr];done)) ?_;refine .lA J J J Co J Sz262 mR (by(simp[Al,la];done)) ?_;refine .lA J J J Co J Sz262 Z2 (by(simp[Al,lg];done)) ?_;refine .lA J J J Co J Sz262 Z1 (by(simp[Al,lboth];done)) ?_;refine .lA J J J Co J Sz262 Z3 (by(simp[Al,lf];done)) ?_;refine .lA J J J Co J Sz262 Z2 (by(simp[Al,lg];done)) ?_;refine .cV J J J J Body305 (cfc) tV (.cV J J J J Body305 (cX) tV (.cV J J J J Body305 (cgb) tV (.cV J J J J Body305 (cY) tV (.cV J J J J Body305 (cZ) tV (.build (cs:=(⟨X,Y,Z⟩:far).cells) J J J (fun w=>by kernel_rfl) ?_)))));refine .sA J J J J (far.isCell (by exact⟨lX,lY,lZ⟩)) Sz265 (far.length (by exact⟨lX,lY,lZ⟩)) mR (far.length (by exact far.zero_ok)) (by(repeat(first|exact upd0|apply Upd.tail))) ?_;refine G2 ?_;refine G2 ?_;refine⟨_,[],Am J J Y265.h J Sz265 mR (by exact far.length (by exact⟨lX,lY,lZ⟩)),sP,sP,?_,rfl⟩;rfl
theorem r5_near(p:far)(P:Pt Fp)(hp:FarRep p P):Mv 263 [agg (p).cells] (fun _=>True) (agg (ptc P).cells):=by
 intro W hW;have hpo:=hp.fit.ok;have hpt:=cv.far_pt hp.rep;have h1:=r3_Close_v p.fZ hp.fit.z _ rfl;have h2:=r3_Close_v p.fX hp.fit.x _ rfl;have h3:=r3_Close_v p.fY hp.fit.y _ rfl;have hi:=r_inv (fe (v10 p.fZ));have e:P=⟨fe (v10 p.fX)*finv (fe (v10 p.fZ)),fe (v10 p.fY)*finv (fe (v10 p.fZ))⟩:=hpt.symm;rw[e];clear e hpt;revert h1 h2 h3 hi;generalize finv (fe (v10 p.fZ))=iz;generalize fe (v10 p.fZ)=z;generalize fe (v10 p.fX)=x;generalize fe (v10 p.fY)=y;intro h1 h2 h3 hi;refine Ac func263 J 19 ntmps263 J (.sr (.boxA J J ?_));intro n1 hn1 hf1;refine .alloc (cs:=Point.zero.cells) J Point.zr J ?_;intro n2 hn2 hf2;refine .nsr (.fld J J J Y265.h J Sz262 dE _ J (.lN (Bn _) J J J Co J Sz262 Z1 (far.row_fZ (by exact hpo)) (far.rl_fZ (by exact hpo)) ?_));refine .cV J J J J Body308 (h1) tV (.cV J J J J Body266 (hi) tV (.alloc (cs:=(Aa (List.replicate 32 0))) J A8 J ?_));intro n3 hn3 hf3;refine .sA J J J J zE Sz207 zF Z0 sP zU ?_;refine .na (.seq (.draw (oP [0,101,103,5,106,108,302,304,307,309,10,411]) Ao zK (.fld J J J Y265.h J Sz262 dE _ J (.lN (Bn _) J J J Co J Sz262 Z2 (far.row_fX (by exact hpo)) (far.rl_fX (by exact hpo)) ?_))));refine .lA J J J Y207.h J Sz207 Z0 zF ?_;refine .fld J J J Y265.h J Sz262 dE _ J (.lN (Bn _) J J J Co J Sz262 Z2 (far.row_fY (by exact hpo)) (far.rl_fY (by exact hpo)) ?_);refine .lA J J J Y207.h J Sz207 Z0 zF ?_;refine .cV J J J J Body308 (h2) tV (.cV J J J J Body264 (r_mul x iz) tV (.cV J J J J Body308 (h3) tV (.cV J J J J Body264 (r_mul y iz) tV (.build (cs:=(ptc (⟨x*iz,y*iz⟩:Pt Fp)).cells) J J J (fun w=>by kernel_rfl) ?_))));refine .sA J J J J (Point.isCell zP) Sz210 (Point.length zP) Z1 (Point.length zZ) zV ?_;refine .na ?_;refine .ret (en_r ?_);refine⟨_,[],Am J J Y210.h J Sz210 Z1 (by exact Point.length zP),sP,sP,?_,rfl⟩;rfl
theorem r5_away(P:Pt Fp):Mv 260 [agg (ptc P).cells] (fun _=>True) (agg (awT P).cells):=by
 intro W hW;have h1:=r3_Open (fb P.x) (Aq _);have h2:=r3_Open (fb P.y) (Aq _);have h3:=r3_Open (fb 1) (Aq _);have lX:=openT_length (le (fb P.x));have lY:=openT_length (le (fb P.y));have lZ:=openT_length (le (fb 1));unfold awT;revert h1 h2 h3 lX lY lZ;generalize openT (le (fb P.x))=X;generalize openT (le (fb P.y))=Y;generalize openT (le (fb 1))=Z;intro h1 h2 h3 lX lY lZ;refine Ac func260 J 12 ntmps260 J (G3 ?_);intro n1 hn1 hf1;refine .alloc (cs:=far.zero.cells) J far.zr J ?_;intro n2 hn2 hf2;refine G3 ?_;refine .draw (oP [0,101,3,104,302,305,306,307,8,409]) Ao zK (G1 ?_);refine .lN (Aa _) J J J Y207.h J Sz207 Z1 (Point.row_fX zP) (Point.rl_fX zP) ?_;refine G1 ?_;refine .lN (Aa _) J J J Y207.h J Sz207 Z1 (Point.row_fY zP) (Point.rl_fY zP) ?_;refine .cV J J J J Body258 (h1) tV (.cV J J J J Body258 (h2) tV (.cV J J J J Body265 (r_one) tV (.cV J J J J Body258 (h3) tV (.build (cs:=(⟨X,Y,Z⟩:far).cells) J J J (fun w=>by kernel_rfl) ?_))));refine .sA J J J J (far.isCell (by exact⟨lX,lY,lZ⟩)) Sz265 (far.length (by exact⟨lX,lY,lZ⟩)) Z0 (far.length (by exact far.zero_ok)) zU ?_;refine G2 ?_;refine G2 ?_;refine⟨_,[],Am J J Y265.h J Sz265 Z0 (by exact far.length (by exact⟨lX,lY,lZ⟩)),sP,sP,?_,rfl⟩;rfl
theorem byte_plus:∀b:UInt8,b.toNat<128→b+128=b|||128:=by
  intro b hb;have h:∀n,n<128→UInt8.ofNat n+128=UInt8.ofNat n|||128:=by decide
  have h2:=h b.toNat hb;rwa[Ldx]at h2
theorem lin_d{a b j:Nat}(hj:j<256):a/2^(256-(j+1))=2*(a/2^(256-j))+a/2^(255-j)%2:=next_div a j hj
theorem frep_dbl(hd:Fit10 d)(hdv:fe (v10 d)=fD)(hP:cv.on P)(hQ:cv.on Q)(h:FarRep p (cv.lin A B P Q)):FarRep (frT d p p) (cv.lin (2*A) (2*B) P Q):=by
  rw[cv.lin_two hP hQ];exact FarRep.add hd hdv h h (cv.on_lin hP hQ _ _) (cv.on_lin hP hQ _ _)
theorem frep_l(hd:Fit10 d)(hdv:fe (v10 d)=fD)(hP:cv.on P)(hQ:cv.on Q)(h:FarRep p (cv.lin A B P Q))(hx:FarRep x P)(ht:t=1):FarRep (frT d p x) (cv.lin (A+t) B P Q):=by
  rw[ht,cv.lin_left hP hQ];exact FarRep.add hd hdv h hx (cv.on_lin hP hQ _ _) hP
theorem frep_r(hd:Fit10 d)(hdv:fe (v10 d)=fD)(hP:cv.on P)(hQ:cv.on Q)(h:FarRep p (cv.lin A B P Q))(hx:FarRep x Q)(ht:t=1):FarRep (frT d p x) (cv.lin A (B+t) P Q):=by
  rw[ht,cv.lin_right hP hQ];exact FarRep.add hd hdv h hx (cv.on_lin hP hQ _ _) hQ
theorem frep_first(a b:List UInt8)(ha:a.length=32)(hb:b.length=32)(P Q:Pt Fp):FarRep (awT (zero:Pt Fp)) (cv.lin (le a/2^(256-0)) (le b/2^(256-0)) P Q):=by
  have h1:=le32 ha;have h2:=le32 hb;rw[show 256-0=256 from rfl,Lb0 h1,Lb0 h2,cv.lin_zero];exact awT_rep zero
theorem bit_one(h:E.testBit j=true):E/2^j%2=1:=by have:=test_div E j true h;rwa[if_pos rfl]at this
theorem bit_nil(h:E.testBit j=false):E/2^j%2=0:=by have:=test_div E j false h;rwa[if_neg dE]at this
theorem r5_Mul2(a b:List UInt8)(P Q:Pt Fp)(ha:a.length=32)(hb:b.length=32)(hP:cv.on P)(hQ:cv.on Q):Mv 199 [agg (Aa a),agg (ptc P).cells,agg (Aa b),agg (ptc Q).cells] (fun _=>True) (agg (ptc (cv.lin (le a) (le b) P Q)).cells):=by
 intro W hW;have hDf:=dT_fit;have hDv:=dT_v;have hod:=r5_openD;revert hDf hDv hod;generalize dT=D;intro hDf hDv hod;have hDl:=hDf.len;have hAP:=awT_rep P;have hAQ:=awT_rep Q;have hAZ:=frep_first a b ha hb P Q;have cP:=r5_away P;have cQ:=r5_away Q;have cZ:=r5_away (zero:Pt Fp);revert hAP hAQ hAZ cP cQ cZ;generalize awT P=AP;generalize awT Q=AQ;generalize awT (zero:Pt Fp)=AZ;intro hAP hAQ hAZ cP cQ cZ;have hAPo:=hAP.fit.ok;have hAQo:=hAQ.fit.ok;have hAZo:=hAZ.fit.ok;have huo:True:=trivial;have hwo:True:=trivial;have hxo:True:=trivial;refine Ac func199 J 55 ntmps199 J (.sr (.boxA J J ?_));intro n4 hn4 hf4;refine .boxA J J ?_;intro n5 hn5 hf5;refine .boxA J J ?_;intro n6 hn6 hf6;refine .boxA J J ?_;intro n7 hn7 hf7;refine .alloc (cs:=Point.zero.cells) J Point.zr J ?_;intro n8 hn8 hf8;refine .na (.seq (.sr (.lA J J J Y210.h J Sz210 Z3 (Point.length zP) ?_)));refine .cV J J J J Body256 (r5_Check P hP) tV (.nei J J J J (show(!decide _)=false from congrArg not (decide_eq_true (rfl))) (.m J J J (.lA J J J Y210.h J Sz210 Z1 (Point.length zP) ?_)));refine .cV J J J J Body256 (r5_Check Q hQ) tV (.nei J J J J (show(!decide _)=false from congrArg not (decide_eq_true (rfl))) (.pick J J J J J J (.na (.cond_f J J (.skip (Ct (.seq (.draw (oP [104,106,300,301,302,303,305,307,208,209,210,211,412,413,414,415]) Ao zK (.lA J J J Y210.h J Sz210 Z3 (Point.length zP) ?_)))))))));refine .lA J J J Y210.h J Sz210 Z1 (Point.length zP) ?_;refine .cV J J J J Body259 (r5_D) tV (.cV J J J J Body258 (hod) tV (.cV J J J J Body257 (r5_Zero) tV (.cV J J J J Body260 (cZ) tV (.cV J J J J Body260 (cP) tV (.cV J J J J Body260 (cQ) tV (.alloc (cs:=(B9 (List.replicate 10 0))) J Zr262 J ?_))))));intro n9 hn9 hf9;refine .alloc (cs:=far.zero.cells) J far.zr J ?_;intro n10 hn10 hf10;refine .alloc (cs:=far.zero.cells) J far.zr J ?_;intro n11 hn11 hf11;refine .alloc (cs:=far.zero.cells) J far.zr J ?_;intro n12 hn12 hf12;refine .sA J J J J (by exact Cp _) Sz262 (by(simp[Al,hDl];done)) Z3 sP (by exact upd3) ?_;refine .sA J J J J (far.isCell (by exact hAZo)) Sz265 (far.length (by exact hAZo)) Z2 (far.length (by exact far.zero_ok)) (by exact upd2) ?_;refine .sA J J J J (far.isCell (by exact hAPo)) Sz265 (far.length (by exact hAPo)) Z1 (far.length (by exact far.zero_ok)) zV ?_;refine .sA J J J J (far.isCell (by exact hAQo)) Sz265 (far.length (by exact hAQo)) Z0 (far.length (by exact far.zero_ok)) zU ?_
 refine .na (.seq (.sr (.a J J J (.na (.block (.loop (ι:=Nat×far) (fun p=>⟨[(4,ptr n4 0),(6,ptr n6 0),(8,ptr n8 0),(9,ptr n9 0),(10,ptr n10 0),(11,ptr n11 0),(12,ptr n12 0),(13,i64 (255-(p.1:Int)))],[⟨n12,(AQ).cells,265,30⟩,⟨n11,(AP).cells,265,30⟩,⟨n10,(p.2).cells,265,30⟩,⟨n9,Bn D,262,10⟩,⟨n8,Point.zero.cells,210,64⟩,⟨n6,Aa b,207,(Aa b).length⟩,⟨n4,Aa a,207,(Aa a).length⟩]⟩) (fun p=>p.1≤256∧FarRep p.2 (cv.lin (le a/2^(256-p.1)) (le b/2^(256-p.1)) P Q)) (fun p=>256-p.1) ((0,AZ)) ?_ ?_ ?_))))))
 ·exact⟨Laj _,hAZ⟩
 ·exact Ad wN (wh1 Z0 (wh1 Z1 (wh1 Z2 (wh1 Z3 (wh1 Z4 (wh1 (by exact mem6) wM)))))) nD
 rintro p ⟨hj1,hw⟩;have hwo:=hw.fit.ok;refine .seq (.sr (.m J J J (.geq J J J J J (.na (.condP J (fun hc1=>?_) (fun hc1=>?_))))))
 ·
  have hj3:p.1<256:=by omega
  have hu:=frep_dbl hDf hDv hP hQ hw;have cd:=r5_plus D p.2 p.2 hDf hw.fit hw.fit;revert hu cd;generalize frT D p.2 p.2=F1;intro hu cd;have huo:=hu.fit.ok;rw[show(255:Int)-(p.1:Int)=((255-p.1:Nat):Int) by omega];refine .skip (Ct (.join (ι:=far) (fun y=>⟨[(4,ptr n4 0),(6,ptr n6 0),(8,ptr n8 0),(9,ptr n9 0),(10,ptr n10 0),(11,ptr n11 0),(12,ptr n12 0),(13,i64 (((255-p.1:Nat):Int)))],[⟨n12,(AQ).cells,265,30⟩,⟨n11,(AP).cells,265,30⟩,⟨n10,(y).cells,265,30⟩,⟨n9,Bn D,262,10⟩,⟨n8,Point.zero.cells,210,64⟩,⟨n6,Aa b,207,(Aa b).length⟩,⟨n4,Aa a,207,(Aa a).length⟩]⟩) (fun y=>FarRep y (cv.lin (le a/2^(256-(p.1+1))) (le b/2^(256-(p.1+1))) P Q)) ?_ ?_))
  ·
   refine .block (.sr (.lA J J J Co J Sz262 Z3 (by(simp[Al,hDl];done)) ?_));refine .lA J J J Y265.h J Sz265 Z2 (far.length (by exact hwo)) ?_;refine .lA J J J Y265.h J Sz265 Z2 (far.length (by exact hwo)) ?_;refine .cV J J J J Body261 (cd) tV (.sA J J J J (far.isCell (by exact huo)) Sz265 (far.length (by exact huo)) Z2 (far.length (by exact hwo)) (by exact upd2) ?_);refine .na (.join (ι:=far) (fun x=>⟨[(4,ptr n4 0),(6,ptr n6 0),(8,ptr n8 0),(9,ptr n9 0),(10,ptr n10 0),(11,ptr n11 0),(12,ptr n12 0),(13,i64 (((255-p.1:Nat):Int)))],[⟨n12,(AQ).cells,265,30⟩,⟨n11,(AP).cells,265,30⟩,⟨n10,(x).cells,265,30⟩,⟨n9,Bn D,262,10⟩,⟨n8,Point.zero.cells,210,64⟩,⟨n6,Aa b,207,(Aa b).length⟩,⟨n4,Aa a,207,(Aa a).length⟩]⟩) (fun x=>FarRep x (cv.lin (2*(le a/2^(256-p.1))+le a/2^(255-p.1)%2) (2*(le b/2^(256-p.1))) P Q)) ?_ ?_)
   ·
    refine .sr (.lA J J J Y207.h J Sz207 (by exact mem6) (by(simp[ha];done)) ?_);refine .m J J J (.cV J J J J Body262 (ref_bit_at a ha (255-p.1) oM) tV (.na (.cond J (fun hc2=>?_) (fun hc2=>?_))))
    ·
     have ca:=r5_plus D F1 AP hDf hu.fit hAP.fit;have hul:=frep_l hDf hDv hP hQ hu hAP (bit_one hc2);revert ca hul;generalize frT D F1 AP=F2;intro ca hul;have hulo:=hul.fit.ok;refine .region (.lA J J J Co J Sz262 Z3 (by(simp[Al,hDl];done)) ?_);refine .lA J J J Y265.h J Sz265 Z2 (far.length (by exact huo)) ?_;refine .lA J J J Y265.h J Sz265 Z1 (far.length (by exact hAPo)) ?_;refine .cV J J J J Body261 (ca) tV (.sA J J J J (far.isCell (by exact hulo)) Sz265 (far.length (by exact hulo)) Z2 (far.length (by exact huo)) (by exact upd2) ?_);refine .na ?_;exact⟨F2,hul,Ad wN (wh1 Z0 (wh1 Z1 (wh1 Z2 (wh1 Z3 (wh1 Z4 (wh1 (by exact mem5) (wh1 (by exact mem6) wh0))))))) nD⟩
    refine .skip (Ct ?_);exact⟨F1,(by rw[bit_nil hc2,Lbt];exact hu),Ad wN (wh1 Z0 (wh1 Z1 (wh1 Z2 (wh1 Z3 (wh1 Z4 (wh1 (by exact mem5) (wh1 (by exact mem6) wh0))))))) nD⟩
   intro x hj;have hx:=hj;have hxo:=hx.fit.ok;refine .sr (.lA J J J Y207.h J Sz207 (by exact mem5) (by(simp[hb];done)) ?_);refine .m J J J (.cV J J J J Body262 (ref_bit_at b hb (255-p.1) oM) tV (.na (.cond J (fun hc3=>?_) (fun hc3=>?_))))
   ·
    have cx:=r5_plus D x AQ hDf hx.fit hAQ.fit;have hxr:=frep_r hDf hDv hP hQ hx hAQ (bit_one hc3);revert cx hxr;generalize frT D x AQ=F3;intro cx hxr;have hxro:=hxr.fit.ok;refine .region (.lA J J J Co J Sz262 Z3 (by(simp[Al,hDl];done)) ?_);refine .lA J J J Y265.h J Sz265 Z2 (far.length (by exact hxo)) ?_;refine .lA J J J Y265.h J Sz265 Z0 (far.length (by exact hAQo)) ?_;refine .cV J J J J Body261 (cx) tV (.sA J J J J (far.isCell (by exact hxro)) Sz265 (far.length (by exact hxro)) Z2 (far.length (by exact hxo)) (by exact upd2) ?_);refine .nil (bl_n (Ct ?_));exact⟨F3,(by rw[lin_d (b:=0) hj3,lin_d (b:=0) hj3];exact hxr),Ad wN (wh1 Z0 (wh1 Z1 (wh1 Z2 (wh1 Z3 (wh1 Z4 (wh1 (by exact mem5) (wh1 (by exact mem6) wh0))))))) nD⟩
   refine .skip (bl_n (Ct ?_));exact⟨x,(by rw[lin_d (b:=0) hj3,lin_d (b:=0) hj3,bit_nil (E:=le b) hc3,Lbt];exact hx),Ad wN (wh1 Z0 (wh1 Z1 (wh1 Z2 (wh1 Z3 (wh1 Z4 (wh1 (by exact mem5) (wh1 (by exact mem6) wh0))))))) nD⟩
  intro y hj;have hy:=hj;have hyo:=hy.fit.ok;refine .region (.m J J J (.sub_i64 J J J J oM (.a J J J (.na ?_))));exact⟨(p.1+1,y),⟨by simp only[];omega,hy⟩,by simp only[];omega,Ad (wk1 rfl (wk1 rfl (wk1 rfl (wk1 rfl (wk1 rfl (wk1 rfl (wk1 rfl (wk1 (congrArg (fun z=>some (i64 z)) (show((255-p.1:Nat):Int)-1=255-((p.1+1:Nat):Int) by omega)) wk0)))))))) (wh1 Z0 (wh1 Z1 (wh1 Z2 (wh1 Z3 (wh1 Z4 (wh1 (by exact mem5) (wh1 (by exact mem6) wh0))))))) nD⟩
 have hje:p.1=256:=by omega
 have hfin:FarRep p.2 (cv.lin (le a) (le b) P Q):=by rw[hje,lin_last]at hw;exact hw
 refine .exit (at_x (at_x (bl_h (Ct (.sr (.lA J J J Y265.h J Sz265 Z2 (far.length (by exact hwo)) ?_))))));refine .cV J J J J Body263 (r5_near p.2 _ hfin) tV (.sA J J J J (Point.isCell zP) Sz210 (Point.length zP) Z4 (Point.length zZ) (by exact upd4) ?_);refine .na ?_;refine .ret (en_r ?_);refine⟨_,[],Am J J Y210.h J Sz210 Z4 (by exact Point.length zP),sP,sP,?_,rfl⟩;rfl
theorem r5_Mul2z(a:List UInt8)(P:Pt Fp)(ha:a.length=32)(hP:cv.on P):Mv 199 [agg (Aa a),agg (ptc P).cells,agg (Aa (List.replicate 32 0)),agg (ptc (zero:Pt Fp)).cells] (fun _=>True) (agg (ptc (cv.mul (le a) P)).cells):=by
  have h:=r5_Mul2 a (List.replicate 32 0) P zero ha rfl hP cv.on_zero;rwa[le_zero32,lin_one]at h
theorem r5_Mul(a:List UInt8)(P:Pt Fp)(ha:a.length=32)(hP:cv.on P):Mv 270 [agg (Aa a),agg (ptc P).cells] (fun _=>True) (agg (ptc (cv.mul (le a) P)).cells):=by
 intro W hW;refine Ac func270 J 10 ntmps270 J (.sr (.boxA J J ?_));intro n2 hn2 hf2;refine .boxA J J ?_;intro n3 hn3 hf3;refine .alloc (cs:=Point.zero.cells) J Point.zr J ?_;intro n4 hn4 hf4;refine .na (.seq (.draw (oP [100,101,2,303,304,405]) Ao zK (.lA J J J Y207.h J Sz207 Z2 (by(simp[ha];done)) ?_)));refine .lA J J J Y210.h J Sz210 Z1 (Point.length zP) ?_;refine .build (cs:=Aa (List.replicate 32 0)) J J J (fun w=>by kernel_rfl) ?_;refine .cV J J J J Body257 (r5_Zero) tV (.cV J J J J Body199 (r5_Mul2z a P ha hP) tV (.sA J J J J (Point.isCell zP) Sz210 (Point.length zP) Z0 (Point.length zZ) zU ?_));refine .na ?_;refine .ret (en_r ?_);refine⟨_,[],Am J J Y210.h J Sz210 Z0 (by exact Point.length zP),sP,sP,?_,rfl⟩;rfl
theorem r5_Bytes(P:Pt Fp)(hP:cv.on P):Mv 269 [agg (ptc P).cells] (fun _=>True) (.tuple #[agg (Aa (pb P)),i64 0]):=by
 intro W hW;refine Ac func269 J 19 ntmps269 J (.sr (.boxA J J ?_));intro n1 hn1 hf1;refine .alloc (cs:=(Aa (List.replicate 32 0))) J Zr33 J ?_;intro n2 hn2 hf2;refine .a J J J (.na (.seq (.sr (.lA J J J Y210.h J Sz210 Z1 (Point.length zP) ?_))));refine .cV J J J J Body256 (r5_Check P hP) tV (.nei J J J J (show(!decide _)=false from congrArg not (decide_eq_true (rfl))) (.na (.cond_f J (rfl) (.skip (Ct (.sr (.fld J J J Y210.h J Sz207 dE _ J (.lN (Aa _) J J J Y207.h J Sz207 Z1 (Point.row_fY zP) (Point.rl_fY zP) ?_))))))));refine .alloc (cs:=(Aa (List.replicate 32 0))) J Zr33 J ?_;intro n4 hn4 hf4;refine .sA J J J J zE Sz33 (by(simp[Aq,ptc_y];done)) Z0 sP zU ?_;refine .na (.join (ι:=Unit) (fun _u=>⟨[(2,ptr n2 0),(4,ptr n4 0)],[⟨n4,Aa (pb P),33,32⟩,⟨n2,Aa (List.replicate 32 0),33,32⟩]⟩) (fun _u=>True) ?_ ?_)
 ·
  refine .sr (.fld J J J Y210.h J Sz207 dE _ J (.lN (Aa _) J J J Y207.h J Sz207 Z2 (Point.row_fX zP) (Point.rl_fX zP) ?_));refine .cV J J J J Body312 (r_odd P.x) tV (.na (.condP J (fun hc1=>?_) (fun hc1=>?_)))
  ·
   refine .region (.i1 J J J J Y33.h Sz5 31 J dE (.load1 J J J Y5.h J Z0 (B0 (by show 31<(fb P.y).length;rw[Aq];decide)) ?_));refine .add_u8 J J J (show Ag _ _=some (u8 128)from rfl) (.i1 J J J J Y33.h Sz5 31 J dE ?_);rw[show((ptc P).fY.getD 31 0+128:UInt8)=(fb P.y).getD 31 0|||128 from byte_plus _ (fb_top P.y)];refine .s1 J J J J J Sz5 Z0 (by(simp[Aq,ptc_y];done)) (by exact Bi _ _ _) zU ?_;refine .na ?_
   (rw[show pb P=(fb P.y).set 31 ((fb P.y).getD 31 0|||128)from if_pos hc1];exact⟨(),trivial,Ad wN (wh1 Z0 (wh1 Z1 wh0)) nD⟩)
  refine .skip (Ct ?_)
  (rw[show pb P=fb P.y from if_neg hc1];exact⟨(),trivial,Ad wN (wh1 Z0 (wh1 Z1 wh0)) nD⟩)
 intro _u hj;skip;refine .sr (.lA J J J Y33.h J Sz33 Z0 (by(simp[Cq];done)) ?_);refine .sA J J J J zE Sz33 (by(simp[Cq];done)) Z1 sP zV ?_;refine .a J J J (.na ?_);refine .ret (en_r ?_);refine⟨_,[],Bd J J J Y33.h J Sz33 Z1 (by simp[Cq]),sP,sP,?_,rfl⟩;rfl
end Go.Proofs.YtpogmfngccolbaaGreat
namespace Go.Proofs.YtpogmfngccolbaaGreat
open Go Hw _root_.Go.Proofs.Tryz
theorem ref_mul(a b:List UInt8)(ha:a.length=32)(hb:b.length=32):Mv 314 [agg (Aa a),agg (Aa b)] (fun _=>True) (agg (Aa (leb 32 (le a*le b%L)))):=by
 intro W hW;refine Ac func314 J 58 ntmps314 J (.sr (.boxA J J ?_));intro n2 hn2 hf2;refine .boxA J J ?_;intro n3 hn3 hf3;refine .alloc (cs:=(Aa (List.replicate 32 0))) J A8 J ?_;intro n4 hn4 hf4;refine .nsr (.alloc (cs:=(B9 (List.replicate 64 0))) J Zr320 J ?_);intro n5 hn5 hf5;refine .na (.join (ι:=Unit) (fun _u=>⟨[(2,ptr n2 0),(3,ptr n3 0),(4,ptr n4 0),(5,ptr n5 0)],[⟨n5,natsV (out a b 32),320,64⟩,⟨n4,Aa (List.replicate 32 0),207,32⟩]⟩) (fun _u=>True) ?_ ?_)
 ·
  refine .sr (.a J J J (.na (.block (.loop (ι:=Nat) (fun p=>⟨[(2,ptr n2 0),(3,ptr n3 0),(4,ptr n4 0),(5,ptr n5 0),(6,i64 (p:Int))],[⟨n5,natsV (out a b p),320,64⟩,⟨n4,Aa (List.replicate 32 0),207,32⟩,⟨n3,Aa b,207,(Aa b).length⟩,⟨n2,Aa a,207,(Aa a).length⟩]⟩) (fun p=>p≤32) (fun p=>32-p) (0) ?_ ?_ ?_))))
  ·omega
  ·exact Ad wN (wh1 (by rw[out,natsV_zeros];exact Bp) (wh1 Z1 (wh1 Z2 (wh1 Z3 wh0)))) nD
  rintro p hp;refine .seq (.sr (.m J J J (.lss J J J J J (.na (.condP J (fun hc0=>?_) (fun hc0=>?_))))))
  ·
   have hp2:p<32:=by omega
   refine .skip (Ct (.seq (.block (.sr (.a J J J (.na (.block (.loop (ι:=Nat) (fun q=>⟨[(2,ptr n2 0),(3,ptr n3 0),(4,ptr n4 0),(5,ptr n5 0),(6,i64 (p:Int)),(7,i64 (q:Int))],[⟨n5,natsV (inn a b p (out a b p) q),320,64⟩,⟨n4,Aa (List.replicate 32 0),207,32⟩,⟨n3,Aa b,207,(Aa b).length⟩,⟨n2,Aa a,207,(Aa a).length⟩]⟩) (fun q=>q≤32) (fun q=>32-q) (0) ?_ ?_ ?_))))))))
   ·omega
   ·exact Ad wN (wh1 Z0 (wh1 Z1 (wh1 Z2 (wh1 Z3 wh0)))) nD
   rintro q hq;refine .seq (.sr (.m J J J (.lss J J J J J (.na (.condP J (fun hc1=>?_) (fun hc1=>?_))))))
   ·
    have hq2:q<32:=by omega
    obtain⟨hm0,hm1⟩:=natCast_mul_le (a.getD p 0).toNat_lt (b.getD q 0).toNat_lt;have hcl:(inn a b p (out a b p) q).getD (p+q) 0≤2080800*p+65025*q:=inn_le a b p _ _ (out_le a b p) q (p+q);refine .skip (Ct (.seq (.block (.draw (oP [0,1,2,3,4,5,6,107,8,9,110,11,12,13,114,15,16,17,18,419]) Ao zK (.m J J J (.m J J J (.aI J J J J oM (.m J J J (.m J J J (.aI J J J J oM (.i1 J J J J underlying320 Sz3 (p+q) oM oM (.load1 J J J Y3.h J Z0 (get_nats (by simp[inn_length,out_length];omega)) ?_))))))))))));refine .m J J J (.i1 J J J J Y207.h Sz5 _ J oM (.load1 J J J Y5.h J Z3 zG ?_));refine .conv J J J Y5.h Y3.h (cv_u8_i64 _) (.m J J J (.i1 J J J J Y207.h Sz5 _ J oM (.load1 J J J Y5.h J Z2 zG ?_)))
    refine .conv J J J Y5.h Y3.h (cv_u8_i64 _) (.mul_i64 J J J J oM (.aI J J J J oM (.i1 J J J J underlying320 Sz3 (p+q) oM oM (.s1 J J J J J Sz3 Z0 (by(simp[natsV_length,inn_length,out_length];omega)) (by rfl) zU ?_))))
    refine .nil (bl_n (Ct (.region (.m J J J (.aI J J J J oM (.a J J J (.na ?_)))))));exact⟨q+1,by omega,by omega,Ad wN (wh1 (by rw[inn,addC_set];exact Bp) (wh1 Z1 (wh1 Z2 (wh1 Z3 wh0)))) nD⟩
   obtain rfl:q=32:=by omega
   refine .exit (at_x (at_x (bl_h (bl_n (Ct (.region (.m J J J (.aI J J J J oM (.a J J J (.na ?_))))))))));exact⟨p+1,by omega,by omega,Ad wN (wh1 Z0 (wh1 Z1 (wh1 Z2 (wh1 Z3 wh0)))) nD⟩
  obtain rfl:p=32:=by omega
  refine .exit (at_x (at_x (bl_h (Ct ?_))));refine⟨(),trivial,Ad wN (wh1 Z0 (wh1 Z1 wh0)) nD⟩
 intro _u hj;skip;refine .sr (.mkSlice (z:=u8 0) (by':=1) 64 J J J J Y46.h Sz5 Zr5 (by unfold By;kernel_rfl) J oM oM oM ?_);intro n38;refine .a J J J (.nsr (.a J J J (.na (.join (ι:=Unit) (fun _u=>⟨[(4,ptr n4 0),(8, .slice (some ⟨n38,0,none⟩) 64 64)],[⟨n38,Aa (leb 64 (le a*le b)),5,64⟩,⟨n4,Aa (List.replicate 32 0),207,32⟩]⟩) (fun _u=>True) ?_ ?_))))
 ·
  refine .sr (.a J J J (.na (.block (.loop (ι:=Nat) (fun k=>⟨[(4,ptr n4 0),(5,ptr n5 0),(8, .slice (some ⟨n38,0,none⟩) 64 64),(9,i64 ((ev ((out a b 32).take k)/256^k:Nat):Int)),(10,i64 (k:Int))],[⟨n38,Aa (padW 64 (ev ((out a b 32).take k)) k),5,64⟩,⟨n5,natsV (out a b 32),320,64⟩,⟨n4,Aa (List.replicate 32 0),207,32⟩]⟩) (fun k=>k≤64) (fun k=>64-k) (0) ?_ ?_ ?_))))
  ·omega
  ·exact Ad (wk1 rfl (wk1 rfl (wk1 rfl (wk1 (by rw[Ldu];rfl) wN)))) (wh1 (by rw[padW_zero];exact Bp) (wh1 Z1 (wh1 Z2 wh0))) nD
  rintro k hk;have hpl:=padW_length 64 (ev ((out a b 32).take k)) k hk;have hcb:=ev_take_le (out a b 32) _ (out_le a b 32) k;have hcn:(0:Int)≤((ev ((out a b 32).take k)/256^k:Nat):Int):=Ldk _;have hcb2:((ev ((out a b 32).take k)/256^k:Nat):Int)≤((2080800*32:Nat):Int):=Int.ofNat_le.2 hcb;refine .seq (.sr (.m J J J (.lss J J J J J (.na (.condP J (fun hc2=>?_) (fun hc2=>?_))))))
  ·
   have hk2:k<64:=by omega
   have hco:=out_le a b 32 k;have hs:((ev ((out a b 32).take k)/256^k:Nat):Int)+(((out a b 32).getD k 0:Nat):Int)=((ev ((out a b 32).take k)/256^k+(out a b 32).getD k 0:Nat):Int):=by rw[Lbr]
   refine .skip (Ct (.seq (.block (.sr (.m J J J (.m J J J (.i1 J J J J underlying320 Sz3 _ J oM (.load1 J J J Y3.h J Z1 (get_nats (by simp[out_length];omega)) ?_))))))));refine .aI J J J J oM (.a J J J (.nsr (.m J J J (.m J J J (.m J J J (.rem_i64 J J J J oM (.conv J J J Y3.h Y5.h (cv_i64_u8 _) (.idxSl1 J J J J Y46.h Sz5 _ J oM (.s1 J J J J J Sz5 Z0 (by(simp;omega)) (by exact Bi _ _ _) zU ?_)))))))));refine .na (.region (.m J J J (.quo_i64 J J J J oM (.a J J J (.nil (bl_n (Ct (.region (.m J J J (.aI J J J J oM (.a J J J (.na ?_))))))))))));have hst:=ev_take_succ (out a b 32) k (by rw[out_length];omega);exact⟨k+1,by omega,by omega,Ad (wk1 rfl (wk1 rfl (wk1 rfl (wk1 (by rw[hst,←carry_step _ _ _ _ hs];rfl) wN)))) (wh1 (by rw[hst,←padW_step 64 _ _ k oM _ hs,byteOf_mod];exact Bp) (wh1 Z1 (wh1 Z2 wh0))) nD⟩
  obtain rfl:k=64:=by omega
  refine .exit (at_x (at_x (bl_h (Ct ?_))));refine⟨(),trivial,Ad wN (wh1 (by rw[←padW_all,←ev_all a b ha hb];exact Bp) (wh1 Z2 wh0)) nD⟩
 intro _u hj;skip;refine .sr (.m J J J (.cV J J J J Body311 (ref_rest _ 0 _ 64 (leb 64 (le a*le b)) (by simp[Ak]) oM) (fun W h=>Ap h Z0) ?_));refine .sA J J J J zB Sz207 (by(simp[Ak];done)) Z1 sP zV ?_;refine .na ?_;refine .ret (en_r ?_);refine⟨_,[],Am J J Y207.h J Sz207 Z1 (by simp[Ak]),sP,sP,?_,rfl⟩;rw[le_leb,Lab (le512 ha hb)]
theorem ref_muladd(a b c:List UInt8)(ha:a.length=32)(hb:b.length=32)(hc:c.length=32):Mv 273 [agg (Aa a),agg (Aa b),agg (Aa c)] (fun _=>True) (agg (Aa (leb 32 ((le a*le b+le c)%L)))):=by
 intro W hW;refine Ac func273 J 13 ntmps273 J (.sr (.boxA J J ?_));intro n3 hn3 hf3;refine .boxA J J ?_;intro n4 hn4 hf4;refine .boxA J J ?_;intro n5 hn5 hf5;refine .alloc (cs:=(Aa (List.replicate 32 0))) J A8 J ?_;intro n6 hn6 hf6;refine .na (.seq (.draw (oP [100,101,3,302,304,305,406]) Ao zK (.lA J J J Y207.h J Sz207 Z3 (by(simp[ha];done)) ?_)));refine .lA J J J Y207.h J Sz207 Z2 (by(simp[hb];done)) ?_;refine .sliceArr J J J Y207.h Sz5 (.cV J J J J Body314 (ref_mul a b ha hb) tV (.cV J J J J Body311 (ref_rest _ 0 _ 32 c (by simp[hc]) oM) (fun W h=>Ap h Z1) ?_));refine .cV J J J J Body313 (ref_plus_n _ _ (Lbs _ L_pos) (Lbs _ L_pos)) tV (.sA J J J J zB Sz207 (by(simp[Ak];done)) Z0 sP zU ?_);refine .na ?_;refine .ret (en_r ?_);refine⟨_,[],Am J J Y207.h J Sz207 Z0 (by simp[Ak]),sP,sP,?_,rfl⟩;rw[←Lek]
open Ed
variable{D:DB}{W w:World}{b n:Nat}{l:List UInt8}{v:Value}
theorem byte_8:∀b:UInt8,b-UInt8.ofNat (b.toNat%8)=b&&&248∧UInt8.ofNat (b.toNat%64)+64=(b&&&127)|||64:=by
  intro b;have h:∀n,n<256→UInt8.ofNat n-UInt8.ofNat ((UInt8.ofNat n).toNat%8)=UInt8.ofNat n&&&248∧UInt8.ofNat ((UInt8.ofNat n).toNat%64)+64=(UInt8.ofNat n&&&127)|||64:=by decide
  have h2:=h b.toNat b.toNat_lt;rwa[Ldx]at h2
theorem clamp_ref(h:l.length=32):(l.set 0 (l.getD 0 0-UInt8.ofNat ((l.getD 0 0).toNat%8))).set 31 (UInt8.ofNat (((l.set 0 (l.getD 0 0-UInt8.ofNat ((l.getD 0 0).toNat%8))).getD 31 0).toNat%64)+64)=clampB l:=by
  have g:(l.set 0 (l.getD 0 0-UInt8.ofNat ((l.getD 0 0).toNat%8))).getD 31 0=l.getD 31 0:=by
    rw[La2,Led dE,←La2]
  rw[g,(byte_8 _).1,(byte_8 _).2];rfl
theorem upd_all{f:List UInt8}(h:f.length=32):upd (Aa (List.replicate 32 0)) 0 (Aa f)=Aa f:=by simp[upd,Aa,h]
theorem sees_take(h:Cd w b 0 (Aa l)):SeesP w (some ⟨b,0,none⟩) (Aa (l.take n)):=SeesP.of (fun i v hv=>h i v (take_sees hv))
theorem sees_drop(h:Cd w b 0 (Aa l)):SeesP w (some ⟨b,n,none⟩) (Aa (l.drop n)):=SeesP.of (fun i v hv=>by
  have e:(Aa l)[n+i]? =some v:=by rw[Aa,Le7,Lba]at hv;exact hv
  have:=h _ v e;rwa[Las]at this)
theorem r6_secret(seed:List UInt8)(h32:seed.length=32)(s:List UInt8)(hs:Hid (sha512 seed=s)):Meets prog 272 [agg (Aa seed)] [] (fun _=>True) (fun v out=>∃q c,v= .tuple #[agg (Aa (clampB (s.take 32))), .slice (some ⟨q,0,none⟩) 32 c]∧32≤c∧out=[⟨q,Aa (s.drop 32),5,c*1⟩]):=by
 intro W hW;have hs64:s.length=64:=by rw[←hs.out];exact sha512_length seed
 have ht32:(s.take 32).length=32:=by rw[Lag,hs64];rfl
 have hd32:(s.drop 32).length=32:=by rw[Lc3,hs64]
 have hcl:=clampB_length ht32;refine Ac func272 J 28 ntmps272 J (G3 ?_);intro n1 hn1 hf1;refine .alloc (cs:=(Aa (List.replicate 32 0))) J A8 J ?_;intro n2 hn2 hf2;refine G6 ?_;refine .mkRow2 (z:= .slice none 0 0) [.slice (some ⟨n1,0,none⟩) 32 32] [.slice (some ⟨n1,0,none⟩) 32 32] rfl J Y183.h Sz46 Zr46 J J (by intro v hv;rw[La0.1 hv];rfl) dE J ?_;intro q7;refine .cV J J J J Body267 (r2_Sum512 (some ⟨q7,0,none⟩) 1 1 [⟨some ⟨n1,0,none⟩,32,32⟩] [seed] rfl J (fun j hj=>(by
   rcases(show j=0 by omega)with rfl
   ·exact⟨by show 32=List.length _;exact h32.symm,fun e=>by cases e⟩)) (seed) sP (by(simp[h32];done)) dE s hs) (fun w h=>⟨SeesP.of (Ap h Z0),(fun j hj=>(by
   rcases(show j=0 by omega)with rfl
   ·exact SeesP.of (Ap (cs:=Aa seed) h Z2)))⟩) ?_
 refine .alloc (cs:=(Aa (List.replicate 64 0))) J Zr47 J ?_;intro n4 hn4 hf4;refine .sA J J J J zE Sz47 (by(simp[hs64];done)) Z0 sP zU ?_;refine G4 ?_;refine .alloc (cs:=(Aa (List.replicate 32 0))) J A8 J ?_;intro n5 hn5 hf5;refine G3 ?_;refine .draw (oP [0,1,402]) Ao zK (G1 ?_);refine .sliceArrHi 32 J J J J J dE dE Y47.h Sz5 (.copyP (Aa (s.take 32)) 32 J J J J J Y46.h Sz5 (fun w h=>sees_take (Ap h Z1)) (fun e=>by cases e) (by rw[Aa,La1];exact ht32) J (by rw[Aa,←Lcm,La5 (Lgd ht32)]) (Ay _) Z0 sP (by exact upd_all ht32) zU ?_);refine G4 ?_;refine .i1 J J J J Y207.h Sz5 0 J dE (G1 ?_);refine .i1 J J J J Y207.h Sz5 0 J dE (G1 ?_);refine .rem_u8 J J J J 8 J dE (.sub_u8 J J J J (.i1 J J J J Y207.h Sz5 0 J dE (.s1 J J J J J Sz5 Z0 (by(simp[hs64];done)) (by exact Bi _ _ _) zU ?_)));refine G4 ?_;refine .i1 J J J J Y207.h Sz5 31 J dE (.load1 J J J Y5.h J Z0 (by exact B0 (by(simp[ht32];done))) ?_);refine .rem_u8 J J J J 64 J dE (.add_u8 J J J (show Ag _ _=some (u8 64)from rfl) (.i1 J J J J Y207.h Sz5 31 J dE (.s1 J J J J J Sz5 Z0 (by(simp[hs64,ht32];done)) (by exact Bi _ _ _) zU ?_)));refine G3 ?_;refine .withK (sp_k (sp_v (sp_v (sp_v (sp_v sp_n))))) J (.draw (oP [0,2,201,403,404,5]) Ao zK ?_);rw[clamp_ref ht32];refine .kloadAll J J J Y207.h J Sz207 Z0 (by(simp[hcl];done)) ?_;refine .sliceArrLo 32 J J J J J dE Y47.h Sz5 (.mkRow2 (z:=u8 0) [] [] rfl J Y46.h Sz5 Zr5 J J (by intro v hv;cases hv) dE J ?_);intro q25;refine .appendSl (z:=u8 0) (by':=1) (Aa (s.drop 32)) J J J J J Y46.h Y46.h Sz5 Zr5 (by unfold By;kernel_rfl) J (fun w h=>sees_drop (Ap h Z1)) (fun e=>by cases e) (Ay _) rM J J oM oM oM (by rw[Aa,La1];exact hd32) ?_;intro q27 c27 hq27;refine .sA J J J J zE Sz207 (by(simp[hcl];done)) Z3 sP (by exact upd3) ?_;refine G3 ?_;refine G2 ?_;simp only[Lam,Lak,Lat];refine Aw (out:=(⟨q27,[]++Aa (s.drop 32),5,c27*1⟩::[])) (Bd J J J Y207.h J Sz207 Z3 (by simp[hcl])) (Ab rM Ai) ?_;exact⟨q27,c27,rfl,by omega,rfl⟩
theorem r6_Secret(seed:List UInt8)(h32:seed.length=32)(s:List UInt8)(hs:Hid (sha512 seed=s)):Mv 271 [agg (Aa seed)] (fun _=>True) (agg (Aa (clampB (s.take 32)))):=by
 intro W hW;have hs64:s.length=64:=by rw[←hs.out];exact sha512_length seed
 have ht32:(s.take 32).length=32:=by rw[Lag,hs64];rfl
 have hd32:(s.drop 32).length=32:=by rw[Lc3,hs64]
 have hcl:=clampB_length ht32;revert hcl;have hsec:=r6_secret seed h32 s hs;revert hsec;generalize clampB (s.take 32)=N;intro hsec hcl;refine Ac func271 J 11 ntmps271 J (G3 ?_);intro n1 hn1 hf1;refine .alloc (cs:=(Aa (List.replicate 32 0))) J A8 J ?_;intro n2 hn2 hf2;refine G4 ?_;refine .lA J J J Y33.h J Sz33 Z1 (by(simp[h32];done)) ?_;refine .call4 J J J J J Body272 (hsec) tV ?_;rintro v7 out7 ⟨q7,c7,rfl,hc7,rfl⟩;simp only[Lam,Lak];refine G3 ?_;refine .alloc (cs:=(Aa (List.replicate 32 0))) J A8 J ?_;intro n3 hn3 hf3;refine .sA J J J J zE Sz207 (by(simp[hcl];done)) Z0 sP zU ?_;refine G5 ?_;refine .lA J J J Y207.h J Sz207 Z0 (by(simp[hcl];done)) ?_;refine .sA J J J J zE Sz207 (by(simp[hcl];done)) Z2 sP (by exact upd2) ?_;refine G2 ?_;refine G2 ?_;refine⟨_,[],Am J J Y207.h J Sz207 Z2 (by simp[hcl]),sP,sP,?_,rfl⟩;rfl
theorem r6_KeyQ(N:List UInt8)(hN:N.length=32)(Q:Pt Fp)(hQ:cv.mul (le N) bP=Q):cv.on Q∧Mv 270 [agg (Aa N),agg (ptc bP).cells] (fun _=>True) (agg (ptc Q).cells):=by
  rw[←hQ];exact⟨cv.on_mul bP_on _,r5_Mul N bP hN bP_on⟩
theorem r6_Key(seed:List UInt8)(h32:seed.length=32)(s:List UInt8)(hs:Hid (sha512 seed=s)):Mv 205 [agg (Aa seed)] (fun _=>True) (agg (Aa (sgK s))):=by
 intro W hW;have hs64:s.length=64:=by rw[←hs.out];exact sha512_length seed
 have ht32:(s.take 32).length=32:=by rw[Lag,hs64];rfl
 have hd32:(s.drop 32).length=32:=by rw[Lc3,hs64]
 have hcl:=clampB_length ht32;obtain⟨Q,hQ⟩:∃Q,cv.mul (le (clampB (s.take 32))) bP=Q:=⟨_,rfl⟩;have hsec:=r6_Secret seed h32 s hs;have hkq:=r6_KeyQ (clampB (s.take 32)) hcl Q hQ;rw[show sgK s=pb Q from by rw[sgK,hQ]];clear hQ;revert hcl hsec hkq;generalize clampB (s.take 32)=N;intro hcl hsec hkq;obtain⟨hQo,hmul⟩:=hkq;refine Ac func205 J 14 ntmps205 J (G3 ?_);intro n1 hn1 hf1;refine .alloc (cs:=(Aa (List.replicate 32 0))) J Zr44 J ?_;intro n2 hn2 hf2;refine G4 ?_;refine .lA J J J Y33.h J Sz33 Z1 (by(simp[h32];done)) ?_;refine .cV J J J J Body271 (hsec) tV (.cV J J J J Body200 (r5_Base) tV (.cV J J J J Body270 (hmul) tV (.cV J J J J Body269 (r5_Bytes Q hQo) tV (G3 ?_))));refine .alloc (cs:=(Aa (List.replicate 32 0))) J Zr33 J ?_;intro n3 hn3 hf3;refine .sA J J J J zE Sz33 (by(simp[Cq];done)) Z0 sP zU ?_;refine G5 ?_;refine .lA J J J Y33.h J Sz33 Z0 (by(simp[Cq];done)) ?_;refine .sA J J J J zE Sz44 (by(simp[Cq];done)) Z1 sP zV ?_;refine G2 ?_;refine G2 ?_;refine⟨_,[],Am J J Y44.h J Sz44 Z1 (by simp[Cq]),sP,sP,?_,rfl⟩;rfl
theorem r6_challenge(r k:List UInt8)(hr:r.length=32)(hk:k.length=32)(sb:Sl)(bb:List UInt8)(hbn:bb.length≤80000)(s:List UInt8)(hs:Hid (sha512 (r++(k++bb))=s)):Mv 201 [agg (Aa r),agg (Aa k),sb.v] (fun W=>BytesAt W sb bb) (agg (Aa (sgR s))):=by
 intro W hW;have hs64:s.length=64:=by rw[←hs.out];exact sha512_length _
 obtain⟨R,hR⟩:∃R,Hid (sgR s=R):=⟨_,⟨rfl⟩⟩;have hRl:R.length=32:=by rw[←hR.out];exact sgR_length s
 have hres:=fun b=>ref_Rest b 0 64 64 s hs64 dE;rw[show leb 32 (le s%L)=R from hR.out]at hres;rw[hR.out];refine Ac func201 J 21 ntmps201 J (G3 ?_);intro n3 hn3 hf3;refine G1 ?_;intro n4 hn4 hf4;refine .alloc (cs:=(Aa (List.replicate 32 0))) J A8 J ?_;intro n6 hn6 hf6;refine G3 ?_;refine .draw (oP [0,1,2,203,304,205,406]) Ao zK (G3 ?_);refine .mkRow2 (z:= .slice none 0 0) [.slice (some ⟨n3,0,none⟩) 32 32, .slice (some ⟨n4,0,none⟩) 32 32,sb.v] [.slice (some ⟨n3,0,none⟩) 32 32, .slice (some ⟨n4,0,none⟩) 32 32,sb.v] rfl J Y183.h Sz46 Zr46 J J (by intro v hv;simp only[Lal,Lcd,or_false]at hv;rcases hv with rfl|rfl|rfl<;>rfl) dE J ?_;intro q13;refine .cV J J J J Body267 (r2_Sum512 (some ⟨q13,0,none⟩) 3 3 [⟨some ⟨n3,0,none⟩,32,32⟩,⟨some ⟨n4,0,none⟩,32,32⟩,sb] [r,k,bb] rfl J (fun j hj=>(by
   rcases(show j=0∨j=1∨j=2 by omega)with rfl|rfl|rfl
   ·exact⟨by show 32=List.length _;exact hr.symm,fun e=>by cases e⟩
   ·exact⟨by show 32=List.length _;exact hk.symm,fun e=>by cases e⟩
   ·exact⟨by show sb.n=bb.length;exact hW.len.symm,fun e=>by have h1:=hW.nil e;have h2:=hW.cap;show sb.n=0;omega⟩)) (r++(k++bb)) sP (by(simp[hr,hk];omega)) dE s hs) (fun w h=>⟨SeesP.of (Ap h Z0),(fun j hj=>(by
   rcases(show j=0∨j=1∨j=2 by omega)with rfl|rfl|rfl
   ·exact SeesP.of (Ap (cs:=Aa r) h Z3)
   ·exact SeesP.of (Ap (cs:=Aa k) h Z2)
   ·exact A2 h rfl hW.see))⟩) ?_
 refine .alloc (cs:=(Aa (List.replicate 64 0))) J Zr47 J ?_;intro n7 hn7 hf7;refine .sA J J J J zE Sz47 (by(simp[hs64];done)) Z0 sP zU ?_;refine G5 ?_;refine .cV J J J J Body268 (hres n7) (fun w h=>Ap h Z0) ?_;refine G3 ?_;refine .alloc (cs:=(Aa (List.replicate 32 0))) J A8 J ?_;intro n8 hn8 hf8;refine .sA J J J J zE Sz207 (by(simp[hRl];done)) Z0 sP zU ?_;refine G5 ?_;refine .lA J J J Y207.h J Sz207 Z0 (by(simp[hRl];done)) ?_;refine .sA J J J J zE Sz207 (by(simp[hRl];done)) Z3 sP (by exact upd3) ?_;refine G2 ?_;refine G2 ?_;refine⟨_,[],Am J J Y207.h J Sz207 Z3 (by simp[hRl]),sP,sP,?_,rfl⟩;rfl
theorem r6_Sign(seed:List UInt8)(h32:seed.length=32)(sb:Sl)(bb:List UInt8)(hbn:bb.length≤80000)(s s1 s2:List UInt8)(hs:Hid (sha512 seed=s))(hs1:Hid (sha512 (s.drop 32++bb)=s1))(hs2:Hid (sha512 (sgF s1++(sgK s++bb))=s2)):Mv 206 [agg (Aa seed),sb.v] (fun W=>BytesAt W sb bb) (agg (Aa (sgF s1++sgS s s1 s2))):=by
 intro W hW;have hs64:s.length=64:=by rw[←hs.out];exact sha512_length seed
 have ht32:(s.take 32).length=32:=by rw[Lag,hs64];rfl
 have hd32:(s.drop 32).length=32:=by rw[Lc3,hs64]
 have hcl:=clampB_length ht32;have h64:s1.length=64:=by rw[←hs1.out];exact sha512_length _
 have csec:=r6_secret seed h32 s hs;have ckey:=r6_Key seed h32 s hs;have cch:=r6_challenge (sgF s1) (sgK s) (sgF_length s1) (sgK_length s) sb bb hbn s2 hs2;have cma:=ref_muladd (sgR s2) (clampB (s.take 32)) (sgR s1) (sgR_length s2) hcl (sgR_length s1);rw[show leb 32 ((le (sgR s2)*le (clampB (s.take 32))+le (sgR s1))%L)=sgS s s1 s2 from rfl]at cma;obtain⟨Q,hQ⟩:∃Q,cv.mul (le (sgR s1)) bP=Q:=⟨_,rfl⟩;have hkq:=r6_KeyQ (sgR s1) (sgR_length s1) Q hQ;have hF:sgF s1=pb Q:=by rw[sgF,hQ]
 rw[hF]at cch ⊢;clear hQ hs2 hF;have hres:=fun b=>ref_Rest b 0 64 64 s1 h64 dE;rw[show leb 32 (le s1%L)=sgR s1 from rfl]at hres;have lK:=sgK_length s;have lS:=sgS_length s s1 s2;have lR1:=sgR_length s1;have lR2:=sgR_length s2;revert hcl csec ckey cch cma hkq hres lK lS lR1 lR2;generalize sgS s s1 s2=S3;generalize sgK s=K;generalize sgR s1=r1;generalize sgR s2=r2;generalize clampB (s.take 32)=N;intro hcl csec ckey cma cch hkq hres lK lS lR1 lR2;obtain⟨hQo,hmul⟩:=hkq;have hpq:=Cq Q;refine Ac func206 J 50 ntmps206 J (G3 ?_);intro n2 hn2 hf2;refine .alloc (cs:=(Aa (List.replicate 64 0))) J Zr48 J ?_;intro n4 hn4 hf4;refine G4 ?_;refine .lA J J J Y33.h J Sz33 Z1 (by(simp[h32];done)) ?_;refine .call4 J J J J J Body272 (csec) tV ?_;rintro v7 out7 ⟨q7,c7,rfl,hc7,rfl⟩;simp only[Lam,Lak];refine G3 ?_;refine .alloc (cs:=(Aa (List.replicate 32 0))) J A8 J ?_;intro n5 hn5 hf5;refine .sA J J J J zE Sz207 (by(simp[hcl];done)) Z0 sP zU ?_;refine G7 ?_;refine .mkRow2 (z:= .slice none 0 0) [.slice (some ⟨q7,0,none⟩) 32 c7,sb.v] [.slice (some ⟨q7,0,none⟩) 32 c7,sb.v] rfl J Y183.h Sz46 Zr46 J J (by intro v hv;simp only[Lal,Lcd,or_false]at hv;rcases hv with rfl|rfl<;>rfl) dE J ?_;intro q21;refine .cV J J J J Body267 (r2_Sum512 (some ⟨q21,0,none⟩) 2 2 [⟨some ⟨q7,0,none⟩,32,c7⟩,sb] [s.drop 32,bb] rfl J (fun j hj=>(by
   rcases(show j=0∨j=1 by omega)with rfl|rfl
   ·exact⟨by show 32=List.length _;exact hd32.symm,fun e=>by cases e⟩
   ·exact⟨by show sb.n=bb.length;exact hW.len.symm,fun e=>by have h1:=hW.nil e;have h2:=hW.cap;show sb.n=0;omega⟩)) (s.drop 32++bb) sP (by(simp[hd32];omega)) dE s1 hs1) (fun w h=>⟨SeesP.of (Ap h Z0),(fun j hj=>(by
   rcases(show j=0∨j=1 by omega)with rfl|rfl
   ·exact SeesP.of (Ap (cs:=Aa (s.drop 32)) h Z2)
   ·exact A2 h rfl hW.see))⟩) ?_
 refine .alloc (cs:=(Aa (List.replicate 64 0))) J Zr47 J ?_;intro n7 hn7 hf7;refine .sA J J J J zE Sz47 (by(simp[h64];done)) Z0 sP zU ?_;refine G5 ?_;refine .cV J J J J Body268 (hres n7) (fun w h=>Ap h Z0) ?_;refine G3 ?_;refine .alloc (cs:=(Aa (List.replicate 32 0))) J A8 J ?_;intro n8 hn8 hf8;refine .sA J J J J zE Sz207 (by(simp[lR1];done)) Z0 sP zU ?_;refine G4 ?_;refine .draw (oP [100,301,302,303,4,5,6,207,408,9]) Ao zK (.lA J J J Y207.h J Sz207 Z0 (by(simp[lR1];done)) ?_);refine .cV J J J J Body200 (r5_Base) tV (.cV J J J J Body270 (hmul) tV (.cV J J J J Body269 (r5_Bytes Q hQo) tV (G3 ?_)));refine .alloc (cs:=(Aa (List.replicate 32 0))) J Zr33 J ?_;intro n10 hn10 hf10;refine .sA J J J J zE Sz33 (by(simp[Cq];done)) Z0 sP zU ?_;refine G4 ?_;refine .draw (oP [100,101,3,105,106,302,304,307,208,409]) Ao zK (.lA J J J Y33.h J Sz33 Z0 (by(simp[Cq];done)) ?_);refine .lA J J J Y33.h J Sz33 (by exact mem7) (by(simp[h32];done)) ?_;refine G1 ?_;refine .lA J J J Y207.h J Sz207 Z4 (by(simp[hcl];done)) ?_;refine .lA J J J Y207.h J Sz207 Z1 (by(simp[lR1];done)) ?_;refine .cV J J J J Body205 (ckey) tV (.cV J J J J Body201 (cch) (fun w h=>bytes_ext h J hW) (.cV J J J J Body273 (cma) tV (.alloc (cs:=(Aa (List.replicate 32 0))) J A8 J ?_)));intro n12 hn12 hf12;refine .sA J J J J zE Sz207 (by(simp[lS];done)) Z0 sP zU ?_;refine G4 ?_;refine .alloc (cs:=(Aa (List.replicate 64 0))) J Zr48 J ?_;intro n13 hn13 hf13;refine G3 ?_;refine .draw (oP [0,1,402]) Ao zK (G2 ?_);refine .copyP (Aa (pb Q)) 32 J J J J J Y46.h Sz5 (fun w h=>SeesP.of (Ap h Z2)) (fun e=>by cases e) (by rw[Aa,La1];exact(Cq Q)) J (by rw[Aa,←Lcm,La5 (Lgd (Cq Q))]) (Ay _) Z0 sP (by exact upd_first (Cq Q)) zU ?_;refine G3 ?_;refine .draw (oP [0,1,402]) Ao zK (.sliceArrLo 32 J J J J J dE Y48.h Sz5 (G1 ?_));refine .copyP (Aa S3) 32 J J J J J Y46.h Sz5 (fun w h=>SeesP.of (Ap h Z1)) (fun e=>by cases e) (by rw[Aa,La1];exact lS) J (by rw[Aa,←Lcm,La5 (Lgd lS)]) (Ay _) Z0 (by(simp;omega)) (by exact upd_last (Cq Q) lS) zU ?_;refine G4 ?_;refine .lA J J J Y48.h J Sz48 Z0 (by(simp[Cq,lS];done)) ?_;refine .sA J J J J zE Sz48 (by(simp[Cq,lS];done)) mR sP (by(repeat(first|exact upd0|apply Upd.tail))) ?_;refine G2 ?_;refine G2 ?_;refine⟨_,[],Am J J Y48.h J Sz48 mR (by simp[Cq,lS]),sP,sP,?_,rfl⟩;rfl
def btag:List UInt8:=[98,108,111,99,107]
def btxt(D:DB):List UInt8:=btag++D.body
def bsg(D:DB)(K G:List UInt8):DB:={ D with w:=K,sg:=G }
theorem DB.body_small(hd:D.ok)(h1:D.ls.length≤40)(h2:D.ds.length≤2000):(btxt D).length≤4005:=by
  have hz1:=B1 D.seq.toNat;have hz2:=B1 (UInt64.ofNat D.ls.length).toNat;have hz3:=B1 (UInt64.ofNat D.ds.length).toNat;have hfl:=Ca hd.ls (Lae D.ls.length);rw[Ldm]at hfl;simp only[btxt,btag,DB.body,La4,Bj,hd.w,hd.prev,hfl,Lb2,Lf0];omega
noncomputable def dgood(D:DB):Int:=if D.check=0 then(if goodB D.w (btxt D) D.sg=true then 0 else 9)else D.check
theorem cell_lt'{c o:Nat}(h:w.cell? ⟨c,o,none⟩=some v):c<w.heap.size:=by
  rcases Lax c w.heap.size with h1|h1
  ·exact h1
  ·simp[World.cell?,Lct h1]at h
theorem acc_loose(cells:List Value)(E:TypeId)(n size:Nat)(hl:cells.length=n*size):Loose fun v out=>∃s:Sl,v=s.v∧Hw.Acc s out cells E n size:=fun l h=>by
  obtain⟨v,out,⟨q,c,h1,h2,h3⟩,h4⟩:=FreshRow.loose cells E n size l h;exact⟨v,out,⟨⟨some ⟨q,0,none⟩,n,c⟩,h1,by rw[h3];exact Acc.some h2 hl⟩,h4⟩
theorem lie_none{T:TypeId}(h:Lies [⟨n,[v],T,0⟩] W):False:=by
  obtain⟨full,fr,hb⟩:=h _ (La0.2 rfl);have h1:=hb.pre.length_le;have h2:=hb.size;simp at h1;simp only at h2;omega
structure SameB(B:Block)(D:DB):Prop where
  ok:B.ok
  w:B.fWriter=D.w
  seq:B.fSeq=D.seq
  prev:B.fPrev=D.prev
  sg:B.fSig=D.sg
  ln:B.fLinks.n=D.ls.length
  dn:B.fData.n=D.ds.length
theorem some_same(h:D.ok):SameB ⟨D.w,D.seq,D.prev,⟨none,D.ls.length,0⟩,⟨none,D.ds.length,0⟩,D.sg⟩ D:=⟨⟨h.w,h.prev,h.sg⟩,rfl,rfl,rfl,rfl,rfl,rfl⟩
def BlkR(e:Int)(D:DB)(v:Value)(out:List Blk):Prop:=∃B:Block,SameB B D∧v= .tuple #[agg B.cells,i64 e]∧∀W2,Lies out W2→BlockIs W2 B D
def BlkV(D:DB)(v:Value)(out:List Blk):Prop:=∃B:Block,SameB B D∧v=agg B.cells∧∀W2,Lies out W2→BlockIs W2 B D
theorem none_nodup{l:List Blk}(hl:(l.map (·.n)).Nodup)(hn:∀b∈l,b.n≠n)(v:Value):((([⟨n,[v],0,0⟩]:List Blk)++l).map (·.n)).Nodup:=by
  simp only[Lck,Lao,Lb7];exact⟨fun h2=>by obtain⟨b,hb,e⟩:=La7.1 h2;exact hn b hb e,hl⟩
theorem BlkR.loose(e:Int)(D:DB)(hD:D.ok):Loose (BlkR e D):=fun l hl=>by
  obtain⟨n,_,hn⟩:=fresh_is 0 l;exact⟨_,[⟨n,[undef],0,0⟩],⟨_,some_same hD,rfl,fun W2 h=>(lie_none h).elim⟩,none_nodup hl hn _⟩
theorem BlkV.loose(D:DB)(hD:D.ok):Loose (BlkV D):=fun l hl=>by
  obtain⟨n,_,hn⟩:=fresh_is 0 l;exact⟨_,[⟨n,[undef],0,0⟩],⟨_,some_same hD,rfl,fun W2 h=>(lie_none h).elim⟩,none_nodup hl hn _⟩
theorem own_btxt{q c:Nat}(hs:SeesP W (some ⟨q,0,none⟩) (Aa (btxt D)))(hc:(btxt D).length≤c)(hn:(btxt D).length≤4005):BytesAt W ⟨some ⟨q,0,none⟩,(btxt D).length,c⟩ (btxt D):=own_bytes hs rfl hc (by unfold maxLen;omega)
theorem db_text(B:Block)(D:DB)(hB:B.ok)(h1:D.ls.length≤40)(h2:D.ds.length≤2000):Meets prog 156 [agg B.cells] [] (fun W=>BlockIs W B D) (fun v out=>FreshRow v out (Aa (btxt D)) 5 (btxt D).length 1):=by
 intro W hW;have hbs:=DB.body_small hW.dok h1 h2;have e1:=hW.ls.len;have e2:=hW.ds.len;have hbl:(btxt D).length=5+D.body.length:=by rw[btxt,La4];rfl
 refine Ac func156 J 8 ntmps156 J (G3 ?_);intro n1 hn1 hf1;refine G5 ?_;refine .mkRow (z:=u8 0) [u8 98,u8 108,u8 111,u8 99,u8 107] (Aa btag) J J J Y46.h Sz5 Zr5 J J (by intro v hv;simp only[Lal,Lcd,or_false]at hv;rcases hv with rfl|rfl|rfl|rfl|rfl<;>rfl) dE J ?_;intro q3;refine .constB J J J J Y46.h Y5.h Z0 ?_;refine G1 ?_;refine .call4 J J J J J Body195 (block_body B hB D.ls D.ds oM oM) (fun w h=>⟨rows_ext h J hW.ls,bytes_ext h J hW.ds⟩) ?_;rintro v6 out6 ⟨N6,hN6,hN62,q6,c6,rfl,hc6,rfl⟩;rw[hW.body]at hN6 ⊢;subst hN6;refine .appendSl (z:=u8 0) (by':=1) (Aa D.body) J J J J J Y46.h Y46.h Sz5 Zr5 (by unfold By;kernel_rfl) J (fun w h=>SeesP.of (Ap (cs:=Aa D.body) h Z0)) (fun e=>by cases e) (Ay _) rM J J dE oM oM (by rw[Aa,La1,Lb4]) ?_;intro q7 c7 hq7;rw[←C5];refine G3 ?_;refine G2 ?_;refine Aw (out:=(⟨q7,Aa (btag++D.body),5,c7*1⟩::[])) (Ae J J) (Ab rM Ai) ?_;exact⟨q7,c7,(by(rw[hbl];done)),(by rw[hbl];exact hq7),rfl⟩
theorem cl_digs_nil  :Mv 81 [.slice none 0 0] (fun _=>True) (.slice none 0 0):=by
 intro W hW;refine Ac func81 J 8 ntmps81 J (G9 ?_);refine .eqNilS (r:=true) J J J J Y30.h J (G2 ?_);refine .cond_t J (rfl) (G5 ?_);refine G3 ?_;refine Aw (out:=[]) (Ae J J) Ai ?_;exact⟨rfl,rfl⟩
theorem cl_digs_some(a:Addr)(n c:Nat)(ls:List (List UInt8))(hl:ls.length=n)(hr:∀l∈ls,l.length=32)(hn:n≤90000):Meets prog 81 [.slice (some a) n c] [] (fun W=>SeesP W (some a) (A3 ls)) (fun v out=>FreshRow v out (A3 ls) 34 n 32):=by
 intro W hW;refine Ac func81 J 8 ntmps81 J (G9 ?_);refine .eqNilS (r:=false) J J J J Y30.h J (G2 ?_);refine .cond_f J (rfl) (G4 ?_);refine .mkRow (z:=agg (Aa (List.replicate 32 0))) [] [] rfl J J Y30.h Sz34 Ck J J (by intro v hv;cases hv) dE J ?_;intro q0;refine G1 ?_;refine .appendSl (z:=agg (Aa (List.replicate 32 0))) (by':=32) (A3 ls) J J J J J Y30.h Y30.h Sz34 Ck (by unfold By;kernel_rfl) J (fun w h=>A2 h J hW) (fun e=>by cases e) (flatB_cell ls) Az J J oM oM oM (by rw[Ax hr,hl]) ?_;intro q1 c1 hq1;refine G3 ?_;refine G2 ?_;refine⟨_,[⟨q1,[]++A3 ls,34,c1*32⟩],Ae J J,(by intro b hb;rw[La0.1 hb];exact Bp),Cn,⟨q1,c1,by rw[Las],by omega,rfl⟩⟩
theorem cl_byte_nil  :Mv 158 [.slice none 0 0] (fun _=>True) (.slice none 0 0):=by
 intro W hW;refine Ac func158 J 8 ntmps158 J (G9 ?_);refine .eqNilS (r:=true) J J J J Y46.h J (G2 ?_);refine .cond_t J (rfl) (G5 ?_);refine G3 ?_;refine Aw (out:=[]) (Ae J J) Ai ?_;exact⟨rfl,rfl⟩
theorem cl_digs(s:Sl)(ls:List (List UInt8))(hn:s.n≤90000):Meets prog 81 [s.v] [] (fun W=>RowsAt W s 32 ls) (fun v out=>∃s':Sl,v=s'.v∧Hw.Acc s' out (A3 ls) 34 s.n 32):=fun W hW=>by
  obtain⟨p,n,c⟩:=s;cases p with
  | none=>
    obtain rfl:c=0:=hW.nil rfl;obtain rfl:n=0:=Nat.le_zero.1 hW.cap;obtain rfl:ls=[]:=List.length_eq_zero_iff.1 hW.len;exact(cl_digs_nil W trivial).mono fun e W' ⟨v,out,h1,⟨h2,h3⟩,h4⟩=>⟨v,out,h1,⟨Sl.nil,h2,by subst h3;exact Acc.none⟩,h4⟩
  |some a=>exact(cl_digs_some a n c ls hW.len hW.row hn W hW.see).mono fun e W' ⟨v,out,h1,⟨q,c',h2,h3,h5⟩,h4⟩=>⟨v,out,h1,⟨⟨some ⟨q,0,none⟩,n,c'⟩,h2,by rw[h5];exact Acc.some h3 (by rw[Ax hW.row,hW.len])⟩,h4⟩
theorem cl_byte(s:Sl)(l:List UInt8)(hn:s.n≤90000):Meets prog 158 [s.v] [] (fun W=>BytesAt W s l) (fun v out=>∃s':Sl,v=s'.v∧Hw.Acc s' out (Aa l) 5 s.n 1):=fun W hW=>by
  obtain⟨p,n,c⟩:=s;cases p with
  | none=>
    obtain rfl:c=0:=hW.nil rfl;obtain rfl:n=0:=Nat.le_zero.1 hW.cap;obtain rfl:l=[]:=List.length_eq_zero_iff.1 hW.len;exact(cl_byte_nil W trivial).mono fun e W' ⟨v,out,h1,⟨h2,h3⟩,h4⟩=>⟨v,out,h1,⟨Sl.nil,h2,by subst h3;exact Acc.none⟩,h4⟩
  |some a=>exact(clone_bytes a n c l hW.len hn W hW.see).mono fun e W' ⟨v,out,h1,⟨q,c',h2,h3,h5⟩,h4⟩=>⟨v,out,h1,⟨⟨some ⟨q,0,none⟩,n,c'⟩,h2,by rw[h5];exact Acc.some h3 (by rw[Aa,La1];exact hW.len.trans (Lb4 _).symm)⟩,h4⟩
theorem db_good(B:Block)(D:DB)(hB:B.ok):Mv 97 [agg B.cells] (fun W=>BlockIs W B D) (i64 (dgood D)):=by
 intro W hW;refine Ac func97 J 17 ntmps97 J (G3 ?_);intro n1 hn1 hf1;refine G7 ?_;refine .cV J J J J Body154 (db_check B D) (fun w h=>hW.ext h J) (G9 ?_);refine .condNP J (fun hc0=>?_) (fun hc0=>?_)
 ·
  have hq0:¬D.check=0:=by omega
  refine G6 ?_;refine G3 ?_;refine⟨_,[],Ae J J,sP,sP,?_,rfl⟩
  (unfold dgood;rw[if_neg hq0];done)
 have hq0:D.check=0:=by omega
 obtain⟨h1,h2⟩:=D.head_small hq0;have hvn:(btxt D).length≤4005:=DB.body_small hW.dok oM oM;refine G4 ?_;refine .draw (oP [0,101,102,4,105,303,306,7]) Ao zK (G1 ?_);refine .lN (Aa _) J J J Y44.h J Sz44 Z0 (Block.row_fWriter zA) (Block.rl_fWriter zA) ?_;refine G2 ?_;refine .lN (Aa _) J J J Y48.h J Sz48 Z0 (Block.row_fSig zA) (Block.rl_fSig zA) ?_;refine .call J J J J Body156 (db_text B D hB oM oM) (FreshRow.loose _ _ _ _) (fun w h=>hW.ext h J) ?_;rintro v12 out12 ⟨q12,c12,rfl,hc12,rfl⟩;refine .cV J J J J Body155 (sign_Good B.fWriter hB.l_fWriter ⟨some ⟨q12,0,none⟩,_,c12⟩ (btxt D) oM B.fSig hB.l_fSig) (fun w h=>own_btxt (SeesP.of (Ap h Z0)) hc12 hvn) ?_;refine G3 ?_;refine .cond J (fun hc1=>?_) (fun hc1=>?_)
 ·
  refine G5 ?_;refine G3 ?_;refine⟨_,[],Ae J J,sP,sP,?_,rfl⟩
  (unfold dgood;rw[if_pos hq0,←hW.w,←hW.sg,if_neg (by intro e;rw[e]at hc1;cases hc1)];done)
 refine G7 ?_;refine G2 ?_;refine⟨_,[],Ae J J,sP,sP,?_,rfl⟩
 (unfold dgood;rw[if_pos hq0,←hW.w,←hW.sg,if_pos (by simpa using hc1)];done)
theorem db_own(B:Block)(D:DB)(hn:D.ls.length≤500000)(hd:D.ds.length≤500000):Meets prog 42 [agg B.cells] [] (fun W=>BlockIs W B D) (BlkV D):=fun W hW=>by
  have e1:=hW.ls.len;have e2:=hW.ds.len;refine(kit_own_block B hW.ok D.ls D.ds oM oM W ⟨hW.ls,hW.ds⟩).mono fun e W' ⟨v,out,h1,⟨q1,c1,q2,c2,h2,h3,h4,h5⟩,h6⟩=>⟨v,out,h1,⟨ownB B q1 c1 q2 c2,⟨ownB_ok hW.ok q1 c1 q2 c2,hW.w,hW.seq,hW.prev,hW.sg,e1.symm,e2.symm⟩,h2,fun W2 hl=>?_⟩,h6⟩;subst h5;have hf:(A3 D.ls).length=B.fLinks.n*32:=by rw[Ax hW.ls.row,e1]
  have hb:(Aa D.ds).length=B.fData.n*1:=by rw[Aa,La1,e2,Lb4]
  refine⟨ownB_ok hW.ok q1 c1 q2 c2,hW.w,hW.seq,hW.prev,?_,?_,hW.sg⟩
  ·exact acc_rows (Acc.some (E:=34) h3 hf) (hl.sub (fun b hb=>by rw[La0.1 hb];exact mem1)) hW.ls.row e1 oM
  ·exact acc_bytes (Acc.some (E:=5) h4 hb) (hl.sub (fun b hb=>by rw[La0.1 hb];exact Bp)) e2 oM
end Go.Proofs.YtpogmfngccolbaaGreat
namespace Go.Proofs.YtpogmfngccolbaaGreat
open Go Hw _root_.Go.Proofs.Tryz
variable{k:Nat}{x:UInt64}
theorem room_go(hk:1≤k)(h9:k<9)(h:¬((Ar x (7*k)).toNat:Int)=0):k+1≤szN x.toNat:=by
  rcases Lax k (szN x.toNat)with h1|h1
  ·exact h1
  ·exact absurd (show((Ar x (7*k)).toNat:Int)=0 by rw[A7,Lb0 ((szN_le hk oM).1 h1)];rfl) h
theorem room_end(hk:1≤k)(h9:k<9)(h:((Ar x (7*k)).toNat:Int)=0):szN x.toNat≤k:=by
  refine(szN_le hk oM).2 ?_;rw[A7]at h;rcases Nat.div_eq_zero_iff.1 (show x.toNat/2^(7*k)=0 by omega)with h1|h1
  ·exact absurd h1 (Nat.ne_of_gt (Lbe dE))
  ·exact h1
theorem head_or:∀r,r<9→1≤r→∀y,y<2^(8-r)→UInt8.ofNat (256-2^(9-r))+UInt8.ofNat y=shl8 255 (9-r)|||UInt8.ofNat y:=by decide
theorem head_9:shl8 255 0=255:=by decide
theorem headB_9(h:szN x.toNat=9):headB x=255:=by
  rw[headB,h,head_9];have:∀y:UInt8,255|||y=255:=by
    intro y;have hh:∀n,n<256→(255:UInt8)|||UInt8.ofNat n=255:=by decide
    have:=hh y.toNat y.toNat_lt;rwa[Ldx]at this
  exact this _
theorem headB_lt(h:szN x.toNat<9):((256:UInt64)-A1 1 (9-szN x.toNat)).toUInt8+(Ar x (8*(szN x.toNat-1))).toUInt8=headB x:=by
  have hp:=B1 x.toNat;have hy:(Ar x (8*(szN x.toNat-1))).toNat<2^(8-szN x.toNat):=by
    rw[A7,Ld4 (Lbe dE),←Lbd,show 8-szN x.toNat+8*(szN x.toNat-1)=7*szN x.toNat by omega];exact szN_hi oM
  have h1:((256:UInt64)-A1 1 (9-szN x.toNat)).toUInt8=UInt8.ofNat (256-2^(9-szN x.toNat)):=by
    have:∀r,r<9→1≤r→((256:UInt64)-A1 1 (9-r)).toUInt8=UInt8.ofNat (256-2^(9-r)):=by decide
    exact this _ h hp.1
  have h2:(Ar x (8*(szN x.toNat-1))).toUInt8=UInt8.ofNat (Ar x (8*(szN x.toNat-1))).toNat:=rfl;rw[h1,headB,h2];exact head_or _ h hp.1 _ hy
theorem r1_room(x:UInt64):Mv 181 [u64 x] (fun _=>True) (i64 ((szN x.toNat:Nat):Int)):=by
 intro W hW;have hz:=B1 x.toNat;refine Ac func181 J 17 ntmps181 J (G12 ?_);refine .loop (ι:=Nat) (fun k=>⟨[(0,u64 x),(3,i64 (k:Int))],[]⟩) (fun k=>1≤k∧k≤szN x.toNat) (fun k=>9-k) (1) ?_ ?_ ?_
 ·exact⟨Lae _,hz.1⟩
 ·exact Ad wN wh0 nD
 rintro k ⟨hk1,hk2⟩;refine G4 ?_;refine two (fun r hr k=>Tr.lss J J J J hr k) (fun hs2_10=>?_) (fun hs2_10=>?_)
 ·
  have hs2_1:=of_decide_eq_true hs2_10;refine G3 ?_;refine .mul_i64 J J J J oM (G1 ?_);refine .shr_u64 J J J J (7*k) (by rw[show(7:Int)*(k:Int)=((7*k:Nat):Int) by omega,Cg _ oM]) oM ?_;refine G4 ?_;refine .condNP J (fun hc0=>?_) (fun hc0=>?_)
  ·
   refine G10 ?_;exact⟨k+1,⟨by omega,room_go hk1 oM zA⟩,by omega,Ad (wk1 rfl (wk1 (by rw[Lbr];rfl) wk0)) wh0 nD⟩
  refine G11 ?_;refine G2 ?_;refine⟨_,[],Ae J J,sP,sP,?_,rfl⟩
  (have:=room_end hk1 oM zA;congr 1;omega)
 have hs2_1:=of_decide_eq_false hs2_10;refine G10 ?_;refine .cond_f J J (G11 ?_);refine G2 ?_;refine⟨_,[],Ae J J,sP,sP,?_,rfl⟩
 (congr 1;omega)
theorem r1_Number(p0:Option Addr)(n c:Nat)(l:List UInt8)(x:UInt64)(hl:l.length=n)(hp0:p0=none→n=0)(hn:n≤90000):Meets prog 134 [.slice p0 n c,u64 x] [] (fun W=>SeesP W p0 (Aa l)) (fun v out=>FreshRow v out (Aa (l++numB x)) 5 (n+szN x.toNat) 1):=by
 intro W hW;have hz:=B1 x.toNat;refine Ac func134 J 51 ntmps134 J (G7 ?_);refine .mkRow2 (z:=u8 0) [] [] rfl J Y46.h Sz5 Zr5 J J (by intro v hv;cases hv) dE J ?_;intro q8;refine G1 ?_;refine .appendSl (z:=u8 0) (by':=1) (Aa l) J J J J J Y46.h Y46.h Sz5 Zr5 (by unfold By;kernel_rfl) J (fun w h=>A2 h J hW) hp0 (by simp[Aa,isCell,u8]) Az J J oM oM oM (by simp[Aa,hl]) ?_;intro q10 c10 hq10;rw[Las n]at hq10 ⊢;refine G6 ?_;refine .cV J J J J Body181 (r1_room _) tV (G3 ?_);refine .join (ι:=Nat×Nat) (fun p=>⟨[(1,u64 x),(5, .slice (some ⟨p.1,0,none⟩) (n+1) p.2),(6,i64 ((szN x.toNat:Nat):Int))],[⟨p.1,Aa (l++[headB x]),5,p.2*1⟩]⟩) (fun p=>n+1≤p.2) ?_ ?_
 ·
  refine G6 ?_;refine .condP J (fun hc0=>?_) (fun hc0=>?_)
  ·
   refine G2 ?_;refine .mkRow (z:=u8 0) [u8 (255)] (Aa [255]) J J J Y46.h Sz5 Zr5 J J (by intro v hv;rw[La0.1 hv];rfl) dE J ?_;intro q16;refine .appendSl (z:=u8 0) (by':=1) (Aa [255]) J J J J J Y46.h Y46.h Sz5 Zr5 (by unfold By;kernel_rfl) J (fun w h=>SeesP.of (Ap h Bp)) (fun e=>by cases e) (by simp[Aa,isCell,u8]) (rem_there Az) J (by simp[Aa,hl]) oM oM oM (by rfl) ?_;intro q17 c17 hq17;refine G3 ?_;exact⟨(q17,c17),hq17,Ad wN (wh1 (by(rw[headB_9 (x:=x) oM];simp only[Aa,Lad];exact Bp)) wh0) nD⟩
  refine G5 ?_;refine .shl_u64 J J (show Ag _ _=some (u64 1)from rfl) J (9-szN x.toNat) (by rw[show(9:Int)-((szN x.toNat:Nat):Int)=((9-szN x.toNat:Nat):Int) by omega,Cg _ oM]) oM ?_;refine .sub_u64 J J (show Ag _ _=some (u64 256)from rfl) J (G4 ?_);refine .mul_i64 J J J J oM (G1 ?_);refine .shr_u64 J J J J (8*(szN x.toNat-1)) (by rw[show(8:Int)*(((szN x.toNat:Nat):Int)-1)=((8*(szN x.toNat-1):Nat):Int) by omega,Cg _ oM]) oM ?_;refine G1 ?_;refine .add_u8 J J J J ?_;rw[headB_lt (x:=x) oM];refine .mkRow (z:=u8 0) [u8 (headB x)] (Aa [headB x]) J J J Y46.h Sz5 Zr5 J J (by intro v hv;rw[La0.1 hv];rfl) dE J ?_;intro q33;refine .appendSl (z:=u8 0) (by':=1) (Aa [headB x]) J J J J J Y46.h Y46.h Sz5 Zr5 (by unfold By;kernel_rfl) J (fun w h=>SeesP.of (Ap h Bp)) (fun e=>by cases e) (by simp[Aa,isCell,u8]) (rem_there Az) J (by simp[Aa,hl]) oM oM oM (by rfl) ?_;intro q17 c17 hq17;refine G3 ?_;exact⟨(q17,c17),hq17,Ad wN (wh1 (by(simp only[Aa,Lad];exact Bp)) wh0) nD⟩
 intro p hj;have hjp:=hj;refine G9 ?_;refine .loop (ι:=Nat×Nat×Nat) (fun r=>⟨[(1,u64 x),(5, .slice (some ⟨r.2.1,0,none⟩) (n+1+r.1) r.2.2),(7,i64 (((szN x.toNat:Nat):Int)-2-(r.1:Int)))],[⟨r.2.1,Aa (l++numUp x r.1),5,r.2.2*1⟩]⟩) (fun r=>r.1≤szN x.toNat-1∧n+1+r.1≤r.2.2) (fun r=>szN x.toNat-1-r.1) ((0,p.1,p.2)) ?_ ?_ ?_
 ·exact⟨Laj _,hjp⟩
 ·exact Ad (wk1 rfl (wk1 rfl (wk1 (by rw[show(((szN x.toNat:Nat):Int)-2-((0:Nat):Int))=((szN x.toNat:Nat):Int)-2 by omega];rfl) wk0))) (wh1 (by rw[numUp_zero];exact Bp) wh0) nD
 rintro r ⟨hp1,hp2⟩;refine G7 ?_;refine .condP J (fun hc1=>?_) (fun hc1=>?_)
 ·
  have hp3:r.1<szN x.toNat-1:=by omega
  refine G8 ?_;refine .mul_i64 J J J J oM (G1 ?_);refine .shr_u64 J J J J (8*(szN x.toNat-2-r.1)) (by rw[show(8:Int)*(((szN x.toNat:Nat):Int)-2-(r.1:Int))=((8*(szN x.toNat-2-r.1):Nat):Int) by omega,Cg _ oM]) oM ?_;refine G1 ?_;refine .mkRow (z:=u8 0) [u8 ((Ar x (8*(szN x.toNat-2-r.1))).toUInt8)] (Aa [(Ar x (8*(szN x.toNat-2-r.1))).toUInt8]) J J J Y46.h Sz5 Zr5 J J (by intro v hv;rw[La0.1 hv];rfl) dE J ?_;intro q48;refine .appendSl (z:=u8 0) (by':=1) (Aa [(Ar x (8*(szN x.toNat-2-r.1))).toUInt8]) J J J J J Y46.h Y46.h Sz5 Zr5 (by unfold By;kernel_rfl) J (fun w h=>SeesP.of (Ap h Bp)) (fun e=>by cases e) (by simp[Aa,isCell,u8]) (rem_there Az) J (by rw[Aa,La1,La4,hl,numUp_length x r.1 oM];omega) oM oM oM (by rfl) ?_;intro q2 c2 hq2;refine G10 ?_;exact⟨(r.1+1,q2,c2),⟨by simp only[];omega,by simp only[];omega⟩,by simp only[];omega,Ad (wk1 rfl (wk1 (by rw[show n+1+(r.1+1)=n+1+r.1+1 by omega];rfl) (wk1 (by rw[show(((szN x.toNat:Nat):Int)-2-((r.1+1:Nat):Int))=((szN x.toNat:Nat):Int)-2-(r.1:Int)-1 by omega];rfl) wk0))) (wh1 (by rw[numUp_step x r.1 oM,←La8];simp only[Aa,Lad];exact Bp) wh0) nD⟩
 have hp3:r.1=szN x.toNat-1:=by omega
 refine G11 ?_;refine G2 ?_;refine⟨_,[⟨r.2.1,Aa (l++numB x),5,r.2.2*1⟩],Ae J J,(by intro b hb;rw[La0.1 hb,←numUp_all,←hp3];exact Bp),Cn,⟨r.2.1,r.2.2,by rw[show n+1+r.1=n+szN x.toNat by omega],by omega,rfl⟩⟩
open Ed
theorem cmpB_same(x:UInt8)(a b:List UInt8):Cw (x::a) (x::b)=Cw a b:=by simp[Cw,Go.Lib.compareBytes]
theorem cmpB_other{x y:UInt8}(h:x≠y)(a b:List UInt8):Cw (x::a) (y::b)=cmpI (x.toNat:Int) (y.toNat:Int):=by
  have h2:x.toNat≠y.toNat:=fun e=>h (Lce.1 e);simp only[Cw,Go.Lib.compareBytes,Leu];unfold cmpI
  (repeat' split)<;>first|rfl|omega
theorem cmpB_at:∀(k:Nat) (a b:List UInt8),a.length=b.length→(∀j,j<k→a.getD j 0=b.getD j 0)→k<a.length→a.getD k 0≠b.getD k 0→Cw a b=cmpI ((a.getD k 0).toNat:Int) ((b.getD k 0).toNat:Int)
  |k,[],b,hl,hs,hk,hd=>absurd hk (Lfn _)
  |k,x::a,[],hl,hs,hk,hd=>by cases hl
  |0,x::a,y::b,hl,hs,hk,hd=>cmpB_other hd a b
  | k+1,x::a,y::b,hl,hs,hk,hd=>by
    have e:x=y:=hs 0 (Nat.succ_pos k);subst e;rw[cmpB_same];exact cmpB_at k a b (Nat.succ.inj hl) (fun j hj=>hs (j+1) (Nat.succ_lt_succ hj)) (Nat.lt_of_succ_lt_succ hk) hd
theorem cmpB_all{a b:List UInt8}(ha:a.length=32)(hb:b.length=32)(h:∀j,j<32→a.getD j 0=b.getD j 0):Cw a b=0:=by
  refine(cmpB_zero a b).2 (Le3 oM (fun i h1 h2=>?_));have:=h i oM;simpa[List.getD,h1,h2]using this
end Go.Proofs.YtpogmfngccolbaaGreat
namespace Go.Proofs.YtpogmfngccolbaaGreat
open Go Hw _root_.Go.Proofs.Tryz
variable{a a1 k:Nat}{d xs:List UInt8}{e:Int}
theorem Tr.rem_u64{C:Cx}{ops:Array Oper}{rest:List (Nat×Oper)}{sl:List (Nat×Value)}{hp:List Blk}{Q:St→Prop}{c d:Nat}{ty:TypeId}{pos:String}{af:Array Edge}{g:Option (Nat×Bool)}{xT yT:TypeId}{x y:Operand}{b:Int}{p:UInt64}(hg:Aj ops sl g=true)(hk:okD c d C.N=true)(hx:Ag sl x=some (u64 p))(hy:Ag sl y=some (.int .u64 b))(n:Nat)(hn:b=n)(h0:0<n)
    (k:Tr C ops rest ⟨(d,u64 (UInt64.ofNat (p.toNat%n)))::sl,hp⟩ Q):Tr C ops ((c,⟨some d, .binOp .rem xT x y yT,ty,pos,af,g⟩)::rest) ⟨sl,hp⟩ Q:=
  .bin hg hk hx hy (fun w=>by
    subst hn;simp[binOp,Op.intDiv,show ¬n=0 by omega];have:=p.toNat_lt;have h2:p.toNat%n≤p.toNat:=Nat.mod_le _ _;rw[Lf8 (Ldk _),←Int.natCast_emod];omega) k
theorem one_all:∀n,n<256→∀k,k<9→1≤k→k≤Bk (UInt8.ofNat n)→(((UInt8.ofNat ((shr8 (UInt8.ofNat n) (8-k)).toNat%2)).toNat:Int)=1↔k<Bk (UInt8.ofNat n)):=by decide+kernel
theorem one_iff(f:UInt8)(k:Nat)(h1:1≤k)(h9:k<9)(hc:k≤Bk f):((UInt8.ofNat ((shr8 f (8-k)).toNat%2)).toNat:Int)=1↔k<Bk f:=by
  have h:=one_all f.toNat f.toNat_lt k h9 h1;rw[Ldx]at h;exact h hc
theorem hrem_all:∀n,n<256→Bk (UInt8.ofNat n)<9→UInt64.ofNat ((UInt8.ofNat n).toUInt64.toNat%(A1 1 (8-Bk (UInt8.ofNat n))).toNat)=headV (UInt8.ofNat n):=by decide+kernel
theorem head_rem(f:UInt8)(h:Bk f<9):UInt64.ofNat (f.toUInt64.toNat%(A1 1 (8-Bk f)).toNat)=headV f:=by
  have h2:=hrem_all f.toNat f.toNat_lt;rw[Ldx]at h2;exact h2 h
theorem head_nine(f:UInt8)(h:Bk f=9):(0:UInt64)=headV f:=Lbg.1 ((head_of f).2.2.2.1 h).symm
theorem shl_pos(h:k<64):0<(A1 1 k).toNat:=by
  have h2:2^k<2^64:=Nat.pow_lt_pow_right dE h;rw[A1,Laz,Lab (by simpa using h2)];simpa using Lbe dE
theorem fold_or(v:UInt64)(b:UInt8):v*256+b.toUInt64=A1 v 8|||b.toUInt64:=by
  apply Lbg.1;have hb:=b.toNat_lt;have hv:=v.toNat_lt;have e1:(A1 v 8).toNat=256*(v.toNat%2^56):=by
    rw[A1,Laz];omega
  rw[Ldd,Lbb,Ld8,e1];show(v.toNat*256%2^64+b.toNat)%2^64=2^8*(v.toNat%2^56)|||b.toNat;rw[←Lcf (i:=8) hb];omega
def rd1(q o N cp at':Nat)(e:Int):Rdr:=⟨⟨some ⟨q,o,none⟩,N-at',cp-at'⟩,e⟩
theorem rd1_ok(q o N cp at':Nat)(e:Int):(rd1 q o N cp at' e).ok:=⟨trivial⟩
def R1B(n q o N cp at':Nat)(e:Int):Blk:=⟨n,(rd1 q o N cp at' e).cells,162,2⟩
theorem r1b_move(n q o N cp a k:Nat)(e:Int):R1B n q o N cp (a+k) e=⟨n,({ fB:=⟨some ⟨q,o,none⟩,N-a-k,cp-a-k⟩,fE:=e }:Rdr).cells,162,2⟩:=by rw[R1B,rd1,Nat.sub_sub,Nat.sub_sub]
theorem r1n_err(n q N cp at':Nat)(o:Nat)(e:Int)(xs:List UInt8)(hx:xs.length=N)(hat:at'≤N)(hN:N≤cp)(hbig:N≤90000)(he:¬e=0):Meets prog 136 [ptr n 0] [n] (fun W=>BlkOk W (R1B n q (o) N cp (at') (e))∧Cd W q 0 (Aa xs)∧q≠n) (fun v out=>v=u64 0∧out=[R1B n q (o) N cp (at') (e)]):=by
 intro W hW;have hfn:(rd1 q o N cp at' e).fB.n=N-at':=rfl;have hfc:(rd1 q o N cp at' e).fB.c=cp-at':=rfl;have hfe:(rd1 q o N cp at' e).fE=e:=rfl;refine Br (hp0:=[R1B n q (o) N cp (at') (e)]) func136 J 95 ntmps136 J (HRep.one hW.1) (G2 ?_);refine .a J J (show Ag _ _=some (u64 0)from rfl) (G9 ?_);refine .nei J J J J (show(!decide _)=true from congrArg not (decide_eq_false (he))) (G2 ?_);refine .cond_t J (rfl) (G2 ?_);refine .a J J (show Ag _ _=some (u64 0)from rfl) (G2 ?_);refine G3 ?_;refine⟨_,[R1B n q (o) N cp (at') (e)],Ae J J,(by intro b hb;rw[La0.1 hb];exact Bp),Cn,?_⟩;exact⟨rfl,rfl⟩
theorem r1n_end(n q N cp at':Nat)(o:Nat)(xs:List UInt8)(hx:xs.length=N)(hat:at'≤N)(hN:N≤cp)(hbig:N≤90000)(hk:N≤at'):Meets prog 136 [ptr n 0] [n] (fun W=>BlkOk W (R1B n q (o) N cp (at') (0))∧Cd W q 0 (Aa xs)∧q≠n) (fun v out=>v=u64 0∧out=[R1B n q (o) N cp (at') (5)]):=by
 intro W hW;have hfn:(rd1 q o N cp at' 0).fB.n=N-at':=rfl;have hfc:(rd1 q o N cp at' 0).fB.c=cp-at':=rfl;have hfe:(rd1 q o N cp at' 0).fE=0:=rfl;refine Br (hp0:=[R1B n q (o) N cp (at') (0)]) func136 J 95 ntmps136 J (HRep.one hW.1) (G2 ?_);refine .a J J (show Ag _ _=some (u64 0)from rfl) (G9 ?_);refine .nei J J J J (show(!decide _)=false from congrArg not (decide_eq_true (rfl))) (G2 ?_);refine .cond_f J (rfl) (G10 ?_);refine .eqi J J J J (decide_eq_true oM) (G2 ?_);refine .cond_t J (rfl) (G10 ?_);refine .a J J (show Ag _ _=some (u64 0)from rfl) (G2 ?_);refine G3 ?_;refine⟨_,[R1B n q (o) N cp (at') (5)],Ae J J,(by intro b hb;rw[La0.1 hb];exact Bp),Cn,?_⟩;exact⟨rfl,rfl⟩
theorem r1n_short(n q N cp at':Nat)(xs:List UInt8)(hx:xs.length=N)(hat:at'≤N)(hN:N≤cp)(hbig:N≤90000)(hk:at'<N)(hk2:N<at'+(Bk (xs.getD at' 0))):Meets prog 136 [ptr n 0] [n] (fun W=>BlkOk W (R1B n q (at') N cp (at') (0))∧Cd W q 0 (Aa xs)∧q≠n) (fun v out=>v=u64 0∧out=[R1B n q (at') N cp (at') (5)]):=by
 intro W hW;have hfn:(rd1 q at' N cp at' 0).fB.n=N-at':=rfl;have hfc:(rd1 q at' N cp at' 0).fB.c=cp-at':=rfl;have hfe:(rd1 q at' N cp at' 0).fE=0:=rfl;have hcp:=head_of (xs.getD at' 0);have hc1:1≤(Bk (xs.getD at' 0)):=hcp.1;have hc9:(Bk (xs.getD at' 0))≤9:=hcp.2.1;clear hcp;refine Br (hp0:=[R1B n q (at') N cp (at') (0)]) func136 J 95 ntmps136 J (HRep.one hW.1) (G2 ?_);refine .a J J (show Ag _ _=some (u64 0)from rfl) (G9 ?_);refine .nei J J J J (show(!decide _)=false from congrArg not (decide_eq_true (rfl))) (G2 ?_);refine .cond_f J (rfl) (G10 ?_);refine .eqi J J J J (decide_eq_false oM) (G2 ?_);refine .cond_f J (rfl) (G7 ?_);refine .join (ι:=Unit) (fun _u=>⟨[(0,ptr n 0),(3,i64 (((Bk (xs.getD at' 0)):Nat):Int))],[⟨n,(rd1 q at' N cp at' 0).cells,162,2⟩]⟩) (fun _u=>True) ?_ ?_
 ·
  refine .block (.loop (ι:=Nat) (fun k=>⟨[(0,ptr n 0),(3,i64 (k:Int))],[⟨n,(rd1 q at' N cp at' 0).cells,162,2⟩]⟩) (fun k=>1≤k∧k≤(Bk (xs.getD at' 0))) (fun k=>9-k) (1) ?_ ?_ ?_)
  ·exact⟨Lae _,hc1⟩
  ·exact Ad wN (wh1 Z0 wh0) nD
  rintro k ⟨hk3,hk4⟩;refine G4 ?_;refine two (fun r hr k=>Tr.lss J J J J hr k) (fun hs7_10=>?_) (fun hs7_10=>?_)
  ·
   have hs7_1:=of_decide_eq_true hs7_10;refine G5 ?_;refine .idxSlO J J J J Y46.h Sz5 0 J oM (.loadE J J J Y5.h J (by(simp;exact hW.2.2)) ((by have:=hW.2.1 at' _ (B0 oM);rwa[Las]at this)) ?_);refine G3 ?_;refine .shr_u8 J J J J (8-k) (by rw[show(8:Int)-(k:Int)=((8-k:Nat):Int) by omega,Cg _ oM]) oM ?_;refine .rem_u8 J J J J 2 J dE (G4 ?_);refine .condP J (fun hc2=>?_) (fun hc2=>?_)
   ·
    refine G10 ?_;exact⟨k+1,⟨by omega,(one_iff _ k hk3 oM hk4).1 zA⟩,by omega,Ad (wk1 rfl (wk1 (by rw[Lbr];rfl) wk0)) (wh1 Z0 wh0) nD⟩
   refine G5 ?_;exact⟨(),trivial,Ad (wk1 rfl (wk1 (congrArg (fun z=>some (i64 z)) (by(have h5:=one_iff (xs.getD at' 0) k hk3 oM hk4;have h6:¬k<(Bk (xs.getD at' 0)):=fun h=>hc2 (h5.2 h);omega))) wk0)) (wh1 Z0 wh0) nD⟩
  have hs7_1:=of_decide_eq_false hs7_10;refine G16 ?_;refine .cond_f J J (G5 ?_);exact⟨(),trivial,Ad (wk1 rfl (wk1 (congrArg (fun z=>some (i64 z)) oM) wk0)) (wh1 Z0 wh0) nD⟩
 intro _u hj;skip;refine G9 ?_;refine .lss J J J J (decide_eq_true oM) (G2 ?_);refine .cond_t J (rfl) (G10 ?_);refine .a J J (show Ag _ _=some (u64 0)from rfl) (G2 ?_);refine G3 ?_;refine⟨_,[R1B n q (at') N cp (at') (5)],Ae J J,(by intro b hb;rw[La0.1 hb];exact Bp),Cn,?_⟩;exact⟨rfl,rfl⟩
theorem r1n_bad(n q N cp at':Nat)(xs:List UInt8)(hx:xs.length=N)(hat:at'≤N)(hN:N≤cp)(hbig:N≤90000)(hk:at'<N)(hk2:at'+(Bk (xs.getD at' 0))≤N)(hz:¬szN (numV xs at').toNat=(Bk (xs.getD at' 0))):Meets prog 136 [ptr n 0] [n] (fun W=>BlkOk W (R1B n q (at') N cp (at') (0))∧Cd W q 0 (Aa xs)∧q≠n) (fun v out=>v=u64 0∧out=[R1B n q (at') N cp (at') (4)]):=by
 intro W hW;have hfn:(rd1 q at' N cp at' 0).fB.n=N-at':=rfl;have hfc:(rd1 q at' N cp at' 0).fB.c=cp-at':=rfl;have hfe:(rd1 q at' N cp at' 0).fE=0:=rfl;have hcp:=head_of (xs.getD at' 0);have hc1:1≤(Bk (xs.getD at' 0)):=hcp.1;have hc9:(Bk (xs.getD at' 0))≤9:=hcp.2.1;clear hcp;refine Br (hp0:=[R1B n q (at') N cp (at') (0)]) func136 J 95 ntmps136 J (HRep.one hW.1) (G2 ?_);refine .a J J (show Ag _ _=some (u64 0)from rfl) (G9 ?_);refine .nei J J J J (show(!decide _)=false from congrArg not (decide_eq_true (rfl))) (G2 ?_);refine .cond_f J (rfl) (G10 ?_);refine .eqi J J J J (decide_eq_false oM) (G2 ?_);refine .cond_f J (rfl) (G7 ?_);refine .join (ι:=Unit) (fun _u=>⟨[(0,ptr n 0),(3,i64 (((Bk (xs.getD at' 0)):Nat):Int))],[⟨n,(rd1 q at' N cp at' 0).cells,162,2⟩]⟩) (fun _u=>True) ?_ ?_
 ·
  refine .block (.loop (ι:=Nat) (fun k=>⟨[(0,ptr n 0),(3,i64 (k:Int))],[⟨n,(rd1 q at' N cp at' 0).cells,162,2⟩]⟩) (fun k=>1≤k∧k≤(Bk (xs.getD at' 0))) (fun k=>9-k) (1) ?_ ?_ ?_)
  ·exact⟨Lae _,hc1⟩
  ·exact Ad wN (wh1 Z0 wh0) nD
  rintro k ⟨hk3,hk4⟩;refine G4 ?_;refine two (fun r hr k=>Tr.lss J J J J hr k) (fun hs7_10=>?_) (fun hs7_10=>?_)
  ·
   have hs7_1:=of_decide_eq_true hs7_10;refine G5 ?_;refine .idxSlO J J J J Y46.h Sz5 0 J oM (.loadE J J J Y5.h J (by(simp;exact hW.2.2)) ((by have:=hW.2.1 at' _ (B0 oM);rwa[Las]at this)) ?_);refine G3 ?_;refine .shr_u8 J J J J (8-k) (by rw[show(8:Int)-(k:Int)=((8-k:Nat):Int) by omega,Cg _ oM]) oM ?_;refine .rem_u8 J J J J 2 J dE (G4 ?_);refine .condP J (fun hc2=>?_) (fun hc2=>?_)
   ·
    refine G10 ?_;exact⟨k+1,⟨by omega,(one_iff _ k hk3 oM hk4).1 zA⟩,by omega,Ad (wk1 rfl (wk1 (by rw[Lbr];rfl) wk0)) (wh1 Z0 wh0) nD⟩
   refine G5 ?_;exact⟨(),trivial,Ad (wk1 rfl (wk1 (congrArg (fun z=>some (i64 z)) (by(have h5:=one_iff (xs.getD at' 0) k hk3 oM hk4;have h6:¬k<(Bk (xs.getD at' 0)):=fun h=>hc2 (h5.2 h);omega))) wk0)) (wh1 Z0 wh0) nD⟩
  have hs7_1:=of_decide_eq_false hs7_10;refine G16 ?_;refine .cond_f J J (G5 ?_);exact⟨(),trivial,Ad (wk1 rfl (wk1 (congrArg (fun z=>some (i64 z)) oM) wk0)) (wh1 Z0 wh0) nD⟩
 intro _u hj;skip;refine G9 ?_;refine .lss J J J J (decide_eq_false oM) (G2 ?_);refine .cond_f J (rfl) (G4 ?_);refine .a J J (show Ag _ _=some (u64 0)from rfl) (G2 ?_);refine .join (ι:=Unit) (fun _u=>⟨[(0,ptr n 0),(3,i64 (((Bk (xs.getD at' 0)):Nat):Int)),(4,u64 (headV (xs.getD at' 0)))],[⟨n,(rd1 q at' N cp at' 0).cells,162,2⟩]⟩) (fun _u=>True) ?_ ?_
 ·
  refine G6 ?_;refine .condP J (fun hc4=>?_) (fun hc4=>?_)
  ·
   refine G5 ?_;refine .idxSlO J J J J Y46.h Sz5 0 J oM (.loadE J J J Y5.h J (by(simp;exact hW.2.2)) ((by have:=hW.2.1 at' _ (B0 oM);rwa[Las]at this)) ?_);refine G4 ?_;refine .shl_u64 J J (show Ag _ _=some (u64 1)from rfl) J (8-(Bk (xs.getD at' 0))) (by rw[show(8:Int)-(((Bk (xs.getD at' 0)):Nat):Int)=((8-(Bk (xs.getD at' 0)):Nat):Int) by omega,Cg _ oM]) oM ?_;refine Tr.rem_u64 J J J J (A1 1 (8-(Bk (xs.getD at' 0)))).toNat J (shl_pos oM) (G3 ?_);exact⟨(),trivial,Ad (wk1 rfl (wk1 rfl (wk1 (congrArg (fun z=>some (u64 z)) (by exact head_rem _ oM)) wk0))) (wh1 Z0 wh0) nD⟩
  refine G2 ?_;exact⟨(),trivial,Ad (wk1 rfl (wk1 rfl (wk1 (congrArg (fun z=>some (u64 z)) (by exact head_nine _ oM)) wk0))) (wh1 Z0 wh0) nD⟩
 intro _u hj;skip;refine G7 ?_;refine .loop (ι:=Nat) (fun j=>⟨[(0,ptr n 0),(3,i64 (((Bk (xs.getD at' 0)):Nat):Int)),(4,u64 (foldB (headV (xs.getD at' 0)) ((xs.drop (at'+1)).take j))),(5,i64 ((j:Int)+1))],[⟨n,(rd1 q at' N cp at' 0).cells,162,2⟩]⟩) (fun j=>j≤(Bk (xs.getD at' 0))-1) (fun j=>(Bk (xs.getD at' 0))-1-j) (0) ?_ ?_ ?_
 ·exact Laj _
 ·exact Ad wN (wh1 Z0 wh0) nD
 rintro j hj;refine G8 ?_;refine .condP J (fun hc5=>?_) (fun hc5=>?_)
 ·
  have hj2:j<(Bk (xs.getD at' 0))-1:=by omega
  refine G6 ?_;refine .mul_u64 J J J (show Ag _ _=some (u64 256)from rfl) (G5 ?_);refine .idxSlO J J J J Y46.h Sz5 (j+1) oM oM (.loadE J J J Y5.h J (by(simp;exact hW.2.2)) ((by have h9:=hW.2.1 (at'+(j+1)) _ (B0 oM);rwa[Las]at h9)) ?_);refine G12 ?_;exact⟨j+1,by omega,by omega,Ad (wk1 rfl (wk1 rfl (wk1 (congrArg (fun z=>some (u64 z)) (by rw[foldB_step xs (at'+1) j _ oM,show at'+1+j=at'+(j+1) by omega,fold_or])) (wk1 (congrArg (fun z=>some (i64 z)) oM) wk0)))) (wh1 Z0 wh0) nD⟩
 have hj2:j=(Bk (xs.getD at' 0))-1:=by omega
 refine G8 ?_;have hnv:numV xs at'=foldB (headV (xs.getD at' 0)) ((xs.drop (at'+1)).take j):=by rw[numV,hj2]
 refine G1 ?_;refine .cV J J J J Body181 (r1_room _) tV (G1 ?_);refine .nei J J J J (show(!decide _)=true from congrArg not (decide_eq_false (by rw[←hnv];omega))) ?_;refine G2 ?_;refine .cond_t J (rfl) (G10 ?_);refine .a J J (show Ag _ _=some (u64 0)from rfl) (G2 ?_);refine G3 ?_;refine⟨_,[R1B n q (at') N cp (at') (4)],Ae J J,(by intro b hb;rw[La0.1 hb];exact Bp),Cn,?_⟩;exact⟨rfl,rfl⟩
theorem r1n_ok(n q N cp at':Nat)(xs:List UInt8)(hx:xs.length=N)(hat:at'≤N)(hN:N≤cp)(hbig:N≤90000)(hk:at'<N)(hk2:at'+(Bk (xs.getD at' 0))≤N)(hz:szN (numV xs at').toNat=(Bk (xs.getD at' 0))):Meets prog 136 [ptr n 0] [n] (fun W=>BlkOk W (R1B n q (at') N cp (at') (0))∧Cd W q 0 (Aa xs)∧q≠n) (fun v out=>v=u64 (numV xs at')∧out=[R1B n q (if cp-at'=(Bk (xs.getD at' 0))then at' else at'+(Bk (xs.getD at' 0))*1) N cp (at'+(Bk (xs.getD at' 0))) (0)]):=by
 intro W hW;have hfn:(rd1 q at' N cp at' 0).fB.n=N-at':=rfl;have hfc:(rd1 q at' N cp at' 0).fB.c=cp-at':=rfl;have hfe:(rd1 q at' N cp at' 0).fE=0:=rfl;have hcp:=head_of (xs.getD at' 0);have hc1:1≤(Bk (xs.getD at' 0)):=hcp.1;have hc9:(Bk (xs.getD at' 0))≤9:=hcp.2.1;clear hcp;refine Br (hp0:=[R1B n q (at') N cp (at') (0)]) func136 J 95 ntmps136 J (HRep.one hW.1) (G2 ?_);refine .a J J (show Ag _ _=some (u64 0)from rfl) (G9 ?_);refine .nei J J J J (show(!decide _)=false from congrArg not (decide_eq_true (rfl))) (G2 ?_);refine .cond_f J (rfl) (G10 ?_);refine .eqi J J J J (decide_eq_false oM) (G2 ?_);refine .cond_f J (rfl) (G7 ?_);refine .join (ι:=Unit) (fun _u=>⟨[(0,ptr n 0),(3,i64 (((Bk (xs.getD at' 0)):Nat):Int))],[⟨n,(rd1 q at' N cp at' 0).cells,162,2⟩]⟩) (fun _u=>True) ?_ ?_
 ·
  refine .block (.loop (ι:=Nat) (fun k=>⟨[(0,ptr n 0),(3,i64 (k:Int))],[⟨n,(rd1 q at' N cp at' 0).cells,162,2⟩]⟩) (fun k=>1≤k∧k≤(Bk (xs.getD at' 0))) (fun k=>9-k) (1) ?_ ?_ ?_)
  ·exact⟨Lae _,hc1⟩
  ·exact Ad wN (wh1 Z0 wh0) nD
  rintro k ⟨hk3,hk4⟩;refine G4 ?_;refine two (fun r hr k=>Tr.lss J J J J hr k) (fun hs7_10=>?_) (fun hs7_10=>?_)
  ·
   have hs7_1:=of_decide_eq_true hs7_10;refine G5 ?_;refine .idxSlO J J J J Y46.h Sz5 0 J oM (.loadE J J J Y5.h J (by(simp;exact hW.2.2)) ((by have:=hW.2.1 at' _ (B0 oM);rwa[Las]at this)) ?_);refine G3 ?_;refine .shr_u8 J J J J (8-k) (by rw[show(8:Int)-(k:Int)=((8-k:Nat):Int) by omega,Cg _ oM]) oM ?_;refine .rem_u8 J J J J 2 J dE (G4 ?_);refine .condP J (fun hc2=>?_) (fun hc2=>?_)
   ·
    refine G10 ?_;exact⟨k+1,⟨by omega,(one_iff _ k hk3 oM hk4).1 zA⟩,by omega,Ad (wk1 rfl (wk1 (by rw[Lbr];rfl) wk0)) (wh1 Z0 wh0) nD⟩
   refine G5 ?_;exact⟨(),trivial,Ad (wk1 rfl (wk1 (congrArg (fun z=>some (i64 z)) (by(have h5:=one_iff (xs.getD at' 0) k hk3 oM hk4;have h6:¬k<(Bk (xs.getD at' 0)):=fun h=>hc2 (h5.2 h);omega))) wk0)) (wh1 Z0 wh0) nD⟩
  have hs7_1:=of_decide_eq_false hs7_10;refine G16 ?_;refine .cond_f J J (G5 ?_);exact⟨(),trivial,Ad (wk1 rfl (wk1 (congrArg (fun z=>some (i64 z)) oM) wk0)) (wh1 Z0 wh0) nD⟩
 intro _u hj;skip;refine G9 ?_;refine .lss J J J J (decide_eq_false oM) (G2 ?_);refine .cond_f J (rfl) (G4 ?_);refine .a J J (show Ag _ _=some (u64 0)from rfl) (G2 ?_);refine .join (ι:=Unit) (fun _u=>⟨[(0,ptr n 0),(3,i64 (((Bk (xs.getD at' 0)):Nat):Int)),(4,u64 (headV (xs.getD at' 0)))],[⟨n,(rd1 q at' N cp at' 0).cells,162,2⟩]⟩) (fun _u=>True) ?_ ?_
 ·
  refine G6 ?_;refine .condP J (fun hc4=>?_) (fun hc4=>?_)
  ·
   refine G5 ?_;refine .idxSlO J J J J Y46.h Sz5 0 J oM (.loadE J J J Y5.h J (by(simp;exact hW.2.2)) ((by have:=hW.2.1 at' _ (B0 oM);rwa[Las]at this)) ?_);refine G4 ?_;refine .shl_u64 J J (show Ag _ _=some (u64 1)from rfl) J (8-(Bk (xs.getD at' 0))) (by rw[show(8:Int)-(((Bk (xs.getD at' 0)):Nat):Int)=((8-(Bk (xs.getD at' 0)):Nat):Int) by omega,Cg _ oM]) oM ?_;refine Tr.rem_u64 J J J J (A1 1 (8-(Bk (xs.getD at' 0)))).toNat J (shl_pos oM) (G3 ?_);exact⟨(),trivial,Ad (wk1 rfl (wk1 rfl (wk1 (congrArg (fun z=>some (u64 z)) (by exact head_rem _ oM)) wk0))) (wh1 Z0 wh0) nD⟩
  refine G2 ?_;exact⟨(),trivial,Ad (wk1 rfl (wk1 rfl (wk1 (congrArg (fun z=>some (u64 z)) (by exact head_nine _ oM)) wk0))) (wh1 Z0 wh0) nD⟩
 intro _u hj;skip;refine G7 ?_;refine .loop (ι:=Nat) (fun j=>⟨[(0,ptr n 0),(3,i64 (((Bk (xs.getD at' 0)):Nat):Int)),(4,u64 (foldB (headV (xs.getD at' 0)) ((xs.drop (at'+1)).take j))),(5,i64 ((j:Int)+1))],[⟨n,(rd1 q at' N cp at' 0).cells,162,2⟩]⟩) (fun j=>j≤(Bk (xs.getD at' 0))-1) (fun j=>(Bk (xs.getD at' 0))-1-j) (0) ?_ ?_ ?_
 ·exact Laj _
 ·exact Ad wN (wh1 Z0 wh0) nD
 rintro j hj;refine G8 ?_;refine .condP J (fun hc5=>?_) (fun hc5=>?_)
 ·
  have hj2:j<(Bk (xs.getD at' 0))-1:=by omega
  refine G6 ?_;refine .mul_u64 J J J (show Ag _ _=some (u64 256)from rfl) (G5 ?_);refine .idxSlO J J J J Y46.h Sz5 (j+1) oM oM (.loadE J J J Y5.h J (by(simp;exact hW.2.2)) ((by have h9:=hW.2.1 (at'+(j+1)) _ (B0 oM);rwa[Las]at h9)) ?_);refine G12 ?_;exact⟨j+1,by omega,by omega,Ad (wk1 rfl (wk1 rfl (wk1 (congrArg (fun z=>some (u64 z)) (by rw[foldB_step xs (at'+1) j _ oM,show at'+1+j=at'+(j+1) by omega,fold_or])) (wk1 (congrArg (fun z=>some (i64 z)) oM) wk0)))) (wh1 Z0 wh0) nD⟩
 have hj2:j=(Bk (xs.getD at' 0))-1:=by omega
 refine G8 ?_;have hnv:numV xs at'=foldB (headV (xs.getD at' 0)) ((xs.drop (at'+1)).take j):=by rw[numV,hj2]
 refine G1 ?_;refine .cV J J J J Body181 (r1_room _) tV (G1 ?_);refine .nei J J J J (show(!decide _)=false from congrArg not (decide_eq_true (by rw[←hnv,hz]))) ?_;refine G2 ?_;refine .cond_f J (rfl) (G10 ?_);refine .sliceLoN (Bk (xs.getD at' 0)) J J J J J oM oM Y46.h Sz5 (G2 ?_);refine .s1 J J J J J Sz46 Z0 (by rw[Rdr.length (by exact rd1_ok _ _ _ _ _ _)];decide) (by exact Rdr.setS_fB (by exact rd1_ok _ _ _ _ _ _) _ _ _) zU ?_;refine G8 ?_;refine G2 ?_;refine⟨_,[R1B n q (if cp-at'=(Bk (xs.getD at' 0))then at' else at'+(Bk (xs.getD at' 0))*1) N cp (at'+(Bk (xs.getD at' 0))) (0)],Ae J J,(by intro b hb;rw[La0.1 hb,r1b_move];exact Bp),Cn,?_⟩;exact⟨by rw[hnv],rfl⟩
def At1(cp a o:Nat):Prop:=a<cp→o=a
theorem at1_move{cp a k:Nat}(h:a<cp):At1 cp (a+k) (if cp-a=k then a else a+k*1):=fun h2=>by rw[if_neg oM];omega
theorem r1_NumberE(n q o N cp at':Nat)(e:Int)(xs:List UInt8)(hx:xs.length=N)(hat:at'≤N)(hN:N≤cp)(hbig:N≤90000)(ho:At1 cp at' o)(x:UInt64)(a1:Nat)(e1:Int)(h:numR xs at' e=(x,a1,e1)):Meets prog 136 [ptr n 0] [n] (fun W=>BlkOk W (R1B n q o N cp at' e)∧Cd W q 0 (Aa xs)∧q≠n)
    (fun v out=>∃o1,At1 cp a1 o1∧v=u64 x∧out=[R1B n q o1 N cp a1 e1]):=by
  unfold numR at h;by_cases he:e=0
  · subst he
    rw[if_neg sP]at h;by_cases h1:xs.length≤at'
    · rw[if_pos h1]at h
      obtain⟨rfl,rfl,rfl⟩:(0:UInt64)=x∧at'=a1∧(5:Int)=e1:=by simpa using h
      exact(r1n_end n q N cp at' o xs hx hat hN hbig oM).imp (fun w h=>h) fun v out ⟨h1,h2⟩=>⟨o,ho,h1,h2⟩
    · rw [if_neg h1]at h
      obtain rfl:o=at':=ho oM;by_cases h2:xs.length<o+Bk (xs.getD o 0)
      · rw[if_pos h2]at h
        obtain⟨rfl,rfl,rfl⟩:(0:UInt64)=x∧o=a1∧(5:Int)=e1:=by simpa using h
        exact(r1n_short n q N cp o xs hx hat hN hbig oM oM).imp (fun w h=>h) fun v out ⟨h1,h2⟩=>⟨o,ho,h1,h2⟩
      · rw[if_neg h2]at h
        by_cases h3:szN (numV xs o).toNat=Bk (xs.getD o 0)
        · rw[if_pos h3]at h
          obtain⟨rfl,rfl,rfl⟩:numV xs o=x∧o+Bk (xs.getD o 0)=a1∧(0:Int)=e1:=by simpa using h
          exact(r1n_ok n q N cp o xs hx hat hN hbig oM oM h3).imp (fun w h=>h) fun v out ⟨h1,h2⟩=>⟨_,at1_move oM,h1,h2⟩
        · rw[if_neg h3]at h
          obtain⟨rfl,rfl,rfl⟩:(0:UInt64)=x∧o=a1∧(4:Int)=e1:=by simpa using h
          exact(r1n_bad n q N cp o xs hx hat hN hbig oM oM h3).imp (fun w h=>h) fun v out ⟨h1,h2⟩=>⟨o,ho,h1,h2⟩
  · rw[if_pos he]at h
    obtain⟨rfl,rfl,rfl⟩:(0:UInt64)=x∧at'=a1∧e=e1:=by simpa using h
    exact(r1n_err n q N cp at' o e xs hx hat hN hbig he).imp (fun w h=>h) fun v out ⟨h1,h2⟩=>⟨o,ho,h1,h2⟩
theorem r1t_err(n q N cp at':Nat)(o:Nat)(e:Int)(m:Nat)(hm0:0<m)(hm:m≤90000)(xs:List UInt8)(hx:xs.length=N)(hat:at'≤N)(hN:N≤cp)(hbig:N≤90000)(he:¬e=0):Meets prog 182 [ptr n 0,i64 (m:Int)] [n] (fun W=>BlkOk W (R1B n q (o) N cp (at') (e))∧Cd W q 0 (Aa xs)∧q≠n) (fun v out=>v= .slice none 0 0∧out=[R1B n q (o) N cp (at') (e)]):=by
 intro W hW;have hfn:(rd1 q o N cp at' e).fB.n=N-at':=rfl;have hfc:(rd1 q o N cp at' e).fB.c=cp-at':=rfl;have hfe:(rd1 q o N cp at' e).fE=e:=rfl;refine Br (hp0:=[R1B n q (o) N cp (at') (e)]) func182 J 48 ntmps182 J (HRep.one hW.1) (G8 ?_);refine .max2 J J J J (show Value.int .i64 (if(0:Int)>(m:Int)then 0 else(m:Int))=i64 (m:Int) by rw[if_neg oM]) ?_;refine G10 ?_;refine .eqi J J J J (decide_eq_false (he)) (G11 ?_);refine .cond_f J (rfl) (G9 ?_);refine .nei J J J J (show(!decide _)=true from congrArg not (decide_eq_false (he))) (G2 ?_);refine .cond_t J (rfl) (G5 ?_);refine G3 ?_;refine⟨_,[R1B n q (o) N cp (at') (e)],Ae J J,(by intro b hb;rw[La0.1 hb];exact Bp),Cn,?_⟩;exact⟨rfl,rfl⟩
theorem r1t_more(n q N cp at':Nat)(o:Nat)(m:Nat)(hm0:0<m)(hm:m≤90000)(xs:List UInt8)(hx:xs.length=N)(hat:at'≤N)(hN:N≤cp)(hbig:N≤90000)(hk:N<at'+m):Meets prog 182 [ptr n 0,i64 (m:Int)] [n] (fun W=>BlkOk W (R1B n q (o) N cp (at') (0))∧Cd W q 0 (Aa xs)∧q≠n) (fun v out=>v= .slice none 0 0∧out=[R1B n q (o) N cp (at') (5)]):=by
 intro W hW;have hfn:(rd1 q o N cp at' 0).fB.n=N-at':=rfl;have hfc:(rd1 q o N cp at' 0).fB.c=cp-at':=rfl;have hfe:(rd1 q o N cp at' 0).fE=0:=rfl;refine Br (hp0:=[R1B n q (o) N cp (at') (0)]) func182 J 48 ntmps182 J (HRep.one hW.1) (G8 ?_);refine .max2 J J J J (show Value.int .i64 (if(0:Int)>(m:Int)then 0 else(m:Int))=i64 (m:Int) by rw[if_neg oM]) ?_;refine G10 ?_;refine .eqi J J J J (decide_eq_true (rfl)) (G7 ?_);refine .lss J J J J (decide_eq_true oM) (G3 ?_);refine .cond_t J (rfl) (G14 ?_);refine .nei J J J J (show(!decide _)=true from congrArg not (decide_eq_false (by show ¬((5:Int)=0);decide))) ?_;refine G2 ?_;refine .cond_t J (rfl) (G5 ?_);refine G3 ?_;refine⟨_,[R1B n q (o) N cp (at') (5)],Ae J J,(by intro b hb;rw[La0.1 hb];exact Bp),Cn,?_⟩;exact⟨rfl,rfl⟩
theorem r1t_ok(n q N cp at':Nat)(m:Nat)(hm0:0<m)(hm:m≤90000)(xs:List UInt8)(hx:xs.length=N)(hat:at'≤N)(hN:N≤cp)(hbig:N≤90000)(hk:at'+m≤N):Meets prog 182 [ptr n 0,i64 (m:Int)] [n] (fun W=>BlkOk W (R1B n q (at') N cp (at') (0))∧Cd W q 0 (Aa xs)∧q≠n) (fun v out=>∃q1 c1,v= .slice (some ⟨q1,0,none⟩) m c1∧m≤c1∧out=[⟨q1,Aa ((xs.drop at').take m),5,c1*1⟩,R1B n q (if cp-at'=m then at' else at'+m*1) N cp (at'+m) (0)]):=by
 intro W hW;have hfn:(rd1 q at' N cp at' 0).fB.n=N-at':=rfl;have hfc:(rd1 q at' N cp at' 0).fB.c=cp-at':=rfl;have hfe:(rd1 q at' N cp at' 0).fE=0:=rfl;refine Br (hp0:=[R1B n q (at') N cp (at') (0)]) func182 J 48 ntmps182 J (HRep.one hW.1) (G8 ?_);refine .max2 J J J J (show Value.int .i64 (if(0:Int)>(m:Int)then 0 else(m:Int))=i64 (m:Int) by rw[if_neg oM]) ?_;refine G10 ?_;refine .eqi J J J J (decide_eq_true (rfl)) (G7 ?_);refine .lss J J J J (decide_eq_false oM) (G3 ?_);refine .cond_f J (rfl) (G9 ?_);refine .nei J J J J (show(!decide _)=false from congrArg not (decide_eq_true (rfl))) (G2 ?_);refine .cond_f J (rfl) (G9 ?_);refine .sliceHi m J J J J J oM Y46.h Sz5 (G11 ?_);refine .sliceLoN m J J J J J oM oM Y46.h Sz5 (G2 ?_);refine .s1 J J J J J Sz46 Z0 (by rw[Rdr.length (by exact rd1_ok _ _ _ _ _ _)];decide) (by exact Rdr.setS_fB (by exact rd1_ok _ _ _ _ _ _) _ _ _) zU ?_;refine G4 ?_;refine .mkRow2 (z:=u8 0) [] [] rfl J Y46.h Sz5 Zr5 J J (by intro v hv;cases hv) dE J ?_;intro q45;refine G1 ?_;refine .appendSl (z:=u8 0) (by':=1) (Aa ((xs.drop at').take m)) J J J J J Y46.h Y46.h Sz5 Zr5 (by unfold By;kernel_rfl) J (fun w h=>SeesP.of (sees_ext h (by simp;exact hW.2.2) (sees_cut hW.2.1 at' m))) (fun e=>by cases e) (Ay _) Az J J oM oM oM (by simp[Aa];omega) ?_;intro q47 c47 hq47;rw[Las m]at hq47 ⊢;refine G3 ?_;refine G2 ?_;refine⟨_,[⟨q47,[]++Aa ((xs.drop at').take m),5,c47*1⟩,R1B n q (if cp-at'=m then at' else at'+m*1) N cp (at'+m) (0)],Ae J J,(by intro b hb;rcases Lal.1 hb with rfl|hb;exact Bp;rw[La0.1 hb,r1b_move];exact mem1),(fun h=>h.sublist (by simp[R1B])),?_⟩;exact⟨q47,c47,rfl,hq47,rfl⟩
theorem r1_TakeE(n q o N cp a:Nat)(e:Int)(m:Nat)(hm0:0<m)(hm:m≤90000)(xs:List UInt8)(hx:xs.length=N)(hat:a≤N)(hN:N≤cp)(hbig:N≤90000)(ho:At1 cp a o)(l:List UInt8)(a1:Nat)(e1:Int)(h:takR xs m a e=(l,a1,e1)):Meets prog 182 [ptr n 0,i64 (m:Int)] [n] (fun W=>BlkOk W (R1B n q o N cp a e)∧Cd W q 0 (Aa xs)∧q≠n)
    (fun v out=>∃s bl o1,At1 cp a1 o1∧v=s.v∧Acc s bl (Aa l) 5 l.length 1∧out=bl++[R1B n q o1 N cp a1 e1]):=by
  unfold takR at h;by_cases he:e=0
  · subst he
    rw[if_neg sP]at h;by_cases h1:xs.length<a+m
    · rw[if_pos h1]at h
      obtain⟨rfl,rfl,rfl⟩:[]=l∧a=a1∧(5:Int)=e1:=by simpa using h
      exact(r1t_more n q N cp a o m hm0 hm xs hx hat hN hbig oM).imp (fun w h=>h) fun v out ⟨h1,h2⟩=>⟨Sl.nil,[],o,ho,h1,Acc.none,h2⟩
    · rw[if_neg h1]at h
      obtain rfl:o=a:=ho oM;obtain⟨rfl,rfl,rfl⟩:(xs.drop o).take m=l∧o+m=a1∧(0:Int)=e1:=by simpa using h
      refine(r1t_ok n q N cp o m hm0 hm xs hx hat hN hbig oM).imp (fun w h=>h) fun v out ⟨q1,c1,h1,h2,h3⟩=>?_;have hl:((xs.drop o).take m).length=m:=by simp;omega
      refine⟨⟨some ⟨q1,0,none⟩,m,c1⟩,[_],_,at1_move oM,h1,?_,h3⟩;rw[hl];exact Acc.some h2 (by simp[hl];omega)
  · rw[if_pos he]at h
    obtain⟨rfl,rfl,rfl⟩:[]=l∧a=a1∧e=e1:=by simpa using h
    exact(r1t_err n q N cp a o e m hm0 hm xs hx hat hN hbig he).imp (fun w h=>h) fun v out ⟨h1,h2⟩=>⟨Sl.nil,[],o,ho,h1,Acc.none,h2⟩
theorem upd_dig{l:List UInt8}(h:l=[]∨l.length=32):upd (Aa (List.replicate 32 0)) 0 (Aa l)=Aa (l++(List.replicate 32 0).drop l.length):=by
  rcases h with rfl|h
  ·exact upd_nil _ _
  ·rw[h];simp[upd,Aa,h]
theorem dig_tak{e1:Int}(h:digR xs a e=(d,a1,e1)):∃l,takR xs 32 a e=(l,a1,e1)∧d=l++(List.replicate 32 0).drop l.length:=by
  unfold digR at h;unfold takR;by_cases he:e=0
  · rw[if_neg (by simp[he])]at h ⊢
    by_cases h1:xs.length<a+32
    · rw[if_pos h1]at h ⊢
      obtain⟨rfl,rfl,rfl⟩:List.replicate 32 0=d∧a=a1∧(5:Int)=e1:=by simpa using h
      exact⟨[],rfl,rfl⟩
    · rw[if_neg h1]at h ⊢
      obtain⟨rfl,rfl,rfl⟩:(xs.drop a).take 32=d∧a+32=a1∧(0:Int)=e1:=by simpa using h
      refine⟨_,rfl,?_⟩;rw[show((xs.drop a).take 32).length=32 by simp;omega];simp
  · rw[if_pos he]at h ⊢
    obtain⟨rfl,rfl,rfl⟩:List.replicate 32 0=d∧a=a1∧e=e1:=by simpa using h
    exact⟨[],rfl,rfl⟩
theorem r1_DigestT(n q o N cp at':Nat)(e:Int)(xs:List UInt8)(hx:xs.length=N)(hat:at'≤N)(hN:N≤cp)(hbig:N≤90000)(ho:At1 cp at' o)(l:List UInt8)(a1:Nat)(e1:Int)(h:takR xs 32 at' e=(l,a1,e1)):Meets prog 137 [ptr n 0] [n] (fun W=>BlkOk W (R1B n q (o) N cp (at') (e))∧Cd W q 0 (Aa xs)∧q≠n) (fun v out=>∃o1,At1 cp a1 o1∧v=agg (Aa (l++(List.replicate 32 0).drop l.length))∧out=[R1B n q o1 N cp a1 e1]):=by
 intro W hW;have hd:=takE_le h hx hat;have hle:l.length≤32:=by rcases hd.2 with h|h<;>simp[h]
 have hle32:l.length+(32-l.length)=32:=by omega
 have hd32:(l++(List.replicate 32 0).drop l.length).length=32:=by rcases hd.2 with h|h<;>simp[h]
 refine Br (hp0:=[R1B n q (o) N cp (at') (e)]) func137 J 9 ntmps137 J (HRep.one hW.1) (G2 ?_);refine .alloc (cs:=(Aa (List.replicate 32 0))) J Ck J ?_;intro n2 hn2 hf2;refine G4 ?_;refine .alloc (cs:=(Aa (List.replicate 32 0))) J Ck J ?_;intro n3 hn3 hf3;refine G3 ?_;refine .draw (oP [0,1,402,403]) Ao zK (G2 ?_);refine .callL (L:=[R1B n q (o) N cp (at') (e)]) J J J J J Body182 (r1_TakeE n q o N cp at' e 32 dE dE xs hx hat hN hbig ho l a1 e1 h) (Ab rM Ai) (Cf J) (fun w h=>⟨Bg h Z2,sees_ext h (by simp;exact hW.2.2) hW.2.1,hW.2.2⟩) ?_;rintro v6 out6 ⟨s6,bl6,o1,ho1,rfl,hac6,rfl⟩;simp only[La8,Lam,Lak];refine .copyP (Aa l) l.length J J J J J Y46.h Sz5 (fun w h=>hac6.see (Lies.of h (by repeat(exact A4)))) (fun e=>hac6.nil e) (by simp[Aa,hac6.num]) (by rw[hac6.num];omega) (La5 (by simp[Aa])) (Ay _) mR (by simp[Aa];omega) (upd_dig hd.2) uU ?_;refine G4 ?_;refine .lA J J J Y34.h J Sz34 mR (by(simp[hle32];done)) ?_;refine .sA J J J J zE Sz34 (by(simp[hle32];done)) mR sP uU ?_;refine G2 ?_;refine G2 ?_;refine Aw (out:=(R1B n q o1 N cp a1 e1::[])) (Am J J Y34.h J Sz34 mR (by simp[hle32])) (Ab (by repeat(first|exact Az|apply Ce)) Ai) ?_;exact⟨o1,ho1,rfl,rfl⟩
theorem r1_DigestE(n q o N cp a:Nat)(e:Int)(xs:List UInt8)(hx:xs.length=N)(hat:a≤N)(hN:N≤cp)(hbig:N≤90000)(ho:At1 cp a o)(d:List UInt8)(a1:Nat)(e1:Int)(h:digR xs a e=(d,a1,e1)):Meets prog 137 [ptr n 0] [n] (fun W=>BlkOk W (R1B n q o N cp a e)∧Cd W q 0 (Aa xs)∧q≠n)
    (fun v out=>∃o1,At1 cp a1 o1∧v=agg (Aa d)∧out=[R1B n q o1 N cp a1 e1]):=by
  obtain⟨l,h1,rfl⟩:=dig_tak h;exact r1_DigestT n q o N cp a e xs hx hat hN hbig ho l a1 e1 h1
theorem r1_End(n q o N cp at':Nat)(e:Int)(hat:at'≤N)(hbig:N≤90000):Mv 138 [ptr n 0] (fun W=>BlkOk W (R1B n q (o) N cp (at') (e))) (i64 (endR N at' e)):=by
 intro W hW;have hfn:(rd1 q o N cp at' e).fB.n=N-at':=rfl;have hfc:(rd1 q o N cp at' e).fB.c=cp-at':=rfl;have hfe:(rd1 q o N cp at' e).fE=e:=rfl;refine Ac func138 J 18 ntmps138 J (G11 ?_);refine .loadE J J J Y36.h J sP (BlkOk.cell0 (o:=1) hW J) (G3 ?_);refine .condNP J (fun hc0=>?_) (fun hc0=>?_)
 ·
  have hq0:¬e=0:=by omega
  refine G5 ?_;refine .loadE J J J Y36.h J sP (BlkOk.cell0 (o:=1) hW J) (G3 ?_);refine G3 ?_;refine⟨_,[],Ae J J,sP,sP,?_,rfl⟩
  (rw[hfe,endR,if_neg hq0];done)
 have hq0:e=0:=by omega
 refine G8 ?_;refine .loadE J J J Y46.h J sP (BlkOk.cell0 (o:=0) hW J) (.lenSl (n:=N-at') J J J Y46.h (G3 ?_));refine .condP J (fun hc1=>?_) (fun hc1=>?_)
 ·
  refine G5 ?_;refine G3 ?_;refine⟨_,[],Ae J J,sP,sP,?_,rfl⟩
  (rw[endR,if_pos hq0,if_pos (show(0:Int)<(N:Int)-(at':Int) by omega)];done)
 refine G7 ?_;refine G2 ?_;refine⟨_,[],Ae J J,sP,sP,?_,rfl⟩
 (rw[endR,if_pos hq0,if_neg (show ¬(0:Int)<(N:Int)-(at':Int) by omega)];done)
def Rd1New(N:Nat)(xs:List UInt8)(v:Value)(out:List Blk):Prop:=∃n q cp,v=ptr n 0∧N≤cp∧out=[R1B n q 0 N cp 0 0,⟨q,Aa xs,5,cp*1⟩]
theorem r1_Read(p:Option Addr)(n c:Nat)(xs:List UInt8)(hl:xs.length=n)(hp:p=none→n=0)(hn:n≤90000):Meets prog 135 [.slice p n c] [] (fun W=>SeesP W p (Aa xs)) (Rd1New n xs):=by
 intro W hW;refine Ac func135 J 8 ntmps135 J (G7 ?_);refine .mkRow2 (z:=u8 0) [] [] rfl J Y46.h Sz5 Zr5 J J (by intro v hv;cases hv) dE J ?_;intro q3;refine G1 ?_;refine .appendSl (z:=u8 0) (by':=1) (Aa xs) J J J J J Y46.h Y46.h Sz5 Zr5 (by unfold By;kernel_rfl) J (fun w h=>A2 h J hW) hp (by simp[Aa,isCell,u8]) Az J J oM oM oM (by simp[Aa,hl]) ?_;intro q5 c5 hq5;rw[Las n]at hq5 ⊢;refine .build (cs:=(⟨⟨some ⟨q5,0,none⟩,n,c5⟩,0⟩:Rdr).cells) J J J (fun w=>by kernel_rfl) ?_;refine G1 ?_;intro n7 hn7 hf7;refine G3 ?_;refine G2 ?_;refine⟨_,[R1B n7 q5 0 n c5 0 0,⟨q5,Aa xs,5,c5*1⟩],Ae J J,(by intro b hb;rcases Lal.1 hb with rfl|hb;exact Bp;rw[La0.1 hb];exact mem1),(fun h=>h.sublist (by simp[R1B,blk])),⟨n7,q5,c5,rfl,hq5,rfl⟩⟩
theorem dig_bwd(h:digR xs a e=(d,a1,0)):e=0∧a1=a+32∧a+32≤xs.length∧xs.drop a=d++xs.drop a1:=by
  unfold digR at h;by_cases he:e=0
  · rw[if_neg (by simp[he])]at h
    by_cases h1:xs.length<a+32
    ·rw[if_pos h1]at h;simp at h
    · rw[if_neg h1]at h
      obtain⟨rfl,rfl⟩:(xs.drop a).take 32=d∧a+32=a1:=by simpa using h
      exact⟨he,rfl,by omega,by rw[←List.drop_drop,Lcj]⟩
  · rw[if_pos he]at h
    simp at h;exact absurd h.2.2 he
theorem num_bwd{x:UInt64}(h:numR xs a e=(x,a1,0)):e=0∧a1=a+szN x.toNat∧a1≤xs.length∧xs.drop a=numB x++xs.drop a1:=by
  unfold numR at h;by_cases he:e=0
  · rw[if_neg (by simp[he])]at h
    by_cases h1:xs.length≤a
    ·rw[if_pos h1]at h;simp at h
    rw[if_neg h1]at h;by_cases h2:xs.length<a+Bk (xs.getD a 0)
    ·rw[if_pos h2]at h;simp at h
    rw[if_neg h2]at h;by_cases h3:szN (numV xs a).toNat=Bk (xs.getD a 0)
    · rw[if_pos h3]at h
      obtain⟨h4,h5⟩:numV xs a=x∧a+Bk (xs.getD a 0)=a1:=by simpa using h
      have hc:=(head_of (xs.getD a 0)).1;have hl:((xs.drop (a+1)).take (Bk (xs.getD a 0)-1)).length=Bk (xs.getD a 0)-1:=by rw[Lag,Lc3];omega
      have hb:=num_only hl h3;rw[show foldB (headV (xs.getD a 0)) ((xs.drop (a+1)).take (Bk (xs.getD a 0)-1))=x from h4]at hb;rw[h4]at h3;refine⟨he,by omega,by omega,?_⟩;have e3:xs.drop a1=(xs.drop (a+1)).drop (Bk (xs.getD a 0)-1):=by rw[List.drop_drop];congr 1;omega
      rw[hb,e3,Lam,Lcj,Lbx (l:=xs) (i:=a) oM];congr 1;rw[La2,La3 oM];rfl
    ·rw[if_neg h3]at h;simp at h
  · rw[if_pos he]at h
    simp at h;exact absurd h.2.2 he
theorem digs_bwd{xs:List UInt8}{a:Nat}{e:Int}:∀(j:Nat) (ls:List (List UInt8)) (a1:Nat),A6 xs j a e=(ls,a1,0)→e=0∧ls.length=j∧xs.drop a=ls.flatten++xs.drop a1
  | 0,ls,a1,h=>by
    obtain⟨rfl,rfl,rfl⟩:[]=ls∧a=a1∧e=0:=by simpa[A6]using h
    exact⟨rfl,rfl,rfl⟩
  | j+1,ls,a1,h=>by
    rw[A6]at h;obtain⟨h1,h2⟩:(A6 xs j a e).1++[(digR xs (A6 xs j a e).2.1 (A6 xs j a e).2.2).1]=ls∧(digR xs (A6 xs j a e).2.1 (A6 xs j a e).2.2).2=(a1,0):=by simpa using h
    obtain⟨g1,g2,g3,g4⟩:=dig_bwd (xs:=xs) (d:=(digR xs (A6 xs j a e).2.1 (A6 xs j a e).2.2).1) (a:=(A6 xs j a e).2.1) (a1:=a1) (e:=(A6 xs j a e).2.2) (by rw[←h2]);obtain⟨k1,k2,k3⟩:=digs_bwd j (A6 xs j a e).1 (A6 xs j a e).2.1 (by rw[←g1]);refine⟨k1,by rw[←h1,La4,k2];rfl,?_⟩;rw[←h1,Lc4,k3,g4];simp
open Ed
variable{B:Block}{D:DB}{K:List UInt8}{W:World}
theorem seesP_tk{w:World}{p:Option Addr}{l:List UInt8}{n:Nat}(h:SeesP w p (Aa l)):SeesP w p (Aa (l.take n)):=fun j v hj=>by
  rw[Aa,Lcm,Lb9]at hj;split at hj
  ·exact h j v hj
  ·cases hj
theorem r2_StartShort(k s0 i0:List UInt64)(G:List UInt8)(hk:Hid (kW=k))(hk80:k.length=80)(hs0:Hid (xorUp 8=s0))(hs8:s0.length=8)(hG:Hid (shaTag=G))(hGl:G.length=11)(hi0:Hid (allW k s0 G=i0))(hi8:i0.length=8)  :Mv 168 [] (fun _=>True) (agg (Ah i0)):=by
 intro W hW;refine Ac func168 J 18 ntmps168 J (G2 ?_);refine .alloc (cs:=(Ah (List.replicate 8 0))) J Zr185 J ?_;intro n0 hn0 hf0;refine G4 ?_;refine .cV J J J J Body209 (r2_Start startW ⟨rfl⟩) tV (.alloc (cs:=(Ah (List.replicate 8 0))) J Zr185 J ?_);intro n1 hn1 hf1;refine .sA J J J J zB Sz185 (by(simp[startW_length];done)) Z0 sP zU ?_;refine G9 ?_;refine .loop (ι:=Nat) (fun j=>⟨[(0,ptr n0 0),(1,ptr n1 0),(2,i64 (j:Int))],[⟨n1,Ah (xorUp j),185,8⟩,⟨n0,Ah (List.replicate 8 0),185,8⟩]⟩) (fun j=>j≤8) (fun j=>8-j) (0) ?_ ?_ ?_
 ·omega
 ·exact An wN (Ab rM (Ab rM Ai))
 rintro j hi;have hlj:=xorUp_length j;refine G7 ?_;refine .condP J (fun hc0=>?_) (fun hc0=>?_)
 ·
  refine G7 ?_;refine .i1 J J J J Y185.h Sz45 _ J oM (G1 ?_);refine .xor_u64 J J J (show Ag _ _=some (u64 11936128518282651045)from rfl) (.i1 J J J J Y185.h Sz45 _ J oM (.s1 J J J J J Sz45 Z0 (by(simp[xorUp_length];omega)) (by exact Be _ _ _) zU ?_));refine G9 ?_;exact⟨j+1,by omega,by omega,An wN (Ab rM (Ab rM Ai))⟩
 obtain rfl:j=8:=by omega
 rw[hs0.out];clear hlj;refine G7 ?_;refine .lA J J J Y185.h J Sz185 Z0 (by(simp[hs8];done)) ?_;refine .mkRow (z:=u8 0) [u8 83,u8 72,u8 65,u8 45,u8 53,u8 49,u8 50,u8 47,u8 50,u8 53,u8 54] (Aa shaTag) J J J Y46.h Sz5 Zr5 J J (by intro v hv;simp only[Lal,Lcd,or_false]at hv;rcases hv with rfl|rfl|rfl|rfl|rfl|rfl|rfl|rfl|rfl|rfl|rfl<;>rfl) dE J ?_;intro q15;rw[hG.out];refine .constB J J J J Y46.h Y5.h Z0 ?_;refine .cV J J J J Body167 (r2_run s0 hs8 k hk hk80 ⟨some ⟨q15,0,none⟩,11,11⟩ G (by simp[hGl]) (fun e=>by cases e) oM) (fun w h=>SeesP.of (Ap h Z0)) ?_;rw[hi0.out];refine .sA J J J J zB Sz185 (by(simp[hi8];done)) Z2 sP (by exact upd2) ?_;refine G2 ?_;refine G2 ?_;refine⟨_,[],Am J J Y185.h J Sz185 Z2 (by simp[hi8]),sP,sP,?_,rfl⟩;rfl
theorem r2_Sum(k s0 i0:List UInt64)(G:List UInt8)(hk:Hid (kW=k))(hk80:k.length=80)(hs0:Hid (xorUp 8=s0))(hs8:s0.length=8)(hG:Hid (shaTag=G))(hGl:G.length=11)(hi0:Hid (allW k s0 G=i0))(hi8:i0.length=8)(p:Option Addr)(n c:Nat)(ss:List Sl)(ls:List (List UInt8))(hss:ss.length=n)(hls:ls.length=n)(hsl:∀j,j<n→(ss.getD j Sl.nil).n=(ls.getD j []).length∧((ss.getD j Sl.nil).p=none→(ss.getD j Sl.nil).n=0))(F:List UInt8)(hF:ls.flatten=F)(htot:F.length≤90000)(hn:n≤1000000)(r:List UInt64)(hr:Hid (allW k i0 F=r))(s:List UInt8)(hs:Hid (sumUp r 64=s))  :Mv 122 [.slice p n c] (fun W=>SeesP W p (ss.map Sl.v)∧∀j,j<n→SeesP W (ss.getD j Sl.nil).p (Aa (ls.getD j []))) (agg (Aa (s.take 32))):=by
 intro W hW;have hr8:r.length=8:=by rw[←hr.out,allW_length];exact hi8
 have hs64:s.length=64:=by rw[←hs.out];exact Cb r 64
 have hs32:(s.take 32).length=32:=by rw[Lag,hs64];rfl
 have hrun:=fun(x:Sl) (h1:x.n=F.length) (h2:x.p=none→x.n=0)=>r2_run i0 hi8 k hk hk80 x F h1 h2 htot;rw[hr.out]at hrun;refine Ac func122 J 14 ntmps122 J (G2 ?_);refine .alloc (cs:=(Aa (List.replicate 32 0))) J Ck J ?_;intro n2 hn2 hf2;refine G4 ?_;refine .cV J J J J Body168 (r2_StartShort k s0 i0 G hk hk80 hs0 hs8 hG hGl hi0 hi8) tV (G1 ?_);refine .call4 J J J J J Body169 (r2_join p n c ss ls hss hls hsl F hF htot hn) (fun w h=>⟨A2 h J hW.1,fun j hj=>A2 h J (hW.2 j hj)⟩) ?_;rintro v7 out7 ⟨s7,rfl,hac7⟩;refine .cV J J J J Body167 (hrun s7 hac7.num hac7.nil) (fun w h=>hac7.see (Lies.of h (by repeat(exact A4)))) ?_;refine .cV J J J J Body166 (r2_bytes r hr8 s hs) tV (.alloc (cs:=(Aa (List.replicate 64 0))) J Zr47 J ?_);intro n3 hn3 hf3;refine .sA J J J J zE Sz47 (by(simp[hs64];done)) Z0 sP zU ?_;refine G4 ?_;refine .alloc (cs:=(Aa (List.replicate 32 0))) J Ck J ?_;intro n4 hn4 hf4;refine G3 ?_;refine .draw (oP [0,1,402]) Ao zK (G1 ?_);refine .sliceArrHi 32 J J J J J dE dE Y47.h Sz5 (.copyP (Aa (s.take 32)) 32 J J J J J Y46.h Sz5 (fun w h=>seesP_tk (SeesP.of (Ap h Z1))) (fun e=>by cases e) (by simp[Aa,hs64]) J (La5 (by simp[Aa,hs64])) (Ay _) Z0 (by simp[Aa]) (show upd (Aa (List.replicate 32 0)) 0 (Aa (s.take 32))=Aa (s.take 32) by simp[upd,Aa,hs64]) zU ?_);refine G4 ?_;refine .lA J J J Y34.h J Sz34 Z0 (by(simp[hs64];done)) ?_;refine .sA J J J J zE Sz34 (by(simp[hs64];done)) mR sP uU ?_;refine G2 ?_;refine G2 ?_;refine⟨_,[],Am J J Y34.h J Sz34 mR (by simp[hs64]),sP,sP,?_,rfl⟩;rfl
theorem dcheck_2(h:¬D.check=0):D.check=2:=by
  unfold DB.check at h ⊢;by_cases h1:D.head=true
  ·rw[if_pos h1]
  · rw[if_neg h1]at h ⊢
    by_cases h2:linksBad D.prev D.ls=true
    ·rw[if_pos h2]
    ·rw[if_neg h2]at h;exact absurd rfl h
theorem r15_cmp(a b:List UInt8)(ha:a.length=32)(hb:b.length=32):Mv 25 [agg (Aa a),agg (Aa b)] (fun _=>True) (i64 (Cw a b)):=by
 intro W hW;refine Ac func25 J 24 ntmps25 J (G3 ?_);intro n2 hn2 hf2;refine G1 ?_;intro n3 hn3 hf3;refine G10 ?_;refine .loop (ι:=Nat) (fun k=>⟨[(2,ptr n2 0),(3,ptr n3 0),(5,i64 (k:Int))],[⟨n3,Aa b,34,(Aa b).length⟩,⟨n2,Aa a,34,(Aa a).length⟩]⟩) (fun k=>k≤32∧∀j,j<k→a.getD j 0=b.getD j 0) (fun k=>32-k) (0) ?_ ?_ ?_
 ·exact⟨Laj _,fun j hj=>absurd hj (Lfn _)⟩
 ·exact Ad wN (wh1 Z0 (wh1 Z1 wh0)) nD
 rintro k ⟨hk,hsm⟩;refine G7 ?_;refine .condP J (fun hc0=>?_) (fun hc0=>?_)
 ·
  have hk2:k<32:=by omega
  refine G6 ?_;refine .draw (oP [0,1,102,3,4,105,6]) Ao zK (G1 ?_);refine .i1 J J J J Y34.h Sz5 k J oM (G2 ?_);refine .i1 J J J J Y34.h Sz5 k J oM (G4 ?_);refine .condP J (fun hc1=>?_) (fun hc1=>?_)
  ·
   have hek:a.getD k 0≠b.getD k 0:=fun e=>by rw[e]at hc1;omega
   refine G5 ?_;refine G8 ?_;refine⟨_,[],Ae J J,sP,sP,?_,rfl⟩
   (rw[cmpB_at k a b oM hsm oM hek];unfold cmpI;rw[if_pos oM];done)
  refine G3 ?_;refine .draw (oP [0,1,102,3,4,105,6]) Ao zK (G1 ?_);refine .i1 J J J J Y34.h Sz5 k J oM (G2 ?_);refine .i1 J J J J Y34.h Sz5 k J oM (G4 ?_);refine .condP J (fun hc2=>?_) (fun hc2=>?_)
  ·
   have hek:a.getD k 0≠b.getD k 0:=fun e=>by rw[e]at hc2;omega
   refine G5 ?_;refine G7 ?_;refine⟨_,[],Ae J J,sP,sP,?_,rfl⟩
   (rw[cmpB_at k a b oM hsm oM hek];unfold cmpI;rw[if_neg oM,if_pos oM];done)
  have hek:a.getD k 0=b.getD k 0:=Lce.1 oM;refine G9 ?_;exact⟨k+1,⟨by omega,fun j hj=>by rcases Lax j k with h1|h1;exact hsm j h1;exact(show j=k by omega)▸hek⟩,by omega,Ad (wk1 rfl (wk1 rfl (wk1 (by rw[Lbr];rfl) wk0))) (wh1 Z0 (wh1 Z1 wh0)) nD⟩
 have hk2:k=32:=by omega
 refine G10 ?_;refine G2 ?_;refine⟨_,[],Ae J J,sP,sP,?_,rfl⟩
 (rw[cmpB_all ha hb (fun j hj=>hsm j oM)];done)
theorem r15_check(B:Block)(hB:B.ok)(ls:List (List UInt8)):Mv 103 [agg B.cells] (fun W=>RowsAt W B.fLinks 32 ls) (i64 (bcheck B ls)):=by
 intro W hW;have hcx:B.fLinks.n≤maxLen:=hW.max;simp only[maxLen]at hcx;have hcn:=hW.cap;refine Ac func103 J 74 ntmps103 J (G3 ?_);intro n1 hn1 hf1;refine G5 ?_;refine .build (cs:=Aa (List.replicate 32 0)) J J J (fun w=>by kernel_rfl) ?_;refine .alloc (cs:=(Aa (List.replicate 32 0))) J Ck J ?_;intro n3 hn3 hf3;refine .sA J J J J zE Sz34 sP Z0 sP zU ?_;refine G4 ?_;refine .draw (oP [0,101,2,3,4,105,106,7,8,109,10,11,12,13,14,115,16,17,18,19,20,121,22,23,24]) Ao zK (G2 ?_);refine two (fun r hr k=>Tr.gtr J J J J hr k) (fun hs2_20=>?_) (fun hs2_20=>?_)
 ·
  have hs2_2:=of_decide_eq_true hs2_20;refine G24 ?_;refine .cond_t J J (G5 ?_);refine G3 ?_;refine⟨_,[],Ae J J,sP,sP,?_,rfl⟩;exact congrArg i64 (bcheck_head (by unfold bhead bheadB;simp_all)).symm
 have hs2_2:=of_decide_eq_false hs2_20;refine G2 ?_;refine .lN (Aa _) J J J Y34.h J Sz34 Z1 (Block.row_fPrev zA) (Block.rl_fPrev zA) ?_;refine .lA J J J Y34.h J Sz34 Z0 sP ?_;refine .eql_bytes J J J J eqGuardType34 Y34.h Y5.h Sz5 (by(simp[hB.l_fPrev];done)) sP J ?_;refine G3 ?_;refine two (fun r hr k=>Tr.neb J J J J Y4 hr k) (fun hs2_110=>?_) (fun hs2_110=>?_)
 ·
  have hs2_11:=nd_t hs2_110;refine G15 ?_;refine .cond_t J J (G5 ?_);refine G3 ?_;refine⟨_,[],Ae J J,sP,sP,?_,rfl⟩;exact congrArg i64 (bcheck_head (by unfold bhead bheadB;simp_all)).symm
 have hs2_11:=nd_f hs2_110;refine G5 ?_;refine two (fun r hr k=>Tr.gtr J J J J hr k) (fun hs2_170=>?_) (fun hs2_170=>?_)
 ·
  have hs2_17:=of_decide_eq_true hs2_170;refine G9 ?_;refine .cond_t J J (G5 ?_);refine G3 ?_;refine⟨_,[],Ae J J,sP,sP,?_,rfl⟩;exact congrArg i64 (bcheck_head (by unfold bhead bheadB;simp_all)).symm
 have hs2_17:=of_decide_eq_false hs2_170;refine G9 ?_;refine .condP J (fun hc0=>?_) (fun hc0=>?_)
 ·
  refine G5 ?_;refine G3 ?_;refine⟨_,[],Ae J J,sP,sP,?_,rfl⟩;exact congrArg i64 (bcheck_head (by unfold bhead bheadB;simp_all)).symm
 have hnb:¬bhead B:=by unfold bhead bheadB;simp_all
 refine G9 ?_;refine .loop (ι:=Nat) (fun k=>⟨[(1,ptr n1 0),(3,ptr n3 0),(4,i64 (k:Int))],[⟨n3,Aa (List.replicate 32 0),34,32⟩,⟨n1,B.cells,50,B.cells.length⟩]⟩) (fun k=>k≤B.fLinks.n∧∀j,j<k→badAt B.fPrev ls j=false) (fun k=>B.fLinks.n-k) (0) ?_ ?_ ?_
 ·exact⟨by omega,fun j hj=>by omega⟩
 ·exact Ad wN (wh1 Z0 (wh1 Z1 wh0)) nD
 rintro k ⟨hk,hg⟩;refine G10 ?_;refine .condP J (fun hc1=>?_) (fun hc1=>?_)
 ·
  have hk2:k<B.fLinks.n:=by omega
  have hll:=hW.len;obtain⟨b,o,hbp,hbs⟩:=hW.see.at (by rw[Ax hW.row];omega);have hr0:(ls.getD k []).length=32:=Bf hW.row oM;have hr1:(ls.getD (k-1) []).length=32:=Bf hW.row oM;refine G2 ?_;refine .join (ι:=Unit) (fun _u=>⟨[(1,ptr n1 0),(3,ptr n3 0),(4,i64 (k:Int))],[⟨n3,Aa (List.replicate 32 0),34,32⟩,⟨n1,B.cells,50,B.cells.length⟩]⟩) (fun _u=>badAt B.fPrev ls k=false) ?_ ?_
  ·
   refine G2 ?_;refine .draw (oP [0,101,2,3,104,105,6,7,8,109,10,11,112,13,114,15,16,17,18,19,20,21,122,23,24,25,126,27,128,29,30,131,332,33,34,35]) Ao zK (G3 ?_);refine .idxSlP 32 J J J hbp J Y30.h Sz34 k J oM (.loadEN (Aa (ls.getD (k) [])) J J J Y34.h J Sz34 sP (by rw[Aa,La1];exact Bf hW.row (by rw[hW.len];omega)) (Bu hW.row hbs (by rw[hW.len];omega)) ?_);refine .lA J J J Y34.h J Sz34 Z0 sP ?_;refine two (fun r hr k=>Tr.eql_bytes J J J J eqGuardType34 Y34.h Y5.h Sz5 zA sP hr k) (fun hs7_60=>?_) (fun hs7_60=>?_)
   ·
    have hs7_6:=of_decide_eq_true hs7_60;refine G31 ?_;refine .cond_t J J (G5 ?_);refine G7 ?_;refine⟨_,[],Ae J J,sP,sP,?_,rfl⟩;exact congrArg i64 (bcheck_bad hnb (linksBad_at (k:=k) oM (by unfold badAt;simp_all))).symm
   have hs7_6:=of_decide_eq_false hs7_60;refine G4 ?_;refine .idxSlP 32 J J J hbp J Y30.h Sz34 k J oM (.loadEN (Aa (ls.getD (k) [])) J J J Y34.h J Sz34 sP (by rw[Aa,La1];exact Bf hW.row (by rw[hW.len];omega)) (Bu hW.row hbs (by rw[hW.len];omega)) ?_);refine G1 ?_;refine .lN (Aa _) J J J Y34.h J Sz34 Z1 (Block.row_fPrev zA) (Block.rl_fPrev zA) ?_;refine two (fun r hr k=>Tr.eql_bytes J J J J eqGuardType34 Y34.h Y5.h Sz5 zA (by(simp[hB.l_fPrev];done)) hr k) (fun hs7_150=>?_) (fun hs7_150=>?_)
   ·
    have hs7_15:=of_decide_eq_true hs7_150;refine G22 ?_;refine .cond_t J J (G5 ?_);refine G7 ?_;refine⟨_,[],Ae J J,sP,sP,?_,rfl⟩;exact congrArg i64 (bcheck_bad hnb (linksBad_at (k:=k) oM (by unfold badAt;simp_all))).symm
   have hs7_15:=of_decide_eq_false hs7_150;refine G3 ?_;refine two (fun r hr k=>Tr.gtr J J J J hr k) (fun hs7_190=>?_) (fun hs7_190=>?_)
   ·
    have hs7_19:=of_decide_eq_true hs7_190;refine G5 ?_;refine .idxSlP 32 J J J hbp J Y30.h Sz34 (k-1) oM oM (.loadEN (Aa (ls.getD (k-1) [])) J J J Y34.h J Sz34 sP (by rw[Aa,La1];exact Bf hW.row (by rw[hW.len];omega)) (Bu hW.row hbs (by rw[hW.len];omega)) ?_);refine G3 ?_;refine .idxSlP 32 J J J hbp J Y30.h Sz34 k J oM (.loadEN (Aa (ls.getD (k) [])) J J J Y34.h J Sz34 sP (by rw[Aa,La1];exact Bf hW.row (by rw[hW.len];omega)) (Bu hW.row hbs (by rw[hW.len];omega)) ?_);refine .cV J J J J Body25 (r15_cmp _ _ hr1 hr0) tV (G5 ?_);refine .condP J (fun hc2=>?_) (fun hc2=>?_)
    ·
     refine G5 ?_;refine G7 ?_;refine⟨_,[],Ae J J,sP,sP,?_,rfl⟩;exact congrArg i64 (bcheck_bad hnb (linksBad_at (k:=k) oM (by unfold badAt;simp_all))).symm
    refine G3 ?_;refine⟨(),by unfold badAt;simp_all,Ad wN (wh1 Z0 (wh1 Z1 wh0)) nD⟩
   have hs7_19:=of_decide_eq_false hs7_190;refine G18 ?_;refine .cond_f J J (G3 ?_);refine⟨(),by unfold badAt;simp_all,Ad wN (wh1 Z0 (wh1 Z1 wh0)) nD⟩
  intro _u hj;have hgk:=hj;refine G6 ?_;exact⟨k+1,⟨by omega,fun j hj=>by rcases Lcb.1 hj with h|rfl;exact hg j h;exact hgk⟩,by omega,Ad (wk1 rfl (wk1 rfl (wk1 (by rw[Lbr];rfl) wk0))) (wh1 Z0 (wh1 Z1 wh0)) nD⟩
 obtain rfl:k=B.fLinks.n:=by omega
 refine G10 ?_;refine G2 ?_;refine⟨_,[],Ae J J,sP,sP,?_,rfl⟩;exact congrArg i64 (bcheck_ok hnb (linksBad_not (by rw[hW.len];exact hg))).symm
theorem r15_Check(B:Block)(D:DB):Mv 103 [agg B.cells] (fun W=>BlockIs W B D) (i64 D.check):=
  fun W hW=>by rw[←hW.check];exact r15_check B hW.ok D.ls W hW.ls
theorem r1_Block(p r:Option Addr)(n c m d:Nat)(l ys:List UInt8)(hl:l.length=n)(hy:ys.length=m)(hp:p=none→n=0)(hr:r=none→m=0)(hn:n≤40000)(hm:m≤40000):Meets prog 203 [.slice p n c, .slice r m d] [] (fun W=>SeesP W p (Aa l)∧SeesP W r (Aa ys)) (fun v out=>FreshRow v out (Aa (l++numB (UInt64.ofNat m)++ys)) 5 (n+szN m+m) 1):=by
 intro W hW;have hz:=B1 m;have hw:B5 (m:Int)=UInt64.ofNat m:=by simp only[B5];congr 1;omega
 have hmn:(UInt64.ofNat m).toNat=m:=by rw[Laz,Lab oM]
 refine Ac func203 J 12 ntmps203 J (G11 ?_);rw[hw];refine .call4 J J J J J Body134 (r1_Number p n c l (UInt64.ofNat m) hl hp oM) (fun w h=>A2 h J hW.1) ?_;rintro v9 out9 ⟨q9,c9,rfl,hc9,rfl⟩;rw[hmn]at hc9 ⊢;refine G1 ?_;refine .appendSl (z:=u8 0) (by':=1) (Aa ys) J J J J J Y46.h Y46.h Sz5 Zr5 (by unfold By;kernel_rfl) J (fun w h=>A2 h J hW.2) hr (Ay _) rM J (by rw[Aa,La1,La4,Bj,hl,hmn,Lb4]) oM oM oM (by rw[Aa,La1,hy,Lb4]) ?_;intro q11 c11 hq11;rw[←C5];refine G3 ?_;refine G2 ?_;refine Aw (out:=(⟨q11,Aa (l++numB (UInt64.ofNat m)++ys),5,c11*1⟩::[])) (Ae J J) (Ab rM Ai) ?_;exact⟨q11,c11,rfl,hq11,rfl⟩
theorem btag_length:btag.length=5:=rfl
theorem r15_Text(B:Block)(D:DB)(hB:B.ok)(h1:D.ls.length≤40)(h2:D.ds.length≤2000):Meets prog 161 [agg B.cells] [] (fun W=>BlockIs W B D) (fun v out=>FreshRow v out (Aa (btxt D)) 5 (btxt D).length 1):=by
 intro W hW;have hbs0:=DB.body_small hW.dok h1 h2;have e1:=hW.ls.len;have e2:=hW.ds.len;have hz1:=B1 B.fSeq.toNat;have hz2:=B1 (UInt64.ofNat B.fLinks.n).toNat;have hz3:=B1 B.fData.n;have hw2:=word_nat (n:=B.fLinks.n) oM;have hrow:=hW.ls.row;refine Ac func161 J 41 ntmps161 J (G3 ?_);intro n1 hn1 hf1;refine G5 ?_;refine .mkRow (z:=u8 0) [u8 98,u8 108,u8 111,u8 99,u8 107] (Aa btag) J J J Y46.h Sz5 Zr5 J J (by intro v hv;simp only[Lal,Lcd,or_false]at hv;rcases hv with rfl|rfl|rfl|rfl|rfl<;>rfl) dE J ?_;intro q5;refine .constB J J J J Y46.h Y5.h Z0 ?_;refine G2 ?_;refine .appendSl (z:=u8 0) (by':=1) (Aa B.fWriter) J J J J J Y46.h Y46.h Sz5 Zr5 (by unfold By;kernel_rfl) J (fun w h=>SeesP.of (sees_part h Z1 (Block.see_fWriter hB))) (fun e=>by cases e) (Ay _) rM J J dE dE dE (by simp[hB.l_fWriter]) ?_;intro q9 c9 hq9;rw[←C5];refine G4 ?_;refine .draw (oP [0,1,102,4,5,403,406,7]) Ao zK (G5 ?_);refine .call4 J J J J J Body134 (r1_Number (some ⟨q9,0,none⟩) (5+32) c9 (btag++B.fWriter) (B.fSeq) (by simp only[La4,Bj,hB.l_fWriter,hB.l_fPrev,btag_length]) (fun e=>by cases e) oM) (fun w h=>SeesP.of (Ap (cs:=Aa (btag++B.fWriter)) h Z0)) ?_;rintro v13 out13 ⟨q13,c13,rfl,hc13,rfl⟩;refine .appendSl (z:=u8 0) (by':=1) (Aa B.fPrev) J J J J J Y46.h Y46.h Sz5 Zr5 (by unfold By;kernel_rfl) J (fun w h=>SeesP.of (sees_part h Z2 (Block.see_fPrev hB))) (fun e=>by cases e) (Ay _) rM J (by rw[Aa,La1,Lb4];simp only[La4,Bj,hB.l_fWriter,hB.l_fPrev,btag_length]) oM oM oM (by simp[hB.l_fPrev]) ?_;intro q16 c16 hq16;rw[←C5];refine G10 ?_;rw[hw2];refine .call4 J J J J J Body134 (r1_Number (some ⟨q16,0,none⟩) (5+32+szN B.fSeq.toNat+32) c16 (btag++B.fWriter++numB B.fSeq++B.fPrev) (UInt64.ofNat B.fLinks.n) (by simp only[La4,Bj,hB.l_fWriter,hB.l_fPrev,btag_length]) (fun e=>by cases e) oM) (fun w h=>SeesP.of (Ap (cs:=Aa (btag++B.fWriter++numB B.fSeq++B.fPrev)) h Z0)) ?_;rintro v22 out22 ⟨q22,c22,rfl,hc22,rfl⟩;refine G10 ?_;refine .loop (ι:=Nat×Nat×Nat) (fun p=>⟨[(1,ptr n1 0),(3, .slice (some ⟨p.2.1,0,none⟩) (5+32+szN B.fSeq.toNat+32+szN (UInt64.ofNat B.fLinks.n).toNat+32*p.1) p.2.2),(4,i64 (p.1:Int))],[⟨p.2.1,Aa (btag++B.fWriter++numB B.fSeq++B.fPrev++numB (UInt64.ofNat B.fLinks.n)++(D.ls.take p.1).flatten),5,p.2.2*1⟩,⟨n1,B.cells,50,B.cells.length⟩]⟩) (fun p=>p.1≤B.fLinks.n∧5+32+szN B.fSeq.toNat+32+szN (UInt64.ofNat B.fLinks.n).toNat+32*p.1≤p.2.2) (fun p=>B.fLinks.n-p.1) ((0,q22,c22)) ?_ ?_ ?_
 ·exact⟨Laj _,by simp only[];omega⟩
 ·exact An wN (pm_consE rM (by simp only[Ldu,Lg5,Lat]) rfl (Ab rM Ai))
 rintro p ⟨hp1,hp2⟩;refine G10 ?_;refine .condP J (fun hc0=>?_) (fun hc0=>?_)
 ·
  have hp3:p.1<B.fLinks.n:=by omega
  obtain⟨b,o,hbp,hbs⟩:=hW.ls.see.at (by rw[Ax hrow];omega);have hrk:(D.ls.getD p.1 []).length=32:=Bf hrow oM;refine G9 ?_;refine .idxSlP 32 J J J hbp J Y30.h Sz34 p.1 J oM (G1 ?_);refine .appendSl (z:=u8 0) (by':=1) (Aa (D.ls.getD p.1 [])) J J J J J Y46.h Y46.h Sz5 Zr5 (by unfold By;kernel_rfl) J (fun w h=>SeesP.of (sees_ext h sP (Bu hrow hbs oM))) (fun e=>by cases e) (Ay _) rM J (by simp only[Aa,La1,La4,Bj,hB.l_fWriter,hB.l_fPrev,btag_length,Ca hrow (show p.1≤D.ls.length by omega)];omega) oM oM oM (by rw[Aa,La1,hrk]) ?_;intro q36 c36 hq36;rw[←C5];refine G10 ?_;exact⟨(p.1+1,q36,c36),⟨by simp only[];omega,by simp only[];omega⟩,by simp only[];omega,An (wk1 rfl (wk1 (by rw[show 5+32+szN B.fSeq.toNat+32+szN (UInt64.ofNat B.fLinks.n).toNat+32*(p.1+1)=5+32+szN B.fSeq.toNat+32+szN (UInt64.ofNat B.fLinks.n).toNat+32*p.1+32 by omega];rfl) (wk1 (by rw[Lbr];rfl) wk0))) (pm_consE rM (by rw[flatten_take_step oM,←La8]) rfl (Ab rM Ai))⟩
 have hp3:p.1=B.fLinks.n:=by omega
 refine G10 ?_;refine .call4 J J J J J Body203 (r1_Block (some ⟨p.2.1,0,none⟩) B.fData.p (5+32+szN B.fSeq.toNat+32+szN (UInt64.ofNat B.fLinks.n).toNat+32*p.1) p.2.2 B.fData.n B.fData.c (btag++B.fWriter++numB B.fSeq++B.fPrev++numB (UInt64.ofNat B.fLinks.n)++(D.ls.take p.1).flatten) D.ds (by simp only[La4,Bj,hB.l_fWriter,hB.l_fPrev,btag_length,Ca hrow (show p.1≤D.ls.length by omega)];omega) e2 (fun e=>by cases e) (fun e=>by have h3:=hW.ds.nil e;have h4:=hW.ds.cap;omega) oM oM) (fun w h=>⟨SeesP.of (Ap h Z0),A2 h J hW.ds.see⟩) ?_;rintro v40 out40 ⟨q40,c40,rfl,hc40,rfl⟩;refine G3 ?_;refine G2 ?_;refine Aw (out:=(⟨q40,Aa (btag++B.fWriter++numB B.fSeq++B.fPrev++numB (UInt64.ofNat B.fLinks.n)++(D.ls.take p.1).flatten++numB (UInt64.ofNat B.fData.n)++D.ds),5,c40*1⟩::[])) (Ae J J) (Ab rM Ai) ?_;have hfin:btag++B.fWriter++numB B.fSeq++B.fPrev++numB (UInt64.ofNat B.fLinks.n)++(D.ls.take p.1).flatten++numB (UInt64.ofNat B.fData.n)++D.ds=btxt D:=by rw[btxt,DB.body,←hW.w,←hW.seq,←hW.prev,e1,e2,La5 oM];simp only[La8]
 have hlen:5+32+szN B.fSeq.toNat+32+szN (UInt64.ofNat B.fLinks.n).toNat+32*p.1+szN B.fData.n+B.fData.n=(btxt D).length:=by rw[←hfin];simp only[La4,Bj,hB.l_fWriter,hB.l_fPrev,btag_length,Ca hrow (show p.1≤D.ls.length by omega),e2,ofNat_nat (show B.fData.n≤1000000 by omega)];omega
 rw[hfin];exact⟨q40,c40,by rw[hlen],by omega,rfl⟩
theorem r15_Copy(B:Block)(D:DB)(hB:B.ok)(hn:D.ls.length≤500000)(hd:D.ds.length≤500000):Meets prog 85 [agg B.cells] [] (fun W=>BlockIs W B D) (BlkV D):=by
 intro W hW;have e1:=hW.ls.len;have e2:=hW.ds.len;refine Ac func85 J 14 ntmps85 J (G3 ?_);intro n1 hn1 hf1;refine .alloc (cs:=Block.zero.cells) J Block.zr J ?_;intro n2 hn2 hf2;refine G3 ?_;refine .draw (oP [1,102,5,106,200,303,8,204,307,409,10,411]) Ao zK (G4 ?_);refine .mkRow2 (z:=agg (Aa (List.replicate 32 0))) [] [] rfl J Y30.h Sz34 Ck J J (by intro v hv;cases hv) dE J ?_;intro q3;refine .appendE (z:=agg (Aa (List.replicate 32 0))) (by':=32) (A3 D.ls) J J J J Y30.h Y30.h Sz34 Ck (by unfold By;kernel_rfl) J (fun w h=>A2 h J hW.ls.see) (fun e=>by have:=hW.ls.nil e;have:=hW.ls.cap;omega) (flatB_cell _) oM oM (by rw[Ax hW.ls.row,e1]) ?_;intro s6 bl6 hr6;refine G1 ?_;refine .mkRow2 (z:=u8 0) [] [] rfl J Y46.h Sz5 Zr5 J J (by intro v hv;cases hv) dE J ?_;intro q7;refine .appendE (z:=u8 0) (by':=1) (Aa D.ds) J J J J Y46.h Y46.h Sz5 Zr5 (by unfold By;kernel_rfl) J (fun w h=>A2 h J hW.ds.see) (fun e=>by have:=hW.ds.nil e;have:=hW.ds.cap;omega) (Ay _) oM oM (by rw[Aa,La1,e2,Lb4]) ?_;intro s10 bl10 hr10;refine .s1 J J J J J Sz30 mR (by rw[Block.length zA];decide) (by exact Block.set_fLinks zA _) uU ?_;refine G1 ?_;refine .s1 J J J J J Sz46 mR (by rw[Block.length (by exact⟨hB.l_fWriter,hB.l_fPrev,hB.l_fSig⟩)];decide) (by exact Block.set_fData (by exact⟨hB.l_fWriter,hB.l_fPrev,hB.l_fSig⟩) _) uU ?_;refine G4 ?_;refine .lA J J J Y50.h J Sz50 mR (Block.length (by exact⟨hB.l_fWriter,hB.l_fPrev,hB.l_fSig⟩)) ?_;refine .sA J J J J (Block.isCell (by exact⟨hB.l_fWriter,hB.l_fPrev,hB.l_fSig⟩)) Sz50 (Block.length (by exact⟨hB.l_fWriter,hB.l_fPrev,hB.l_fSig⟩)) mR (Block.length (by exact Block.zero_ok)) uU ?_;refine G2 ?_;refine G2 ?_;refine Aw (out:=(bl10++(bl6++[]))) (Am J J Y50.h J Sz50 mR (by exact Block.length (by exact⟨hB.l_fWriter,hB.l_fPrev,hB.l_fSig⟩))) (Af sG (Af sG Ai)) ?_;have g6:=hr6.num;have g10:=hr10.num;exact⟨({ B with fLinks:=s6,fData:=s10 }:Block),⟨⟨hB.l_fWriter,hB.l_fPrev,hB.l_fSig⟩,hW.w,hW.seq,hW.prev,hW.sg,g6.trans e1.symm,g10.trans e2.symm⟩,rfl,fun W2 h2=>⟨⟨hB.l_fWriter,hB.l_fPrev,hB.l_fSig⟩,hW.w,hW.seq,hW.prev,⟨e1.trans g6.symm,hW.ls.row,hr6.cap,hr6.see W2 (h2.sub (in_seg A4)),by show s6.n≤maxLen;rw[g6];unfold maxLen;omega,hr6.nil⟩,⟨e2.trans g10.symm,hr10.cap,hr10.see W2 (h2.sub A4),by show s10.n≤maxLen;rw[g10];unfold maxLen;omega,hr10.nil⟩,hW.sg⟩⟩
theorem with_w'(h:BlockIs W B D)(hK:K.length=32):BlockIs W { B with fWriter:=K } { D with w:=K }:=⟨⟨hK,h.ok.l_fPrev,h.ok.l_fSig⟩,rfl,h.seq,h.prev,h.ls,h.ds,h.sg⟩
theorem with_wg'(h:BlockIs W B D){K G:List UInt8}(hK:K.length=32)(hG:G.length=64):BlockIs W { B with fWriter:=K,fSig:=G } { D with w:=K,sg:=G }:=⟨⟨hK,h.ok.l_fPrev,hG⟩,rfl,h.seq,h.prev,h.ls,h.ds,rfl⟩
theorem r15_Sign(B:Block)(D:DB)(hB:B.ok)(hn:D.ls.length≤40)(hd:D.ds.length≤2000)(seed:List UInt8)(h32:seed.length=32)(s s1 s2:List UInt8)(hs:Hid (sha512 seed=s))(hs1:Hid (sha512 (s.drop 32++btxt ({ D with w:=sgK s }:DB))=s1))(hs2:Hid (sha512 (sgF s1++(sgK s++btxt ({ D with w:=sgK s }:DB)))=s2))(hc:D.check=0):Meets prog 164 [agg (Aa seed),agg B.cells] [] (fun W=>BlockIs W B D) (BlkR 0 (bsg D (sgK s) (sgF s1++sgS s s1 s2))):=by
 intro W hW;have lG:(sgF s1++sgS s s1 s2).length=64:=by rw[La4,sgF_length,sgS_length]
 have lK:=sgK_length s;have cK:=r6_Key seed h32 s hs;have e1:=hW.ls.len;have e2:=hW.ds.len;have hDk:({ D with w:=sgK s }:DB).ok:=⟨lK,hW.dok.prev,hW.dok.sg,hW.dok.ls⟩;have hvn:(btxt { D with w:=sgK s }).length≤4005:=DB.body_small hDk oM oM;have cS:=fun(x:Sl)=>r6_Sign seed h32 x (btxt { D with w:=sgK s }) oM s s1 s2 hs hs1 hs2;clear hs hs1 hs2;revert lG lK cK hDk hvn cS;generalize sgF s1++sgS s s1 s2=G;generalize sgK s=K;intro lG lK cK hDk hvn cS;refine Ac func164 J 21 ntmps164 J (G3 ?_);intro n2 hn2 hf2;refine G1 ?_;intro n3 hn3 hf3;refine .alloc (cs:=Block.zero.cells) J Block.zr J ?_;intro n4 hn4 hf4;refine G6 ?_;refine .call4 J J J J J Body85 (r15_Copy B D hB oM oM) (fun w h=>hW.ext h J) ?_;rintro v7 out7 ⟨B7,h7,rfl,ho7⟩;have okX:({ B7 with fWriter:=K }:Block).ok:=⟨lK,h7.ok.l_fPrev,h7.ok.l_fSig⟩;have okG:({ B7 with fWriter:=K,fSig:=G }:Block).ok:=⟨lK,h7.ok.l_fPrev,lG⟩;have cC:=r15_Check ({ B7 with fWriter:=K }:Block) { D with w:=K };rw[show({ D with w:=K }:DB).check=D.check from rfl]at cC;have cT:=r15_Text ({ B7 with fWriter:=K }:Block) { D with w:=K } okX hn hd
 try simp only[La8,Lam,Lak]
 refine .sA J J J J (Block.isCell (by exact h7.ok)) Sz50 (Block.length (by exact h7.ok)) mR (Block.length zA) uU ?_;refine G4 ?_;refine .lA J J J Y33.h J Sz33 mR (by(simp[h32];done)) ?_;refine .cV J J J J Body205 (cK) tV (G1 ?_);refine .storeN (Aa _) J J J J J zE Sz44 (by simp[lK]) mR (by rw[Block.length (by exact h7.ok)];simp[lK]) (Block.upd_fWriter (by exact h7.ok) _ (by simp[lK])) uU ?_;refine G6 ?_;refine .cV J J J J Body103 (cC) (fun w h=>with_w' (ho7 w (Lies.of h (by repeat(exact A4)))) lK) ?_;refine G3 ?_;refine .cond_f J (by simpa using hc) ?_;refine G3 ?_;refine .draw (oP [100,101,302,303,4,405]) Ao zK (.lA J J J Y33.h J Sz33 mR (by(simp[h32];done)) ?_);refine G1 ?_;refine .call J J J J Body161 (cT) (FreshRow.loose _ _ _ _) (fun w h=>with_w' (ho7 w (Lies.of h (by repeat(exact A4)))) lK) ?_;rintro v17 out17 ⟨q17,c17,rfl,hc17,rfl⟩;refine .cV J J J J Body206 (cS ⟨some ⟨q17,0,none⟩,_,c17⟩) (fun w h=>own_btxt (SeesP.of (Ap h Z0)) hc17 hvn) ?_;refine G1 ?_;refine .storeN (Aa _) J J J J J zE Sz48 (by simp[lG]) mR (by rw[Block.length zA];simp[lG]) (Block.upd_fSig zA _ (by simp[lG])) uU ?_;refine G9 ?_;refine G2 ?_;refine Aw (out:=(out7++[])) (Bd J J J Y50.h J Sz50 mR (by exact Block.length zA)) (Af sG Ai) ?_;rw[Lat];exact⟨({ B7 with fWriter:=K,fSig:=G }:Block),⟨okG,rfl,h7.seq,h7.prev,rfl,h7.ln,h7.dn⟩,rfl,fun W2 h2=>with_wg' (ho7 W2 h2) lK lG⟩
def ByR(e:Int)(l:List UInt8)(v:Value)(out:List Blk):Prop:=∃s:Sl,v= .tuple #[s.v,i64 e]∧s.n=l.length∧(s.p=none→s.n=0)∧∀W2,Lies out W2→SeesP W2 s.p (Aa l)
theorem body_pos(D:DB):0<D.body.length:=by
  have:=B1 D.seq.toNat;simp only[DB.body,La4,Bj];omega
theorem text_off{q c:Nat}{E:TypeId}(hc:(btxt D).length≤c)(hl:(btxt D).length=5+D.body.length):AccO ⟨some ⟨q,if c=5 then 0 else 0+5*1,none⟩,(btxt D).length-5,c-5⟩ [⟨q,Aa (btxt D),E,c*1⟩] (Aa D.body) E ((btxt D).length-5):=by
  refine .inr ⟨q,if c=5 then 0 else 0+5*1,c-5,c*1,Aa (if c=5 then[]else btag),Aa [],rfl,by omega,by rw[Aa,La1];omega,?_, .inl rfl,?_,?_⟩
  ·split<;>rfl
  ·split<;>omega
  · by_cases h5:c=5
    ·exfalso;have hb:0<D.body.length:=body_pos D;omega
    ·rw[if_neg h5,←C5,←C5,Lat];rfl
theorem r15_Bytes(B:Block)(D:DB)(hB:B.ok):Meets prog 121 [agg B.cells] [] (fun W=>BlockIs W B D) (ByR D.check (bytesR D)):=by
 intro W hW;have hsl:=hB.l_fSig;have hsg:=hW.sg;refine Ac func121 J 13 ntmps121 J (G3 ?_);intro n1 hn1 hf1;refine G8 ?_;refine .cV J J J J Body103 (r15_Check B D) (fun w h=>hW.ext h J) (G3 ?_);refine .condNP J (fun hc0=>?_) (fun hc0=>?_)
 ·
  have hq0:¬D.check=0:=by omega
  refine G6 ?_;refine G3 ?_;refine Aw (out:=[]) (Cj J J J) Ai ?_;rw[dcheck_2 hq0];exact⟨Sl.nil,rfl,by rw[show bytesR D=[]from if_neg hq0];rfl,fun _=>rfl,fun W2 _=>by rw[show bytesR D=[]from if_neg hq0];exact SeesP.nil⟩
 have hq0:D.check=0:=by omega
 obtain⟨h1,h2⟩:=D.head_small hq0;have hvn:(btxt D).length≤4005:=DB.body_small hW.dok oM oM;have hbl5:(btxt D).length=5+D.body.length:=by rw[btxt,La4];rfl
 refine G3 ?_;refine .draw (oP [100,3,4,301,2,405,6,7]) Ao zK (G3 ?_);refine .call J J J J Body161 (r15_Text B D hB oM oM) (FreshRow.loose _ _ _ _) (fun w h=>hW.ext h J) ?_;rintro v8 out8 ⟨q8,c8,rfl,hc8,rfl⟩;refine .sliceLoN 5 J J J J J oM oM Y46.h Sz5 (.appendO (z:=u8 0) (by':=1) (Aa B.fSig) J J J J J Y46.h Y46.h Sz5 Zr5 (by unfold By;kernel_rfl) J (text_off hc8 hbl5) sG (fun w h=>SeesP.of (sees_part h Z1 (Block.see_fSig hB))) dE (fun e=>by cases e) (Ay _) oM oM (by simp[hsl]) ?_);intro s12 bl12 hac12;refine G4 ?_;refine G2 ?_;refine Aw (out:=(bl12++[])) (Cj J J J) (Af sG Ai) ?_;rw[hq0,show bytesR D=D.body++D.sg from if_pos hq0,←hsg,Lat];refine⟨s12,rfl,by rw[hac12.num,La4,hsl];omega,fun e=>by have:=hac12.nilc e;have:=hac12.cap;omega,fun W2 h2=>?_⟩;rw[C5];exact hac12.see h2
theorem r15_Name(B:Block)(D:DB)(hB:B.ok):Mv 54 [agg B.cells] (fun W=>BlockIs W B D) (agg (Aa (Bm D))):=by
 intro W hW;have hvl:(bytesR D).length≤5000:=by
  unfold bytesR;split
  ·rename_i h9;exact D.bytes_small h9 hW.dok
  ·exact Laj _
 obtain⟨k,hk⟩:∃k,Hid (kW=k):=⟨_,⟨rfl⟩⟩;obtain⟨s0,hs0⟩:∃s0,Hid (xorUp 8=s0):=⟨_,⟨rfl⟩⟩;obtain⟨G,hG⟩:∃G,Hid (shaTag=G):=⟨_,⟨rfl⟩⟩;obtain⟨i0,hi0⟩:∃i0,Hid (allW k s0 G=i0):=⟨_,⟨rfl⟩⟩;have hk80:k.length=80:=by rw[←hk.out];rfl
 have hs8:s0.length=8:=by rw[←hs0.out];exact xorUp_length 8
 have hGl:G.length=11:=by rw[←hG.out];rfl
 have hi8:i0.length=8:=by rw[←hi0.out,allW_length];exact hs8
 obtain⟨r,hr⟩:∃r,Hid (allW k i0 (bytesR D)=r):=⟨_,⟨rfl⟩⟩;obtain⟨s,hs⟩:∃s,Hid (sumUp r 64=s):=⟨_,⟨rfl⟩⟩;have hsd:Hid (s.take 32=sha256 (bytesR D)):=⟨by rw[←hs.out,←hr.out,←hi0.out,←hG.out,←hs0.out,←hk.out];rfl⟩;have hs64:s.length=64:=by rw[←hs.out];exact Cb r 64
 have hs32:(s.take 32).length=32:=by rw[Lag,hs64];rfl
 refine Ac func54 J 16 ntmps54 J (G3 ?_);intro n1 hn1 hf1;refine .alloc (cs:=(Aa (List.replicate 32 0))) J Ck J ?_;intro n2 hn2 hf2;refine G5 ?_;refine .call4 J J J J J Body121 (r15_Bytes B D hB) (fun w h=>hW.ext h J) ?_;rintro v7 out7 ⟨s7,rfl,hn7,hp7,hs7⟩;refine G14 ?_;refine .condNP J (fun hc0=>?_) (fun hc0=>?_)
 ·
  have hq0:¬D.check=0:=by omega
  refine G2 ?_;refine .build (cs:=Aa (List.replicate 32 0)) J J J (fun w=>by kernel_rfl) ?_;refine .sA J J J J zE Sz34 sP mR sP (by(repeat(first|exact upd0|apply Upd.seg))) ?_;refine G2 ?_;refine G3 ?_;refine⟨_,[],Am J J Y34.h J Sz34 mR sP,sP,sP,?_,rfl⟩
  (rw[Bm,if_neg hq0];done)
 have hq0:D.check=0:=by omega
 refine G5 ?_;refine .mkRow (z:= .slice none 0 0) [s7.v] [s7.v] rfl J J Y183.h Sz46 Zr46 J J (by intro v hv;rw[La0.1 hv];rfl) dE J ?_;intro q14;refine .cV J J J J Body122 (r2_Sum k s0 i0 G hk hk80 hs0 hs8 hG hGl hi0 hi8 (some ⟨q14,0,none⟩) 1 1 [s7] [bytesR D] rfl J (fun j hj=>(by obtain rfl:j=0:=oM;exact⟨by simp[hn7],hp7⟩)) (bytesR D) sP oM dE r hr s hs) (fun w h=>⟨SeesP.of (Ap h Z0),fun j hj=>(by obtain rfl:j=0:=oM;exact hs7 w (Lies.of h (by repeat(first|exact A4|refine Bl ?_))))⟩) ?_;refine .sA J J J J zE Sz34 (by(simp[hs64];done)) mR sP uU ?_;refine G2 ?_;refine G2 ?_;refine⟨_,[],Am J J Y34.h J Sz34 mR (by simp[hs64]),sP,sP,?_,rfl⟩
 (rw[Bm,if_pos hq0,←show bytesR D=D.bytes from if_pos hq0,hsd.out];done)
def Cu(D:DB):List (List UInt8):=if D.seq=0 then D.ls else D.prev::D.ls
theorem parL_row(h:D.ok):∀l∈Cu D,l.length=32:=by
  intro l hl;unfold Cu at hl;split at hl
  ·exact h.ls l hl
  · rcases Lal.1 hl with rfl|hl
    ·exact h.prev
    ·exact h.ls l hl
end Go.Proofs.YtpogmfngccolbaaGreat
namespace Go.Proofs.YtpogmfngccolbaaGreat
open Go Hw _root_.Go.Proofs.Tryz
variable{W:World}{b c:Nat}{z:Value}{ν:Type}{ev:ν→Value}{fs:List (List UInt8×ν)}
theorem key_seqB(M:MOk prog 132 34 50 (Au 32 ev) z)(hb:BlkOk W (A9 b (Au 32 ev) fs))(hc:CapM W c b)(hcl:c<W.heap.size):KeySeq prog 250 #[ptr c 0] (fs.map (·.1)) W:=by
  intro σ X vis s0 names l w1 hk hn hv hH hY;obtain⟨es,clock,h1,F⟩:=hb.map;have hb1:w1.heap[b]? =some (.map es clock):=(hk.block b hb.lt sP).trans h1;have hbn:b∉names:=fun h=>by have:=hn b h;have:=hb.lt;simp only at this;omega
  have hcn:c∉names:=fun h=>by have:=hn c h;omega
  have hc1:CapM w1 c b:=by
    unfold CapM World.cell? at hc ⊢;rw[hk.block c hcl sP];exact hc
  have hcl1:c<w1.heap.size:=Lbi hcl hk.size;refine callsIn_wide.2 ((keys_iterB M X vis s0 names l c b fs es clock w1 F hv hbn hcn w1 ⟨rfl,hH,hb1,hc1,hcl1,fun s k h32 hvl W2 h=>hY s k h32 (by simpa using hvl) W2 h⟩).mono fun e W' ⟨v,out,he,⟨_,s,hp,ho⟩,hr⟩=>⟨⟨v,he⟩,s,hp,?_⟩);subst ho;exact⟨hr.cells,hr.nodup,hr.own,hr.keeps,fun _ h=>(by cases h),fun _ _ _ h=>(by cases h)⟩
theorem key_seqU(M:MOk prog 114 34 145 (Au 32 ev) z)(hb:BlkOk W (A9 b (Au 32 ev) fs))(hc:CapM W c b)(hcl:c<W.heap.size):KeySeq prog 227 #[ptr c 0] (fs.map (·.1)) W:=by
  intro σ X vis s0 names l w1 hk hn hv hH hY;obtain⟨es,clock,h1,F⟩:=hb.map;have hb1:w1.heap[b]? =some (.map es clock):=(hk.block b hb.lt sP).trans h1;have hbn:b∉names:=fun h=>by have:=hn b h;have:=hb.lt;simp only at this;omega
  have hcn:c∉names:=fun h=>by have:=hn c h;omega
  have hc1:CapM w1 c b:=by
    unfold CapM World.cell? at hc ⊢;rw[hk.block c hcl sP];exact hc
  have hcl1:c<w1.heap.size:=Lbi hcl hk.size;refine callsIn_wide.2 ((keys_iterU M X vis s0 names l c b fs es clock w1 F hv hbn hcn w1 ⟨rfl,hH,hb1,hc1,hcl1,fun s k h32 hvl W2 h=>hY s k h32 (by simpa using hvl) W2 h⟩).mono fun e W' ⟨v,out,he,⟨_,s,hp,ho⟩,hr⟩=>⟨⟨v,he⟩,s,hp,?_⟩);subst ho;exact⟨hr.cells,hr.nodup,hr.own,hr.keeps,fun _ h=>(by cases h),fun _ _ _ h=>(by cases h)⟩
theorem KeySeq.keep{P:Program}{gf:Nat}{lb:Array Value}{keys:List (List UInt8)}{C:Cx}{hp:List Blk}{w:World}(h:KeySeq P gf lb keys C.W0)(hh:HRep C hp w)(hl:C.lent=[]:=by rfl):KeySeq P gf lb keys w:=by
  intro σ X vis s0 names l w1 hk hn hv hH hY;have k0:=hh.keeps;rw[hl]at k0;exact h σ X vis s0 names l w1 (k0.trans hk) (fun n hm=>Lbc k0.size (hn n hm)) hv hH hY
theorem append_keys(gf:Nat)(lb:Array Value)(keys:List (List UInt8))(hgf:As prog gf)(hkn:keys.length≤100000):Meets prog 286 [.slice none 0 0, .func (.func gf) #[] lb] [] (fun W=>KeySeq prog gf lb keys W) (fun v out=>∃(s:Sl) (ks:List (List UInt8)),ks.Perm keys∧v=s.v∧Hw.Acc s out (A3 ks) 34 ks.length 32):=by
  intro W hW;refine calls_rangeR (hp0:=[]) func286 rfl 13 ntmps286 rfl (HRep.nil _) ?_;refine Sat.region ?_;refine Tr.box1 rfl rfl rfl ?_;intro n2 hn2 hf2;refine G7 ?_;refine⟨gf,lb,{t:Sl×List Blk×List (List UInt8)//Hw.Acc t.1 t.2.1 (A3 t.2.2) 34 t.2.2.length 32},fun t=>⟨n2,[t.1.1.v],30,1⟩::t.1.2.1,⟨(Sl.nil,[],[]),Acc.none⟩,[n2],(fun t v=>∃k,v=agg (Aa k)∧k.length=32∧t.1.2.2.length<keys.length),(fun t v t2=>∃k,v=agg (Aa k)∧t2.1.2.2=t.1.2.2++[k]),(fun t=>t.1.2.2.Perm keys),(fun sl t v st=>∃k n5 m5,v=agg (Aa k)∧st=⟨(5,ptr n5 0)::(7,v)::sl,⟨n5,Aa k,34,m5⟩::⟨n2,[t.1.1.v],30,1⟩::t.1.2.1⟩),rfl,rfl,hgf,dE,rfl,?_,?_,?_,?_⟩
  ·
    intro l w1 hk hh hy;refine(hW _ (fun t: {t:Sl×List Blk×List (List UInt8)//Hw.Acc t.1 t.2.1 (A3 t.2.2) 34 t.2.2.length 32}=>⟨n2,[t.1.1.v],30,1⟩::t.1.2.1) (fun t=>t.1.2.2) ⟨(Sl.nil,[],[]),Acc.none⟩ [n2] l w1 hk (fun n hn=>by rw[La0.1 hn];exact hn2) rfl hh fun s k h32 hvl W2 h=>?_);obtain⟨fn,tmps,ae,bd,hrun,hR⟩:=hy s (agg (Aa k)) ⟨k,rfl,h32,hvl⟩ W2 h;exact⟨fn,tmps,ae,bd,hrun,RoundIn.mono hR fun e W3 ⟨he,s2,⟨k2,e2,hs2⟩,hr⟩=>⟨he,s2,by rw[agg_bytes_inj e2];exact hs2,hr⟩⟩
  ·
    intro t v hok l W2 ns hns hh;obtain⟨k,rfl,hk32,hlt⟩:=hok;refine SatI.region zK ?_;refine Tr.alloc (cs:=(Aa (List.replicate 32 0))) rfl Ck rfl ?_;intro n5 hn5 hf5;refine Tr.sA rfl rfl rfl rfl zE Sz34 (by(rw[Aa,La1];assumption)) Z0 sP zU ?_;refine Tr.nil ?_;exact⟨k,_,_,rfl,rfl⟩
  ·
    intro t v hok st hmid l W2 ns hns hh;obtain⟨k,n5,m5,rfl,rfl⟩:=hmid;obtain⟨k1,ek,hk32,hlt⟩:=hok;obtain rfl:=agg_bytes_inj ek;refine SatI.block ?_;refine SatI.region zK ?_;refine G1 ?_;refine Tr.lA rfl rfl rfl Y34.h rfl Sz34 Z0 (by(rw[Aa,La1];assumption)) ?_;refine Tr.mkRow2 (z:=agg (Aa (List.replicate 32 0))) [agg (Aa k)] (Aa k) rfl rfl Y30.h Sz34 Ck rfl rfl (by intro v hv;rw[La0.1 hv];simp[Value.cells,Aa,hk32]) dE (by simp[Value.cells,agg]) ?_;intro q10;refine Tr.appendAcc (z:=agg (Aa (List.replicate 32 0))) (by':=32) (Aa k) rfl rfl rfl rfl rfl Y30.h Y30.h Sz34 Ck (by unfold By;kernel_rfl) rfl t.2 (by repeat(first|exact sg_end|apply sg_there)) (fun w h=>SeesP.of (Ap h Z0)) (fun e=>by cases e) (Ay _) oM oM (by rw[Aa,La1,hk32]) ?_;intro s11 bl11 hac11;refine Tr.s1 rfl rfl rfl rfl rfl Sz30 mR sP (by rfl) uU ?_;refine Tr.nil ?_;refine⟨⟨(s11,bl11,t.1.2.2++[k]),by simpa[flatB_append,A3]using hac11⟩,_,⟨k,rfl,rfl⟩,(Ab rM sG)⟩
  intro t hdn D W2 ns hns;skip;refine G6 ?_;refine Sat.ret ?_;refine enA_r ?_;refine endA_perm (out:=(t.1.2.1++[])) (fun W names=>Ae rfl rfl) (Af (by repeat(first|exact sg_end|apply sg_there)) Ai) ?_;exact⟨t.1.1,t.1.2.2,hdn,rfl,by simpa using t.2⟩
theorem collect_keys(gf:Nat)(lb:Array Value)(keys:List (List UInt8))(hgf:As prog gf)(hkn:keys.length≤100000):Meets prog 226 [.func (.func gf) #[] lb] [] (fun W=>KeySeq prog gf lb keys W) (fun v out=>∃(s:Sl) (ks:List (List UInt8)),ks.Perm keys∧v=s.v∧Hw.Acc s out (A3 ks) 34 ks.length 32):=by
 intro W hW;refine Ac func226 J 5 ntmps226 J (G8 ?_);refine .call4 J J J J J Body286 (append_keys gf lb keys hgf hkn) (fun w h=>hW.keep h) ?_;rintro v4 out4 ⟨s4,ks,hp,rfl,hac⟩;refine G3 ?_;refine G2 ?_;refine Aw (out:=(out4++[])) (Ae J J) (Af sG Ai) ?_;exact⟨s4,ks,hp,rfl,by simpa using hac⟩
open Go.RowKit Go.Shelf Go.Lib Go.Sort
set_option maxHeartbeats 2000000
theorem bytes70(W:World){p q:Option Addr}{c1 c2 n m:Nat}{a b:List UInt8}(ha:a.length=n)(hb:b.length=m)(h1:SeesP W p (Aa a))(h2:SeesP W q (Aa b)):Calls prog 153 #[.slice p n c1, .slice q m c2] W fun e w'=>e= .returned (i64 (Cw a b))∧w'=W:=by
  have hr:=bytealg_run (w:=W) (c1:=c1) (c2:=c2) ha hb h1 h2;rw[show[Value.slice p n c1,Value.slice q m c2].toArray= #[.slice p n c1, .slice q m c2]from rfl]at hr;generalize Cw a b=r at hr ⊢;clear h1 h2 ha hb
  go_enter func153,ntmps153
  go_wp2
  go_ret
  exact⟨rfl,rfl⟩
theorem cmp47(x y:List UInt8)(hx:x.length=32)(hy:y.length=32)(W:World):Calls prog 95 #[agg (Aa x),agg (Aa y)] W fun e w'=>e= .returned (i64 (Cw x y))∧∃q os',w'=grow (W.drewN q) os':=by
  obtain⟨r,hr⟩:∃r,Cw x y=r:=⟨_,rfl⟩;rw[hr];have hs:∀W':World,(∀i,i<W.heap.size+2→W'.heap[i]? =((W.alloc (.cells (Aa x).toArray 34)).alloc (.cells (Aa y).toArray 34)).heap[i]?)→Calls prog 153 #[.slice (some ⟨W.heap.size,0,none⟩) 32 32, .slice (some ⟨W.heap.size+1,0,none⟩) 32 32] W' fun e w'=>e= .returned (i64 r)∧w'=W':=fun W' h=>by
    rw[←hr];refine bytes70 W' hx hy (SeesP.of fun j v hj=>?_) (SeesP.of fun j v hj=>?_)
    · have e:=h W.heap.size oM
      have e2:((W.alloc (.cells (Aa x).toArray 34)).alloc (.cells (Aa y).toArray 34)).heap[W.heap.size]? =some (.cells (Aa x).toArray 34):=by
        show((W.heap.push _).push _)[W.heap.size]? =_;rw[Lc5,if_neg sP,Lc5,if_pos rfl]
      rw[e2]at e;simpa[World.cell?,e]using hj
    · have e:=h (W.heap.size+1) oM
      have e2:((W.alloc (.cells (Aa x).toArray 34)).alloc (.cells (Aa y).toArray 34)).heap[W.heap.size+1]? =some (.cells (Aa y).toArray 34):=by
        show((W.heap.push _).push _)[W.heap.size+1]? =_;rw[Lc5,if_pos sP]
      rw[e2]at e;simpa[World.cell?,e]using hj
  go_enter func95,ntmps95
  go_wp2
  generalize hw2:(W.alloc (.cells (Aa x).toArray 34)).alloc (.cells (Aa y).toArray 34)=w2 at hs ⊢
  go_quiet ((go_at_call 153;exact Calls.quiet_of_same (hs _ (fun i hi=>rfl))))
  go_wp2
  go_ret
  refine⟨rfl,nq, #[.cells (Aa x).toArray 34, .cells (Aa y).toArray 34],?_⟩;rw[←hw2,alloc_eq_grow,alloc_eq_grow,grow_grow];rfl
abbrev L32:={l:List UInt8//l.length=32}
instance:Inhabited L32:=⟨⟨List.replicate 32 0,by simp⟩⟩
def cf32(x y:L32):Int:=Cw x.1 y.1
theorem lt32(x y:L32):ltOf cf32 x y=decide (Cw x.1 y.1<0):=rfl
theorem swo32:SWO (ltOf cf32) where
  irrefl x:=by rw[lt32,cmpB_self];rfl
  trans x y z h1 h2:=by
    rw[lt32]at*;simp only[decide_eq_true_eq]at*;exact(cmpB_trans _ _ _ oM oM).2 (.inl h1)
  ntrans x y z h1 h2:=by
    rw[lt32]at*;simp only[decide_eq_false_iff_not]at*;have e1:=cmpB_neg x.1 y.1;have e2:=cmpB_neg y.1 z.1;have e3:=cmpB_neg x.1 z.1;have:=(cmpB_trans z.1 y.1 x.1 oM oM).1;omega
theorem enc32_cells(x:L32):∀v∈Aa x.1,v.oneCell'=true:=fun v hv=>by
  obtain⟨u,_,rfl⟩:=La7.1 hv;rfl
def up32(ks:List (List UInt8))(h:∀l∈ks,l.length=32):List L32:=ks.attach.map fun x=>⟨x.1,h x.1 x.2⟩
theorem up32_val(ks:List (List UInt8))(h:∀l∈ks,l.length=32):(up32 ks h).map (·.1)=ks:=by
  unfold up32;rw[List.map_map];show ks.attach.map Subtype.val=ks;simp
theorem flatK_list(d:Array L32):∀(j:Nat) (v:Value),(A3 (d.toList.map (·.1)))[j]? =some v→j<d.size*32∧(flatK (fun x:L32=>Aa x.1) 32 d)[j]! =v:=fun j v hj=>by
  have h32:∀l∈d.toList.map (·.1),l.length=32:=fun l hl=>by obtain⟨x,_,rfl⟩:=La7.1 hl;exact x.2
  have hlen:=Ax h32;have hlt:=(Laf.1 hj).1;rw[hlen]at hlt;have hlt2:j<d.size*32:=by simpa using hlt
  refine⟨hlt2,?_⟩;rw[get_flatK _ _ _ _ hlt2];have hi:j/32<d.size:=by omega
  have hc:((d.toList.map (·.1)).map Aa)[j/32]? =some (Aa d[j/32]!.1):=by
    rw[Lan,Lan];have:d.toList[j/32]? =some d[j/32]! :=by simp[hi]
    rw[this];rfl
  have hm:j%32<(Aa d[j/32]!.1).length:=by rw[Aa,La1,d[j/32]!.2];omega
  have:=flat_get (m:=32) (fun l hl=>flatB_all h32 l hl) hc hm;have e:j/32*32+j%32=j:=by omega
  rw[e]at this;have hj2:((d.toList.map (·.1)).map Aa).flatten[j]? =some v:=hj;rw[hj2]at this;rw[List.getElem!_eq_getElem?_getD,←this];rfl
def SortB(ks:List (List UInt8)):Prop:=ks.Pairwise fun a b=>Cw a b≤0
theorem sort_digs(q n c m:Nat)(ks:List (List UInt8))(h32:∀l∈ks,l.length=32)(hl:ks.length=n)(hbig:n≤1000000)(hm:n*32≤m):Meets prog 140 [.slice (some ⟨q,0,none⟩) n c, .func (.func 95) #[] #[]] [q] (fun W=>BlkOk W ⟨q,A3 ks,34,m⟩)
    (fun v out=>v= .tuple #[]∧∃ks':List (List UInt8),ks'.Perm ks∧SortB ks'∧out=[⟨q,A3 ks',34,m⟩]):=fun W hb=>by
  obtain⟨d,hd⟩:∃d:Array L32,d=(up32 ks h32).toArray:=⟨_,rfl⟩;have hdl:d.toList.map (·.1)=ks:=by rw[hd];exact up32_val ks h32
  have hds:d.size=n:=by rw[←hl,←hdl];simp
  have hb0:∃full fr,BlkAt W ⟨q,A3 ks,34,m⟩ full fr:=hb;obtain⟨full,fr,hbk⟩:=hb0;have hfl:=Ax h32;have hH:HoldsK (fun x:L32=>Aa x.1) 32 W q 0 d:=fun j hj=>by
    rw[size_flatK]at hj;have hj2:j<(A3 ks).length:=by rw[hfl,hl,←hds];exact hj
    have h1:=La3 hj2;have h2:=(flatK_list d j _ (by rw[hdl];exact h1)).2;rw[h2];exact⟨hb.cell (b:=⟨q,A3 ks,34,m⟩) (by simpa using h1),hbk.unfrozen (by show 0+j<m;omega)⟩
  have eg:∀args w,(callFunc 95 args).run prog w= .ok (.enter 95 args) w:=enters_of func95 zK rfl;have hcmp:CmpLays prog 95 #[] (fun x:L32=>Aa x.1) 32 cf32 q 0 d.size W:=fun k os dk hk x y=>cmp47 x.1 y.1 x.2 y.2 _;have hz25:∀w,(Go.sizeOf (sortD_ren.t 24)).run prog w= .ok 32 w:=by
    intro w;have e:sortD_ren.t 24=34:=by rfl
    rw[e];exact Cm Sz34 w
  have hcon:=AnyQ.slices_SortFunc sortD 32 (fun w=>run_isAgg_arr Y34.h rfl w) (fun w=>hz25 w) (fun x:L32=>Aa x.1) (fun x=>by rw[Aa,La1,x.2]) enc32_cells cf32 swo32 95 #[] q 0 c d W eg hcmp hH hb.lt oM;have hcon2:Calls prog 140 #[.slice (some ⟨q,0,none⟩) d.size c, .func (.func 95) #[] #[]] W _:=hcon;rw[hds]at hcon2;refine hcon2.mono fun e W' ⟨he,d',k,os,hp,hs,hw⟩=>?_;subst hw;have hsz':d'.size=d.size:=hp.1;obtain⟨ks',hk'⟩:∃ks',ks'=d'.toList.map (·.1):=⟨_,rfl⟩;have h32':∀l∈ks',l.length=32:=fun l hl=>by rw[hk']at hl;obtain⟨x,_,rfl⟩:=La7.1 hl;exact x.2
  have hlen':ks'.length=n:=by rw[hk'];simp[hsz',hds]
  have hperm:ks'.Perm ks:=by
    rw[hk',←hdl];refine List.Perm.map _ ?_;have h3:=hp.2.2;have e1:d.extract 0 d.size=d:=by simp
    have e2:d'.extract 0 d.size=d':=by rw[←hsz'];simp
    rw[←hds]at h3;rwa[e1,e2]at h3
  have hsort:SortB ks':=by
    rw[hk'];refine List.pairwise_map.2 (List.pairwise_iff_getElem.2 fun i j hi hj hij=>?_);have h4:=hs i j (Laj _) hij (by rw[←hds,←hsz'];simpa using hj);rw[lt32,decide_eq_false_iff_not]at h4;have hi2:i<d'.size:=by simpa using hi
    have hj2:j<d'.size:=by simpa using hj
    rw[getElem!_pos d' j hj2,getElem!_pos d' i hi2]at h4;have:=cmpB_neg d'.toList[i].1 d'.toList[j].1;simp only[Array.getElem_toList]at this ⊢;omega
  refine⟨_,_,he,⟨rfl,ks',hperm,hsort,rfl⟩,⟨⟨rfl,rfl,rfl,?_,Lgt W.drawn k,fun i hi hn=>?_⟩,fun b hb2=>?_,by simp,fun b hb2=>?_⟩⟩
  ·simp[sortWorldK,grow,putRowK]
  · have hne:i≠q:=by simpa using hn
    simp only[sortWorldK,grow,putRowK,putRow,mapBlock];rw[Array.getElem?_append_left (by simpa using hi),Lf5];rw[if_neg (fun e:q=i=>hne e.symm)];rfl
  · rw[La0.1 hb2]
    have hq:W.heap[q]? =some (.cells full 34 fr):=hbk.heap;have hql:q<W.heap.size:=hb.lt;refine⟨putCells id 0 (flatK (fun x:L32=>Aa x.1) 32 d') full,fr,?_,by simpa[putCells]using hbk.size,?_,hbk.free⟩
    · simp only[sortWorldK,grow,putRowK,putRow,mapBlock]
      rw[Array.getElem?_append_left (by simpa using hql),Lf5,if_pos rfl,show(Go.Sort.ahead W k).heap[q]? =some (Obj.cells full 34 fr)from hq];rfl
    · have hms:=hbk.size
      simp only at hms;rw[prefix_iff];intro j v hj;simp only at hj;have hf:=flatK_list d' j v (by rw[←hk'];exact hj);simp only[putCells,Lf4,Array.getElem?_mapIdx];have hjf:j<full.size:=by rw[hms];have:=hf.1;omega
      rw[Ld0 hjf];simp only[Lbq,La6,Laj,true_and,Las,size_flatK,Lgc];rw[if_pos hf.1,hf.2];rfl
  ·rw[La0.1 hb2];exact .inr sP
theorem sort_none(p:Option Addr)(c:Nat):Mv 140 [.slice p 0 c, .func (.func 95) #[] #[]] (fun _=>True) (.tuple #[]):=fun W _=>by
  have hcon:=AnyF.slices_SortFunc_none sortD p c (.func (.func 95) #[] #[]) W;have hcon2:Calls prog 140 #[.slice p 0 c, .func (.func 95) #[] #[]] W _:=hcon;refine hcon2.mono fun e W' h=>?_;obtain⟨he,hw⟩:=h;subst hw;exact⟨_,[],he,⟨rfl,rfl⟩,⟨Keeps.refl _ _,fun b hb=>(by cases hb),Le8,fun b hb=>(by cases hb)⟩⟩
end Go.Proofs.YtpogmfngccolbaaGreat
namespace Go.Proofs.YtpogmfngccolbaaGreat
open Go Hw _root_.Go.Proofs.Tryz
variable{C:Cx}{hp:List Blk}{w:World}{z:Value}{ν:Type}{ev:ν→Value}
theorem sort_acc(s:Sl)(bl:List Blk)(ks:List (List UInt8))(h32:∀l∈ks,l.length=32)(hbig:ks.length≤1000000)(hac:Hw.Acc s bl (A3 ks) 34 ks.length 32):Meets prog 140 [s.v, .func (.func 95) #[] #[]] (bl.map (·.n)) (fun W=>Lies bl W)
    (fun v out=>v= .tuple #[]∧∃ks':List (List UInt8),ks'.Perm ks∧SortB ks'∧Hw.Acc s out (A3 ks') 34 ks.length 32):=by
  rcases hac with ⟨rfl,rfl,hz,hn⟩|⟨q,c,rfl,hnc,hfl,rfl⟩
  · obtain rfl:=Laa hn
    intro W _;exact(sort_none none 0 W trivial).mono fun e W' ⟨v,out,he,⟨hv,ho⟩,hr⟩=>⟨v,out,he,⟨hv,[],Ldw _,List.Pairwise.nil, .inl ⟨rfl,ho,rfl,rfl⟩⟩,hr⟩
  · intro W hW
    have hb:BlkOk W ⟨q,A3 ks,34,c*32⟩:=hW _ (La0.2 rfl);refine(sort_digs q ks.length c (c*32) ks h32 rfl hbig (Leb 32 hnc) W hb).mono fun e W' ⟨v,out,he,⟨hv,ks',hp,hs,ho⟩,hr⟩=>⟨v,out,he,⟨hv,ks',hp,hs,?_⟩,hr⟩;have h32':∀l∈ks',l.length=32:=fun l hl=>h32 l (hp.mem_iff.1 hl);exact .inr ⟨q,c,rfl,hnc,by rw[Ax h32',hp.length_eq],ho⟩
theorem mblk_keep{B:Blk}(h:BlkOk C.W0 B)(hh:HRep C hp w)(hl:C.lent=[]:=by rfl):BlkOk w B:=
  h.of_heap (hh.keeps.block B.n h.lt (by rw[hl];simp))
theorem CapM.of_own{c b:Nat}{T:TypeId}(hh:HRep C hp w)(hc:(⟨c,[.map (some b)],T,1⟩:Blk)∈hp):CapM w c b∧c<w.heap.size:=
  ⟨(hh.cells _ hc).cell (o:=0) rfl,(hh.cells _ hc).lt⟩
theorem sorted_keys(gf:Nat)(lb:Array Value)(keys:List (List UInt8))(hgf:As prog gf)(hkn:keys.length≤100000)(hk32:∀l∈keys,l.length=32):Meets prog 186 [.func (.func gf) #[] lb, .func (.func 95) #[] #[]] [] (fun W=>KeySeq prog gf lb keys W) (fun v out=>∃(s:Sl) (ks:List (List UInt8)),ks.Perm keys∧SortB ks∧v=s.v∧Hw.Acc s out (A3 ks) 34 ks.length 32):=by
 intro W hW;refine Ac func186 J 12 ntmps186 J (G8 ?_);refine .call4 J J J J J Body226 (collect_keys gf lb keys hgf hkn) (fun w h=>hW.keep h) ?_;rintro v7 out7 ⟨s7,ks,hp,rfl,hac⟩;refine G7 ?_;refine .callL (L:=out7) J J J J J Body140 (sort_acc s7 out7 ks (fun l hl=>hk32 l (hp.mem_iff.1 hl)) (by have:=hp.length_eq;omega) hac) sG (Cf J) (fun w h=>Lies.of h (by repeat(exact A4))) ?_;rintro v10 out10 ⟨rfl,ks2,hp2,hs2,hac2⟩;refine G8 ?_;refine G2 ?_;refine Aw (out:=(out10++[])) (Ae J J) (Af sG Ai) ?_;exact⟨s7,ks2,hp2.trans hp,hs2,rfl,by rw[hp2.length_eq];simpa using hac2⟩
theorem dag_sortedB(M:MOk prog 132 34 50 (Au 32 ev) z)(b:Nat)(fs:List (List UInt8×ν))(h32:∀p∈fs,p.1.length=32)(hn:fs.length≤100000):Meets prog 159 [.map (some b)] [] (fun W=>BlkOk W (A9 b (Au 32 ev) fs)) (fun v out=>∃(s:Sl) (ks:List (List UInt8)),ks.Perm (fs.map (·.1))∧SortB ks∧v=s.v∧Hw.Acc s out (A3 ks) 34 ks.length 32):=by
 intro W hW;refine Ac func159 J 6 ntmps159 J (G8 ?_);refine .call4 J J J J J Body196 (mk_keysB b) tV ?_;rintro v4 out4 ⟨c,rfl,rfl⟩;refine .call4 J J J J J Body186 (sorted_keys 250 #[ptr c 0] (fs.map (·.1)) Body250 (by simpa using hn) (fun l hl=>by obtain⟨p,hp,rfl⟩:=La7.1 hl;exact h32 p hp)) (fun w h=>key_seqB M (mblk_keep (B:=A9 b (Au 32 ev) fs) hW h) (CapM.of_own h Z0).1 (CapM.of_own h Z0).2) ?_;rintro v5 out5 ⟨s5,ks,hp,hs,rfl,hac⟩;refine G3 ?_;refine G2 ?_;refine Aw (out:=(out5++[])) (Ae J J) (Af sG Ai) ?_;exact⟨s5,ks,hp,hs,rfl,by simpa using hac⟩
theorem dag_sortedU(M:MOk prog 114 34 145 (Au 32 ev) z)(b:Nat)(fs:List (List UInt8×ν))(h32:∀p∈fs,p.1.length=32)(hn:fs.length≤100000):Meets prog 145 [.map (some b)] [] (fun W=>BlkOk W (A9 b (Au 32 ev) fs)) (fun v out=>∃(s:Sl) (ks:List (List UInt8)),ks.Perm (fs.map (·.1))∧SortB ks∧v=s.v∧Hw.Acc s out (A3 ks) 34 ks.length 32):=by
 intro W hW;refine Ac func145 J 6 ntmps145 J (G8 ?_);refine .call4 J J J J J Body187 (mk_keysU b) tV ?_;rintro v4 out4 ⟨c,rfl,rfl⟩;refine .call4 J J J J J Body186 (sorted_keys 227 #[ptr c 0] (fs.map (·.1)) Body227 (by simpa using hn) (fun l hl=>by obtain⟨p,hp,rfl⟩:=La7.1 hl;exact h32 p hp)) (fun w h=>key_seqU M (mblk_keep (B:=A9 b (Au 32 ev) fs) hW h) (CapM.of_own h Z0).1 (CapM.of_own h Z0).2) ?_;rintro v5 out5 ⟨s5,ks,hp,hs,rfl,hac⟩;refine G3 ?_;refine G2 ?_;refine Aw (out:=(out5++[])) (Ae J J) (Af sG Ai) ?_;exact⟨s5,ks,hp,hs,rfl,by simpa using hac⟩
end Go.Proofs.YtpogmfngccolbaaGreat
end
