/- Contracts of functions of the loaded program, and the lemmas that they need (part 4). It proves no statement by itself; it has no conditions. -/
import Derived.Test.YtbdfihcjddbhaaaGreatLCaX3
set_option maxRecDepth 100000
set_option maxHeartbeats 8000000
set_option linter.unusedVariables false
set_option linter.unusedSimpArgs false
set_option linter.unusedSectionVars false
set_option linter.unnecessarySimpa false
section
namespace Go.Proofs.YtbdfihcjddbhaaaGreat
open Go Hw _root_.Go.Proofs.Tryz
theorem scalar_modulus  :Mv 193 [] (λ_=>True) (agg (Aj modW)):=by
 intro W hW;refine Ae func193 J 2 ntmps193 J (G2 ?_);refine .alloc (cs:=(Aj (List.replicate 4 0))) J Zr217 J ?_;intro n0 ab aa;refine G4 ?_;refine .build (cs:=Aj modW) J J J (λw=>by kernel_rfl) ?_;refine .sA J J J J zB Sz217 (by(simp[modW_length];done)) Z0 sP zU ?_;refine G2 ?_;refine G2 ?_;refine⟨_,[],Ax J J Y217.h J Sz217 Z0 (by simp[modW_length]),sP,sP,?_,rfl⟩;rfl
theorem scalar_doubled(w:List UInt64)(b:UInt64)(hw:w.length=4):Mv 279 [agg (Aj w),u64 b] (λ_=>True) (agg (Aj (dblW w b))):=by
 intro W hW;refine Ae func279 J 32 ntmps279 J (G3 ?_);intro n2 aa ac;refine .alloc (cs:=(Aj (List.replicate 4 0))) J Zr217 J ?_;intro n4 ad ab;refine G4 ?_;refine .i1 J J J J Y217.h Sz30 0 J dE (G1 ?_);refine .shl_u64 J J J J 1 J dE (.i1 J J J J Y217.h Sz30 1 J dE (G1 ?_));refine .shr_u64 J J J J 63 J dE (G1 ?_);refine .i1 J J J J Y217.h Sz30 1 J dE (G1 ?_);refine .shl_u64 J J J J 1 J dE (.i1 J J J J Y217.h Sz30 2 J dE (G1 ?_));refine .shr_u64 J J J J 63 J dE (G1 ?_);refine .i1 J J J J Y217.h Sz30 2 J dE (G1 ?_);refine .shl_u64 J J J J 1 J dE (.i1 J J J J Y217.h Sz30 3 J dE (G1 ?_));refine .shr_u64 J J J J 63 J dE (G1 ?_);refine .i1 J J J J Y217.h Sz30 3 J dE (G1 ?_);refine .shl_u64 J J J J 1 J dE (G2 ?_);refine .build (cs:=Aj (dblW w b)) J J J (λw=>by kernel_rfl) ?_;refine .sA J J J J zB Sz217 (by(simp[dblW_length];done)) Z0 sP zU ?_;refine G2 ?_;refine G2 ?_;refine⟨_,[],Ax J J Y217.h J Sz217 Z0 (by simp[dblW_length]),sP,sP,?_,rfl⟩;rfl
theorem scalar_load(a:List UInt8)(ha:a.length=32):Mv 191 [agg (Aa a)] (λ_=>True) (agg (Aj (ldW a 32))):=by
 intro W hW;refine Ae func191 J 24 ntmps191 J (G3 ?_);intro n1 ad ae;refine .alloc (cs:=(Aj (List.replicate 4 0))) J Zr217 J ?_;intro n2 ab ag;refine G4 ?_;refine .alloc (cs:=(Aj (List.replicate 4 0))) J Zr217 J ?_;intro n3 ai ac;refine G9 ?_;refine .loop (ι:=Nat) (λk=>⟨[(1,ptr n1 0),(2,ptr n2 0),(3,ptr n3 0),(5,i64 (k:Int))],[⟨n3,Aj (ldW a k),217,4⟩,⟨n2,Aj (List.replicate 4 0),217,4⟩,⟨n1,Aa a,184,(Aa a).length⟩]⟩) (λk=>k<=32) (λk=>32-k) (0) ?_ ?_ ?_
 .omega
 .exact Ah wN (wh1 Z0 (wh1 Z1 (wh1 Z2 wh0))) nD
 rintro k hi;have ah:=ldW_length a k;refine G6 ?_;refine .condP J (λaa=>?_) (λaa=>?_)
 ·
  refine G10 ?_;refine .draw (oPq [0,1,2,3,4,105,6,7,8,9,110,11,12,13,414]) Au zK (G1 ?_);refine .quo_i64 J J J J oM (G1 ?_);refine .quo_i64 J J J J oM (.i1 J J J J Y217.h Sz30 (k/8) oM oM (G1 ?_));refine .shl_u64 J J J J 8 J dE (G2 ?_);refine .i1 J J J J Y184.h Sz5 (31-k) oM oM (G3 ?_);refine .i1 J J J J Y217.h Sz30 (k/8) oM oM (.s1 J J J J J Sz30 Z0 (by(simp[ldW_length];omega)) (by exact Bl _ _ _) zU ?_);refine G8 ?_;exact⟨k+1,by omega,by omega,Ah wN (wh1 Z0 (wh1 Z1 (wh1 Z2 wh0))) nD⟩
 obtain rfl:k=32:=by omega
 refine G7 ?_;refine .lA J J J Y217.h J Sz217 Z0 (by(simp[ldW_length];done)) ?_;refine .sA J J J J zB Sz217 (by(simp[ldW_length];done)) Z1 sP zV ?_;refine G2 ?_;refine G2 ?_;refine⟨_,[],Ax J J Y217.h J Sz217 Z1 (by simp[ldW_length]),sP,sP,?_,rfl⟩;rfl
theorem scalar_store(w:List UInt64)(hw:w.length=4):Mv 281 [agg (Aj w)] (λ_=>True) (agg (Aa (stB w 32))):=by
 intro W hW;refine Ae func281 J 23 ntmps281 J (G3 ?_);intro n1 ad ae;refine .alloc (cs:=(Aa (List.replicate 32 0))) J A9 J ?_;intro n2 ab ag;refine G4 ?_;refine .alloc (cs:=(Aa (List.replicate 32 0))) J A9 J ?_;intro n3 ai ac;refine G9 ?_;refine .loop (ι:=Nat) (λk=>⟨[(1,ptr n1 0),(2,ptr n2 0),(3,ptr n3 0),(5,i64 (k:Int))],[⟨n3,Aa (stB w k),184,32⟩,⟨n2,Aa (List.replicate 32 0),184,32⟩,⟨n1,Aj w,217,(Aj w).length⟩]⟩) (λk=>k<=32) (λk=>32-k) (0) ?_ ?_ ?_
 .omega
 .exact Ah wN (wh1 Z0 (wh1 Z1 (wh1 Z2 wh0))) nD
 rintro k hi;have ah:=stB_length w k;refine G6 ?_;refine .condP J (λaa=>?_) (λaa=>?_)
 ·
  refine G14 ?_;refine .quo_i64 J J J J oM (.i1 J J J J Y217.h Sz30 (k/8) oM oM (G2 ?_));refine .rem_i64 J J J J oM (.mul_i64 J J J J oM (G1 ?_));refine .shr_u64 J J J J (56-8*(k%8)) oM oM (G1 ?_);refine .i1 J J J J Y184.h Sz5 (31-k) oM oM (.s1 J J J J J Sz5 Z0 (by(simp[stB_length];omega)) (by exact Bo _ _ _) zU ?_);refine G8 ?_;exact⟨k+1,by omega,by omega,Ah wN (wh1 Z0 (wh1 Z1 (wh1 Z2 wh0))) nD⟩
 obtain rfl:k=32:=by omega
 refine G7 ?_;refine .lA J J J Y184.h J Sz184 Z0 (by(simp[stB_length];done)) ?_;refine .sA J J J J zB Sz184 (by(simp[stB_length];done)) Z1 sP zV ?_;refine G2 ?_;refine G2 ?_;refine⟨_,[],Ax J J Y184.h J Sz184 Z1 (by simp[stB_length]),sP,sP,?_,rfl⟩;rfl
theorem sub64_run(x y b:UInt64)(hb:b.toNat<=1)(w:World):(callFunc 285 [u64 x,u64 y,u64 b].toArray).run prog w= .ok (.value (.tuple #[u64 (w64 (x.toNat+2^64-y.toNat-b.toNat)),u64 (if x.toNat<y.toNat+b.toNat then 1 else 0)])) w:=by
  rw[run_callFunc_extern func285 zK zK zK (e:=sub64E) zK];have h:(sub64E [u64 x,u64 y,u64 b].toArray).run prog w= .ok (.tuple #[.int .u64 (((x.toNat+18446744073709551616-y.toNat-b.toNat)%18446744073709551616:Nat):Int), .int .u64 ((if x.toNat<y.toNat+b.toNat then 1 else 0:Nat):Int)]) w:=by
    have:b.toNat=0\/b.toNat=1:=by omega
    rcases this with h|h<;>simp only[u64,h]<;>rfl
  rw[h];simp only[Result.andThen,u64,Bx];congr 5;split<;>rfl
theorem add64_run(x y b:UInt64)(hb:b.toNat<=1)(w:World):(callFunc 284 [u64 x,u64 y,u64 b].toArray).run prog w= .ok (.value (.tuple #[u64 (w64 (x.toNat+y.toNat+b.toNat)),u64 (w64 ((x.toNat+y.toNat+b.toNat)/2^64))])) w:=by
  rw[run_callFunc_extern func284 zK zK zK (e:=add64Entry) zK];have hx:=x.toNat_lt;have hy:=y.toNat_lt;have h:=run_add64 (P:=prog) (x.toNat:Int) y.toNat b.toNat oM oM oM oM w;have e:[u64 x,u64 y,u64 b].toArray= #[.int .u64 x.toNat, .int .u64 y.toNat, .int .u64 b.toNat]:=rfl;have e1:((x.toNat:Int)+y.toNat+b.toNat)%18446744073709551616=((w64 (x.toNat+y.toNat+b.toNat)).toNat:Int):=by rw[Bx];omega
  have e2:((x.toNat:Int)+y.toNat+b.toNat)/18446744073709551616=((w64 ((x.toNat+y.toNat+b.toNat)/2^64)).toNat:Int):=by rw[Bx];omega
  rw[e,h,e1,e2];rfl
theorem isNaN_u64(x:UInt64):Mv 93 [u64 x] (λ_=>True) (.bool false):=by
 intro W hW;refine Ae func93 J 6 ntmps93 J (G9 ?_);refine .nei J J J J (show(!decide _)=false from congrArg not (decide_eq_true (rfl))) (G3 ?_);refine G2 ?_;refine⟨_,[],Ag J J,sP,sP,?_,rfl⟩;rfl
theorem cmp_u64(x y:UInt64):Mv 50 [u64 x,u64 y] (λ_=>True) (i64 (cmp1 x y)):=by
 intro W hW;refine Ae func50 J 20 ntmps50 J (G8 ?_);refine .cV J J J J Body93 (isNaN_u64 _) tV (G6 ?_);refine .cV J J J J Body93 (isNaN_u64 _) tV (G9 ?_);refine .cond_f J (rfl) (G8 ?_);refine .cond_f J (rfl) (G10 ?_);refine .condP J (λab=>?_) (λab=>?_)
 ·
  refine G5 ?_;refine G3 ?_;refine⟨_,[],Ag J J,sP,sP,?_,rfl⟩;unfold cmp1;rw[if_pos oM]
 refine G10 ?_;refine .condP J (λaa=>?_) (λaa=>?_)
 ·
  refine G5 ?_;refine G3 ?_;refine⟨_,[],Ag J J,sP,sP,?_,rfl⟩;unfold cmp1;rw[if_neg oM,if_pos oM]
 refine G7 ?_;refine G2 ?_;refine⟨_,[],Ag J J,sP,sP,?_,rfl⟩;unfold cmp1;rw[if_neg oM,if_neg oM]
theorem cmpFunc_u64(b1 o1 c1 b2 o2 c2 n:Nat)(xs ys:List UInt64)(hx:xs.length=n)(hy:ys.length=n)(hn:n<=1000000):Mv 243 [.slice (some ⟨b1,o1,none⟩) n c1, .slice (some ⟨b2,o2,none⟩) n c2, .func (.func 50) #[] #[]] (λW=>Dd W b1 o1 (Aj xs)/\Dd W b2 o2 (Aj ys)) (i64 (cmpW xs ys)):=by
 intro W hW;refine Ae func243 J 39 ntmps243 J (G14 ?_);refine .loop (ι:=Nat) (λk=>⟨[(0, .slice (some ⟨b1,o1,none⟩) n c1),(1, .slice (some ⟨b2,o2,none⟩) n c2),(2, .func (.func 50) #[] #[]),(11, .slice (some ⟨b1,o1,none⟩) n c1),(12,i64 (n:Int)),(13,i64 (k:Int))],[]⟩) (λk=>k<=n/\∀j,j<k->xs.getD j 0=ys.getD j 0) (λk=>n-k) (0) ?_ ?_ ?_
 .exact⟨by omega,λj hj=>by omega⟩
 .exact Ah wN wh0 nD
 rintro k ⟨hk,hi⟩;refine G6 ?_;refine .condP J (λab=>?_) (λab=>?_)
 ·
  refine G7 ?_;refine .idxSlO J J J J Y259.h Sz30 _ J oM (.loadE J J J Y30.h J sP (hW.1 _ _ (get_words oM)) (G13 ?_));refine .cond_f J (by simp;omega) ?_;refine G6 ?_;refine .idxSlO J J J J Y259.h Sz30 _ J oM (.loadE J J J Y30.h J sP (hW.2 _ _ (get_words oM)) (G8 ?_));refine .cV J J J J Body50 (cmp_u64 _ _) tV (G9 ?_);refine .condNP J (λaa=>?_) (λaa=>?_)
  ·
   refine G6 ?_;refine G7 ?_;refine⟨_,[],Ag J J,sP,sP,?_,rfl⟩;exact congrArg i64 (cmpW_at _ _ _ hi oM oM aa).symm
  refine G8 ?_;exact⟨k+1,⟨by omega,λj hj=>if h:j<k then hi j h else(show j=k by omega)▸cmp1_eq aa⟩,by omega,Ah wN wh0 nD⟩
 obtain rfl:k=n:=by omega
 refine G15 ?_;refine .cond_f J sP (G7 ?_);refine G2 ?_;refine⟨_,[],Ag J J,sP,sP,?_,rfl⟩;exact congrArg i64 (cmpW_all _ _ oM (by rw[hx];exact hi)).symm
theorem scalar_below(w m:List UInt64)(hw:w.length=4)(hm:m.length=4):Mv 192 [agg (Aj w),agg (Aj m)] (λ_=>True) (.bool (decide (wv w<wv m))):=by
 intro W hW;refine Ae func192 J 9 ntmps192 J (G3 ?_);intro n2 aa ac;refine G1 ?_;intro n3 ad ab;refine G4 ?_;refine .draw (oPq [0,1,302,3,4]) Au zK (G2 ?_);refine .cV J J J J Body243 (cmpFunc_u64 _ _ _ _ _ _ 4 w m hw hm oM) (λW h=>⟨Ar h Z1,Ar h Z0⟩) ?_;refine G4 ?_;refine G2 ?_;refine⟨_,[],Ag J J,sP,sP,?_,rfl⟩;exact congrArg Value.bool (by simp only[cmpW_lt hw hm])
theorem scalar_minus(w m:List UInt64)(hw:w.length=4)(hm:m.length=4):Mv 280 [agg (Aj w),agg (Aj m)] (λ_=>True) (agg (Aj (mnsW w m 4).1)):=by
 intro W hW;refine Ae func280 J 25 ntmps280 J (G3 ?_);intro n2 ab ag;refine G1 ?_;intro n3 ai ad;refine .alloc (cs:=(Aj (List.replicate 4 0))) J Zr217 J ?_;intro n4 ah ae;refine G4 ?_;refine .a J J (show Ai _ _=some (u64 0)from rfl) (G9 ?_);refine .loop (ι:=Nat) (λk=>⟨[(2,ptr n2 0),(3,ptr n3 0),(4,ptr n4 0),(5,u64 (mnsW w m k).2),(6,i64 (3-(k:Int)))],[⟨n4,Aj (List.replicate 4 0),217,4⟩,⟨n3,Aj m,217,(Aj m).length⟩,⟨n2,Aj (mnsW w m k).1,217,(Aj w).length⟩]⟩) (λk=>k<=4) (λk=>4-k) (0) ?_ ?_ ?_
 .omega
 .exact Ah wN (wh1 Z0 (wh1 Z1 (wh1 Z2 wh0))) nD
 rintro k hi;have hl:=mnsW_length w m k;refine G7 ?_;refine .condP J (λaa=>?_) (λaa=>?_)
 ·
  have ac:k<4:=by omega
  refine G4 ?_;refine .draw (oPq [0,1,2,103,4,5,106,7,8,9,10,11,12,413,14]) Au zK (G2 ?_);refine .i1 J J J J Y217.h Sz30 (3-k) oM oM (G2 ?_);refine .i1 J J J J Y217.h Sz30 (3-k) oM oM (G2 ?_);refine .ext J J J J (sub64_run _ _ _ (mnsW_borrow w m k)) (G3 ?_);refine .i1 J J J J Y217.h Sz30 (3-k) oM oM (.s1 J J J J J Sz30 Z2 (by(simp[mnsW_length,hw];omega)) (by exact Bl _ _ _) (by exact upd2) ?_);refine G10 ?_;exact⟨k+1,by omega,by omega,Ah (wk1 rfl (wk1 rfl (wk1 rfl (wk1 rfl (wk1 (by rw[show(3-((k+1:Nat):Int))=3-(k:Int)-1 by omega];rfl) wk0))))) (wh1 Z0 (wh1 Z1 (wh1 Z2 wh0))) nD⟩
 obtain rfl:k=4:=by omega
 refine G7 ?_;refine .lA J J J Y217.h J Sz217 Z2 (by(simp[mnsW_length,hw];done)) ?_;refine .sA J J J J zB Sz217 (by(simp[mnsW_length,hw];done)) Z0 sP zU ?_;refine G2 ?_;refine G2 ?_;refine⟨_,[],Ax J J Y217.h J Sz217 Z0 (by simp[mnsW_length,hw]),sP,sP,?_,rfl⟩;rfl
theorem mul64_ok(x y:UInt64):Mv 259 [u64 x,u64 y] (λ_=>True) (.tuple #[u64 (mulHi x y),u64 (x*y)]):=by
 intro W hW;refine Ae func259 J 51 ntmps259 J (G2 ?_);refine .a J J (show Ai _ _=some (u64 0)from rfl) (.a J J (show Ai _ _=some (u64 0)from rfl) (G5 ?_));refine .and_u64 J J J (show Ai _ _=some (u64 4294967295)from rfl) (G6 ?_);refine .shr_u64 J J J J 32 J dE (G6 ?_);refine .and_u64 J J J (show Ai _ _=some (u64 4294967295)from rfl) (G6 ?_);refine .shr_u64 J J J J 32 J dE (G17 ?_);refine .shr_u64 J J J J 32 J dE (G7 ?_);refine .and_u64 J J J (show Ai _ _=some (u64 4294967295)from rfl) (G6 ?_);refine .shr_u64 J J J J 32 J dE (G21 ?_);refine .shr_u64 J J J J 32 J dE (G12 ?_);refine G2 ?_;refine⟨_,[],Bm J J J,sP,sP,?_,rfl⟩;rfl
theorem scalar_load_n(a:List UInt8)(ha:a.length=32):Mv 191 [agg (Aa a)] (λ_=>True) (agg (Aj (B6 (le a)))):=by
  rw[<-ldW_eq ha];exact scalar_load a ha
theorem scalar_store_n(n:Nat):Mv 281 [agg (Aj (B6 n))] (λ_=>True) (agg (Aa (leb 32 n))):=by
  rw[<-stB_eq n];exact scalar_store (B6 n) rfl
theorem scalar_modulus_n:Mv 193 [] (λ_=>True) (agg (Aj (B6 L))):=by
  rw[<-modW_eq];exact scalar_modulus
theorem scalar_doubled_n(n:Nat)(b:UInt64)(hb:b.toNat<=1):Mv 279 [agg (Aj (B6 n)),u64 b] (λ_=>True) (agg (Aj (B6 (2*n+b.toNat)))):=by
  rw[<-dblW_eq n b hb];exact scalar_doubled (B6 n) b rfl
theorem scalar_below_n(n m:Nat)(hn:n<2^256)(hm:m<2^256):Mv 192 [agg (Aj (B6 n)),agg (Aj (B6 m))] (λ_=>True) (.bool (decide (n<m))):=by
  have:=scalar_below (B6 n) (B6 m) rfl rfl;rw[wv_words4,wv_words4,Lal hn,Lal hm]at this;exact this
theorem scalar_minus_n(n m:Nat)(hn:n<2^256)(hm:m<=n):Mv 280 [agg (Aj (B6 n)),agg (Aj (B6 m))] (λ_=>True) (agg (Aj (B6 (n-m)))):=by
  have:=scalar_minus (B6 n) (B6 m) rfl rfl;rw[mnsW_eq rfl rfl,wv_words4,wv_words4,Lal hn,Lal (Lfc hm hn)]at this;have e:B6 (n+2^256-m)=B6 (n-m):=by rw[<-words4_mod,show(n+2^256-m)%2^256=(n-m)%2^256 by omega,words4_mod]
  rw[<-e,<-words4_mod n,Lal hn];exact this
theorem bit_le(x:UInt64)(n:Nat):(Az x n&&&1).toNat=x.toNat/2^n%2:=by
  rw[Lfu,Be];exact Lcx _ 1
theorem words4_start(xs:List UInt64):B6 (wv (List.take 0 xs)%L)=List.replicate 4 0:=by
  rw[Ld8];decide
theorem res_bd(m:Nat)(x:UInt64)(n:Nat)(h:m<L):2*m+(Az x n&&&1).toNat<2^256:=by
  have hL:L<2^254:=by decide
  rw[bit_le];omega
theorem scalar_residue(b o c n:Nat)(xs:List UInt64)(hx:xs.length=n)(hn:n<=1000000):Mv 254 [.slice (some ⟨b,o,none⟩) n c] (λW=>Dd W b o (Aj xs)) (agg (Aa (leb 32 (wv xs%L)))):=by
 intro W hW;have hL:L<2^256:=by decide
 refine Ae func254 J 35 ntmps254 J (G2 ?_);refine .alloc (cs:=(Aa (List.replicate 32 0))) J A9 J ?_;intro n2 ag aj;refine G4 ?_;refine .alloc (cs:=(Aj (List.replicate 4 0))) J Zr217 J ?_;intro n3 am ah;refine G4 ?_;refine .cV J J J J Body193 (scalar_modulus_n) tV (.alloc (cs:=(Aj (List.replicate 4 0))) J Zr217 J ?_);intro n4 ak ai;refine .sA J J J J zB Sz217 (by(simp[C4];done)) Z0 sP zU ?_;refine G11 ?_;refine .loop (ι:=Nat) (λk=>⟨[(2,ptr n2 0),(3,ptr n3 0),(4,ptr n4 0),(9, .slice (some ⟨b,o,none⟩) n c),(10,i64 (n:Int)),(11,i64 (k:Int))],[⟨n4,Aj (B6 L),217,4⟩,⟨n3,Aj (B6 (wv (xs.take k)%L)),217,4⟩,⟨n2,Aa (List.replicate 32 0),184,32⟩]⟩) (λk=>k<=n) (λk=>n-k) (0) ?_ ?_ ?_
 .omega
 .exact Ah wN (wh1 Z0 (wh1 (by rw[words4_start];exact mem1) (wh1 Z2 wh0))) nD
 rintro k hi;refine G6 ?_;refine .condP J (λae=>?_) (λae=>?_)
 ·
  refine G6 ?_;refine .idxSlO J J J J Y259.h Sz30 _ J oM (.loadE J J J Y30.h J sP (hW _ _ (get_words oM)) (G9 ?_));refine .loop (ι:=Nat) (λt=>⟨[(2,ptr n2 0),(3,ptr n3 0),(4,ptr n4 0),(6,u64 (xs.getD k 0)),(7,i64 (63-(t:Int))),(9, .slice (some ⟨b,o,none⟩) n c),(10,i64 (n:Int)),(11,i64 (k:Int))],[⟨n4,Aj (B6 L),217,4⟩,⟨n3,Aj (B6 ((wv (xs.take k)*2^(t)+(xs.getD k 0).toNat/2^(64-(t)))%L)),217,4⟩,⟨n2,Aa (List.replicate 32 0),184,32⟩]⟩) (λt=>t<=64) (λt=>64-t) (0) ?_ ?_ ?_
  .omega
  .exact Ah wN (wh1 Z0 (wh1 (by rw[Ldz,Lbb,Lbn (Lff _),Lc7];exact mem1) (wh1 Z2 wh0))) nD
  rintro t hi;refine G7 ?_;refine .condP J (λad=>?_) (λad=>?_)
  ·
   have ht:t<64:=by omega
   have ac:(wv (xs.take k)*2^t+(xs.getD k 0).toNat/2^(64-t))%L<L:=Lc3 _ dE;refine G2 ?_;refine .join (ι:=Unit) (λ_u=>⟨[(2,ptr n2 0),(3,ptr n3 0),(4,ptr n4 0),(6,u64 (xs.getD k 0)),(7,i64 (63-(t:Int))),(9, .slice (some ⟨b,o,none⟩) n c),(10,i64 (n:Int)),(11,i64 (k:Int))],[⟨n4,Aj (B6 L),217,4⟩,⟨n3,Aj (B6 ((wv (xs.take k)*2^(t+1)+(xs.getD k 0).toNat/2^(64-(t+1)))%L)),217,4⟩,⟨n2,Aa (List.replicate 32 0),184,32⟩]⟩) (λ_u=>True) ?_ ?_
   ·
    refine G2 ?_;refine .draw (oPq [100,1,2,3,4,305,406]) Au zK (.lA J J J Y217.h J Sz217 Z1 (by(simp[C4];done)) ?_);refine G2 ?_;refine .shr_u64 J J J J (63-t) oM oM (.and_u64 J J J (show Ai _ _=some (u64 1)from rfl) (.cV J J J J Body279 (scalar_doubled_n _ _ (by rw[bit_le];omega)) tV ?_));refine .sA J J J J zB Sz217 (by(simp[C4];done)) Z1 (by(simp[C4];done)) zV ?_;refine G4 ?_;refine .lA J J J Y217.h J Sz217 Z1 (by(simp[C4];done)) ?_;refine .lA J J J Y217.h J Sz217 Z0 (by(simp[C4];done)) ?_;refine .cV J J J J Body192 (scalar_below_n _ _ (res_bd _ _ _ ac) hL) tV (G3 ?_);refine .condNP J (λab=>?_) (λab=>?_)
    ·
     refine .region (.lA J J J Y217.h J Sz217 Z1 (by(simp[C4];done)) ?_);refine .lA J J J Y217.h J Sz217 Z0 (by(simp[C4];done)) ?_;refine .cV J J J J Body280 (scalar_minus_n _ _ (res_bd _ _ _ ac) (Nat.le_of_not_lt ab)) tV (.sA J J J J zB Sz217 (by(simp[C4];done)) Z1 (by(simp[C4];done)) zV ?_);refine G3 ?_;have aa:=res_step (wv (xs.take k)) (xs.getD k 0).toNat t (Lff _) ht;simp only[]at aa;refine⟨(),trivial,Ah wN (wh1 Z0 (wh1 (by rw[show 64-(t+1)=63-t by omega,<-aa,<-bit_le];simp only[ab,if_true,if_false];exact mem1) (wh1 Z2 wh0))) nD⟩
    refine G3 ?_;have aa:=res_step (wv (xs.take k)) (xs.getD k 0).toNat t (Lff _) ht;simp only[]at aa;refine⟨(),trivial,Ah wN (wh1 Z0 (wh1 (by rw[show 64-(t+1)=63-t by omega,<-aa,<-bit_le];simp only[ab,if_true,if_false];exact mem1) (wh1 Z2 wh0))) nD⟩
   intro _u hj;skip;refine G6 ?_;exact⟨t+1,by omega,by omega,Ah (wk1 rfl (wk1 rfl (wk1 rfl (wk1 rfl (wk1 (by rw[show(63-((t+1:Nat):Int))=63-(t:Int)-1 by omega];rfl) wN))))) (wh1 Z0 (wh1 Z1 (wh1 Z2 wh0))) nD⟩
  obtain rfl:t=64:=by omega
  refine G11 ?_;exact⟨k+1,by omega,by omega,Ah wN (wh1 Z0 (wh1 (by rw[wv_take_succ xs k oM,show(64-64:Nat)=0 from rfl,Ldz,Lf3];exact mem1) (wh1 Z2 wh0))) nD⟩
 obtain rfl:k=n:=by omega
 refine G7 ?_;refine .lA J J J Y217.h J Sz217 Z1 (by(simp[C4];done)) ?_;refine .cV J J J J Body281 (scalar_store_n _) tV (.sA J J J J zB Sz184 (by(simp[Am];done)) Z2 sP (by exact upd2) ?_);refine G2 ?_;refine G2 ?_;refine⟨_,[],Ax J J Y184.h J Sz184 Z2 (by simp[Am]),sP,sP,?_,rfl⟩;rw[La5 oM]
open Ed
theorem field_put(q o n c m:Nat)(l:List UInt8)(x:UInt64)(BT:TypeId)(hn:8<=n)(hl:o+8<=l.length):Meets prog 248 [.slice (some ⟨q,o,none⟩) n c,u64 x] [q] (λW=>BlkOk W ⟨q,Aa l,BT,m⟩) (λv out=>out=[⟨q,Aa (set8 l o x),BT,m⟩]):=by
 intro W hW;refine calls_of (hp0:=[⟨q,Aa l,BT,m⟩]) func248 J 46 ntmps248 J (HRep.one hW) (G3 ?_);refine .idxSlO J J J J Y33.h Sz5 7 J oM (.load1 J J J Y5.h J Z0 (get_bytes oM) ?_);refine G11 ?_;refine .shr_u64 J J J J 8 J dE (G2 ?_);refine .shr_u64 J J J J 16 J dE (G2 ?_);refine .shr_u64 J J J J 24 J dE (G1 ?_);refine .idxSlO J J J J Y33.h Sz5 0 J oM (.s1 J J J J J Sz5 Z0 (by simp;omega) (Bo _ _ _) zU ?_);refine .idxSlO J J J J Y33.h Sz5 1 J oM (.s1 J J J J J Sz5 Z0 (by simp;omega) (Bo _ _ _) zU ?_);refine .idxSlO J J J J Y33.h Sz5 2 J oM (.s1 J J J J J Sz5 Z0 (by simp;omega) (Bo _ _ _) zU ?_);refine .idxSlO J J J J Y33.h Sz5 3 J oM (.s1 J J J J J Sz5 Z0 (by simp;omega) (Bo _ _ _) zU ?_);refine G8 ?_;refine .shr_u64 J J J J 32 J dE (G2 ?_);refine .shr_u64 J J J J 40 J dE (G2 ?_);refine .shr_u64 J J J J 48 J dE (G2 ?_);refine .shr_u64 J J J J 56 J dE (G1 ?_);refine .idxSlO J J J J Y33.h Sz5 4 J oM (.s1 J J J J J Sz5 Z0 (by simp;omega) (Bo _ _ _) zU ?_);refine .idxSlO J J J J Y33.h Sz5 5 J oM (.s1 J J J J J Sz5 Z0 (by simp;omega) (Bo _ _ _) zU ?_);refine .idxSlO J J J J Y33.h Sz5 6 J oM (.s1 J J J J J Sz5 Z0 (by simp;omega) (Bo _ _ _) zU ?_);refine .idxSlO J J J J Y33.h Sz5 7 J oM (.s1 J J J J J Sz5 Z0 (by simp;omega) (Bo _ _ _) zU ?_);refine G2 ?_;exact⟨_,_,res_none rfl,(λb hb=>by rw[La1.1 hb];exact Cf),nodup1,rfl⟩
theorem field_quarters(a:List UInt8)(ha:a.length=32):Mv 274 [agg (Aa a)] (λ_=>True) (agg (Aj [qw a 0,qw a 1,qw a 2,qw a 3])):=by
 intro W hW;refine Ae func274 J 65 ntmps274 J (G3 ?_);intro n1 ad ae;refine .alloc (cs:=(Aj (List.replicate 4 0))) J Zr216 J ?_;intro n2 ab ag;refine G4 ?_;refine .alloc (cs:=(Aj (List.replicate 4 0))) J Zr216 J ?_;intro n3 ai ac;refine G9 ?_;refine .loop (ι:=Nat) (λk=>⟨[(1,ptr n1 0),(2,ptr n2 0),(3,ptr n3 0),(6,i64 (k:Int))],[⟨n3,Aj (qtA a k),216,4⟩,⟨n2,Aj (List.replicate 4 0),216,4⟩,⟨n1,Aa a,184,(Aa a).length⟩]⟩) (λk=>k<=4) (λk=>4-k) (0) ?_ ?_ ?_
 .omega
 .exact Ah wN (wh1 Z0 (wh1 Z1 (wh1 Z2 wh0))) nD
 rintro k hi;have ah:=qtA_length a k;refine G6 ?_;refine .condP J (λaa=>?_) (λaa=>?_)
 ·
  refine G13 ?_;refine .mul_i64 J J J J oM (G1 ?_);refine .mul_i64 J J J J oM (G1 ?_);refine .sliceArrLH (8*k) (8*k+8) J J J J J oM oM oM oM oM Y184.h Sz5 (G3 ?_);refine .draw (oPq [0,1,2,103,4,5,6,107,8,9,10,11,12,113,14,15,16,17,18,119,20,21,22,23,24,125,26,27,28,29,30,131,32,33,34,35,36,137,38,39,40,41,42,143,44,45,46,47,448]) Au zK (G2 ?_);refine .idxSlO J J J J Y33.h Sz5 0 J oM (G3 ?_);refine .idxSlO J J J J Y33.h Sz5 1 J oM (G2 ?_);refine .shl_u64 J J J J 8 J dE (G2 ?_);refine .idxSlO J J J J Y33.h Sz5 2 J oM (G2 ?_);refine .shl_u64 J J J J 16 J dE (G2 ?_);refine .idxSlO J J J J Y33.h Sz5 3 J oM (G2 ?_);refine .shl_u64 J J J J 24 J dE (G2 ?_);refine .idxSlO J J J J Y33.h Sz5 4 J oM (G2 ?_);refine .shl_u64 J J J J 32 J dE (G2 ?_);refine .idxSlO J J J J Y33.h Sz5 5 J oM (G2 ?_);refine .shl_u64 J J J J 40 J dE (G2 ?_);refine .idxSlO J J J J Y33.h Sz5 6 J oM (G2 ?_);refine .shl_u64 J J J J 48 J dE (G2 ?_);refine .idxSlO J J J J Y33.h Sz5 7 J oM (G2 ?_);refine .shl_u64 J J J J 56 J dE (G1 ?_);refine .i1 J J J J Y216 Sz30 _ J oM (.s1 J J J J J Sz30 Z0 (by(simp[qtA_length];omega)) (by exact Bl _ _ _) zU ?_);refine G8 ?_;exact⟨k+1,by omega,by omega,Ah wN (wh1 Z0 (wh1 Z1 (wh1 Z2 wh0))) nD⟩
 obtain rfl:k=4:=by omega
 refine G7 ?_;refine .lA J J J Y216 J Sz216 Z0 (by(simp[qtA_length];done)) ?_;refine .sA J J J J zB Sz216 (by(simp[qtA_length];done)) Z1 sP zV ?_;refine G2 ?_;refine G2 ?_;refine⟨_,[],Ax J J Y216 J Sz216 Z1 (by simp[qtA_length]),sP,sP,?_,rfl⟩;rfl
theorem field_load(a:List UInt8)(ha:a.length=32):Mv 245 [agg (Aa a)] (λ_=>True) (agg (Aj (ldN a).l)):=by
 intro W hW;refine Ae func245 J 37 ntmps245 J (G3 ?_);intro n1 ag ab;refine .alloc (cs:=(Aj (List.replicate 5 0))) J Zr261 J ?_;intro n2 aa ad;refine G4 ?_;refine .lA J J J Y184.h J Sz184 Z1 (by(simp[ha];done)) ?_;refine .cV J J J J Body274 (field_quarters a ha) tV (.alloc (cs:=(Aj (List.replicate 4 0))) J Zr216 J ?_);intro n3 ae ac;refine .sA J J J J zB Sz216 sP Z0 sP zU ?_;refine G4 ?_;refine .i1 J J J J Y216 Sz30 0 J dE (G1 ?_);refine .and_u64 J J J (show Ai _ _=some (u64 2251799813685247)from rfl) (.i1 J J J J Y216 Sz30 0 J dE (G1 ?_));refine .shr_u64 J J J J 51 J dE (.i1 J J J J Y216 Sz30 1 J dE (G1 ?_));refine .shl_u64 J J J J 13 J dE (G1 ?_);refine .and_u64 J J J (show Ai _ _=some (u64 2251799813685247)from rfl) (.i1 J J J J Y216 Sz30 1 J dE (G1 ?_));refine .shr_u64 J J J J 38 J dE (.i1 J J J J Y216 Sz30 2 J dE (G1 ?_));refine .shl_u64 J J J J 26 J dE (G1 ?_);refine .and_u64 J J J (show Ai _ _=some (u64 2251799813685247)from rfl) (.i1 J J J J Y216 Sz30 2 J dE (G1 ?_));refine .shr_u64 J J J J 25 J dE (.i1 J J J J Y216 Sz30 3 J dE (G1 ?_));refine .shl_u64 J J J J 39 J dE (G1 ?_);refine .and_u64 J J J (show Ai _ _=some (u64 2251799813685247)from rfl) (.i1 J J J J Y216 Sz30 3 J dE (G1 ?_));refine .shr_u64 J J J J 12 J dE (.build (cs:=Aj (ldN a).l) J J J (λw=>by kernel_rfl) ?_);refine .sA J J J J zB Sz261 zW Z1 sP zV ?_;refine G2 ?_;refine G2 ?_;refine⟨_,[],Ax J J Y261.h J Sz261 Z1 (by simp[W5.l_length]),sP,sP,?_,rfl⟩;rfl
theorem field_carried(w:W5):Mv 277 [agg (Aj w.l)] (λ_=>True) (agg (Aj (carF w).l)):=by
 intro W hW;refine Ae func277 J 40 ntmps277 J (G3 ?_);intro n1 ad ab;refine .alloc (cs:=(Aj (List.replicate 5 0))) J Zr261 J ?_;intro n2 aa ac;refine G4 ?_;refine .i1 J J J J Y261.h Sz30 0 J dE (G1 ?_);refine .and_u64 J J J (show Ai _ _=some (u64 2251799813685247)from rfl) (.i1 J J J J Y261.h Sz30 4 J dE (G1 ?_));refine .shr_u64 J J J J 51 J dE (.mul_u64 J J (show Ai _ _=some (u64 19)from rfl) J (G1 ?_));refine .i1 J J J J Y261.h Sz30 1 J dE (G1 ?_);refine .and_u64 J J J (show Ai _ _=some (u64 2251799813685247)from rfl) (.i1 J J J J Y261.h Sz30 0 J dE (G1 ?_));refine .shr_u64 J J J J 51 J dE (G1 ?_);refine .i1 J J J J Y261.h Sz30 2 J dE (G1 ?_);refine .and_u64 J J J (show Ai _ _=some (u64 2251799813685247)from rfl) (.i1 J J J J Y261.h Sz30 1 J dE (G1 ?_));refine .shr_u64 J J J J 51 J dE (G1 ?_);refine .i1 J J J J Y261.h Sz30 3 J dE (G1 ?_);refine .and_u64 J J J (show Ai _ _=some (u64 2251799813685247)from rfl) (.i1 J J J J Y261.h Sz30 2 J dE (G1 ?_));refine .shr_u64 J J J J 51 J dE (G1 ?_);refine .i1 J J J J Y261.h Sz30 4 J dE (G1 ?_);refine .and_u64 J J J (show Ai _ _=some (u64 2251799813685247)from rfl) (.i1 J J J J Y261.h Sz30 3 J dE (G1 ?_));refine .shr_u64 J J J J 51 J dE (G1 ?_);refine .build (cs:=Aj (carF w).l) J J J (λw=>by kernel_rfl) ?_;refine .sA J J J J zB Sz261 zW Z0 sP zU ?_;refine G2 ?_;refine G2 ?_;refine⟨_,[],Ax J J Y261.h J Sz261 Z0 (by simp[W5.l_length]),sP,sP,?_,rfl⟩;rfl
theorem B8(s:UInt64×UInt64)(a b:UInt64):Mv 275 [agg [u64 s.1,u64 s.2],u64 a,u64 b] (λ_=>True) (agg [u64 (plF s a b).1,u64 (plF s a b).2]):=by
 intro W hW;refine Ae func275 J 34 ntmps275 J (G3 ?_);intro n3 ac ab;refine .alloc (cs:=([u64 0]++[u64 0])) J Zr282 J ?_;intro n6 ad aa;refine G6 ?_;refine .cV J J J J Body259 (mul64_ok _ _) tV (G12 ?_);refine .ext J J J J (add64_run _ _ 0 dE) (G13 ?_);refine .ext J J J J (add64_run _ _ _ (by rw[Bx];have:=s.2.toNat_lt;have:=(a*b).toNat_lt;simp only[show(0:UInt64).toNat=0 from rfl];omega)) ?_;refine G10 ?_;refine .build (cs:=[u64 (plF s a b).1,u64 (plF s a b).2]) J J J (λw=>by kernel_rfl) ?_;refine .sA J J J J zB Sz282 sP Z0 sP zU ?_;refine G2 ?_;refine G2 ?_;refine⟨_,[],Ax J J Y282.h J Sz282 Z0 sP,sP,sP,?_,rfl⟩;rfl
theorem wide_upper(s:UInt64×UInt64):Mv 276 [agg [u64 s.1,u64 s.2]] (λ_=>True) (u64 (upF s)):=by
 intro W hW;refine Ae func276 J 10 ntmps276 J (G3 ?_);intro n1 ab aa;refine .a J J (show Ai _ _=some (u64 0)from rfl) (G6 ?_);refine .shl_u64 J J J J 13 J dE (G2 ?_);refine .shr_u64 J J J J 51 J dE (G4 ?_);refine G2 ?_;refine⟨_,[],Ag J J,sP,sP,?_,rfl⟩;rfl
theorem field_product(na nb:Nat)(a b:W5):Mv 246 [ptr na 0,ptr nb 0] (λW=>Dd W na 0 (Aj a.l)/\Dd W nb 0 (Aj b.l)) (agg (Aj (mulF a b).l)):=by
 intro W hW;refine Ae func246 J 267 ntmps246 J (G2 ?_);refine .alloc (cs:=(Aj (List.replicate 5 0))) J Zr261 J ?_;intro n4 ar aq;refine G3 ?_;refine .draw (oPq [0,1,2,103,4,5,6,7,108,9,10,11,12,113,14,15,16,17,118,19,20,21,22,23]) Au zK (G2 ?_);refine .i1 J J J J Y261.h Sz30 1 J dE (.loadE J J J Y30.h J sP (hW.1 1 _ J) (.mul_u64 J J (show Ai _ _=some (u64 19)from rfl) J (G2 ?_)));refine .i1 J J J J Y261.h Sz30 2 J dE (.loadE J J J Y30.h J sP (hW.1 2 _ J) (.mul_u64 J J (show Ai _ _=some (u64 19)from rfl) J (G2 ?_)));refine .i1 J J J J Y261.h Sz30 3 J dE (.loadE J J J Y30.h J sP (hW.1 3 _ J) (.mul_u64 J J (show Ai _ _=some (u64 19)from rfl) J (G2 ?_)));refine .i1 J J J J Y261.h Sz30 4 J dE (.loadE J J J Y30.h J sP (hW.1 4 _ J) (.mul_u64 J J (show Ai _ _=some (u64 19)from rfl) J (G7 ?_)));refine .draw (oPq [0,1,2,3,104,5,6,7,108,10,11,12,13,114,16,17,18,19,120,22,23,24,25,126,28,29,30,31,132,309,315,321,327,333,234,435]) Au zK (.build (cs:=[u64 0,u64 0]) J J J (λw=>by kernel_rfl) ?_);refine G2 ?_;refine .i1 J J J J Y261.h Sz30 0 J dE (.loadE J J J Y30.h J sP (hW.1 0 _ J) (G2 ?_));refine .i1 J J J J Y261.h Sz30 0 J dE (.loadE J J J Y30.h J sP (hW.2 0 _ J) (G3 ?_));refine .i1 J J J J Y261.h Sz30 4 J dE (.loadE J J J Y30.h J sP (hW.2 4 _ J) (G3 ?_));refine .i1 J J J J Y261.h Sz30 3 J dE (.loadE J J J Y30.h J sP (hW.2 3 _ J) (G3 ?_));refine .i1 J J J J Y261.h Sz30 2 J dE (.loadE J J J Y30.h J sP (hW.2 2 _ J) (G3 ?_));refine .i1 J J J J Y261.h Sz30 1 J dE (.loadE J J J Y30.h J sP (hW.2 1 _ J) (.cV J J J J C7 (B8 (0,0) a.a b.a) tV (.cV J J J J C7 (B8 (plF (0,0) a.a b.a) (19*a.b) b.e) tV (.cV J J J J C7 (B8 (plF (plF (0,0) a.a b.a) (19*a.b) b.e) (19*a.c) b.d) tV (.cV J J J J C7 (B8 (plF (plF (plF (0,0) a.a b.a) (19*a.b) b.e) (19*a.c) b.d) (19*a.d) b.c) tV (.cV J J J J C7 (B8 (plF (plF (plF (plF (0,0) a.a b.a) (19*a.b) b.e) (19*a.c) b.d) (19*a.d) b.c) (19*a.e) b.b) tV (.alloc (cs:=([u64 0]++[u64 0])) J Zr282 J ?_)))))));intro n9 aj am;refine .sA J J J J zB Sz282 sP Z0 sP zU ?_;refine G3 ?_;refine .draw (oPq [0,1,2,3,104,5,6,7,108,10,11,12,113,14,15,16,117,19,20,21,22,123,25,26,27,28,129,31,32,33,34,135,309,318,324,330,336,237,438]) Au zK (.build (cs:=[u64 0,u64 0]) J J J (λw=>by kernel_rfl) ?_);refine G2 ?_;refine .i1 J J J J Y261.h Sz30 0 J dE (.loadE J J J Y30.h J sP (hW.1 0 _ J) (G2 ?_));refine .i1 J J J J Y261.h Sz30 1 J dE (.loadE J J J Y30.h J sP (hW.2 1 _ J) (G2 ?_));refine .i1 J J J J Y261.h Sz30 1 J dE (.loadE J J J Y30.h J sP (hW.1 1 _ J) (G2 ?_));refine .i1 J J J J Y261.h Sz30 0 J dE (.loadE J J J Y30.h J sP (hW.2 0 _ J) (G3 ?_));refine .i1 J J J J Y261.h Sz30 4 J dE (.loadE J J J Y30.h J sP (hW.2 4 _ J) (G3 ?_));refine .i1 J J J J Y261.h Sz30 3 J dE (.loadE J J J Y30.h J sP (hW.2 3 _ J) (G3 ?_))
 refine .i1 J J J J Y261.h Sz30 2 J dE (.loadE J J J Y30.h J sP (hW.2 2 _ J) (.cV J J J J C7 (B8 (0,0) a.a b.b) tV (.cV J J J J C7 (B8 (plF (0,0) a.a b.b) a.b b.a) tV (.cV J J J J C7 (B8 (plF (plF (0,0) a.a b.b) a.b b.a) (19*a.c) b.e) tV (.cV J J J J C7 (B8 (plF (plF (plF (0,0) a.a b.b) a.b b.a) (19*a.c) b.e) (19*a.d) b.d) tV (.cV J J J J C7 (B8 (plF (plF (plF (plF (0,0) a.a b.b) a.b b.a) (19*a.c) b.e) (19*a.d) b.d) (19*a.e) b.c) tV (.alloc (cs:=([u64 0]++[u64 0])) J Zr282 J ?_)))))));intro ao ac ag;refine .sA J J J J zB Sz282 sP Z0 sP zU ?_;refine G3 ?_;refine .draw (oPq [0,1,2,3,104,5,6,7,108,10,11,12,113,14,15,16,117,19,20,21,122,23,24,25,126,28,29,30,31,132,34,35,36,37,138,309,318,327,333,339,240,441]) Au zK (.build (cs:=[u64 0,u64 0]) J J J (λw=>by kernel_rfl) ?_);refine G2 ?_;refine .i1 J J J J Y261.h Sz30 0 J dE (.loadE J J J Y30.h J sP (hW.1 0 _ J) (G2 ?_));refine .i1 J J J J Y261.h Sz30 2 J dE (.loadE J J J Y30.h J sP (hW.2 2 _ J) (G2 ?_));refine .i1 J J J J Y261.h Sz30 1 J dE (.loadE J J J Y30.h J sP (hW.1 1 _ J) (G2 ?_));refine .i1 J J J J Y261.h Sz30 1 J dE (.loadE J J J Y30.h J sP (hW.2 1 _ J) (G2 ?_));refine .i1 J J J J Y261.h Sz30 2 J dE (.loadE J J J Y30.h J sP (hW.1 2 _ J) (G2 ?_));refine .i1 J J J J Y261.h Sz30 0 J dE (.loadE J J J Y30.h J sP (hW.2 0 _ J) (G3 ?_));refine .i1 J J J J Y261.h Sz30 4 J dE (.loadE J J J Y30.h J sP (hW.2 4 _ J) (G3 ?_));refine .i1 J J J J Y261.h Sz30 3 J dE (.loadE J J J Y30.h J sP (hW.2 3 _ J) (.cV J J J J C7 (B8 (0,0) a.a b.c) tV (.cV J J J J C7 (B8 (plF (0,0) a.a b.c) a.b b.b) tV (.cV J J J J C7 (B8 (plF (plF (0,0) a.a b.c) a.b b.b) a.c b.a) tV (.cV J J J J C7 (B8 (plF (plF (plF (0,0) a.a b.c) a.b b.b) a.c b.a) (19*a.d) b.e) tV (.cV J J J J C7 (B8 (plF (plF (plF (plF (0,0) a.a b.c) a.b b.b) a.c b.a) (19*a.d) b.e) (19*a.e) b.d) tV (.alloc (cs:=([u64 0]++[u64 0])) J Zr282 J ?_)))))));intro ak ai ab;refine .sA J J J J zB Sz282 sP Z0 sP zU ?_;refine G3 ?_;refine .draw (oPq [0,1,2,3,104,5,6,7,108,10,11,12,113,14,15,16,117,19,20,21,122,23,24,25,126,28,29,30,131,32,33,34,135,37,38,39,40,141,309,318,327,336,342,243,444]) Au zK (.build (cs:=[u64 0,u64 0]) J J J (λw=>by kernel_rfl) ?_);refine G2 ?_;refine .i1 J J J J Y261.h Sz30 0 J dE (.loadE J J J Y30.h J sP (hW.1 0 _ J) (G2 ?_));refine .i1 J J J J Y261.h Sz30 3 J dE (.loadE J J J Y30.h J sP (hW.2 3 _ J) (G2 ?_));refine .i1 J J J J Y261.h Sz30 1 J dE (.loadE J J J Y30.h J sP (hW.1 1 _ J) (G2 ?_));refine .i1 J J J J Y261.h Sz30 2 J dE (.loadE J J J Y30.h J sP (hW.2 2 _ J) (G2 ?_));refine .i1 J J J J Y261.h Sz30 2 J dE (.loadE J J J Y30.h J sP (hW.1 2 _ J) (G2 ?_));refine .i1 J J J J Y261.h Sz30 1 J dE (.loadE J J J Y30.h J sP (hW.2 1 _ J) (G2 ?_));refine .i1 J J J J Y261.h Sz30 3 J dE (.loadE J J J Y30.h J sP (hW.1 3 _ J) (G2 ?_));refine .i1 J J J J Y261.h Sz30 0 J dE (.loadE J J J Y30.h J sP (hW.2 0 _ J) (G3 ?_))
 refine .i1 J J J J Y261.h Sz30 4 J dE (.loadE J J J Y30.h J sP (hW.2 4 _ J) (.cV J J J J C7 (B8 (0,0) a.a b.d) tV (.cV J J J J C7 (B8 (plF (0,0) a.a b.d) a.b b.c) tV (.cV J J J J C7 (B8 (plF (plF (0,0) a.a b.d) a.b b.c) a.c b.b) tV (.cV J J J J C7 (B8 (plF (plF (plF (0,0) a.a b.d) a.b b.c) a.c b.b) a.d b.a) tV (.cV J J J J C7 (B8 (plF (plF (plF (plF (0,0) a.a b.d) a.b b.c) a.c b.b) a.d b.a) (19*a.e) b.e) tV (.alloc (cs:=([u64 0]++[u64 0])) J Zr282 J ?_)))))));intro an ah aa;refine .sA J J J J zB Sz282 sP Z0 sP zU ?_;refine G3 ?_;refine .draw (oPq [0,1,2,3,104,5,6,7,108,10,11,12,113,14,15,16,117,19,20,21,122,23,24,25,126,28,29,30,131,32,33,34,135,37,38,39,140,41,42,43,144,309,318,327,336,345,246,447]) Au zK (.build (cs:=[u64 0,u64 0]) J J J (λw=>by kernel_rfl) ?_);refine G2 ?_;refine .i1 J J J J Y261.h Sz30 0 J dE (.loadE J J J Y30.h J sP (hW.1 0 _ J) (G2 ?_));refine .i1 J J J J Y261.h Sz30 4 J dE (.loadE J J J Y30.h J sP (hW.2 4 _ J) (G2 ?_));refine .i1 J J J J Y261.h Sz30 1 J dE (.loadE J J J Y30.h J sP (hW.1 1 _ J) (G2 ?_));refine .i1 J J J J Y261.h Sz30 3 J dE (.loadE J J J Y30.h J sP (hW.2 3 _ J) (G2 ?_));refine .i1 J J J J Y261.h Sz30 2 J dE (.loadE J J J Y30.h J sP (hW.1 2 _ J) (G2 ?_));refine .i1 J J J J Y261.h Sz30 2 J dE (.loadE J J J Y30.h J sP (hW.2 2 _ J) (G2 ?_));refine .i1 J J J J Y261.h Sz30 3 J dE (.loadE J J J Y30.h J sP (hW.1 3 _ J) (G2 ?_));refine .i1 J J J J Y261.h Sz30 1 J dE (.loadE J J J Y30.h J sP (hW.2 1 _ J) (G2 ?_));refine .i1 J J J J Y261.h Sz30 4 J dE (.loadE J J J Y30.h J sP (hW.1 4 _ J) (G2 ?_));refine .i1 J J J J Y261.h Sz30 0 J dE (.loadE J J J Y30.h J sP (hW.2 0 _ J) (.cV J J J J C7 (B8 (0,0) a.a b.e) tV (.cV J J J J C7 (B8 (plF (0,0) a.a b.e) a.b b.d) tV (.cV J J J J C7 (B8 (plF (plF (0,0) a.a b.e) a.b b.d) a.c b.c) tV (.cV J J J J C7 (B8 (plF (plF (plF (0,0) a.a b.e) a.b b.d) a.c b.c) a.d b.b) tV (.cV J J J J C7 (B8 (plF (plF (plF (plF (0,0) a.a b.e) a.b b.d) a.c b.c) a.d b.b) a.e b.a) tV (.alloc (cs:=([u64 0]++[u64 0])) J Zr282 J ?_)))))));intro ap ae ad;refine .sA J J J J zB Sz282 sP Z0 sP zU ?_;refine G3 ?_;refine .draw (oPq [0,101,2,103,7,108,9,110,13,114,15,116,19,120,21,122,25,126,27,128,304,5,6,311,12,317,18,323,24,329,30,31,332,433]) Au zK (G2 ?_);refine .and_u64 J J J (show Ai _ _=some (u64 2251799813685247)from rfl) (.lA J J J Y282.h J Sz282 Z0 sP ?_);refine G2 ?_;refine .and_u64 J J J (show Ai _ _=some (u64 2251799813685247)from rfl) (.lA J J J Y282.h J Sz282 Z4 sP ?_);refine G2 ?_;refine .and_u64 J J J (show Ai _ _=some (u64 2251799813685247)from rfl) (.lA J J J Y282.h J Sz282 Z3 sP ?_);refine G2 ?_;refine .and_u64 J J J (show Ai _ _=some (u64 2251799813685247)from rfl) (.lA J J J Y282.h J Sz282 Z2 sP ?_);refine G2 ?_;refine .and_u64 J J J (show Ai _ _=some (u64 2251799813685247)from rfl) (.lA J J J Y282.h J Sz282 Z1 sP ?_);refine .cV J J J J Body276 (wide_upper (s4F a b)) tV (.mul_u64 J J (show Ai _ _=some (u64 19)from rfl) J (G1 ?_))
 refine .cV J J J J Body276 (wide_upper (s0F a b)) tV (G1 ?_);refine .cV J J J J Body276 (wide_upper (s1F a b)) tV (G1 ?_);refine .cV J J J J Body276 (wide_upper (s2F a b)) tV (G1 ?_);refine .cV J J J J Body276 (wide_upper (s3F a b)) tV (G1 ?_);refine .build (cs:=Aj (⟨((s0F a b).2&&&LOW)+19*upF (s4F a b),((s1F a b).2&&&LOW)+upF (s0F a b),((s2F a b).2&&&LOW)+upF (s1F a b),((s3F a b).2&&&LOW)+upF (s2F a b),((s4F a b).2&&&LOW)+upF (s3F a b)⟩:W5).l) J J J (λw=>by kernel_rfl) ?_;refine .cV J J J J Body277 (field_carried ⟨((s0F a b).2&&&LOW)+19*upF (s4F a b),((s1F a b).2&&&LOW)+upF (s0F a b),((s2F a b).2&&&LOW)+upF (s1F a b),((s3F a b).2&&&LOW)+upF (s2F a b),((s4F a b).2&&&LOW)+upF (s3F a b)⟩) tV (.sA J J J J zB Sz261 zW (by exact mem5) sP (by exact upd5) ?_);refine G2 ?_;refine G2 ?_;refine⟨_,[],Ax J J Y261.h J Sz261 (by exact mem5) (by simp[W5.l_length]),sP,sP,?_,rfl⟩;rfl
theorem field_store(w:W5):Mv 247 [agg (Aj w.l)] (λ_=>True) (agg (Aa (fb (fe w.v)))):=by
 intro W hW;refine Ae func247 J 88 ntmps247 J (G3 ?_);intro n1 ai ak;refine .alloc (cs:=(Aa (List.replicate 32 0))) J A9 J ?_;intro n2 ae ao;refine G5 ?_;refine .cV J J J J Body277 (field_carried w) tV (G5 ?_);refine .i1 J J J J Y261.h Sz30 0 J dE (G1 ?_);refine .add_u64 J J J (show Ai _ _=some (u64 19)from rfl) (.shr_u64 J J J J 51 J dE (G10 ?_));refine .rounds 5 (SRounds.more (G7 ?_));refine .cond_t J (rfl) (G6 ?_);refine .i1 J J J J Y261.h Sz30 1 J oM (G3 ?_);refine .shr_u64 J J J J 51 J dE (G9 ?_);refine Df (SRounds.more (G7 ?_));refine .cond_t J (rfl) (G6 ?_);refine .i1 J J J J Y261.h Sz30 2 J oM (G3 ?_);refine .shr_u64 J J J J 51 J dE (G9 ?_);refine Df (SRounds.more (G7 ?_));refine .cond_t J (rfl) (G6 ?_);refine .i1 J J J J Y261.h Sz30 3 J oM (G3 ?_);refine .shr_u64 J J J J 51 J dE (G9 ?_);refine Df (SRounds.more (G7 ?_));refine .cond_t J (rfl) (G6 ?_);refine .i1 J J J J Y261.h Sz30 4 J oM (G3 ?_);refine .shr_u64 J J J J 51 J dE (G9 ?_);refine Df (SRounds.more (G7 ?_));refine .cond_f J (rfl) (G7 ?_);refine .i1 J J J J Y261.h Sz30 0 J dE (G2 ?_);refine .mul_u64 J J (show Ai _ _=some (u64 19)from rfl) J (G1 ?_);refine .i1 J J J J Y261.h Sz30 0 J dE (.s1 J J J J J Sz30 Z1 zW (by exact Bl _ _ _) zV ?_);refine G9 ?_;refine .rounds 5 (SRounds.more (G6 ?_));refine .cond_t J (rfl) (G11 ?_);refine .draw (oPq [0,1,2,103,4,5,106,7,8,9,410]) Au zK (G2 ?_);refine .i1 J J J J Y261.h Sz30 1 J oM (G2 ?_);refine .i1 J J J J Y261.h Sz30 0 J oM (G1 ?_);refine .shr_u64 J J J J 51 J dE (G1 ?_);refine .i1 J J J J Y261.h Sz30 1 J oM (.s1 J J J J J Sz30 Z1 zW (by exact Bl _ _ _) zV ?_);refine G4 ?_;refine .i1 J J J J Y261.h Sz30 0 J oM (G1 ?_);refine .and_u64 J J J (show Ai _ _=some (u64 2251799813685247)from rfl) (.i1 J J J J Y261.h Sz30 0 J oM (.s1 J J J J J Sz30 Z1 zW (by exact Bl _ _ _) zV ?_));refine G7 ?_;refine Df (SRounds.more (G6 ?_));refine .cond_t J (rfl) (G11 ?_);refine .draw (oPq [0,1,2,103,4,5,106,7,8,9,410]) Au zK (G2 ?_);refine .i1 J J J J Y261.h Sz30 2 J oM (G2 ?_);refine .i1 J J J J Y261.h Sz30 1 J oM (G1 ?_);refine .shr_u64 J J J J 51 J dE (G1 ?_);refine .i1 J J J J Y261.h Sz30 2 J oM (.s1 J J J J J Sz30 Z1 zW (by exact Bl _ _ _) zV ?_);refine G4 ?_;refine .i1 J J J J Y261.h Sz30 1 J oM (G1 ?_);refine .and_u64 J J J (show Ai _ _=some (u64 2251799813685247)from rfl) (.i1 J J J J Y261.h Sz30 1 J oM (.s1 J J J J J Sz30 Z1 zW (by exact Bl _ _ _) zV ?_));refine G7 ?_;refine Df (SRounds.more (G6 ?_));refine .cond_t J (rfl) (G11 ?_);refine .draw (oPq [0,1,2,103,4,5,106,7,8,9,410]) Au zK (G2 ?_);refine .i1 J J J J Y261.h Sz30 3 J oM (G2 ?_);refine .i1 J J J J Y261.h Sz30 2 J oM (G1 ?_);refine .shr_u64 J J J J 51 J dE (G1 ?_);refine .i1 J J J J Y261.h Sz30 3 J oM (.s1 J J J J J Sz30 Z1 zW (by exact Bl _ _ _) zV ?_);refine G4 ?_;refine .i1 J J J J Y261.h Sz30 2 J oM (G1 ?_)
 refine .and_u64 J J J (show Ai _ _=some (u64 2251799813685247)from rfl) (.i1 J J J J Y261.h Sz30 2 J oM (.s1 J J J J J Sz30 Z1 zW (by exact Bl _ _ _) zV ?_));refine G7 ?_;refine Df (SRounds.more (G6 ?_));refine .cond_t J (rfl) (G11 ?_);refine .draw (oPq [0,1,2,103,4,5,106,7,8,9,410]) Au zK (G2 ?_);refine .i1 J J J J Y261.h Sz30 4 J oM (G2 ?_);refine .i1 J J J J Y261.h Sz30 3 J oM (G1 ?_);refine .shr_u64 J J J J 51 J dE (G1 ?_);refine .i1 J J J J Y261.h Sz30 4 J oM (.s1 J J J J J Sz30 Z1 zW (by exact Bl _ _ _) zV ?_);refine G4 ?_;refine .i1 J J J J Y261.h Sz30 3 J oM (G1 ?_);refine .and_u64 J J J (show Ai _ _=some (u64 2251799813685247)from rfl) (.i1 J J J J Y261.h Sz30 3 J oM (.s1 J J J J J Sz30 Z1 zW (by exact Bl _ _ _) zV ?_));refine G7 ?_;refine Df (SRounds.more (G6 ?_));refine .cond_f J (rfl) (G7 ?_);refine .i1 J J J J Y261.h Sz30 4 J dE (G1 ?_);refine .and_u64 J J J (show Ai _ _=some (u64 2251799813685247)from rfl) (.i1 J J J J Y261.h Sz30 4 J dE (.s1 J J J J J Sz30 Z1 zW (by exact Bl _ _ _) zV ?_));refine G4 ?_;refine .alloc (cs:=(Aa (List.replicate 32 0))) J A9 J ?_;intro n6 aj ag;refine G3 ?_;refine .draw (oPq [0,1,102,3,104,5,6,407]) Au zK (.sliceArrLH 0 8 J J J J J J J dE dE dE Y184.h Sz5 (.i1 J J J J Y261.h Sz30 0 J dE (G1 ?_)));refine .i1 J J J J Y261.h Sz30 1 J dE (G1 ?_);refine .shl_u64 J J J J 51 J dE (G1 ?_);refine .callL (L:=[⟨n6,Aa (List.replicate 32 0),184,32⟩]) J J J J J Body248 (field_put n6 0 8 32 32 (List.replicate 32 0) ((stF w).a|||A7 (stF w).b 51) _ dE sP) (Ab rM Ad) (lent_ok J) (λw h=>Cd h Z0) ?_;rintro ah ac rfl;rw[set8_1];refine G3 ?_;refine .draw (oPq [0,1,102,3,4,105,6,7,408]) Au zK (.sliceArrLH 8 16 J J J J J J J dE dE dE Y184.h Sz5 (.i1 J J J J Y261.h Sz30 1 J dE (G1 ?_)));refine .shr_u64 J J J J 13 J dE (.i1 J J J J Y261.h Sz30 2 J dE (G1 ?_));refine .shl_u64 J J J J 38 J dE (G1 ?_);refine .callL (L:=[⟨n6,Aa (by8 ((stF w).a|||A7 (stF w).b 51)++List.replicate 24 0),184,32⟩]) J J J J J Body248 (field_put n6 8 8 24 32 (by8 ((stF w).a|||A7 (stF w).b 51)++List.replicate 24 0) (Az (stF w).b 13|||A7 (stF w).c 38) _ dE (by simp[by8_length])) (Ab rM Ad) (lent_ok J) (λw h=>Cd h Z0) ?_;rintro an aa rfl;rw[set8_2];refine G3 ?_;refine .draw (oPq [0,1,102,3,4,105,6,7,408]) Au zK (.sliceArrLH 16 24 J J J J J J J dE dE dE Y184.h Sz5 (.i1 J J J J Y261.h Sz30 2 J dE (G1 ?_)));refine .shr_u64 J J J J 26 J dE (.i1 J J J J Y261.h Sz30 3 J dE (G1 ?_));refine .shl_u64 J J J J 25 J dE (G1 ?_);refine .callL (L:=[⟨n6,Aa (by8 ((stF w).a|||A7 (stF w).b 51)++by8 (Az (stF w).b 13|||A7 (stF w).c 38)++List.replicate 16 0),184,32⟩]) J J J J J Body248 (field_put n6 16 8 16 32 (by8 ((stF w).a|||A7 (stF w).b 51)++by8 (Az (stF w).b 13|||A7 (stF w).c 38)++List.replicate 16 0) (Az (stF w).c 26|||A7 (stF w).d 25) _ dE (by simp[by8_length])) (Ab rM Ad) (lent_ok J) (λw h=>Cd h Z0) ?_;rintro v77 ad rfl;rw[set8_3];refine G3 ?_
 refine .draw (oPq [0,1,102,3,4,105,6,7,408]) Au zK (.sliceArrLH 24 32 J J J J J J J dE dE dE Y184.h Sz5 (.i1 J J J J Y261.h Sz30 3 J dE (G1 ?_)));refine .shr_u64 J J J J 39 J dE (.i1 J J J J Y261.h Sz30 4 J dE (G1 ?_));refine .shl_u64 J J J J 12 J dE (G1 ?_);refine .callL (L:=[⟨n6,Aa (by8 ((stF w).a|||A7 (stF w).b 51)++by8 (Az (stF w).b 13|||A7 (stF w).c 38)++by8 (Az (stF w).c 26|||A7 (stF w).d 25)++List.replicate 8 0),184,32⟩]) J J J J J Body248 (field_put n6 24 8 8 32 (by8 ((stF w).a|||A7 (stF w).b 51)++by8 (Az (stF w).b 13|||A7 (stF w).c 38)++by8 (Az (stF w).c 26|||A7 (stF w).d 25)++List.replicate 8 0) (Az (stF w).d 39|||A7 (stF w).e 12) _ dE (by simp[by8_length])) (Ab rM Ad) (lent_ok J) (λw h=>Cd h Z0) ?_;rintro am ab rfl;rw[set8_4];refine G4 ?_;refine .lA J J J Y184.h J Sz184 Z0 (by(simp[by8_length];done)) ?_;refine .sA J J J J zE Sz184 (by(simp[by8_length];done)) Z1 sP zV ?_;refine G2 ?_;refine G2 ?_;refine⟨_,[],Ax J J Y184.h J Sz184 Z1 (by simp[by8_length]),sP,sP,?_,rfl⟩;rw[fb_fe,<-store_eq,<-by8_store]
theorem field_Rest(a:List UInt8)(ha:a.length=32):Mv 244 [agg (Aa a)] (λ_=>True) (agg (Aa (fb (fe (le a))))):=by
 intro W hW;refine Ae func244 J 6 ntmps244 J (G3 ?_);intro n1 ad ab;refine .alloc (cs:=(Aa (List.replicate 32 0))) J A9 J ?_;intro n2 aa ac;refine G4 ?_;refine .lA J J J Y184.h J Sz184 Z1 (by(simp[ha];done)) ?_;refine .cV J J J J Body245 (field_load a ha) tV (.cV J J J J Body247 (field_store (ldN a)) tV (.sA J J J J zE Sz184 zF Z0 sP zU ?_));refine G2 ?_;refine G2 ?_;refine⟨_,[],Ax J J Y184.h J Sz184 Z0 (by simp[Aw]),sP,sP,?_,rfl⟩;rw[ldN_v ha]
theorem field_Canon(a:List UInt8)(ha:a.length=32):Mv 194 [agg (Aa a)] (λ_=>True) (.bool (decide (fb (fe (le a))=a))):=by
 intro W hW;refine Ae func194 J 7 ntmps194 J (G3 ?_);intro n1 ab aa;refine G4 ?_;refine .draw (oPq [100,102,301,3,4]) Au zK (.lA J J J Y184.h J Sz184 Z0 (by(simp[ha];done)) ?_);refine .lA J J J Y184.h J Sz184 Z0 (by(simp[ha];done)) ?_;refine .cV J J J J Body244 (field_Rest a ha) tV (.eql_bytes J J J J eqGuardType184 Y184.h Y5.h Sz5 zF (by(simp[ha];done)) J ?_);refine G3 ?_;refine G2 ?_;refine⟨_,[],Ag J J,sP,sP,?_,rfl⟩;rfl
theorem field_Same(a b:List UInt8)(ha:a.length=32)(hb:b.length=32):Mv 251 [agg (Aa a),agg (Aa b)] (λ_=>True) (.bool (decide (fe (le a)=fe (le b)))):=by
 intro W hW;refine Ae func251 J 10 ntmps251 J (G3 ?_);intro n2 aa ac;refine G1 ?_;intro n3 ad ab;refine G4 ?_;refine .draw (oPq [100,102,301,303,4,5]) Au zK (.lA J J J Y184.h J Sz184 Z1 (by(simp[ha];done)) ?_);refine .lA J J J Y184.h J Sz184 Z0 (by(simp[hb];done)) ?_;refine .cV J J J J Body244 (field_Rest a ha) tV (.cV J J J J Body244 (field_Rest b hb) tV (.eql_bytes J J J J eqGuardType184 Y184.h Y5.h Sz5 zF zF J (G3 ?_)));refine G2 ?_;refine⟨_,[],Ag J J,sP,sP,?_,rfl⟩;rw[fb_dec]
theorem field_Odd(a:List UInt8)(ha:a.length=32):Mv 252 [agg (Aa a)] (λ_=>True) (.bool (decide ((fe (le a)).val%2=1))):=by
 intro W hW;refine Ae func252 J 8 ntmps252 J (G3 ?_);intro n1 ab aa;refine G5 ?_;refine .lA J J J Y184.h J Sz184 Z0 (by(simp[ha];done)) ?_;refine .cV J J J J Body244 (field_Rest a ha) tV (.idxA1 J J J J Y184.h Sz5 Y5.h J 0 J oM (by rfl) ?_);refine .and_u8 J J J (show Ai _ _=some (u8 1)from rfl) (G4 ?_);refine G2 ?_;refine⟨_,[],Ag J J,sP,sP,?_,rfl⟩;exact congrArg Value.bool (odd_byte _)
structure PowS where
  k:Nat
  p:W5
  a:UInt64
  b:UInt64
  c:UInt64
  d:UInt64
theorem leb_small(x:UInt64):leb 8 x.toNat++List.replicate 24 0=leb 32 x.toNat:=by
  have h:=leb_split 24 8 x.toNat;rw[show x.toNat/256^8=0 from Lbn x.toNat_lt]at h;rw[show leb 24 0=List.replicate 24 0 from by decide]at h;exact h.symm
theorem field_Of(x:UInt64):Mv 197 [u64 x] (λ_=>True) (agg (Aa (fb (fe x.toNat)))):=by
 intro W hW;refine Ae func197 J 8 ntmps197 J (G2 ?_);refine .alloc (cs:=(Aa (List.replicate 32 0))) J A9 J ?_;intro n2 ab ad;refine G4 ?_;refine .alloc (cs:=(Aa (List.replicate 32 0))) J A9 J ?_;intro n3 ae ac;refine G4 ?_;refine .sliceArrHi 8 J J J J J dE dE Y184.h Sz5 (G1 ?_);refine .callL (L:=[⟨n3,Aa (List.replicate 32 0),184,32⟩]) J J J J J Body248 (field_put n3 0 8 32 32 (List.replicate 32 0) (x) _ dE sP) (Ab rM Ad) (lent_ok J) (λw h=>Cd h Z0) ?_;rintro v6 aa rfl;rw[set8_1];refine G4 ?_;refine .lA J J J Y184.h J Sz184 Z0 (by(simp[by8_length];done)) ?_;refine .sA J J J J zE Sz184 (by(simp[by8_length];done)) Z1 sP zV ?_;refine G2 ?_;refine G2 ?_;refine⟨_,[],Ax J J Y184.h J Sz184 Z1 (by simp[by8_length]),sP,sP,?_,rfl⟩;rw[fe_small,by8_eq];exact congrArg (λl=>agg (Aa l)) (leb_small x)
theorem field_Add(a b:List UInt8)(ha:a.length=32)(hb:b.length=32):Mv 198 [agg (Aa a),agg (Aa b)] (λ_=>True) (agg (Aa (fb (fe (le a)+fe (le b))))):=by
 intro W hW;refine Ae func198 J 26 ntmps198 J (G3 ?_);intro n2 aa ah;refine G1 ?_;intro n3 aj ac;refine .alloc (cs:=(Aa (List.replicate 32 0))) J A9 J ?_;intro n4 ai ad;refine G3 ?_;refine .draw (oPq [100,102,301,303,204,205,406,407]) Au zK (.lA J J J Y184.h J Sz184 Z2 (by(simp[ha];done)) ?_);refine .lA J J J Y184.h J Sz184 Z1 (by(simp[hb];done)) ?_;refine .cV J J J J Body245 (field_load a ha) tV (.cV J J J J Body245 (field_load b hb) tV (.alloc (cs:=(Aj (List.replicate 5 0))) J Zr261 J ?_));intro n5 ag ae;refine .alloc (cs:=(Aj (List.replicate 5 0))) J Zr261 J ?_;intro n6 ak ab;refine .sA J J J J zB Sz261 zW Z1 sP zV ?_;refine .sA J J J J zB Sz261 zW Z0 sP zU ?_;refine G9 ?_;refine .rounds 6 (SRounds.more (G6 ?_));refine .cond_t J (rfl) (G10 ?_);refine .draw (oPq [0,1,102,3,4,105,6,7,408]) Au zK (G1 ?_);refine .i1 J J J J Y261.h Sz30 0 J oM (G2 ?_);refine .i1 J J J J Y261.h Sz30 0 J oM (G2 ?_);refine .i1 J J J J Y261.h Sz30 0 J oM (.s1 J J J J J Sz30 Z1 zW (by exact Bl _ _ _) zV ?_);refine G7 ?_;refine Df (SRounds.more (G6 ?_));refine .cond_t J (rfl) (G10 ?_);refine .draw (oPq [0,1,102,3,4,105,6,7,408]) Au zK (G1 ?_);refine .i1 J J J J Y261.h Sz30 1 J oM (G2 ?_);refine .i1 J J J J Y261.h Sz30 1 J oM (G2 ?_);refine .i1 J J J J Y261.h Sz30 1 J oM (.s1 J J J J J Sz30 Z1 zW (by exact Bl _ _ _) zV ?_);refine G7 ?_;refine Df (SRounds.more (G6 ?_));refine .cond_t J (rfl) (G10 ?_);refine .draw (oPq [0,1,102,3,4,105,6,7,408]) Au zK (G1 ?_);refine .i1 J J J J Y261.h Sz30 2 J oM (G2 ?_);refine .i1 J J J J Y261.h Sz30 2 J oM (G2 ?_);refine .i1 J J J J Y261.h Sz30 2 J oM (.s1 J J J J J Sz30 Z1 zW (by exact Bl _ _ _) zV ?_);refine G7 ?_;refine Df (SRounds.more (G6 ?_));refine .cond_t J (rfl) (G10 ?_);refine .draw (oPq [0,1,102,3,4,105,6,7,408]) Au zK (G1 ?_);refine .i1 J J J J Y261.h Sz30 3 J oM (G2 ?_);refine .i1 J J J J Y261.h Sz30 3 J oM (G2 ?_);refine .i1 J J J J Y261.h Sz30 3 J oM (.s1 J J J J J Sz30 Z1 zW (by exact Bl _ _ _) zV ?_);refine G7 ?_;refine Df (SRounds.more (G6 ?_));refine .cond_t J (rfl) (G10 ?_);refine .draw (oPq [0,1,102,3,4,105,6,7,408]) Au zK (G1 ?_);refine .i1 J J J J Y261.h Sz30 4 J oM (G2 ?_);refine .i1 J J J J Y261.h Sz30 4 J oM (G2 ?_);refine .i1 J J J J Y261.h Sz30 4 J oM (.s1 J J J J J Sz30 Z1 zW (by exact Bl _ _ _) zV ?_);refine G7 ?_;refine Df (SRounds.more (G6 ?_));refine .cond_f J (rfl) (G8 ?_);refine .cV J J J J Body247 (field_store (addF (ldN a) (ldN b))) tV (.sA J J J J zE Sz184 zF Z2 sP (by exact upd2) ?_);refine G2 ?_;refine G2 ?_;refine⟨_,[],Ax J J Y184.h J Sz184 Z2 (by simp[Aw]),sP,sP,?_,rfl⟩;rw[addF_fe ha hb]
theorem field_Sub(a b:List UInt8)(ha:a.length=32)(hb:b.length=32):Mv 196 [agg (Aa a),agg (Aa b)] (λ_=>True) (agg (Aa (fb (fe (le a)-fe (le b))))):=by
 intro W hW;refine Ae func196 J 34 ntmps196 J (G3 ?_);intro n2 aa ah;refine G1 ?_;intro n3 aj ac;refine .alloc (cs:=(Aa (List.replicate 32 0))) J A9 J ?_;intro n4 ai ad;refine G3 ?_;refine .draw (oPq [100,102,301,303,204,205,406,407]) Au zK (.lA J J J Y184.h J Sz184 Z2 (by(simp[ha];done)) ?_);refine .lA J J J Y184.h J Sz184 Z1 (by(simp[hb];done)) ?_;refine .cV J J J J Body245 (field_load a ha) tV (.cV J J J J Body245 (field_load b hb) tV (.alloc (cs:=(Aj (List.replicate 5 0))) J Zr261 J ?_));intro n5 ag ae;refine .alloc (cs:=(Aj (List.replicate 5 0))) J Zr261 J ?_;intro n6 ak ab;refine .sA J J J J zB Sz261 zW Z1 sP zV ?_;refine .sA J J J J zB Sz261 zW Z0 sP zU ?_;refine G4 ?_;refine .i1 J J J J Y261.h Sz30 0 J dE (G1 ?_);refine .i1 J J J J Y261.h Sz30 0 J dE (G1 ?_);refine .sub_u64 J J (show Ai _ _=some (u64 9007199254740916)from rfl) J (G1 ?_);refine .i1 J J J J Y261.h Sz30 0 J dE (.s1 J J J J J Sz30 Z1 zW (by exact Bl _ _ _) zV ?_);refine G9 ?_;refine .rounds 5 (SRounds.more (G7 ?_));refine .cond_t J (rfl) (G4 ?_);refine .draw (oPq [0,1,102,3,4,105,6,7,8,409]) Au zK (G1 ?_);refine .i1 J J J J Y261.h Sz30 1 J oM (G2 ?_);refine .i1 J J J J Y261.h Sz30 1 J oM (G1 ?_);refine .sub_u64 J J (show Ai _ _=some (u64 9007199254740988)from rfl) J (G1 ?_);refine .i1 J J J J Y261.h Sz30 1 J oM (.s1 J J J J J Sz30 Z1 zW (by exact Bl _ _ _) zV ?_);refine G8 ?_;refine Df (SRounds.more (G7 ?_));refine .cond_t J (rfl) (G4 ?_);refine .draw (oPq [0,1,102,3,4,105,6,7,8,409]) Au zK (G1 ?_);refine .i1 J J J J Y261.h Sz30 2 J oM (G2 ?_);refine .i1 J J J J Y261.h Sz30 2 J oM (G1 ?_);refine .sub_u64 J J (show Ai _ _=some (u64 9007199254740988)from rfl) J (G1 ?_);refine .i1 J J J J Y261.h Sz30 2 J oM (.s1 J J J J J Sz30 Z1 zW (by exact Bl _ _ _) zV ?_);refine G8 ?_;refine Df (SRounds.more (G7 ?_));refine .cond_t J (rfl) (G4 ?_);refine .draw (oPq [0,1,102,3,4,105,6,7,8,409]) Au zK (G1 ?_);refine .i1 J J J J Y261.h Sz30 3 J oM (G2 ?_);refine .i1 J J J J Y261.h Sz30 3 J oM (G1 ?_);refine .sub_u64 J J (show Ai _ _=some (u64 9007199254740988)from rfl) J (G1 ?_);refine .i1 J J J J Y261.h Sz30 3 J oM (.s1 J J J J J Sz30 Z1 zW (by exact Bl _ _ _) zV ?_);refine G8 ?_;refine Df (SRounds.more (G7 ?_));refine .cond_t J (rfl) (G4 ?_);refine .draw (oPq [0,1,102,3,4,105,6,7,8,409]) Au zK (G1 ?_);refine .i1 J J J J Y261.h Sz30 4 J oM (G2 ?_);refine .i1 J J J J Y261.h Sz30 4 J oM (G1 ?_);refine .sub_u64 J J (show Ai _ _=some (u64 9007199254740988)from rfl) J (G1 ?_);refine .i1 J J J J Y261.h Sz30 4 J oM (.s1 J J J J J Sz30 Z1 zW (by exact Bl _ _ _) zV ?_);refine G8 ?_;refine Df (SRounds.more (G7 ?_));refine .cond_f J (rfl) (G7 ?_);refine .lA J J J Y261.h J Sz261 Z1 (by rfl) ?_;refine .cV J J J J Body247 (field_store (subF (ldN a) (ldN b))) tV (.sA J J J J zE Sz184 zF Z2 sP (by exact upd2) ?_);refine G2 ?_;refine G2 ?_;refine⟨_,[],Ax J J Y184.h J Sz184 Z2 (by simp[Aw]),sP,sP,?_,rfl⟩;rw[subL_fe ha hb]
theorem field_Neg(a:List UInt8)(ha:a.length=32):Mv 202 [agg (Aa a)] (λ_=>True) (agg (Aa (fb (-fe (le a))))):=by
 intro W hW;refine Ae func202 J 6 ntmps202 J (G3 ?_);intro n1 ad ab;refine .alloc (cs:=(Aa (List.replicate 32 0))) J A9 J ?_;intro n2 aa ac;refine G4 ?_;refine .build (cs:=Aa (List.replicate 32 0)) J J J (λw=>by kernel_rfl) ?_;refine .lA J J J Y184.h J Sz184 Z1 (by(simp[ha];done)) ?_;refine .cV J J J J Body196 (field_Sub (List.replicate 32 0) a J ha) tV (.sA J J J J zE Sz184 zF Z0 sP zU ?_);refine G2 ?_;refine G2 ?_;refine⟨_,[],Ax J J Y184.h J Sz184 Z0 (by simp[Aw]),sP,sP,?_,rfl⟩;rw[show fe (le (List.replicate 32 0))-fe (le a)= -fe (le a)from by rw[show fe (le (List.replicate 32 0))=0 by kernel_rfl];grind]
theorem field_Mul(a b:List UInt8)(ha:a.length=32)(hb:b.length=32):Mv 195 [agg (Aa a),agg (Aa b)] (λ_=>True) (agg (Aa (fb (fe (le a)*fe (le b))))):=by
 intro W hW;refine Ae func195 J 13 ntmps195 J (G3 ?_);intro n2 aa ai;refine G1 ?_;intro n3 ak ac;refine .alloc (cs:=(Aa (List.replicate 32 0))) J A9 J ?_;intro n4 aj ae;refine G3 ?_;refine .draw (oPq [100,102,301,303,204,205,406,407]) Au zK (.lA J J J Y184.h J Sz184 Z2 (by(simp[ha];done)) ?_);refine .lA J J J Y184.h J Sz184 Z1 (by(simp[hb];done)) ?_;refine .cV J J J J Body245 (field_load a ha) tV (.cV J J J J Body245 (field_load b hb) tV (.alloc (cs:=(Aj (List.replicate 5 0))) J Zr261 J ?_));intro n5 ah ag;refine .alloc (cs:=(Aj (List.replicate 5 0))) J Zr261 J ?_;intro n6 ad ab;refine .sA J J J J zB Sz261 zW Z1 sP zV ?_;refine .sA J J J J zB Sz261 zW Z0 sP zU ?_;refine G4 ?_;refine .cV J J J J Body246 (field_product n5 n6 (ldN a) (ldN b)) (λw h=>⟨Ar h Z1,Ar h Z0⟩) ?_;refine .cV J J J J Body247 (field_store (mulF (ldN a) (ldN b))) tV (.sA J J J J zE Sz184 zF Z2 sP (by exact upd2) ?_);refine G2 ?_;refine G2 ?_;refine⟨_,[],Ax J J Y184.h J Sz184 Z2 (by simp[Aw]),sP,sP,?_,rfl⟩;rw[mulL_fe ha hb]
theorem field_shifted(a b c d:UInt64):Mv 278 [agg (Aj [a,b,c,d])] (λ_=>True) (agg (Aj [A7 a 1,A7 b 1|||Az a 63,A7 c 1|||Az b 63,A7 d 1|||Az c 63])):=by
 intro W hW;refine Ae func278 J 25 ntmps278 J (G3 ?_);intro n1 ad ab;refine .alloc (cs:=(Aj (List.replicate 4 0))) J Zr216 J ?_;intro n2 aa ac;refine G9 ?_;refine .rounds 4 (SRounds.more (G7 ?_));refine .cond_t J (rfl) (G4 ?_);refine .draw (oPq [0,1,2,103,4,5,6,7,108,9,10,11,412]) Au zK (G2 ?_);refine .i1 J J J J Y216 Sz30 3 J oM (G1 ?_);refine .shl_u64 J J J J 1 J dE (G2 ?_);refine .i1 J J J J Y216 Sz30 2 J oM (G1 ?_);refine .shr_u64 J J J J 63 J dE (G1 ?_);refine .i1 J J J J Y216 Sz30 3 J oM (.s1 J J J J J Sz30 Z1 sP (by exact Bl _ _ _) zV ?_);refine G8 ?_;refine Df (SRounds.more (G7 ?_));refine .cond_t J (rfl) (G4 ?_);refine .draw (oPq [0,1,2,103,4,5,6,7,108,9,10,11,412]) Au zK (G2 ?_);refine .i1 J J J J Y216 Sz30 2 J oM (G1 ?_);refine .shl_u64 J J J J 1 J dE (G2 ?_);refine .i1 J J J J Y216 Sz30 1 J oM (G1 ?_);refine .shr_u64 J J J J 63 J dE (G1 ?_);refine .i1 J J J J Y216 Sz30 2 J oM (.s1 J J J J J Sz30 Z1 sP (by exact Bl _ _ _) zV ?_);refine G8 ?_;refine Df (SRounds.more (G7 ?_));refine .cond_t J (rfl) (G4 ?_);refine .draw (oPq [0,1,2,103,4,5,6,7,108,9,10,11,412]) Au zK (G2 ?_);refine .i1 J J J J Y216 Sz30 1 J oM (G1 ?_);refine .shl_u64 J J J J 1 J dE (G2 ?_);refine .i1 J J J J Y216 Sz30 0 J oM (G1 ?_);refine .shr_u64 J J J J 63 J dE (G1 ?_);refine .i1 J J J J Y216 Sz30 1 J oM (.s1 J J J J J Sz30 Z1 sP (by exact Bl _ _ _) zV ?_);refine G8 ?_;refine Df (SRounds.more (G7 ?_));refine .cond_f J (rfl) (G7 ?_);refine .i1 J J J J Y216 Sz30 0 J dE (G1 ?_);refine .shl_u64 J J J J 1 J dE (.i1 J J J J Y216 Sz30 0 J dE (.s1 J J J J J Sz30 Z1 sP (by exact Bl _ _ _) zV ?_));refine G4 ?_;refine .lA J J J Y216 J Sz216 Z1 sP ?_;refine .sA J J J J zB Sz216 sP Z0 sP zU ?_;refine G2 ?_;refine G2 ?_;refine⟨_,[],Ax J J Y216 J Sz216 Z0 sP,sP,sP,?_,rfl⟩;rfl
theorem field_ones(f l:UInt8):Mv 250 [u8 f,u8 l] (λ_=>True) (agg (Aa (onesB f l))):=by
 intro W hW;refine Ae func250 J 18 ntmps250 J (G2 ?_);refine .alloc (cs:=(Aa (List.replicate 32 0))) J A9 J ?_;intro n4 ag ac;refine G4 ?_;refine .alloc (cs:=(Aa (List.replicate 32 0))) J A9 J ?_;intro n5 ae ad;refine G9 ?_;refine .loop (ι:=Nat) (λk=>⟨[(0,u8 f),(1,u8 l),(4,ptr n4 0),(5,ptr n5 0),(7,i64 (k:Int))],[⟨n5,Aa (List.replicate k 255++List.replicate (32-k) 0),184,32⟩,⟨n4,Aa (List.replicate 32 0),184,32⟩]⟩) (λk=>k<=32) (λk=>32-k) (0) ?_ ?_ ?_
 .omega
 .exact Ah wN (wh1 Z0 (wh1 Z1 wh0)) nD
 rintro k hi;refine G6 ?_;refine .condP J (λab=>?_) (λab=>?_)
 ·
  have aa:k<32:=by omega
  refine G12 ?_;refine .i1 J J J J Y184.h Sz5 _ J oM (.s1 J J J (show Ai _ _=some (u8 255)from rfl) J Sz5 Z0 (by(simp;omega)) (by exact Bo _ _ _) zU ?_);refine G8 ?_;exact⟨k+1,by omega,by omega,Ah wN (wh1 (by rw[<-ones_step aa];exact Cf) (wh1 Z1 wh0)) nD⟩
 obtain rfl:k=32:=by omega
 rw[show((List.replicate 32 255++List.replicate (32-32) 0):List UInt8)=List.replicate 32 255 from rfl];refine G9 ?_;refine .i1 J J J J Y184.h Sz5 0 J dE (.s1 J J J J J Sz5 Z0 sP (by exact Bo _ _ _) zU ?_);refine .i1 J J J J Y184.h Sz5 31 J dE (.s1 J J J J J Sz5 Z0 sP (by exact Bo _ _ _) zU ?_);refine G4 ?_;refine .lA J J J Y184.h J Sz184 Z0 sP ?_;refine .sA J J J J zE Sz184 sP Z1 sP zV ?_;refine G2 ?_;refine G2 ?_;refine⟨_,[],Ax J J Y184.h J Sz184 Z1 sP,sP,sP,?_,rfl⟩;rfl
theorem field_Pow(a e:List UInt8)(ha:a.length=32)(he:e.length=32):Mv 249 [agg (Aa a),agg (Aa e)] (λ_=>True) (agg (Aa (fb (Cy (fe (le a)) (le e))))):=by
 intro W hW;have hE:le e<2^256:=le32 he;have ag:(ldN a).fit:=(ldN_lt a).fit;have ae:fe (ldN a).v=fe (le a):=by rw[ldN_v ha]
 refine Ae func249 J 26 ntmps249 J (G3 ?_);intro n2 aj ao;refine G1 ?_;intro n3 ap au;refine .alloc (cs:=(Aa (List.replicate 32 0))) J A9 J ?_;intro n4 ax aw;refine G3 ?_;refine .draw (oPq [100,102,4,301,303,205,206,207,408,409,410]) Au zK (.lA J J J Y184.h J Sz184 Z2 (by(simp[ha];done)) ?_);refine .lA J J J Y184.h J Sz184 Z1 (by(simp[he];done)) ?_;refine .build (cs:=Aj (⟨1,0,0,0,0⟩:W5).l) J J J (λw=>by kernel_rfl) ?_;refine .cV J J J J Body245 (field_load a ha) tV (.cV J J J J Body274 (field_quarters e he) tV (.alloc (cs:=(Aj (List.replicate 5 0))) J Zr261 J ?_));intro n5 an am;refine .alloc (cs:=(Aj (List.replicate 4 0))) J Zr216 J ?_;intro n6 ay ar;refine .alloc (cs:=(Aj (List.replicate 5 0))) J Zr261 J ?_;intro n7 aq av;refine .sA J J J J zB Sz261 zW Z2 sP (by exact upd2) ?_;refine .sA J J J J zB Sz216 sP Z1 sP zV ?_;refine .sA J J J J zB Sz261 zW Z0 sP zU ?_;refine G9 ?_;refine .loop (ι:=PowS) (λs=>⟨[(4,ptr n4 0),(5,ptr n5 0),(6,ptr n6 0),(7,ptr n7 0),(13,i64 (s.k:Int))],[⟨n7,Aj s.p.l,261,5⟩,⟨n6,Aj [s.a,s.b,s.c,s.d],216,4⟩,⟨n5,Aj (ldN a).l,261,5⟩,⟨n4,Aa (List.replicate 32 0),184,32⟩]⟩) (λs=>PowI (le e) (fe (le a)) s.k s.p s.a s.b s.c s.d) (λs=>256-s.k) (⟨0,⟨1,0,0,0,0⟩,qw e 0,qw e 1,qw e 2,qw e 3⟩) ?_ ?_ ?_
 .exact PowI.first he _
 .exact Ah wN (wh1 Z0 (wh1 Z1 (wh1 Z2 (wh1 Z3 wh0)))) nD
 rintro s hs;have ak:=hs.le;refine G6 ?_;refine .condP J (λai=>?_) (λai=>?_)
 ·
  have ab:s.k<256:=by omega
  refine G6 ?_;refine .cV J J J J Body246 (field_product n7 n7 s.p s.p) (λw h=>⟨Ar h Z0,Ar h Z0⟩) ?_;refine G3 ?_;refine .join (ι:=W5) (λu=>⟨[(4,ptr n4 0),(5,ptr n5 0),(6,ptr n6 0),(7,ptr n7 0),(13,i64 (s.k:Int))],[⟨n7,Aj u.l,261,5⟩,⟨n6,Aj [s.a,s.b,s.c,s.d],216,4⟩,⟨n5,Aj (ldN a).l,261,5⟩,⟨n4,Aa (List.replicate 32 0),184,32⟩]⟩) (λu=>PowI (le e) (fe (le a)) (s.k+1) u (A7 s.a 1) (A7 s.b 1|||Az s.a 63) (A7 s.c 1|||Az s.b 63) (A7 s.d 1|||Az s.c 63)) ?_ ?_
  ·
   refine G2 ?_;refine .i1 J J J J Y216 Sz30 3 J dE (G1 ?_);refine .shr_u64 J J J J 63 J dE (G3 ?_);refine .condP J (λah=>?_) (λah=>?_)
   ·
    have aa:(Az s.d 63).toNat=1:=by omega
    refine .region (.cV J J J J Body246 (field_product n7 n5 (mulF s.p s.p) (ldN a)) (λw h=>⟨Ar h Z0,Ar h Z2⟩) ?_);refine G3 ?_;exact⟨mulF (mulF s.p s.p) (ldN a),hs.odd hE ab ag ae aa,Ah wN (wh1 Z0 (wh1 Z1 (wh1 Z2 (wh1 Z3 wh0)))) nD⟩
   have aa:¬(Az s.d 63).toNat=1:=by omega
   refine G2 ?_;exact⟨mulF s.p s.p,hs.even hE ab aa,Ah wN (wh1 Z0 (wh1 Z1 (wh1 Z2 (wh1 Z3 wh0)))) nD⟩
  intro u hj;have hu:=hj;refine .region (.lA J J J Y216 J Sz216 Z1 sP ?_);refine .cV J J J J Body278 (field_shifted s.a s.b s.c s.d) tV (.sA J J J J zB Sz216 sP Z1 sP zV ?_);refine G8 ?_;exact⟨⟨s.k+1,u,_,_,_,_⟩,hu,by simp only[];omega,Ah wN (wh1 Z0 (wh1 Z1 (wh1 Z2 (wh1 Z3 wh0)))) nD⟩
 have ad:s.k=256:=by omega
 have ac:fe s.p.v=Cy (fe (le a)) (le e):=by rw[ad]at hs;exact hs.last
 refine G8 ?_;refine .cV J J J J Body247 (field_store s.p) tV (.sA J J J J zE Sz184 zF Z3 sP (by exact upd3) ?_);refine G2 ?_;refine G2 ?_;refine⟨_,[],Ax J J Y184.h J Sz184 Z3 (by simp[Aw]),sP,sP,?_,rfl⟩;rw[ac]
theorem field_Inv(a:List UInt8)(ha:a.length=32):Mv 201 [agg (Aa a)] (λ_=>True) (agg (Aa (fb (finv (fe (le a)))))):=by
 intro W hW;refine Ae func201 J 6 ntmps201 J (G3 ?_);intro n1 ad ab;refine .alloc (cs:=(Aa (List.replicate 32 0))) J A9 J ?_;intro n2 aa ac;refine G3 ?_;refine .draw (oPq [100,301,302,403]) Au zK (.lA J J J Y184.h J Sz184 Z1 (by(simp[ha];done)) ?_);refine .cV J J J J Body250 (field_ones 235 127) tV (.cV J J J J Body249 (field_Pow a (onesB 235 127) ha (onesB_length _ _)) tV (.sA J J J J zE Sz184 zF Z0 sP zU ?_));refine G2 ?_;refine G2 ?_;refine⟨_,[],Ax J J Y184.h J Sz184 Z0 (by simp[Aw]),sP,sP,?_,rfl⟩;rw[ones_inv];rfl
theorem f_mul(x y:Fp):Mv 195 [agg (Aa (fb x)),agg (Aa (fb y))] (λ_=>True) (agg (Aa (fb (x*y)))):=by
  have h:=field_Mul (fb x) (fb y) (Aw x) (Aw y);rwa[fe_fb x,fe_fb y]at h
theorem f_add(x y:Fp):Mv 198 [agg (Aa (fb x)),agg (Aa (fb y))] (λ_=>True) (agg (Aa (fb (x+y)))):=by
  have h:=field_Add (fb x) (fb y) (Aw x) (Aw y);rwa[fe_fb x,fe_fb y]at h
theorem f_sub(x y:Fp):Mv 196 [agg (Aa (fb x)),agg (Aa (fb y))] (λ_=>True) (agg (Aa (fb (x-y)))):=by
  have h:=field_Sub (fb x) (fb y) (Aw x) (Aw y);rwa[fe_fb x,fe_fb y]at h
theorem f_neg(x:Fp):Mv 202 [agg (Aa (fb x))] (λ_=>True) (agg (Aa (fb (-x)))):=by
  have h:=field_Neg (fb x) (Aw x);rwa[fe_fb x]at h
theorem f_inv(x:Fp):Mv 201 [agg (Aa (fb x))] (λ_=>True) (agg (Aa (fb (finv x)))):=by
  have h:=field_Inv (fb x) (Aw x);rwa[fe_fb x]at h
theorem f_odd(x:Fp):Mv 252 [agg (Aa (fb x))] (λ_=>True) (.bool (decide (x.val%2=1))):=by
  have h:=field_Odd (fb x) (Aw x);rwa[fe_fb x]at h
theorem f_same_raw(x:Fp)(a:List UInt8)(ha:a.length=32):Mv 251 [agg (Aa (fb x)),agg (Aa a)] (λ_=>True) (.bool (decide (x=fe (le a)))):=by
  have h:=field_Same (fb x) a (Aw x) ha;rwa[fe_fb x]at h
theorem f_pow_root(a:List UInt8)(ha:a.length=32):Mv 249 [agg (Aa a),agg (Aa (onesB 254 15))] (λ_=>True) (agg (Aa (fb (Cy (fe (le a)) ((PF+3)/8))))):=by
  have h:=field_Pow a (onesB 254 15) ha (onesB_length _ _);rwa[ones_root]at h
theorem f_pow_unit:Mv 249 [agg (Aa (fb (fe (2:UInt64).toNat))),agg (Aa (onesB 251 31))] (λ_=>True) (agg (Aa (fb (Cy (fe 2) ((PF-1)/4))))):=by
  have h:=field_Pow (fb (fe (2:UInt64).toNat)) (onesB 251 31) (Aw _) (onesB_length _ _);rwa[ones_unit,fe_fb]at h
theorem f_one:Mv 197 [u64 1] (λ_=>True) (agg (Aa (fb 1))):=by
  have h:=field_Of 1;rwa[show fe (1:UInt64).toNat=1 from rfl]at h
theorem field_Root(a:List UInt8)(X:Fp)(ha:a.length=32)(hX:fe (le a)=X):Mv 200 [agg (Aa a)] (λ_=>True) (.tuple #[agg (Aa (fb (fRoot X).1)), .bool (fRoot X).2]):=by
 intro W hW;obtain⟨r0,ah⟩:∃r,Cy X ((PF+3)/8)=r:=⟨_,rfl⟩;obtain⟨un,ag⟩:∃r,Cy (fe 2) ((PF-1)/4)=r:=⟨_,rfl⟩;obtain⟨r1,ac⟩:∃r,fRoot1 X=r:=⟨_,rfl⟩;have hp0:=f_pow_root a ha;have ai:=f_pow_unit;rw[hX,ah]at hp0;rw[ag]at ai;have hm:=λy=>f_same_raw y a ha;rw[hX]at hm;have aa:r1=if r0*r0=X then r0 else r0*un:=by rw[<-ac,fRoot1,ah,ag]
 have hR:fRoot X=if r1*r1=X then((if r1.val%2=1 then-r1 else r1),true)else(0,false):=by rw[fRoot,ac]
 clear ac;refine Ae func200 J 31 ntmps200 J (G3 ?_);intro n1 ak am;refine .alloc (cs:=(Aa (List.replicate 32 0))) J A9 J ?_;intro n2 aj an;refine G4 ?_;refine .draw (oPq [100,301,302,203,404]) Au zK (.lA J J J Y184.h J Sz184 Z1 (by(simp[ha];done)) ?_);refine .cV J J J J Body250 (field_ones 254 15) tV (.cV J J J J Body249 (hp0) tV (.alloc (cs:=(Aa (List.replicate 32 0))) J A9 J ?_));intro n4 ap ao;refine .sA J J J J zE Sz184 zF Z0 sP zU ?_;refine G2 ?_;refine .join (ι:=Unit) (λ_u=>⟨[(1,ptr n1 0),(2,ptr n2 0),(4,ptr n4 0)],[⟨n4,Aa (fb r1),184,32⟩,⟨n2,Aa (List.replicate 32 0),184,32⟩,⟨n1,Aa a,184,(Aa a).length⟩]⟩) (λ_u=>True) ?_ ?_
 ·
  refine .seq (.draw (oPq [100,101,103,302,304,5]) Au zK (G2 ?_));refine .lA J J J Y184.h J Sz184 Z2 (by(simp[ha];done)) ?_;refine .cV J J J J Cp (f_mul r0 r0) tV (.cV J J J J Body251 (hm (r0*r0)) tV (G3 ?_));refine .condNP J (λae=>?_) (λae=>?_)
  ·
   refine .draw (oPq [100,301,302,303,304,405]) Au zK (G1 ?_);refine .cV J J J J Body197 (field_Of 2) tV (.cV J J J J Body250 (field_ones 251 31) tV (.cV J J J J Body249 (ai) tV (.cV J J J J Cp (f_mul r0 un) tV (G3 ?_))))
   (rw[aa,if_neg ae];exact⟨(),trivial,Ah wN (wh1 Z0 (wh1 Z1 (wh1 Z2 wh0))) nD⟩)
  refine G2 ?_
  (rw[aa,if_pos ae];exact⟨(),trivial,Ah wN (wh1 Z0 (wh1 Z1 (wh1 Z2 wh0))) nD⟩)
 intro _u hj;skip;refine G2 ?_;refine .draw (oPq [100,101,103,302,304,5]) Au zK (G2 ?_);refine .lA J J J Y184.h J Sz184 Z2 (by(simp[ha];done)) ?_;refine .cV J J J J Cp (f_mul r1 r1) tV (.cV J J J J Body251 (hm (r1*r1)) tV (G3 ?_));refine .condNP J (λad=>?_) (λad=>?_)
 ·
  refine G2 ?_;refine .build (cs:=Aa (List.replicate 32 0)) J J J (λw=>by kernel_rfl) ?_;refine .sA J J J J zE Sz184 sP Z1 sP zV ?_;refine G3 ?_;refine G3 ?_;refine⟨_,[],Bg J J J Y184.h J Sz184 Z1 sP,sP,sP,?_,rfl⟩
  (rw[hR,if_neg ad,fb_zero];done)
 refine G2 ?_;refine .join (ι:=Unit) (λ_u=>⟨[(2,ptr n2 0),(4,ptr n4 0)],[⟨n4,Aa (fb (if r1.val%2=1 then-r1 else r1)),184,32⟩,⟨n2,Aa (List.replicate 32 0),184,32⟩]⟩) (λ_u=>True) ?_ ?_
 ·
  refine G3 ?_;refine .cV J J J J Body252 (f_odd r1) tV (G2 ?_);refine .condP J (λab=>?_) (λab=>?_)
  ·
   refine G2 ?_;refine .cV J J J J Body202 (f_neg r1) tV (G3 ?_)
   (rw[if_pos ab];exact⟨(),trivial,Ah wN (wh1 Z0 (wh1 Z1 wh0)) nD⟩)
  refine G2 ?_
  (rw[if_neg ab];exact⟨(),trivial,Ah wN (wh1 Z0 (wh1 Z1 wh0)) nD⟩)
 intro _u hj;skip;refine G3 ?_;refine .sA J J J J zE Sz184 zF Z1 sP zV ?_;refine G3 ?_;refine G2 ?_;refine⟨_,[],Bg J J J Y184.h J Sz184 Z1 (by simp[Aw]),sP,sP,?_,rfl⟩
 (rw[hR,if_pos ad];done)
end Go.Proofs.YtbdfihcjddbhaaaGreat
namespace Go.Proofs.YtbdfihcjddbhaaaGreat
open Go Hw _root_.Go.Proofs.Tryz
theorem scalar_canon(a:List UInt8)(ha:a.length=32):Mv 155 [agg (Aa a)] (λ_=>True) (.bool (decide (le a<L))):=by
 intro W hW;refine Ae func155 J 7 ntmps155 J (G3 ?_);intro n1 ab aa;refine G5 ?_;refine .lA J J J Y184.h J Sz184 Z0 (by(simp[ha];done)) ?_;refine .cV J J J J Body191 (scalar_load_n _ (by simp[ha])) tV ?_;refine .cV J J J J Body193 (scalar_modulus_n) tV (.cV J J J J Body192 (scalar_below_n _ _ (le32 ha) L_lt) tV (G3 ?_));refine G2 ?_;refine⟨_,[],Ag J J,sP,sP,?_,rfl⟩;rfl
theorem scalar_rest(b o c n:Nat)(xs:List UInt8)(hx:xs.length=n)(hn:n<=64):Mv 211 [.slice (some ⟨b,o,none⟩) n c] (λW=>Dd W b o (Aa xs)) (.tuple #[agg (Aa (leb 32 (le xs%L))),i64 0]):=by
 intro W hW;refine Ae func211 J 34 ntmps211 J (G2 ?_);refine .alloc (cs:=(Aa (List.replicate 32 0))) J A9 J ?_;intro n2 ab ad;refine G8 ?_;refine .gtr J J J J (decide_eq_false oM) (G2 ?_);refine .cond_f J (rfl) (G4 ?_);refine .alloc (cs:=(Aj (List.replicate 8 0))) J Zr160 J ?_;intro n4 ae ac;refine G11 ?_;refine .loop (ι:=Nat) (λk=>⟨[(2,ptr n2 0),(4,ptr n4 0),(11, .slice (some ⟨b,o,none⟩) n c),(12,i64 (n:Int)),(13,i64 (k:Int))],[⟨n4,Aj (words8 (le (xs.take k))),160,8⟩,⟨n2,Aa (List.replicate 32 0),184,32⟩]⟩) (λk=>k<=n) (λk=>n-k) (0) ?_ ?_ ?_
 .omega
 .exact Ah wN (wh1 (by rw[Ld8,show le []=0 from rfl,words8_zero];exact Cf) (wh1 Z1 wh0)) nD
 rintro k hi;refine G6 ?_;refine .condP J (λaa=>?_) (λaa=>?_)
 ·
  refine G7 ?_;refine .idxSlO J J J J Y33.h Sz5 _ J oM (.loadE J J J Y5.h J sP (hW _ _ (get_bytes oM)) (G4 ?_));refine .draw (oPq [0,1,2,3,104,5,6,7,8,9,10,11,12,413]) Au zK (G1 ?_);refine .quo_i64 J J J J oM (G1 ?_);refine .i1 J J J J Y160.h Sz30 (7-k/8) oM oM (.load1 J J J Y30.h J Z0 (by exact get_words (by(simp[words8_length];omega))) ?_);refine G3 ?_;refine .rem_i64 J J J J oM (.mul_i64 J J J J oM (.shl_u64 J J J J (8*(k%8)) oM oM (G1 ?_)));refine .i1 J J J J Y160.h Sz30 (7-k/8) oM oM (.s1 J J J J J Sz30 Z0 (by(simp[words8_length];omega)) (by exact Bl _ _ _) zU ?_);refine G8 ?_;exact⟨k+1,by omega,by omega,Ah wN (wh1 (by rw[le_take_succ xs k oM,words8_step _ _ _ (le_take_lt xs k) oM];exact Cf) (wh1 Z1 wh0)) nD⟩
 obtain rfl:k=n:=by omega
 refine G8 ?_;refine .cV J J J J Body254 (scalar_residue _ _ _ 8 (words8 (le (xs.take k))) J oM) (λW h=>Ar h Z0) ?_;refine .sA J J J J zB Sz184 (by(simp[Am];done)) Z1 sP zV ?_;refine G3 ?_;refine G2 ?_;refine⟨_,[],Bg J J J Y184.h J Sz184 Z1 (by simp[Am]),sP,sP,?_,rfl⟩;rw[wv_words8 (take_512 xs k oM),La5 oM]
theorem scalar_bit_at(a:List UInt8)(ha:a.length=32)(k:Nat)(hk:k<256):Mv 208 [agg (Aa a),i64 (k:Int)] (λ_=>True) (.bool ((le a).testBit k)):=by
 intro W hW;refine Ae func208 J 22 ntmps208 J (G3 ?_);intro n2 aa ab;refine G6 ?_;refine .geq J J J J (decide_eq_true oM) (G2 ?_);refine .lss J J J J (decide_eq_true oM) (G3 ?_);refine .quo_i64 J J J J oM (.i1 J J J J Y184.h Sz5 (k/8) oM oM (G2 ?_));refine .rem_i64 J J J J oM (.shr_u8 J J J J (k%8) oM oM (.and_u8 J J J (show Ai _ _=some (u8 1)from rfl) (G5 ?_)));refine G2 ?_;refine⟨_,[],Ag J J,sP,sP,?_,rfl⟩;rw[<-bit_and a k];rfl
open Ed
def ptc(P:Pt Fp):Point:=⟨fb P.x,fb P.y⟩
def wdc(w:Wd Fp):wide:=⟨fb w.x,fb w.y,fb w.z,fb w.t⟩
variable{P:Pt Fp}{b f l:List UInt8}{k:Nat}{r:Fp×Bool}{w:World}
theorem ptc_ok(P:Pt Fp):(ptc P).ok:=⟨C3 _,C3 _⟩
theorem Bu(w:Wd Fp):(wdc w).ok:=⟨C3 _,C3 _,C3 _,C3 _⟩
theorem sees_subC{b o off:Nat}{cs l:List Value}(hs:Dd w b o cs)(h:∀(j:Nat) (v:Value),l[j]? =some v->cs[off+j]? =some v):Dd w b (o+off) l:=λj v hj=>by
  have:=hs _ v (h j v hj);rwa[<-Lcs]at this
theorem ptc_inj{P Q:Pt Fp}:ptc P=ptc Q↔P=Q:=⟨λh=>by
  obtain⟨x,y⟩:=P;obtain⟨z,w⟩:=Q;simp only[ptc,Point.mk.injEq,fb_inj]at h;rw[h.1,h.2],λh=>by rw[h]⟩
theorem curve_D  :Mv 199 [] (λ_=>True) (agg (Aa (fb fD))):=by
 intro W hW;refine Ae func199 J 2 ntmps199 J (G2 ?_);refine .alloc (cs:=(Aa (List.replicate 32 0))) J A9 J ?_;intro n0 ab aa;refine G4 ?_;refine .build (cs:=Aa (fb fD)) J J J (λw=>by kernel_rfl) ?_;refine .sA J J J J zE Sz184 zF Z0 sP zU ?_;refine G2 ?_;refine G2 ?_;refine⟨_,[],Ax J J Y184.h J Sz184 Z0 (by simp[Aw]),sP,sP,?_,rfl⟩;rfl
theorem curve_Zero  :Mv 204 [] (λ_=>True) (agg (ptc (zero:Pt Fp)).cells):=by
 intro W hW;refine Ae func204 J 3 ntmps204 J (G2 ?_);refine .alloc (cs:=Point.zero.cells) J Point.zr J ?_;intro n0 ab aa;refine G4 ?_;refine .cV J J J J Body197 (f_one) tV (.build (cs:=(⟨fb 0,fb 1⟩:Point).cells) J J J (λw=>by kernel_rfl) ?_);refine .sA J J J J (Point.isCell (by exact⟨C3 _,C3 _⟩)) Sz187 (Point.length (by exact⟨C3 _,C3 _⟩)) Z0 (Point.length zZ) zU ?_;refine G2 ?_;refine G2 ?_;refine⟨_,[],Ax J J Y187.h J Sz187 Z0 (by exact Point.length (by exact⟨C3 _,C3 _⟩)),sP,sP,?_,rfl⟩;rfl
theorem base_len(h:k<=32):(Aa (bX++(List.replicate k 102++List.replicate (32-k) 0))).length=64:=by
  rw[Aa,La0,La2,La2,Ldn,Ldn,show bX.length=32 from rfl];omega
theorem base_step(h:k<32):(bX++(List.replicate k (102:UInt8)++List.replicate (32-k) 0)).set (32+k) 102=bX++(List.replicate (k+1) 102++List.replicate (32-(k+1)) 0):=by
  rw[Le1 _ _ (by rw[show bX.length=32 from rfl];omega),show bX.length=32 from rfl,show 32+k-32=k by omega,show 32-k=(32-(k+1))+1 by omega,Lfy,Le1 _ _ sP];simp[Lfq]
theorem base_end:Aa ((bX++(List.replicate 32 (102:UInt8)++List.replicate (32-32) 0)).set 32 88)=(ptc bP).cells:=by
  show _=Aa (fb bP.x)++Aa (fb bP.y);rw[bP_x,bP_y];kernel_rfl
theorem curve_Base  :Mv 158 [] (λ_=>True) (agg (ptc bP).cells):=by
 intro W hW;refine Ae func158 J 15 ntmps158 J (G2 ?_);refine .alloc (cs:=Point.zero.cells) J Point.zr J ?_;intro n0 ae ad;refine G4 ?_;refine .build (cs:=Aa bX) J J J (λw=>by kernel_rfl) ?_;refine .build (cs:=(⟨bX,List.replicate 32 0⟩:Point).cells) J J J (λw=>by kernel_rfl) ?_;refine .alloc (cs:=Point.zero.cells) J Point.zr J ?_;intro n1 ag ac;refine .sA J J J J (Point.isCell (by exact⟨rfl,rfl⟩)) Sz187 (Point.length (by exact⟨rfl,rfl⟩)) Z0 (Point.length (by exact⟨rfl,rfl⟩)) zU ?_;refine G9 ?_;refine .loop (ι:=Nat) (λk=>⟨[(0,ptr n0 0),(1,ptr n1 0),(5,i64 (k:Int))],[⟨n1,Aa (bX++(List.replicate k 102++List.replicate (32-k) 0)),187,64⟩,⟨n0,Point.zero.cells,187,64⟩]⟩) (λk=>k<=32) (λk=>32-k) (0) ?_ ?_ ?_
 .omega
 .exact Ah wN (wh1 (by rw[show Aa (bX++(List.replicate 0 102++List.replicate (32-0) 0))=(⟨bX,List.replicate 32 0⟩:Point).cells from by kernel_rfl];exact Cf) (wh1 Z1 wh0)) nD
 rintro k hi;refine G6 ?_;refine .condP J (λab=>?_) (λab=>?_)
 ·
  have aa:k<32:=by omega
  refine G13 ?_;refine .idxArrO J J J J Y184.h Sz5 k J oM (.s1 J J J J J Sz5 Z0 (by rw[base_len oM];exact(show 32+k<64 by omega)) (by exact Bo _ (32+k) 102) zU ?_);refine G8 ?_;exact⟨k+1,by omega,by omega,Ah wN (wh1 (by rw[<-base_step aa];exact Cf) (wh1 Z1 wh0)) nD⟩
 obtain rfl:k=32:=by omega
 refine G8 ?_;refine .idxArrO J J J J Y184.h Sz5 0 J dE (.s1 J J J J J Sz5 Z0 (by rw[base_len oM];exact(show 32+0<64 by decide)) (by exact Bo _ (32+0) 88) zU ?_);rw[base_end];refine G5 ?_;refine .sA J J J J (Point.isCell zP) Sz187 (Point.length zP) Z1 (Point.length (by exact⟨rfl,rfl⟩)) zV ?_;refine G2 ?_;refine G2 ?_;refine⟨_,[],Ax J J Y187.h J Sz187 Z1 (by exact Point.length zP),sP,sP,?_,rfl⟩;rfl
theorem curve_Check(p:Point)(hp:p.ok):Mv 203 [agg p.cells] (λ_=>True) (i64 (pchk p.fX p.fY)):=by
 intro W hW;refine Ae func203 J 38 ntmps203 J (G3 ?_);intro n1 ah ai;refine G7 ?_;refine .lN (Aa _) J J J Y184.h J Sz184 Z0 (Point.row_fX (by exact hp)) (Point.rl_fX (by exact hp)) ?_;refine .callB J J J J Body194 (field_Canon p.fX hp.l_fX) tV (λaa=>?_) (λaa=>?_)
 ·
  have ad:=of_decide_eq_true aa;refine G3 ?_;refine .lN (Aa _) J J J Y184.h J Sz184 Z0 (Point.row_fY (by exact hp)) (Point.rl_fY (by exact hp)) ?_;refine .callB J J J J Body194 (field_Canon p.fY hp.l_fY) tV (λab=>?_) (λab=>?_)
  ·
   have ac:=of_decide_eq_true ab;refine G4 ?_;refine .cond_f J J (G3 ?_);refine .draw (oPq [0,101,2,103,5,106,7,108,304,309,210,211,412,413]) Au zK (G1 ?_);refine .lN (Aa _) J J J Y184.h J Sz184 Z0 (Point.row_fX (by exact hp)) (Point.rl_fX (by exact hp)) ?_;refine G1 ?_;refine .lN (Aa _) J J J Y184.h J Sz184 Z0 (Point.row_fX (by exact hp)) (Point.rl_fX (by exact hp)) ?_;refine G1 ?_;refine .lN (Aa _) J J J Y184.h J Sz184 Z0 (Point.row_fY (by exact hp)) (Point.rl_fY (by exact hp)) ?_;refine G1 ?_;refine .lN (Aa _) J J J Y184.h J Sz184 Z0 (Point.row_fY (by exact hp)) (Point.rl_fY (by exact hp)) ?_;refine .cV J J J J Cp (field_Mul p.fX p.fX hp.l_fX hp.l_fX) tV (.cV J J J J Cp (field_Mul p.fY p.fY hp.l_fY hp.l_fY) tV (.alloc (cs:=(Aa (List.replicate 32 0))) J A9 J ?_));intro n3 ao ag;refine .alloc (cs:=(Aa (List.replicate 32 0))) J A9 J ?_;intro n4 an aj;refine .sA J J J J zE Sz184 zF Z1 sP zV ?_;refine .sA J J J J zE Sz184 zF Z0 sP zU ?_;refine G3 ?_;refine .draw (oPq [102,103,300,301,304,305,306,207,408]) Au zK (G2 ?_);refine .cV J J J J Body197 (f_one) tV (.cV J J J J Body199 (curve_D) tV (.cV J J J J Cp (f_mul _ _) tV (.cV J J J J Cp (f_mul _ _) tV (.cV J J J J Body198 (f_add _ _) tV (.alloc (cs:=(Aa (List.replicate 32 0))) J A9 J ?_)))));intro n5 am ak;refine .sA J J J J zE Sz184 zF Z0 sP zU ?_;refine G4 ?_;refine .draw (oPq [100,101,103,302,4]) Au zK (G3 ?_);refine .cV J J J J Body196 (f_sub _ _) tV (.neq_bytes J J J J eqGuardType184 Y184.h Y5.h Sz5 zF zF J (G2 ?_));refine .condNP J (λae=>?_) (λae=>?_)
   ·
    refine G5 ?_;refine G3 ?_;refine⟨_,[],Ag J J,sP,sP,?_,rfl⟩;unfold pchk;exact congrArg i64 (if_neg (λh=>by exact ae (fb_inj.2 h.2.2))).symm
   refine G7 ?_;refine G2 ?_;refine⟨_,[],Ag J J,sP,sP,?_,rfl⟩;unfold pchk;exact congrArg i64 (if_pos ⟨ad,ac,fb_inj.1 ae⟩).symm
  have ac:=of_decide_eq_false ab;refine G4 ?_;refine .cond_t J J (G5 ?_);refine G3 ?_;refine⟨_,[],Ag J J,sP,sP,?_,rfl⟩;unfold pchk;exact congrArg i64 (if_neg (λh=>by exact ac h.2.1)).symm
 have ad:=of_decide_eq_false aa;refine G9 ?_;refine .cond_t J J (G5 ?_);refine G3 ?_;refine⟨_,[],Ag J J,sP,sP,?_,rfl⟩;unfold pchk;exact congrArg i64 (if_neg (λh=>by exact ad h.1)).symm
theorem curve_Check_on(P:Pt Fp)(h:cv.on P):Mv 203 [agg (ptc P).cells] (λ_=>True) (i64 0):=by
  have h1:=curve_Check (ptc P) (ptc_ok P);rwa[show pchk (ptc P).fX (ptc P).fY=0 from pchk_on h]at h1
theorem curve_widen(P:Pt Fp):Mv 205 [agg (ptc P).cells] (λ_=>True) (agg (wdc (Wd.of P)).cells):=by
 intro W hW;refine Ae func205 J 14 ntmps205 J (G3 ?_);intro n1 ad ab;refine .alloc (cs:=wide.zero.cells) J wide.zr J ?_;intro n2 aa ac;refine G3 ?_;refine .draw (oPq [0,101,2,103,5,106,7,108,304,309,10,411]) Au zK (G1 ?_);refine .lN (Aa _) J J J Y184.h J Sz184 Z1 (Point.row_fX zP) (Point.rl_fX zP) ?_;refine G1 ?_;refine .lN (Aa _) J J J Y184.h J Sz184 Z1 (Point.row_fY zP) (Point.rl_fY zP) ?_;refine G1 ?_;refine .lN (Aa _) J J J Y184.h J Sz184 Z1 (Point.row_fX zP) (Point.rl_fX zP) ?_;refine G1 ?_;refine .lN (Aa _) J J J Y184.h J Sz184 Z1 (Point.row_fY zP) (Point.rl_fY zP) ?_;refine .cV J J J J Body197 (f_one) tV (.cV J J J J Cp (f_mul P.x P.y) tV (.build (cs:=(wdc (Wd.of P)).cells) J J J (λw=>by kernel_rfl) ?_));refine .sA J J J J (wide.isCell (by exact Bu _)) Sz229 (wide.length (by exact Bu _)) Z0 (wide.length (by exact wide.zero_ok)) zU ?_;refine G2 ?_;refine G2 ?_;refine⟨_,[],Ax J J Y229.h J Sz229 Z0 (by exact wide.length (by exact Bu _)),sP,sP,?_,rfl⟩;rfl
theorem wide_point(n:Nat)(w:Wd Fp):Mv 209 [ptr n 0] (λW=>Dd W n 0 (wdc w).cells) (agg (ptc (⟨w.x*finv w.z,w.y*finv w.z⟩:Pt Fp)).cells):=by
 intro W hW;have aa:=f_inv w.z;revert aa;generalize finv w.z=iz;intro aa;refine Ae func209 J 22 ntmps209 J (.sr (.alloc (cs:=Point.zero.cells) J Point.zr J ?_));intro n2 ab ad;refine .nsr (.m J J J (.nC J J J (.fld J J J Y229.h J Sz184 dE _ J (.loadEN (Aa (fb w.z)) J J J Y184.h J Sz184 sP (by rw[Aa,La0,Aw]) (sees_subC hW (wide.see_fZ (Bu w))) ?_))));refine .cV J J J J Body201 (aa) tV (.alloc (cs:=(Aa (List.replicate 32 0))) J A9 J ?_);intro n3 ae ac;refine .sA J J J J zE Sz184 zF Z0 sP zU ?_;refine .na (.seq (.draw (oPq [0,1,2,103,104,6,7,8,109,110,305,311,12,413]) Au zK (.m J J J (.nC J J J (.fld J J J Y229.h J Sz184 dE _ J (.loadEN (Aa (fb w.x)) J J J Y184.h J Sz184 sP (by rw[Aa,La0,Aw]) (sees_subC hW (wide.see_fX (Bu w))) ?_))))));refine .lA J J J Y184.h J Sz184 Z0 zF ?_;refine .m J J J (.nC J J J (.fld J J J Y229.h J Sz184 dE _ J (.loadEN (Aa (fb w.y)) J J J Y184.h J Sz184 sP (by rw[Aa,La0,Aw]) (sees_subC hW (wide.see_fY (Bu w))) ?_)));refine .lA J J J Y184.h J Sz184 Z0 zF ?_;refine .cV J J J J Cp (f_mul _ _) tV (.cV J J J J Cp (f_mul _ _) tV (.build (cs:=(ptc (⟨w.x*iz,w.y*iz⟩:Pt Fp)).cells) J J J (λw=>by kernel_rfl) ?_));refine .sA J J J J (Point.isCell zP) Sz187 (Point.length zP) Z1 (Point.length zZ) zV ?_;refine .na ?_;refine .ret (en_r ?_);refine⟨_,[],Ax J J Y187.h J Sz187 Z1 (by exact Point.length zP),sP,sP,?_,rfl⟩;rfl
theorem wide_finish(n:Nat)(w:Wd Fp)(e f g h:Fp):Meets prog 253 [ptr n 0,agg (Aa (fb e)),agg (Aa (fb f)),agg (Aa (fb g)),agg (Aa (fb h))] [n] (λW=>BlkOk W ⟨n,(wdc w).cells,229,128⟩) (λv out=>out=[⟨n,(wdc (Wd.fin e f g h)).cells,229,128⟩]):=by
 intro W hW;refine calls_of (hp0:=[⟨n,(wdc w).cells,229,128⟩]) func253 J 34 ntmps253 J (HRep.one hW) (G3 ?_);intro n6 ai ae;refine G1 ?_;intro n7 ab ah;refine G1 ?_;intro n8 ag ac;refine G1 ?_;intro n9 aa ad;refine G3 ?_;refine .draw (oPq [0,1,102,103,105,106,304,307,8,9,410,11,12,413]) Au zK (G6 ?_);refine .cV J J J J Cp (f_mul _ _) tV (.cV J J J J Cp (f_mul _ _) tV (G2 ?_));refine .storeN (Aa _) J J J J J zE Sz184 (by simp[Aw]) Z4 (by rw[wide.length (by exact Bu _)];simp[Aw]) (wide.upd_fX (by exact Bu _) _ (by simp[Aw])) (by exact upd4) ?_;refine G2 ?_;refine .storeN (Aa _) J J J J J zE Sz184 (by simp[Aw]) Z4 (by rw[wide.length (by exact⟨C3 _,C3 _,C3 _,C3 _⟩)];simp[Aw]) (wide.upd_fY (by exact⟨C3 _,C3 _,C3 _,C3 _⟩) _ (by simp[Aw])) (by exact upd4) ?_;refine G2 ?_;refine .draw (oPq [0,1,102,103,105,106,304,307,8,9,410,11,12,413]) Au zK (G6 ?_);refine .cV J J J J Cp (f_mul _ _) tV (.cV J J J J Cp (f_mul _ _) tV (G2 ?_));refine .storeN (Aa _) J J J J J zE Sz184 (by simp[Aw]) Z4 (by rw[wide.length (by exact⟨C3 _,C3 _,C3 _,C3 _⟩)];simp[Aw]) (wide.upd_fZ (by exact⟨C3 _,C3 _,C3 _,C3 _⟩) _ (by simp[Aw])) (by exact upd4) ?_;refine G2 ?_;refine .storeN (Aa _) J J J J J zE Sz184 (by simp[Aw]) Z4 (by rw[wide.length (by exact⟨C3 _,C3 _,C3 _,C3 _⟩)];simp[Aw]) (wide.upd_fT (by exact⟨C3 _,C3 _,C3 _,C3 _⟩) _ (by simp[Aw])) (by exact upd4) ?_;refine G2 ?_;exact⟨_,[⟨n,(wdc (Wd.fin e f g h)).cells,229,128⟩],res_none rfl,(λb hb=>by rw[La1.1 hb];exact Z4),nodup1,rfl⟩
theorem wide_add(n q:Nat)(w p:Wd Fp)(tw:Fp):Meets prog 206 [ptr n 0,ptr q 0,agg (Aa (fb tw))] [n] (λW=>BlkOk W ⟨n,(wdc w).cells,229,128⟩/\Dd W q 0 (wdc p).cells/\q≠n) (λv out=>out=[⟨n,(wdc (Wd.fin ((w.y+w.x)*(p.y+p.x)-(w.y-w.x)*(p.y-p.x)) (w.z*p.z+w.z*p.z-w.t*tw*p.t) (w.z*p.z+w.z*p.z+w.t*tw*p.t) ((w.y+w.x)*(p.y+p.x)+(w.y-w.x)*(p.y-p.x)))).cells,229,128⟩]):=by
 intro W hW;refine calls_of (hp0:=[⟨n,(wdc w).cells,229,128⟩]) func206 J 85 ntmps206 J (HRep.one hW.1) (G3 ?_);intro n5 an am;refine G3 ?_;refine .draw (oPq [0,1,2,103,4,5,6,107,9,10,11,112,13,14,15,116,308,317,318,219,420]) Au zK (G3 ?_);refine .lN (Aa _) J J J Y184.h J Sz184 Z1 (wide.row_fY (by exact Bu _)) (wide.rl_fY (by exact Bu _)) ?_;refine G3 ?_;refine .lN (Aa _) J J J Y184.h J Sz184 Z1 (wide.row_fX (by exact Bu _)) (wide.rl_fX (by exact Bu _)) ?_;refine G3 ?_;refine .loadEN (Aa (fb p.y)) J J J Y184.h J Sz184 (by simp;exact hW.2.2) (by rw[Aa,La0,Aw]) (sees_subC hW.2.1 (wide.see_fY (Bu p))) ?_;refine G3 ?_;refine .loadEN (Aa (fb p.x)) J J J Y184.h J Sz184 (by simp;exact hW.2.2) (by rw[Aa,La0,Aw]) (sees_subC hW.2.1 (wide.see_fX (Bu p))) ?_;refine .cV J J J J Body196 (f_sub _ _) tV (.cV J J J J Body196 (f_sub _ _) tV (.cV J J J J Cp (f_mul _ _) tV (.alloc (cs:=(Aa (List.replicate 32 0))) J A9 J ?_)));intro n6 ak ah;refine .sA J J J J zE Sz184 zF Z0 sP zU ?_;refine G3 ?_;refine .draw (oPq [0,1,2,103,4,5,6,107,9,10,11,112,13,14,15,116,308,317,318,219,420]) Au zK (G3 ?_);refine .lN (Aa _) J J J Y184.h J Sz184 Z2 (wide.row_fY (by exact Bu _)) (wide.rl_fY (by exact Bu _)) ?_;refine G3 ?_;refine .lN (Aa _) J J J Y184.h J Sz184 Z2 (wide.row_fX (by exact Bu _)) (wide.rl_fX (by exact Bu _)) ?_;refine G3 ?_;refine .loadEN (Aa (fb p.y)) J J J Y184.h J Sz184 (by simp;exact hW.2.2) (by rw[Aa,La0,Aw]) (sees_subC hW.2.1 (wide.see_fY (Bu p))) ?_;refine G3 ?_;refine .loadEN (Aa (fb p.x)) J J J Y184.h J Sz184 (by simp;exact hW.2.2) (by rw[Aa,La0,Aw]) (sees_subC hW.2.1 (wide.see_fX (Bu p))) ?_;refine .cV J J J J Body198 (f_add _ _) tV (.cV J J J J Body198 (f_add _ _) tV (.cV J J J J Cp (f_mul _ _) tV (.alloc (cs:=(Aa (List.replicate 32 0))) J A9 J ?_)));intro n7 ac aj;refine .sA J J J J zE Sz184 zF Z0 sP zU ?_;refine G3 ?_;refine .draw (oPq [0,1,2,103,104,6,7,8,109,305,310,211,412]) Au zK (G3 ?_);refine .lN (Aa _) J J J Y184.h J Sz184 Z3 (wide.row_fT (by exact Bu _)) (wide.rl_fT (by exact Bu _)) ?_;refine G4 ?_;refine .loadEN (Aa (fb p.t)) J J J Y184.h J Sz184 (by simp;exact hW.2.2) (by rw[Aa,La0,Aw]) (sees_subC hW.2.1 (wide.see_fT (Bu p))) ?_;refine .cV J J J J Cp (f_mul _ _) tV (.cV J J J J Cp (f_mul _ _) tV (.alloc (cs:=(Aa (List.replicate 32 0))) J A9 J ?_));intro n8 ai ae;refine .sA J J J J zE Sz184 zF Z0 sP zU ?_;refine G3 ?_;refine .draw (oPq [0,1,2,103,4,5,6,107,308,209,410]) Au zK (G3 ?_);refine .lN (Aa _) J J J Y184.h J Sz184 Z4 (wide.row_fZ (by exact Bu _)) (wide.rl_fZ (by exact Bu _)) ?_;refine G3 ?_;refine .loadEN (Aa (fb p.z)) J J J Y184.h J Sz184 (by simp;exact hW.2.2) (by rw[Aa,La0,Aw]) (sees_subC hW.2.1 (wide.see_fZ (Bu p))) ?_;refine .cV J J J J Cp (f_mul _ _) tV (.alloc (cs:=(Aa (List.replicate 32 0))) J A9 J ?_);intro n9 ab ad;refine .sA J J J J zE Sz184 zF Z0 sP zU ?_;refine G6 ?_
 refine .cV J J J J Body198 (f_add _ _) tV (G3 ?_);refine .draw (oPq [0,101,102,104,105,107,108,110,111,303,306,309,312,413]) Au zK (G9 ?_);refine .cV J J J J Body196 (f_sub _ _) tV (.cV J J J J Body196 (f_sub _ _) tV (.cV J J J J Body198 (f_add _ _) tV (.cV J J J J Body198 (f_add _ _) tV (.callL (L:=[⟨n,(wdc w).cells,229,128⟩]) J J J J J Body253 (wide_finish n w ((w.y+w.x)*(p.y+p.x)-(w.y-w.x)*(p.y-p.x)) (w.z*p.z+w.z*p.z-w.t*tw*p.t) (w.z*p.z+w.z*p.z+w.t*tw*p.t) ((w.y+w.x)*(p.y+p.x)+(w.y-w.x)*(p.y-p.x))) (Ab rM Ad) (lent_ok J) (λw h=>Cd h (by exact mem5)) ?_))));rintro ag aa rfl;refine G2 ?_;exact⟨_,[⟨n,(wdc (Wd.fin ((w.y+w.x)*(p.y+p.x)-(w.y-w.x)*(p.y-p.x)) (w.z*p.z+w.z*p.z-w.t*tw*p.t) (w.z*p.z+w.z*p.z+w.t*tw*p.t) ((w.y+w.x)*(p.y+p.x)+(w.y-w.x)*(p.y-p.x)))).cells,229,128⟩],res_none rfl,(λb hb=>by rw[La1.1 hb];exact Z0),nodup1,rfl⟩
theorem wide_double(n:Nat)(w:Wd Fp):Meets prog 207 [ptr n 0] [n] (λW=>BlkOk W ⟨n,(wdc w).cells,229,128⟩) (λv out=>out=[⟨n,(wdc (Wd.dbl w)).cells,229,128⟩]):=by
 intro W hW;refine calls_of (hp0:=[⟨n,(wdc w).cells,229,128⟩]) func207 J 66 ntmps207 J (HRep.one hW) (.seq (.draw (oPq [0,1,2,103,4,5,6,107,9,10,11,112,13,14,15,116,18,19,20,121,22,23,24,125,308,317,326,227,228,229,430,431,432]) Au zK (G3 ?_)));refine .lN (Aa _) J J J Y184.h J Sz184 Z0 (wide.row_fX (by exact Bu _)) (wide.rl_fX (by exact Bu _)) ?_;refine G3 ?_;refine .lN (Aa _) J J J Y184.h J Sz184 Z0 (wide.row_fX (by exact Bu _)) (wide.rl_fX (by exact Bu _)) ?_;refine G3 ?_;refine .lN (Aa _) J J J Y184.h J Sz184 Z0 (wide.row_fY (by exact Bu _)) (wide.rl_fY (by exact Bu _)) ?_;refine G3 ?_;refine .lN (Aa _) J J J Y184.h J Sz184 Z0 (wide.row_fY (by exact Bu _)) (wide.rl_fY (by exact Bu _)) ?_;refine G3 ?_;refine .lN (Aa _) J J J Y184.h J Sz184 Z0 (wide.row_fZ (by exact Bu _)) (wide.rl_fZ (by exact Bu _)) ?_;refine G3 ?_;refine .lN (Aa _) J J J Y184.h J Sz184 Z0 (wide.row_fZ (by exact Bu _)) (wide.rl_fZ (by exact Bu _)) ?_;refine .cV J J J J Cp (f_mul _ _) tV (.cV J J J J Cp (f_mul _ _) tV (.cV J J J J Cp (f_mul _ _) tV (.alloc (cs:=(Aa (List.replicate 32 0))) J A9 J ?_)));intro n2 ab ag;refine .alloc (cs:=(Aa (List.replicate 32 0))) J A9 J ?_;intro n3 ah ak;refine .alloc (cs:=(Aa (List.replicate 32 0))) J A9 J ?_;intro n4 aq ao;refine .sA J J J J zE Sz184 zF Z2 sP (by exact upd2) ?_;refine .sA J J J J zE Sz184 zF Z1 sP zV ?_;refine .sA J J J J zE Sz184 zF Z0 sP zU ?_;refine G3 ?_;refine .draw (oPq [0,1,2,103,4,5,6,107,308,209,410]) Au zK (G3 ?_);refine .lN (Aa _) J J J Y184.h J Sz184 Z3 (wide.row_fX (by exact Bu _)) (wide.rl_fX (by exact Bu _)) ?_;refine G3 ?_;refine .lN (Aa _) J J J Y184.h J Sz184 Z3 (wide.row_fY (by exact Bu _)) (wide.rl_fY (by exact Bu _)) ?_;refine .cV J J J J Body198 (f_add _ _) tV (.alloc (cs:=(Aa (List.replicate 32 0))) J A9 J ?_);intro n5 ae ad;refine .sA J J J J zE Sz184 zF Z0 sP zU ?_;refine G6 ?_;refine .cV J J J J Body198 (f_add _ _) tV (.alloc (cs:=(Aa (List.replicate 32 0))) J A9 J ?_);intro n6 ar aj;refine .sA J J J J zE Sz184 zF Z0 sP zU ?_;refine G3 ?_;refine .draw (oPq [100,101,102,303,304,205,406]) Au zK (G3 ?_);refine .cV J J J J Cp (f_mul _ _) tV (.cV J J J J Body196 (f_sub _ _) tV (.alloc (cs:=(Aa (List.replicate 32 0))) J A9 J ?_));intro n7 ai an;refine .sA J J J J zE Sz184 zF Z0 sP zU ?_;refine G6 ?_;refine .cV J J J J Body196 (f_sub _ _) tV (.alloc (cs:=(Aa (List.replicate 32 0))) J A9 J ?_);intro n8 am ac;refine .sA J J J J zE Sz184 zF Z0 sP zU ?_;refine G2 ?_;refine .draw (oPq [0,101,102,103,105,107,108,304,306,409]) Au zK (G7 ?_);refine .cV J J J J Body198 (f_add _ _) tV (.cV J J J J Body198 (f_add _ _) tV (.callL (L:=[⟨n,(wdc w).cells,229,128⟩]) J J J J J Body253 (wide_finish n w (w.x*w.x+w.y*w.y-(w.x+w.y)*(w.x+w.y)) (w.z*w.z+w.z*w.z+(w.x*w.x-w.y*w.y)) (w.x*w.x-w.y*w.y) (w.x*w.x+w.y*w.y)) (Ab rM Ad) (lent_ok J) (λw h=>Cd h (by exact mem7)) ?_));rintro ap aa rfl;refine G2 ?_
 exact⟨_,[⟨n,(wdc (Wd.dbl w)).cells,229,128⟩],res_none rfl,(λb hb=>by rw[La1.1 hb];exact Z0),nodup1,rfl⟩
theorem own_ne{C:Cx}{hp R:List Blk}{b1 b2:Blk}(h:HRep C hp w)(p:hp.Perm ((b1::b2::[])++R)):b2.n≠b1.n:=λe=>by
  have:=(p.map (·.n)).nodup_iff.1 h.nodup;simp[e]at this
theorem wide_addD(n q:Nat)(w p:Wd Fp):Meets prog 206 [ptr n 0,ptr q 0,agg (Aa (fb (fD+fD)))] [n] (λW=>BlkOk W ⟨n,(wdc w).cells,229,128⟩/\Dd W q 0 (wdc p).cells/\q≠n) (λv out=>out=[⟨n,(wdc (Wd.add fD w p)).cells,229,128⟩]):=wide_add n q w p (fD+fD)
theorem wide_pointR(n:Nat)(w:Wd Fp)(R:Pt Fp)(hw:w.rep R):Mv 209 [ptr n 0] (λW=>Dd W n 0 (wdc w).cells) (agg (ptc R).cells):=by
  have h:=wide_point n w;have e:(⟨w.x*finv w.z,w.y*finv w.z⟩:Pt Fp)=R:=cv.rep_pt hw;rwa[e]at h
theorem pair_eg:prog.eqGuardType prog.depth 235=false:=by kernel_rfl
theorem pair_eq(a b c d:Bool)(w:World):(Op.equalIn 10000 235 (agg [.bool a, .bool b]) (agg [.bool c, .bool d])).run prog w= .ok (a==c&&b==d) w:=by
  cases a<;>cases b<;>cases c<;>cases d<;>kernel_rfl
theorem curve_Mul2(a b:List UInt8)(P Q:Pt Fp)(ha:a.length=32)(hb:b.length=32)(hP:cv.on P)(hQ:cv.on Q):Mv 157 [agg (Aa a),agg (ptc P).cells,agg (Aa b),agg (ptc Q).cells] (λ_=>True) (agg (ptc (cv.lin (le a) (le b) P Q)).cells):=by
 intro W hW;refine Ae func157 J 65 ntmps157 J (.sr (.boxA J J ?_));intro n4 bq bg;refine .boxA J J ?_;intro n5 bn a7;refine .boxA J J ?_;intro n6 br bc;refine .boxA J J ?_;intro n7 a8 be;refine .alloc (cs:=Point.zero.cells) J Point.zr J ?_;intro n8 bd a6;refine .na (.seq (.sr (.lA J J J Y187.h J Sz187 Z3 (Point.length zP) ?_)));refine .cV J J J J Body203 (curve_Check_on P hP) tV (.nei J J J J (show(!decide _)=false from congrArg not (decide_eq_true (rfl))) (.m J J J (.lA J J J Y187.h J Sz187 Z1 (Point.length zP) ?_)));refine .cV J J J J Body203 (curve_Check_on Q hQ) tV (.nei J J J J (show(!decide _)=false from congrArg not (decide_eq_true (rfl))) (.pick J J J J J J (.na (.cond_f J J (.skip (Df (.sr (.cV J J J J Body199 (curve_D) tV (.cV J J J J Body199 (curve_D) tV (.cV J J J J Body198 (f_add _ _) tV (.alloc (cs:=(Aa (List.replicate 32 0))) J A9 J ?_)))))))))));intro n9 bi bo;refine .sA J J J J zE Sz184 zF Z0 sP zU ?_;refine .na (.seq (.draw (oPq [100,102,104,301,303,305,306,307,208,209,210,211,412,413,414,415]) Au zK (.lA J J J Y187.h J Sz187 Z4 (Point.length zP) ?_)));refine .lA J J J Y187.h J Sz187 Z2 (Point.length zP) ?_;refine .lA J J J Y187.h J Sz187 Z4 (Point.length zP) ?_;refine .cV J J J J Body205 (curve_widen P) tV (.cV J J J J Body205 (curve_widen Q) tV (.cV J J J J Body205 (curve_widen P) tV (.cV J J J J Body204 (curve_Zero) tV (.cV J J J J Body205 (curve_widen (zero:Pt Fp)) tV (.alloc (cs:=wide.zero.cells) J wide.zr J ?_)))));intro ai au ax;refine .alloc (cs:=wide.zero.cells) J wide.zr J ?_;intro ah ay aw;refine .alloc (cs:=wide.zero.cells) J wide.zr J ?_;intro ag av a1;refine .alloc (cs:=wide.zero.cells) J wide.zr J ?_;intro ae a2 az;refine .sA J J J J (wide.isCell (by exact Bu _)) Sz229 (wide.length (by exact Bu _)) Z3 (wide.length (by exact wide.zero_ok)) (by exact upd3) ?_;refine .sA J J J J (wide.isCell (by exact Bu _)) Sz229 (wide.length (by exact Bu _)) Z2 (wide.length (by exact wide.zero_ok)) (by exact upd2) ?_;refine .sA J J J J (wide.isCell (by exact Bu _)) Sz229 (wide.length (by exact Bu _)) Z1 (wide.length (by exact wide.zero_ok)) zV ?_;refine .sA J J J J (wide.isCell (by exact Bu _)) Sz229 (wide.length (by exact Bu _)) Z0 (wide.length (by exact wide.zero_ok)) zU ?_;refine .nsr (.lA J J J Y184.h J Sz184 Z4 zF ?_);refine .callL (L:=[⟨ag,(wdc (Wd.of P)).cells,229,128⟩]) J J J J J Body206 (wide_addD ag ah (Wd.of P) (Wd.of Q)) (Ab rM Ad) (lent_ok J) (λw h=>⟨Cd h Z1,Ar h Z2,own_ne (b1:=⟨ag,(wdc (Wd.of P)).cells,229,128⟩) (b2:=⟨ah,(wdc (Wd.of Q)).cells,229,128⟩) h (Ab rM (Ab rM Ad))⟩) ?_;rintro bk am rfl;simp only[Lan,Lah]
 refine .na (.seq (.sr (.a J J J (.na (.block (.loop (ι:=Nat×Wd Fp) (λp=>⟨[(4,ptr n4 0),(6,ptr n6 0),(8,ptr n8 0),(9,ptr n9 0),(10,ptr ai 0),(11,ptr ah 0),(12,ptr ag 0),(13,ptr ae 0),(14,i64 (255-(p.1:Int)))],[⟨ae,(wdc p.2).cells,229,128⟩,⟨ag,(wdc (Wd.add fD (Wd.of P) (Wd.of Q))).cells,229,128⟩,⟨ah,(wdc (Wd.of Q)).cells,229,128⟩,⟨ai,(wdc (Wd.of P)).cells,229,128⟩,⟨n9,Aa (fb (fD+fD)),184,32⟩,⟨n8,Point.zero.cells,187,64⟩,⟨n6,Aa b,184,(Aa b).length⟩,⟨n4,Aa a,184,(Aa a).length⟩]⟩) (λp=>p.1<=256/\p.2.rep (cv.lin (le a/2^(256-p.1)) (le b/2^(256-p.1)) P Q)) (λp=>256-p.1) ((0,Wd.of zero)) ?_ ?_ ?_))))))
 .exact⟨Laf _,lin_first a b ha hb P Q⟩
 .exact Af wN (Ab rM (Ab rM (Ab rM (Ab rM (Ab rM (Ab rM (Ab rM (Ab rM Ad))))))))
 rintro p ⟨ba,hw⟩;refine .seq (.sr (.m J J J (.geq J J J J J (.na (.condP J (λao=>?_) (λao=>?_))))))
 ·
  have hj:p.1<256:=by omega
  refine .skip (Df (.join (ι:=Wd Fp) (λu=>⟨[(4,ptr n4 0),(6,ptr n6 0),(8,ptr n8 0),(9,ptr n9 0),(10,ptr ai 0),(11,ptr ah 0),(12,ptr ag 0),(13,ptr ae 0),(14,i64 (((255-p.1:Nat):Int)))],[⟨ae,(wdc u).cells,229,128⟩,⟨ag,(wdc (Wd.add fD (Wd.of P) (Wd.of Q))).cells,229,128⟩,⟨ah,(wdc (Wd.of Q)).cells,229,128⟩,⟨ai,(wdc (Wd.of P)).cells,229,128⟩,⟨n9,Aa (fb (fD+fD)),184,32⟩,⟨n8,Point.zero.cells,187,64⟩,⟨n6,Aa b,184,(Aa b).length⟩,⟨n4,Aa a,184,(Aa a).length⟩]⟩) (λu=>u.rep (cv.lin (le a/2^(256-(p.1+1))) (le b/2^(256-(p.1+1))) P Q)) ?_ ?_))
  ·
   refine .block (.sr (.callL (L:=[⟨ae,(wdc p.2).cells,229,128⟩]) J J J J J Body207 (wide_double ae p.2) (Ab rM Ad) (lent_ok J) (λw h=>Cd h Z0) ?_));rintro bj aq rfl;simp only[Lan,Lah];rw[show(255:Int)-(p.1:Int)=((255-p.1:Nat):Int) by omega];refine .na (.seq (.draw (oPq [100,1,103,4,302,305,6]) Au zK (.lA J J J Y184.h J Sz184 (by exact mem7) (by(simp[ha];done)) ?_)));refine .m J J J (.lA J J J Y184.h J Sz184 (by exact mem6) (by(simp[hb];done)) ?_);refine .m J J J (.callB J J J J Body208 (scalar_bit_at a ha (255-p.1) oM) tV (λad=>?_) (λad=>?_))
   ·
    have ac:=nd_t ad;have ac:=ad;refine .callB J J J J Body208 (scalar_bit_at b hb (255-p.1) oM) tV (λaa=>?_) (λaa=>?_)
    ·
     have ab:=nd_t aa;have ab:=aa;refine .build (cs:=[.bool true, .bool true]) J J J (λw=>by kernel_rfl) ?_;refine .na (.block (.sr (.build (cs:=[.bool true, .bool true]) J J J (λw=>by kernel_rfl) ?_)));refine .eql_rec (q:=(true==true&&true==true)) (r:=true) J J J J pair_eg (λw=>pair_eq true true true true w) J (.a J J J (.na (.cond_t J J (.region (.lA J J J Y184.h J Sz184 Z4 zF ?_)))));refine .callL (L:=[⟨ae,(wdc (Wd.dbl p.2)).cells,229,128⟩]) J J J J J Body206 (wide_addD ae ag (Wd.dbl p.2) (Wd.add fD (Wd.of P) (Wd.of Q))) (Ab rM Ad) (lent_ok J) (λw h=>⟨Cd h Z0,Ar h Z1,own_ne (b1:=⟨ae,(wdc (Wd.dbl p.2)).cells,229,128⟩) (b2:=⟨ag,(wdc (Wd.add fD (Wd.of P) (Wd.of Q))).cells,229,128⟩) h (Ab rM (Ab rM Ad))⟩) ?_;rintro v53 ap rfl;simp only[Lan,Lah];refine .nil (bl_n (bl_n (Df ?_)))
     (exact⟨Wd.add fD (Wd.dbl p.2) (Wd.add fD (Wd.of P) (Wd.of Q)),(by rw[lin_tt hj hP hQ ac ab];exact cv.rep_add (cv.rep_dbl hw (cv.on_lin hP hQ _ _)) (cv.rep_add (cv.rep_of P) (cv.rep_of Q) hP hQ) (cv.on_add (cv.on_lin hP hQ _ _) (cv.on_lin hP hQ _ _)) (cv.on_add hP hQ)),Af wN (Ab rM (Ab rM (Ab rM (Ab rM (Ab rM (Ab rM (Ab rM (Ab rM Ad))))))))⟩)
    have ab:=nd_f aa;have ab:=aa;refine .build (cs:=[.bool true, .bool false]) J J J (λw=>by kernel_rfl) ?_;refine .na (.block (.sr (.build (cs:=[.bool true, .bool true]) J J J (λw=>by kernel_rfl) ?_)));refine .eql_rec (q:=(true==true&&false==true)) (r:=false) J J J J pair_eg (λw=>pair_eq true false true true w) J (.a J J J (.na (.cond_f J J (.sr (.build (cs:=[.bool true, .bool false]) J J J (λw=>by kernel_rfl) ?_)))));refine .eql_rec (q:=(true==true&&false==false)) (r:=true) J J J J pair_eg (λw=>pair_eq true false true false w) J (.a J J J (.na (.cond_t J J (.region (.lA J J J Y184.h J Sz184 Z4 zF ?_)))));refine .callL (L:=[⟨ae,(wdc (Wd.dbl p.2)).cells,229,128⟩]) J J J J J Body206 (wide_addD ae ai (Wd.dbl p.2) (Wd.of P)) (Ab rM Ad) (lent_ok J) (λw h=>⟨Cd h Z0,Ar h Z3,own_ne (b1:=⟨ae,(wdc (Wd.dbl p.2)).cells,229,128⟩) (b2:=⟨ai,(wdc (Wd.of P)).cells,229,128⟩) h (Ab rM (Ab rM Ad))⟩) ?_;rintro bm ak rfl;simp only[Lan,Lah];refine .nil (bl_n (bl_n (Df ?_)))
    (exact⟨Wd.add fD (Wd.dbl p.2) (Wd.of P),(by rw[lin_tf hj hP hQ ac ab];exact cv.rep_add (cv.rep_dbl hw (cv.on_lin hP hQ _ _)) (cv.rep_of P) (cv.on_add (cv.on_lin hP hQ _ _) (cv.on_lin hP hQ _ _)) hP),Af wN (Ab rM (Ab rM (Ab rM (Ab rM (Ab rM (Ab rM (Ab rM (Ab rM Ad))))))))⟩)
   have ac:=nd_f ad;have ac:=ad;refine .callB J J J J Body208 (scalar_bit_at b hb (255-p.1) oM) tV (λaa=>?_) (λaa=>?_)
   ·
    have ab:=nd_t aa;have ab:=aa;refine .build (cs:=[.bool false, .bool true]) J J J (λw=>by kernel_rfl) ?_;refine .na (.block (.sr (.build (cs:=[.bool true, .bool true]) J J J (λw=>by kernel_rfl) ?_)));refine .eql_rec (q:=(false==true&&true==true)) (r:=false) J J J J pair_eg (λw=>pair_eq false true true true w) J (.a J J J (.na (.cond_f J J (.sr (.build (cs:=[.bool true, .bool false]) J J J (λw=>by kernel_rfl) ?_)))));refine .eql_rec (q:=(false==true&&true==false)) (r:=false) J J J J pair_eg (λw=>pair_eq false true true false w) J (.a J J J (.na (.cond_f J J (.sr (.build (cs:=[.bool false, .bool true]) J J J (λw=>by kernel_rfl) ?_)))));refine .eql_rec (q:=(false==false&&true==true)) (r:=true) J J J J pair_eg (λw=>pair_eq false true false true w) J (.a J J J (.na (.cond_t J J (.region (.lA J J J Y184.h J Sz184 Z4 zF ?_)))));refine .callL (L:=[⟨ae,(wdc (Wd.dbl p.2)).cells,229,128⟩]) J J J J J Body206 (wide_addD ae ah (Wd.dbl p.2) (Wd.of Q)) (Ab rM Ad) (lent_ok J) (λw h=>⟨Cd h Z0,Ar h Z2,own_ne (b1:=⟨ae,(wdc (Wd.dbl p.2)).cells,229,128⟩) (b2:=⟨ah,(wdc (Wd.of Q)).cells,229,128⟩) h (Ab rM (Ab rM Ad))⟩) ?_;rintro bp an rfl;simp only[Lan,Lah];refine .nil (bl_n (bl_n (Df ?_)))
    (exact⟨Wd.add fD (Wd.dbl p.2) (Wd.of Q),(by rw[lin_ft hj hP hQ ac ab];exact cv.rep_add (cv.rep_dbl hw (cv.on_lin hP hQ _ _)) (cv.rep_of Q) (cv.on_add (cv.on_lin hP hQ _ _) (cv.on_lin hP hQ _ _)) hQ),Af wN (Ab rM (Ab rM (Ab rM (Ab rM (Ab rM (Ab rM (Ab rM (Ab rM Ad))))))))⟩)
   have ab:=nd_f aa;have ab:=aa;refine .build (cs:=[.bool false, .bool false]) J J J (λw=>by kernel_rfl) ?_;refine .na (.block (.sr (.build (cs:=[.bool true, .bool true]) J J J (λw=>by kernel_rfl) ?_)));refine .eql_rec (q:=(false==true&&false==true)) (r:=false) J J J J pair_eg (λw=>pair_eq false false true true w) J (.a J J J (.na (.cond_f J J (.sr (.build (cs:=[.bool true, .bool false]) J J J (λw=>by kernel_rfl) ?_)))));refine .eql_rec (q:=(false==true&&false==false)) (r:=false) J J J J pair_eg (λw=>pair_eq false false true false w) J (.a J J J (.na (.cond_f J J (.sr (.build (cs:=[.bool false, .bool true]) J J J (λw=>by kernel_rfl) ?_)))));refine .eql_rec (q:=(false==false&&false==true)) (r:=false) J J J J pair_eg (λw=>pair_eq false false false true w) J (.a J J J (.na (.cond_f J J (.skip (bl_n (bl_n (Df ?_)))))))
   (exact⟨Wd.dbl p.2,(by rw[lin_ff hj hP hQ ac ab];exact(cv.rep_dbl hw (cv.on_lin hP hQ _ _))),Af wN (Ab rM (Ab rM (Ab rM (Ab rM (Ab rM (Ab rM (Ab rM (Ab rM Ad))))))))⟩)
  intro u hj;have hu:=hj;refine .region (.m J J J (.sub_i64 J J J J oM (.a J J J (.na ?_))));exact⟨(p.1+1,u),⟨by simp only[];omega,hu⟩,by simp only[];omega,Af (wk1 rfl (wk1 rfl (wk1 rfl (wk1 rfl (wk1 rfl (wk1 rfl (wk1 rfl (wk1 rfl (wk1 (congrArg (λz=>some (i64 z)) (show((255-p.1:Nat):Int)-1=255-((p.1+1:Nat):Int) by omega)) wk0))))))))) (Ab rM (Ab rM (Ab rM (Ab rM (Ab rM (Ab rM (Ab rM (Ab rM Ad))))))))⟩
 have ar:p.1=256:=by omega
 have aj:p.2.rep (cv.lin (le a) (le b) P Q):=by rw[ar,lin_last]at hw;exact hw
 refine .exit (at_x (at_x (bl_h (Df (.sr (.cV J J J J Body209 (wide_pointR ae p.2 _ aj) (λw h=>Ar h Z0) ?_))))));refine .sA J J J J (Point.isCell zP) Sz187 (Point.length zP) (by exact mem5) (Point.length zZ) (by exact upd5) ?_;refine .na ?_;refine .ret (en_r ?_);refine⟨_,[],Ax J J Y187.h J Sz187 (by exact mem5) (by exact Point.length zP),sP,sP,?_,rfl⟩;rfl
theorem ptc_y(P:Pt Fp):(ptc P).fY=fb P.y:=rfl
theorem le_zero32:le (List.replicate 32 0)=0:=by kernel_rfl
theorem curve_Neg(P:Pt Fp)(hP:cv.on P):Mv 160 [agg (ptc P).cells] (λ_=>True) (agg (ptc (neg P)).cells):=by
 intro W hW;refine Ae func160 J 13 ntmps160 J (.sr (.boxA J J ?_));intro n1 ad ab;refine .alloc (cs:=Point.zero.cells) J Point.zr J ?_;intro n2 aa ac;refine .na (.seq (.sr (.lA J J J Y187.h J Sz187 Z1 (Point.length zP) ?_)));refine .cV J J J J Body203 (curve_Check_on P hP) tV (.nei J J J J (show(!decide _)=false from congrArg not (decide_eq_true (rfl))) (.na (.cond_f J (rfl) (.skip (Df (.seq (.draw (oPq [0,101,3,104,302,5,406]) Au zK (.fld J J J Y187.h J Sz184 dE _ J (.lN (Aa _) J J J Y184.h J Sz184 Z1 (Point.row_fX zP) (Point.rl_fX zP) ?_)))))))));refine .fld J J J Y187.h J Sz184 dE _ J (.lN (Aa _) J J J Y184.h J Sz184 Z1 (Point.row_fY zP) (Point.rl_fY zP) ?_);refine .cV J J J J Body202 (f_neg _) tV (.build (cs:=(ptc (neg P)).cells) J J J (λw=>by kernel_rfl) ?_);refine .sA J J J J (Point.isCell zP) Sz187 (Point.length zP) Z0 (Point.length zZ) zU ?_;refine .na ?_;refine .ret (en_r ?_);refine⟨_,[],Ax J J Y187.h J Sz187 Z0 (by exact Point.length zP),sP,sP,?_,rfl⟩;rfl
def rdV(b:List UInt8):Value:=match rdP b with
  |some P=> .tuple #[agg (ptc P).cells,i64 0]
  |none=> .tuple #[agg Point.zero.cells,i64 4]
theorem rdV_none(h:rdP b=none):rdV b= .tuple #[agg Point.zero.cells,i64 4]:=by rw[rdV,h]
theorem rdV_some(h:rdP b=some P):rdV b= .tuple #[agg (ptc P).cells,i64 0]:=by rw[rdV,h]
theorem rd_n1(h:¬fb (fe (le (lowB b)))=lowB b):rdP b=none:=by rw[rdP,if_neg h]
theorem rd_n2(hx:xOf (fe (le (lowB b)))=r)(h:r.2=false):rdP b=none:=by
  rw[rdP];split
  .rw[hx,if_neg (by rw[h];simp)]
  .rfl
theorem rd_n3(hx:xOf (fe (le (lowB b)))=r)(h1:topB b=true)(h:fb r.1=List.replicate 32 0):rdP b=none:=by
  have h2:r.1=0:=fb_inj.1 (h.trans fb_zero.symm);rw[rdP];split
  .rw[hx,if_neg (λe=>e.2 ⟨h1,h2⟩)]
  .rfl
theorem rd_s1(hc:fb (fe (le (lowB b)))=lowB b)(hx:xOf (fe (le (lowB b)))=r)(h2:r.2=true)(h1:topB b=true)(h:¬fb r.1=List.replicate 32 0):rdP b=some ⟨-r.1,fe (le (lowB b))⟩:=by
  rw[rdP,if_pos hc,hx,if_pos ⟨h2,λe=>h (by rw[e.2,fb_zero])⟩,if_pos h1]
theorem rd_s2(hc:fb (fe (le (lowB b)))=lowB b)(hx:xOf (fe (le (lowB b)))=r)(h2:r.2=true)(h1:topB b=false):rdP b=some ⟨r.1,fe (le (lowB b))⟩:=by
  rw[rdP,if_pos hc,hx,if_pos ⟨h2,λe=>by rw[h1]at e;cases e.1⟩,if_neg (by rw[h1];decide)]
theorem topB_t(h:¬((b.getD 31 0&&&128).toNat:Int)=0):topB b=true:=by rw[topB,decide_eq_false h];rfl
theorem topB_f(h:((b.getD 31 0&&&128).toNat:Int)=0):topB b=false:=by rw[topB,decide_eq_true h];rfl
theorem curve_Read(b:List UInt8)(hb:b.length=32):Mv 156 [agg (Aa b)] (λ_=>True) (rdV b):=by
 intro W hW;have ar:=lowB_length hb;obtain⟨Y,hY⟩:∃Y,fe (le (lowB b))=Y:=⟨_,rfl⟩;have an:=field_Canon (lowB b) ar;have ao:=field_Mul (lowB b) (lowB b) ar ar;have ak:=f_inv (fD*(Y*Y)+1);have ad:xOf Y=fRoot ((Y*Y-1)*finv (fD*(Y*Y)+1)):=rfl;revert ak ad;generalize finv (fD*(Y*Y)+1)=iz;intro ak ad;have ag:=field_Root (fb ((Y*Y-1)*iz)) ((Y*Y-1)*iz) (Aw _) (fe_fb _);revert ag ad;generalize fRoot ((Y*Y-1)*iz)=xr;intro ad ag;rw[<-hY]at ad;rw[hY]at an ao;refine Ae func156 J 60 ntmps156 J (G3 ?_);intro n1 a8 ba;refine .alloc (cs:=Point.zero.cells) J Point.zr J ?_;intro n2 a7 bc;refine G5 ?_;refine .i1 J J J J Y28.h Sz5 31 J dE (G1 ?_);refine .and_u8 J J J (show Ai _ _=some (u8 128)from rfl) (two (λr hr k=>Tr.nei J J J J hr k) (λae=>?_) (λae=>?_))
 ·
  have ah:=nd_t ae;refine G5 ?_;refine .lA J J J Y28.h J Sz28 Z1 (by(simp[hb];done)) ?_;refine .alloc (cs:=(Aa (List.replicate 32 0))) J A9 J ?_;intro n5 ax aw;refine .sA J J J J zE Sz184 (by(simp[hb];done)) Z0 sP zU ?_;refine G4 ?_;refine .i1 J J J J Y184.h Sz5 31 J dE (G1 ?_);refine .and_u8 J J J (show Ai _ _=some (u8 127)from rfl) (.i1 J J J J Y184.h Sz5 31 J dE (.s1 J J J J J Sz5 Z0 (by(simp[hb];done)) (by exact Bo _ _ _) zU ?_));refine G5 ?_;refine .lA J J J Y184.h J Sz184 Z0 (by(simp[hb];done)) ?_;refine .cV J J J J Body194 (an) tV (G3 ?_);refine .cond J (λaj=>?_) (λaj=>?_)
  ·
   have aq:¬fb Y=lowB b:=of_decide_eq_false (by simpa using aj);refine G2 ?_;refine .build (cs:=Point.zero.cells) J J J (λw=>by kernel_rfl) ?_;refine G4 ?_;refine G3 ?_;refine⟨_,[],Bg J J J Y187.h J Sz187 Z1 (by exact Point.length zZ),sP,sP,?_,rfl⟩;exact(rdV_none (rd_n1 (by rw[hY];exact aq))).symm
  have am:fb Y=lowB b:=of_decide_eq_true (by simpa using aj);refine G4 ?_;refine .lA J J J Y184.h J Sz184 Z0 (by(simp[hb];done)) ?_;refine .lA J J J Y184.h J Sz184 Z0 (by(simp[hb];done)) ?_;refine .cV J J J J Cp (ao) tV (.alloc (cs:=(Aa (List.replicate 32 0))) J A9 J ?_);intro n6 a6 az;refine .sA J J J J zE Sz184 zF Z0 sP zU ?_;refine G3 ?_;refine .draw (oPq [100,301,302,203,404]) Au zK (G1 ?_);refine .cV J J J J Body197 (f_one) tV (.cV J J J J Body196 (f_sub _ _) tV (.alloc (cs:=(Aa (List.replicate 32 0))) J A9 J ?_));intro n7 ay a2;refine .sA J J J J zE Sz184 zF Z0 sP zU ?_;refine G3 ?_;refine .draw (oPq [101,300,302,303,304,205,406]) Au zK (G1 ?_);refine .cV J J J J Body199 (curve_D) tV (.cV J J J J Cp (f_mul _ _) tV (.cV J J J J Body197 (f_one) tV (.cV J J J J Body198 (f_add _ _) tV (.alloc (cs:=(Aa (List.replicate 32 0))) J A9 J ?_))));intro n8 a1 av;refine .sA J J J J zE Sz184 zF Z0 sP zU ?_;refine G3 ?_;refine .draw (oPq [100,101,302,303,304,5,6,7,208,409,10]) Au zK (G2 ?_);refine .cV J J J J Body201 (ak) tV (.cV J J J J Cp (f_mul _ _) tV (.cV J J J J Body200 (ag) tV (G2 ?_)));refine .extractB J J J J (λaa=>?_) (λaa=>?_)
  ·
   have ab:=aa;refine .alloc (cs:=(Aa (List.replicate 32 0))) J A9 J ?_;intro n9 ap au;refine .sA J J J J zE Sz184 zF Z0 sP zU ?_;refine G12 ?_;refine .build (cs:=Aa (List.replicate 32 0)) J J J (λw=>by kernel_rfl) ?_;refine two (λr hr k=>Tr.eql_bytes J J J J eqGuardType184 Y184.h Y5.h Sz5 zF sP hr k) (λac=>?_) (λac=>?_)
   ·
    have ai:=of_decide_eq_true ac;refine G4 ?_;refine .cond_t J J (G2 ?_);refine .build (cs:=Point.zero.cells) J J J (λw=>by kernel_rfl) ?_;refine G4 ?_;refine G3 ?_;refine⟨_,[],Bg J J J Y187.h J Sz187 (by exact mem5) (by exact Point.length zZ),sP,sP,?_,rfl⟩;exact(rdV_none (rd_n3 ad (topB_t ah) ai)).symm
   have ai:=of_decide_eq_false ac;refine G4 ?_;refine .cond_f J J (G8 ?_);refine .cond_t J J (G2 ?_);refine .cV J J J J Body202 (f_neg _) tV (G5 ?_);rw[show b.set 31 (b.getD 31 0&&&127)=fb Y from am.symm];refine G2 ?_;refine .build (cs:=(⟨fb (-xr.1),fb Y⟩:Point).cells) J J J (λw=>by kernel_rfl) ?_;refine .sA J J J J (Point.isCell (by exact⟨C3 _,C3 _⟩)) Sz187 (Point.length (by exact⟨C3 _,C3 _⟩)) (by exact mem5) (Point.length zZ) (by exact upd5) ?_;refine G3 ?_;refine G2 ?_;refine⟨_,[],Bg J J J Y187.h J Sz187 (by exact mem5) (by exact Point.length (by exact⟨C3 _,C3 _⟩)),sP,sP,?_,rfl⟩
   (rw[rdV_some (rd_s1 (by rw[hY];exact am) ad ab (topB_t ah) ai),hY];rfl)
  have ab:=aa;refine .alloc (cs:=(Aa (List.replicate 32 0))) J A9 J ?_;intro n9 ap au;refine .sA J J J J zE Sz184 zF Z0 sP zU ?_;refine G18 ?_;refine .cond_t J J (G2 ?_);refine .build (cs:=Point.zero.cells) J J J (λw=>by kernel_rfl) ?_;refine G4 ?_;refine G3 ?_;refine⟨_,[],Bg J J J Y187.h J Sz187 (by exact mem5) (by exact Point.length zZ),sP,sP,?_,rfl⟩;exact(rdV_none (rd_n2 ad ab)).symm
 have ah:=nd_f ae;refine G5 ?_;refine .lA J J J Y28.h J Sz28 Z1 (by(simp[hb];done)) ?_;refine .alloc (cs:=(Aa (List.replicate 32 0))) J A9 J ?_;intro n5 ax aw;refine .sA J J J J zE Sz184 (by(simp[hb];done)) Z0 sP zU ?_;refine G4 ?_;refine .i1 J J J J Y184.h Sz5 31 J dE (G1 ?_);refine .and_u8 J J J (show Ai _ _=some (u8 127)from rfl) (.i1 J J J J Y184.h Sz5 31 J dE (.s1 J J J J J Sz5 Z0 (by(simp[hb];done)) (by exact Bo _ _ _) zU ?_));refine G5 ?_;refine .lA J J J Y184.h J Sz184 Z0 (by(simp[hb];done)) ?_;refine .cV J J J J Body194 (an) tV (G3 ?_);refine .cond J (λaj=>?_) (λaj=>?_)
 ·
  have aq:¬fb Y=lowB b:=of_decide_eq_false (by simpa using aj);refine G2 ?_;refine .build (cs:=Point.zero.cells) J J J (λw=>by kernel_rfl) ?_;refine G4 ?_;refine G3 ?_;refine⟨_,[],Bg J J J Y187.h J Sz187 Z1 (by exact Point.length zZ),sP,sP,?_,rfl⟩;exact(rdV_none (rd_n1 (by rw[hY];exact aq))).symm
 have am:fb Y=lowB b:=of_decide_eq_true (by simpa using aj);refine G4 ?_;refine .lA J J J Y184.h J Sz184 Z0 (by(simp[hb];done)) ?_;refine .lA J J J Y184.h J Sz184 Z0 (by(simp[hb];done)) ?_;refine .cV J J J J Cp (ao) tV (.alloc (cs:=(Aa (List.replicate 32 0))) J A9 J ?_);intro n6 a6 az;refine .sA J J J J zE Sz184 zF Z0 sP zU ?_;refine G3 ?_;refine .draw (oPq [100,301,302,203,404]) Au zK (G1 ?_);refine .cV J J J J Body197 (f_one) tV (.cV J J J J Body196 (f_sub _ _) tV (.alloc (cs:=(Aa (List.replicate 32 0))) J A9 J ?_));intro n7 ay a2;refine .sA J J J J zE Sz184 zF Z0 sP zU ?_;refine G3 ?_;refine .draw (oPq [101,300,302,303,304,205,406]) Au zK (G1 ?_);refine .cV J J J J Body199 (curve_D) tV (.cV J J J J Cp (f_mul _ _) tV (.cV J J J J Body197 (f_one) tV (.cV J J J J Body198 (f_add _ _) tV (.alloc (cs:=(Aa (List.replicate 32 0))) J A9 J ?_))));intro n8 a1 av;refine .sA J J J J zE Sz184 zF Z0 sP zU ?_;refine G3 ?_;refine .draw (oPq [100,101,302,303,304,5,6,7,208,409,10]) Au zK (G2 ?_);refine .cV J J J J Body201 (ak) tV (.cV J J J J Cp (f_mul _ _) tV (.cV J J J J Body200 (ag) tV (G2 ?_)));refine .extractB J J J J (λaa=>?_) (λaa=>?_)
 ·
  have ab:=aa;refine .alloc (cs:=(Aa (List.replicate 32 0))) J A9 J ?_;intro n9 ap au;refine .sA J J J J zE Sz184 zF Z0 sP zU ?_;refine G18 ?_;refine .cond_f J J (G8 ?_);refine .cond_f J J (G4 ?_);rw[show b.set 31 (b.getD 31 0&&&127)=fb Y from am.symm];refine G2 ?_;refine .build (cs:=(⟨fb xr.1,fb Y⟩:Point).cells) J J J (λw=>by kernel_rfl) ?_;refine .sA J J J J (Point.isCell (by exact⟨C3 _,C3 _⟩)) Sz187 (Point.length (by exact⟨C3 _,C3 _⟩)) (by exact mem5) (Point.length zZ) (by exact upd5) ?_;refine G3 ?_;refine G2 ?_;refine⟨_,[],Bg J J J Y187.h J Sz187 (by exact mem5) (by exact Point.length (by exact⟨C3 _,C3 _⟩)),sP,sP,?_,rfl⟩
  (rw[rdV_some (rd_s2 (by rw[hY];exact am) ad ab (topB_f ah)),hY];rfl)
 have ab:=aa;refine .alloc (cs:=(Aa (List.replicate 32 0))) J A9 J ?_;intro n9 ap au;refine .sA J J J J zE Sz184 zF Z0 sP zU ?_;refine G18 ?_;refine .cond_t J J (G2 ?_);refine .build (cs:=Point.zero.cells) J J J (λw=>by kernel_rfl) ?_;refine G4 ?_;refine G3 ?_;refine⟨_,[],Bg J J J Y187.h J Sz187 (by exact mem5) (by exact Point.length zZ),sP,sP,?_,rfl⟩;exact(rdV_none (rd_n2 ad ab)).symm
def sha512(l:List UInt8):List UInt8:=sumUp (allW kW startW l) 64
theorem sha512_length(l:List UInt8):(sha512 l).length=64:=Cw _ _
theorem sha_StartS(s:List UInt64)(h:Hid (startW=s)):Mv 217 [] (λ_=>True) (agg (Aj s)):=by
  rw[<-h.out];exact sha_Start
theorem sha_Sum512(p:Option Addr)(n c:Nat)(ss:List Sl)(ls:List (List UInt8))(ag:ss.length=n)(aj:ls.length=n)(ai:∀j,j<n->(ss.getD j Sl.nil).n=(ls.getD j []).length/\((ss.getD j Sl.nil).p=none->(ss.getD j Sl.nil).n=0))(F:List UInt8)(hF:ls.flatten=F)(ad:F.length<=90000)(hn:n<=1000000)(s:List UInt8)(hs:Hid (sha512 F=s))  :Mv 210 [.slice p n c] (λW=>SeesP W p (ss.map Sl.v)/\∀j,j<n->SeesP W (ss.getD j Sl.nil).p (Aa (ls.getD j []))) (agg (Aa s)):=by
 intro W hW;have aa:s.length=64:=by rw[<-hs.out];exact sha512_length F
 obtain⟨k,hk⟩:∃k,Hid (kW=k):=⟨_,⟨rfl⟩⟩;obtain⟨st,ac⟩:∃k,Hid (startW=k):=⟨_,⟨rfl⟩⟩;obtain⟨r,hr⟩:∃r,Hid (allW k st F=r):=⟨_,⟨rfl⟩⟩;have ae:k.length=80:=by rw[<-hk.out];rfl
 have ab:st.length=8:=by rw[<-ac.out];rfl
 have ak:r.length=8:=by rw[<-hr.out,allW_length];exact ab
 have ah:Hid (sumUp r 64=s):=⟨by rw[<-hs.out,sha512,hk.out,ac.out,hr.out]⟩;refine Ae func210 J 7 ntmps210 J (G2 ?_);refine .alloc (cs:=(Aa (List.replicate 64 0))) J Zr34 J ?_;intro n2 am an;refine G4 ?_;refine .cV J J J J Body217 (sha_StartS st ac) tV (G1 ?_);refine .cV J J J J Body163 (sha_whole st ab k hk ae p n c ss ls ag aj ai F hF ad hn) (λw h=>⟨A8 h J hW.1,λj hj=>A8 h J (hW.2 j hj)⟩) ?_;rw[hr.out];refine .cV J J J J Body162 (sha_sum r ak s ah) tV (.sA J J J J zE Sz34 (by(simp[aa];done)) Z0 sP zU ?_);refine G2 ?_;refine G2 ?_;refine⟨_,[],Ax J J Y34.h J Sz34 Z0 (by simp[aa]),sP,sP,?_,rfl⟩;rfl
theorem sign_residue(p:Option Addr)(n c:Nat)(ss:List Sl)(ls:List (List UInt8))(ac:ss.length=n)(ae:ls.length=n)(ad:∀j,j<n->(ss.getD j Sl.nil).n=(ls.getD j []).length/\((ss.getD j Sl.nil).p=none->(ss.getD j Sl.nil).n=0))(F:List UInt8)(hF:ls.flatten=F)(ab:F.length<=90000)(hn:n<=1000000)(s:List UInt8)(hs:Hid (sha512 F=s))  :Mv 159 [.slice p n c] (λW=>SeesP W p (ss.map Sl.v)/\∀j,j<n->SeesP W (ss.getD j Sl.nil).p (Aa (ls.getD j []))) (agg (Aa (leb 32 (le s%L)))):=by
 intro W hW;have aa:s.length=64:=by rw[<-hs.out];exact sha512_length F
 refine Ae func159 J 14 ntmps159 J (G2 ?_);refine .alloc (cs:=(Aa (List.replicate 32 0))) J A9 J ?_;intro n2 ag aj;refine G5 ?_;refine .cV J J J J Body210 (sha_Sum512 p n c ss ls ac ae ad F hF ab hn s hs) (λw h=>⟨A8 h J hW.1,λj hj=>A8 h J (hW.2 j hj)⟩) (.alloc (cs:=(Aa (List.replicate 64 0))) J Zr34 J ?_);intro n3 am ah;refine .sA J J J J zE Sz34 (by(simp[aa];done)) Z0 sP zU ?_;refine G5 ?_;refine .cV J J J J Body211 (scalar_rest n3 0 64 64 s aa dE) (λw h=>Ar h Z0) ?_;refine G3 ?_;refine .alloc (cs:=(Aa (List.replicate 32 0))) J A9 J ?_;intro n4 ak ai;refine .sA J J J J zE Sz184 (by(simp[Am];done)) Z0 sP zU ?_;refine G5 ?_;refine .lA J J J Y184.h J Sz184 Z0 (by(simp[Am];done)) ?_;refine .sA J J J J zE Sz184 (by(simp[Am];done)) Z2 sP (by exact upd2) ?_;refine G2 ?_;refine G2 ?_;refine⟨_,[],Ax J J Y184.h J Sz184 Z2 (by simp[Am]),sP,sP,?_,rfl⟩;rfl
def clampB(l:List UInt8):List UInt8:=(l.set 0 (l.getD 0 0&&&248)).set 31 (((l.getD 31 0)&&&127)|||64)
theorem clampB_length(h:l.length=32):(clampB l).length=32:=by simp[clampB,h]
theorem d64{s:List UInt8}(h:s.length=64):(s.drop 32).take 32=s.drop 32:=La5 (by rw[Laz,h];decide)
def sgR(s:List UInt8):List UInt8:=leb 32 (le s%L)
theorem sgR_length(s:List UInt8):(sgR s).length=32:=Am _ _
def sgF(s1:List UInt8):List UInt8:=pb (cv.mul (le (sgR s1)) bP)
def sgK(s:List UInt8):List UInt8:=pb (cv.mul (le (clampB (s.take 32))) bP)
theorem sgF_length(s:List UInt8):(sgF s).length=32:=Cs _
theorem sgK_length(s:List UInt8):(sgK s).length=32:=Cs _
def sgS(s s1 s2:List UInt8):List UInt8:=leb 32 ((le (sgR s2)*le (clampB (s.take 32))+le (sgR s1))%L)
theorem sgS_length(s s1 s2:List UInt8):(sgS s s1 s2).length=32:=Am _ _
theorem upd_first(h:f.length=32):upd (Aa (List.replicate 64 0)) 0 (Aa f)=Aa (f++List.replicate 32 0):=by
  simp[upd,Aa,h]
theorem upd_last{f g:List UInt8}(h:f.length=32)(hg:g.length=32):upd (Aa (f++List.replicate 32 0)) 32 (Aa g)=Aa (f++g):=by
  simp[upd,Aa,h,hg]
theorem sign_residueR(p:Option Addr)(n c:Nat)(ss:List Sl)(ls:List (List UInt8))(ab:ss.length=n)(ad:ls.length=n)(ac:∀j,j<n->(ss.getD j Sl.nil).n=(ls.getD j []).length/\((ss.getD j Sl.nil).p=none->(ss.getD j Sl.nil).n=0))(F:List UInt8)(hF:ls.flatten=F)(aa:F.length<=90000)(hn:n<=1000000)(s:List UInt8)(hs:Hid (sha512 F=s))(r:List UInt8)(hr:Hid (sgR s=r))  :Mv 159 [.slice p n c] (λW=>SeesP W p (ss.map Sl.v)/\∀j,j<n->SeesP W (ss.getD j Sl.nil).p (Aa (ls.getD j []))) (agg (Aa r)):=by
  have h:=sign_residue p n c ss ls ab ad ac F hF aa hn s hs;rwa[show leb 32 (le s%L)=r from hr.out]at h
theorem take_sees{n i:Nat}{v:Value}(h:(Aa (l.take n))[i]? =some v):(Aa l)[i]? =some v:=by
  rw[Aa,Lbh,Lbz]at h;split at h
  .exact h
  .cases h
theorem curve_Read_none(b:List UInt8)(hb:b.length=32)(h:rdP b=none):Mv 156 [agg (Aa b)] (λ_=>True) (.tuple #[agg Point.zero.cells,i64 4]):=by
  have:=curve_Read b hb;rwa[rdV_none h]at this
theorem curve_Read_some(b:List UInt8)(P:Pt Fp)(hb:b.length=32)(h:rdP b=some P):Mv 156 [agg (Aa b)] (λ_=>True) (.tuple #[agg (ptc P).cells,i64 0]):=by
  have:=curve_Read b hb;rwa[rdV_some h]at this
open Classical in
noncomputable def goodB(k bb sg:List UInt8):Bool:=decide (le (sg.drop 32)<L/\∃A R,rdP k=some A/\rdP (sg.take 32)=some R/\cv.lin (le (sg.drop 32)) (le (sgR (sha512 (sg.take 32++(k++bb))))) bP (neg A)=R)
variable{bb k sg:List UInt8}
theorem good_dec{A R Q:Pt Fp}(h1:le (sg.drop 32)<L)(h2:rdP k=some A)(h3:rdP (sg.take 32)=some R)(h4:cv.lin (le (sg.drop 32)) (le (sgR (sha512 (sg.take 32++(k++bb))))) bP (neg A)=Q): @decide (ptc Q=ptc R) (Classical.propDecidable _)=goodB k bb sg:=by
  rw[goodB,Lei];simp only[decide_eq_true_eq,ptc_inj];constructor
  . intro h
    exact⟨h1,A,R,h2,h3,h4.trans h⟩
  . rintro⟨_,A',R',e1,e2,e3⟩
    rw[h2]at e1;rw[h3]at e2;cases e1;cases e2;exact h4.symm.trans e3
theorem good_no(h:¬(le (sg.drop 32)<L/\(∃A,rdP k=some A)/\∃R,rdP (sg.take 32)=some R)):goodB k bb sg=false:=by
  rw[goodB,decide_eq_false_iff_not];intro e;refine h ?_;obtain⟨h1,A,R,h2,h3,_⟩:=e;exact⟨h1,⟨A,h2⟩,⟨R,h3⟩⟩
theorem sign_Good_c(k:List UInt8)(hk:k.length=32)(sb:Sl)(bb:List UInt8)(ag:bb.length<=80000)(sg:List UInt8)(aa:sg.length=64)(hc:¬le (sg.drop 32)<L):Mv 118 [agg (Aa k),sb.v,agg (Aa sg)] (λW=>BytesAt W sb bb) (.bool false):=by
 intro W hW;have ab:(sg.drop 32).length=32:=by rw[Laz,aa]
 have ac:(sg.take 32).length=32:=by rw[Lac,aa];rfl
 refine Ae func118 J 45 ntmps118 J (G3 ?_);intro n3 ak ae;refine G1 ?_;intro n5 aj ai;refine G5 ?_;refine .sliceArrLo 32 J J J J J dE Y35.h Sz5 (.s2a J J J Y184.h oM (.lN (Aa (sg.drop 32)) J J J Y184.h J Sz184 Z0 (by show((sg.map u8).drop 32).take 32=_;rw[<-Leb,<-Lbh,d64 aa]) (by rw[La0];exact ab) ?_));refine .alloc (cs:=(Aa (List.replicate 32 0))) J A9 J ?_;intro n7 ad ah;refine .sA J J J J zE Sz184 (by(simp[aa];done)) Z0 sP zU ?_;refine G5 ?_;refine .lA J J J Y184.h J Sz184 Z0 (by(simp[aa];done)) ?_;refine .cV J J J J Body155 (scalar_canon (sg.drop 32) ab) tV (G3 ?_);refine .cond_t J (by rw[decide_eq_false hc];rfl) ?_;refine G5 ?_;refine G3 ?_;refine⟨_,[],Ag J J,sP,sP,?_,rfl⟩;rfl
theorem sign_Good_k(k:List UInt8)(hk:k.length=32)(sb:Sl)(bb:List UInt8)(ah:bb.length<=80000)(sg:List UInt8)(aa:sg.length=64)(hc:le (sg.drop 32)<L)(h1:rdP k=none):Mv 118 [agg (Aa k),sb.v,agg (Aa sg)] (λW=>BytesAt W sb bb) (.bool false):=by
 intro W hW;have ab:(sg.drop 32).length=32:=by rw[Laz,aa]
 have ac:(sg.take 32).length=32:=by rw[Lac,aa];rfl
 refine Ae func118 J 45 ntmps118 J (G3 ?_);intro n3 an ag;refine G1 ?_;intro n5 am ak;refine G5 ?_;refine .sliceArrLo 32 J J J J J dE Y35.h Sz5 (.s2a J J J Y184.h oM (.lN (Aa (sg.drop 32)) J J J Y184.h J Sz184 Z0 (by show((sg.map u8).drop 32).take 32=_;rw[<-Leb,<-Lbh,d64 aa]) (by rw[La0];exact ab) ?_));refine .alloc (cs:=(Aa (List.replicate 32 0))) J A9 J ?_;intro n7 ad aj;refine .sA J J J J zE Sz184 (by(simp[aa];done)) Z0 sP zU ?_;refine G5 ?_;refine .lA J J J Y184.h J Sz184 Z0 (by(simp[aa];done)) ?_;refine .cV J J J J Body155 (scalar_canon (sg.drop 32) ab) tV (G3 ?_);refine .cond_f J (by rw[decide_eq_true hc];rfl) ?_;refine G4 ?_;refine .lA J J J Y29.h J Sz29 Z2 (by(simp[hk];done)) ?_;refine .cV J J J J Body156 (curve_Read_none k hk h1) tV (G3 ?_);refine .alloc (cs:=Point.zero.cells) J Point.zr J ?_;intro n8 ai ae;refine G8 ?_;refine .nei J J J J (show(!decide _)=true from congrArg not (decide_eq_false dE)) (G2 ?_);refine .cond_t J (rfl) (G5 ?_);refine G3 ?_;refine⟨_,[],Ag J J,sP,sP,?_,rfl⟩;rfl
theorem sign_Good_r(k:List UInt8)(hk:k.length=32)(sb:Sl)(bb:List UInt8)(aj:bb.length<=80000)(sg:List UInt8)(aa:sg.length=64)(hc:le (sg.drop 32)<L)(A:Pt Fp)(h1:rdP k=some A)(h2:rdP (sg.take 32)=none):Mv 118 [agg (Aa k),sb.v,agg (Aa sg)] (λW=>BytesAt W sb bb) (.bool false):=by
 intro W hW;have ac:(sg.drop 32).length=32:=by rw[Laz,aa]
 have ab:(sg.take 32).length=32:=by rw[Lac,aa];rfl
 refine Ae func118 J 45 ntmps118 J (.sr (.boxA J J ?_));intro n3 ap ai;refine .boxA J J ?_;intro n5 ao an;refine .a J J J (.nsr (.sliceArrLo 32 J J J J J dE Y35.h Sz5 (.s2a J J J Y184.h oM (.lN (Aa (sg.drop 32)) J J J Y184.h J Sz184 Z0 (by show((sg.map u8).drop 32).take 32=_;rw[<-Leb,<-Lbh,d64 aa]) (by rw[La0];exact ac) ?_))));refine .alloc (cs:=(Aa (List.replicate 32 0))) J A9 J ?_;intro n7 ag am;refine .sA J J J J zE Sz184 (by(simp[aa];done)) Z0 sP zU ?_;refine .na (.seq (.sr (.lA J J J Y184.h J Sz184 Z0 (by(simp[aa];done)) ?_)));refine .cV J J J J Body155 (scalar_canon (sg.drop 32) ac) tV (.not J J J (.na (.cond_f J (by rw[decide_eq_true hc];rfl) ?_)));refine .skip (Df (.sr (.lA J J J Y29.h J Sz29 Z2 (by(simp[hk];done)) ?_)));refine .cV J J J J Body156 (curve_Read_some k A hk h1) tV (.m J J J (.eX J J J J (.eX J J J J (.alloc (cs:=Point.zero.cells) J Point.zr J ?_))));intro n8 ak ah;refine .sA J J J J (Point.isCell zP) Sz187 (Point.length zP) Z0 (Point.length zZ) zU ?_;refine .a J J J (.na (.seq (.sr (.m J J J (.nei J J J J (show(!decide _)=false from congrArg not (decide_eq_true (rfl))) (.na (.cond_f J (rfl) (.skip (Df (.sr (.sliceArrHi 32 J J J J J dE dE Y35.h Sz5 (.s2a J J J Y28.h oM (.lN (Aa (sg.take 32)) J J J Y28.h J Sz28 Z2 (by rw[Ler,<-Lbh]) (by rw[La0];exact ab) ?_)))))))))))));refine .cV J J J J Body156 (curve_Read_none (sg.take 32) ab h2) tV (.m J J J (.eX J J J J (.eX J J J J (.alloc (cs:=Point.zero.cells) J Point.zr J ?_))));intro aq ad ae;refine .sA J J J J (Point.isCell zZ) Sz187 (Point.length zZ) Z0 (Point.length zZ) zU ?_;refine .a J J J (.na (.seq (.sr (.m J J J (.nei J J J J (show(!decide _)=true from congrArg not (decide_eq_false dE)) (.na (.cond_t J (rfl) (.sr (.a J J J (.na ?_))))))))));refine .ret (at_r (en_r ?_));refine⟨_,[],Ag J J,sP,sP,?_,rfl⟩;rfl
theorem sign_Good_ok(k:List UInt8)(hk:k.length=32)(sb:Sl)(bb:List UInt8)(ak:bb.length<=80000)(sg:List UInt8)(aa:sg.length=64)(hc:le (sg.drop 32)<L)(A R:Pt Fp)(h1:rdP k=some A)(h2:rdP (sg.take 32)=some R)(s r:List UInt8)(hs:Hid (sha512 (sg.take 32++(k++bb))=s))(hr:Hid (sgR s=r))(ag:r.length=32):Mv 118 [agg (Aa k),sb.v,agg (Aa sg)] (λW=>BytesAt W sb bb) (.bool (goodB k bb sg)):=by
 intro W hW;have ac:(sg.drop 32).length=32:=by rw[Laz,aa]
 have ab:(sg.take 32).length=32:=by rw[Lac,aa];rfl
 have hA:=rdP_on h1;obtain⟨Q,hQ⟩:∃Q,cv.lin (le (sg.drop 32)) (le (sgR (sha512 (sg.take 32++(k++bb))))) bP (neg A)=Q:=⟨_,rfl⟩;have ad:=curve_Mul2 (sg.drop 32) r bP (neg A) ac ag bP_on (cv.on_neg hA);rw[show cv.lin (le (sg.drop 32)) (le r) bP (neg A)=Q from by rw[<-hr.out,<-hs.out];exact hQ]at ad;refine Ae func118 J 45 ntmps118 J (.sr (.boxA J J ?_));intro n3 ao ar;refine .boxA J J ?_;intro n5 an am;refine .a J J J (.nsr (.sliceArrLo 32 J J J J J dE Y35.h Sz5 (.s2a J J J Y184.h oM (.lN (Aa (sg.drop 32)) J J J Y184.h J Sz184 Z0 (by show((sg.map u8).drop 32).take 32=_;rw[<-Leb,<-Lbh,d64 aa]) (by rw[La0];exact ac) ?_))));refine .alloc (cs:=(Aa (List.replicate 32 0))) J A9 J ?_;intro n7 aq av;refine .sA J J J J zE Sz184 (by(simp[aa];done)) Z0 sP zU ?_;refine .na (.seq (.sr (.lA J J J Y184.h J Sz184 Z0 (by(simp[aa];done)) ?_)));refine .cV J J J J Body155 (scalar_canon (sg.drop 32) ac) tV (.not J J J (.na (.cond_f J (by rw[decide_eq_true hc];rfl) ?_)));refine .skip (Df (.sr (.lA J J J Y29.h J Sz29 Z2 (by(simp[hk];done)) ?_)));refine .cV J J J J Body156 (curve_Read_some k A hk h1) tV (.m J J J (.eX J J J J (.eX J J J J (.alloc (cs:=Point.zero.cells) J Point.zr J ?_))));intro n8 au aj;refine .sA J J J J (Point.isCell zP) Sz187 (Point.length zP) Z0 (Point.length zZ) zU ?_;refine .a J J J (.na (.seq (.sr (.m J J J (.nei J J J J (show(!decide _)=false from congrArg not (decide_eq_true (rfl))) (.na (.cond_f J (rfl) (.skip (Df (.sr (.sliceArrHi 32 J J J J J dE dE Y35.h Sz5 (.s2a J J J Y28.h oM (.lN (Aa (sg.take 32)) J J J Y28.h J Sz28 Z2 (by rw[Ler,<-Lbh]) (by rw[La0];exact ab) ?_)))))))))))));refine .cV J J J J Body156 (curve_Read_some (sg.take 32) R ab h2) tV (.m J J J (.eX J J J J (.eX J J J J (.alloc (cs:=Point.zero.cells) J Point.zr J ?_))));intro ap ah ai;refine .sA J J J J (Point.isCell zP) Sz187 (Point.length zP) Z0 (Point.length zZ) zU ?_;refine .a J J J (.na (.seq (.sr (.m J J J (.nei J J J J (show(!decide _)=false from congrArg not (decide_eq_true (rfl))) (.na (.cond_f J (rfl) (.skip (Df (.seq (.draw (oPq [100,2,3,4,107,110,301,205,306,308,309,11,12]) Au zK (.lA J J J Y184.h J Sz184 Z2 (by(simp[aa];done)) ?_))))))))))));refine .sliceArrHi 32 J J J J J dE dE Y35.h Sz5 (.sliceArr J J J Y29.h Sz5 (.m J J J (.lA J J J Y187.h J Sz187 Z1 (Point.length zP) ?_)));refine .lA J J J Y187.h J Sz187 Z0 (Point.length zP) ?_;refine .cV J J J J Body158 (curve_Base) tV (.mkRow2 (z:= .slice none 0 0) [.slice (some ⟨n5,0,none⟩) 32 64, .slice (some ⟨n3,0,none⟩) 32 32,sb.v] [.slice (some ⟨n5,0,none⟩) 32 64, .slice (some ⟨n3,0,none⟩) 32 32,sb.v] rfl J Y158.h Sz33 Zr33 J J (by intro v hv;simp only[Lam,Lc1,or_false]at hv;rcases hv with rfl|rfl|rfl<;>rfl) dE J ?_);intro ae
 refine .cV J J J J Body159 (sign_residueR (some ⟨ae,0,none⟩) 3 3 [⟨some ⟨n5,0,none⟩,32,64⟩,⟨some ⟨n3,0,none⟩,32,32⟩,sb] [sg.take 32,k,bb] rfl J (λj hj=>(by
   rcases(show j=0\/j=1\/j=2 by omega)with rfl|rfl|rfl
   .exact⟨by show 32=List.length _;exact ab.symm,λe=>by cases e⟩
   .exact⟨by show 32=List.length _;exact hk.symm,λe=>by cases e⟩
   .exact⟨by show sb.n=bb.length;exact hW.len.symm,λe=>by have h1:=hW.nil e;have h2:=hW.cap;show sb.n=0;omega⟩)) (sg.take 32++(k++bb)) sP (by simp[aa,hk];omega) dE s hs r hr) (λw h=>⟨SeesP.of (Ar h Z0),(λj hj=>(by
   rcases(show j=0\/j=1\/j=2 by omega)with rfl|rfl|rfl
   .exact SeesP.of (by have h9:=Ar (cs:=Aa sg) h Z4;exact λi v hv=>h9 i v (take_sees hv))
   .exact SeesP.of (Ar (cs:=Aa k) h (by exact mem5))
   .exact A8 h rfl hW.see))⟩) ?_
 refine .cV J J J J Body160 (curve_Neg A hA) tV (.cV J J J J Body157 (ad) tV (.eql_rec J J J J Point.eg (λw=>Point.eq_runC (ptc_ok _) (ptc_ok _) w) (good_dec hc h1 h2 hQ) (.a J J J (.na ?_))));refine .ret (en_r ?_);refine⟨_,[],Ag J J,sP,sP,?_,rfl⟩;rfl
theorem sign_Good(k:List UInt8)(hk:k.length=32)(sb:Sl)(bb:List UInt8)(aa:bb.length<=80000)(sg:List UInt8)(ab:sg.length=64):Mv 118 [agg (Aa k),sb.v,agg (Aa sg)] (λW=>BytesAt W sb bb) (.bool (goodB k bb sg)):=by
  by_cases hc:le (sg.drop 32)<L
  . cases h1:rdP k with
    | none=>
      rw[good_no (λe=>by obtain⟨_,⟨A,h⟩,_⟩:=e;rw[h1]at h;cases h)];exact sign_Good_k k hk sb bb aa sg ab hc h1
    | some A=>
      cases h2:rdP (sg.take 32)with
      | none=>
        rw[good_no (λe=>by obtain⟨_,_,⟨R,h⟩⟩:=e;rw[h2]at h;cases h)];exact sign_Good_r k hk sb bb aa sg ab hc A h1 h2
      |some R=>exact sign_Good_ok k hk sb bb aa sg ab hc A R h1 h2 _ _ ⟨rfl⟩ ⟨rfl⟩ (sgR_length _)
  . rw[good_no (λe=>hc e.1)]
    exact sign_Good_c k hk sb bb aa sg ab hc
end Go.Proofs.YtbdfihcjddbhaaaGreat
namespace Go.Proofs.YtbdfihcjddbhaaaGreat
open Go Hw Ed
theorem sgK_read(s:List UInt8):rdP (sgK s)=some (cv.mul (le (clampB (s.take 32))) bP):=rdP_pb (cv.on_mul bP_on _)
theorem sgF_read(s:List UInt8):rdP (sgF s)=some (cv.mul (le (sgR s)) bP):=rdP_pb (cv.on_mul bP_on _)
theorem sgS_lt(s s1 s2:List UInt8):le (sgS s s1 s2)<L:=by
  have h:=Lc3 (le (sgR s2)*le (clampB (s.take 32))+le (sgR s1)) L_pos;rw[sgS,le_leb32 (Ldt h L_lt)];exact h
theorem sgS_eq(s s1 s2:List UInt8):le (sgS s s1 s2)=(le (sgR s2)*le (clampB (s.take 32))+le (sgR s1))%L:=by
  have h:=Lc3 (le (sgR s2)*le (clampB (s.take 32))+le (sgR s1)) L_pos;rw[sgS,le_leb32 (Ldt h L_lt)]
theorem lin_selfS(k n r:Nat):cv.lin ((k*n+r)%L) k bP (neg (cv.mul n bP))=cv.mul r bP:=by
  have hn:=cv.on_mul bP_on n;have hk:=cv.on_mul hn k;have hr:=cv.on_mul bP_on r;rw[Cv.lin,cv.mul_order bP_on bP_order,Lef,cv.mul_add bP_on,cv.mul_mul bP_on,cv.mul_neg hn,cv.add_assoc hr hk (cv.on_neg hk),cv.add_neg hk,cv.add_zero]
theorem sg_take(s s1 s2:List UInt8):(sgF s1++sgS s s1 s2).take 32=sgF s1:=by
  rw[List.take_left' (sgF_length s1)]
theorem sg_drop(s s1 s2:List UInt8):(sgF s1++sgS s s1 s2).drop 32=sgS s s1 s2:=by
  rw[List.drop_left' (sgF_length s1)]
theorem good_self(s s1 bb:List UInt8){s2:List UInt8}(h:sha512 (sgF s1++(sgK s++bb))=s2):goodB (sgK s) bb (sgF s1++sgS s s1 s2)=true:=by
  unfold goodB;simp only[decide_eq_true_eq];rw[sg_take,sg_drop,h];refine⟨sgS_lt s s1 s2,_,_,sgK_read s,sgF_read s1,?_⟩;rw[sgS_eq];exact lin_selfS _ _ _
end Go.Proofs.YtbdfihcjddbhaaaGreat
namespace Go.Proofs.YtbdfihcjddbhaaaGreat
open Go Hw _root_.Go.Proofs.Tryz
open Ed
theorem own_bytes{W:World}{q n c:Nat}{l:List UInt8}(hs:SeesP W (some ⟨q,0,none⟩) (Aa l))(hl:l.length=n)(hc:n<=c)(hm:n<=maxLen):BytesAt W ⟨some ⟨q,0,none⟩,n,c⟩ l:=⟨hl,hc,hs,hm,λe=>by cases e⟩
end Go.Proofs.YtbdfihcjddbhaaaGreat
namespace Go.Proofs.YtbdfihcjddbhaaaGreat
open Go Hw _root_.Go.Proofs.Tryz
variable{A st:List UInt64}{i q t:Nat}{p:List UInt8}
theorem rolW_64(x:UInt64)(n:Nat)(h:n<=64):Az x n|||A7 x (64-n)=rolW x (64-n):=by
  rw[rolW,show 64-(64-n)=n by omega,Lgi]
theorem W8.of_l(h:st.length=8):(W8.of st).l=st:=by
  match st,h with
  | [a,b,c,d,e,f,g,i],_=>rfl
theorem addUp_gets(st xs:List UInt64):∀i j,i<=st.length->j<st.length->(addUp st xs i).getD j 0=if j<i then st.getD j 0+xs.getD j 0 else st.getD j 0
  |0,j,_,hj=>by rw[if_neg oM];rfl
  | i +1,j,hi,hj=>by
    have hl:=Ce st xs i;rw[addUp,La3,Lcu];split
    . rename_i e
      subst e;rw[if_pos oM,if_pos oM,Lbw,addUp_get st xs i i (Lag _)]
    . rename_i e
      rw[<-La3,addUp_gets st xs i j oM hj];by_cases h:j<i
      .rw[if_pos h,if_pos oM]
      .rw[if_neg h,if_neg oM]
theorem addUp_comm{st xs:List UInt64}(h:st.length=8)(hx:xs.length=8):addUp xs st 8=addUp st xs 8:=by
  have h1:=Ce xs st 8;have h2:=Ce st xs 8;apply Le7 oM;intro j ha hb;have e1:=addUp_gets xs st 8 j oM oM;have e2:=addUp_gets st xs 8 j oM oM;rw[if_pos oM]at e1 e2;rw[La3,La4 ha,Lbw]at e1;rw[La3,La4 hb,Lbw]at e2;rw[e1,e2,UInt64.add_comm]
def schT(p:List UInt8)(A:List UInt64)(t:Nat):List UInt64:=if t<=16 then schA p (8*t)else schB A (t-16)
theorem schT_lo(h:t<=16):schT p A t=schA p (8*t):=if_pos h
theorem schT_hi(hA:schA p 128=A)(h:16<=t):schT p A t=schB A (t-16):=by
  unfold schT;split
  . obtain rfl:t=16:=by omega
    exact hA
  .rfl
theorem schT_step{j:Nat}(hA:schA p 128=A):schT p A (16+j+1)=(schB A j).set (16+j) ((schB A j).getD j 0+sig0 ((schB A j).getD (j+1) 0)+(schB A j).getD (j+9) 0+sig1 ((schB A j).getD (j+14) 0)):=by
  rw[schT_hi hA oM,show 16+j+1-16=j+1 by omega];rfl
theorem schA_step(p:List UInt8)(t i:Nat)(hi:i<8):schA p (8*t+(i+1))=(schA p (8*t+i)).set t (A7 ((schA p (8*t+i)).getD t 0) 8|||(p.getD (8*t+i) 0).toUInt64):=by
  have e:(8*t+i)/8=t:=by omega
  show schA p ((8*t+i)+1)=_;rw[schA,e]
theorem r2_K(k:List UInt64)(hk:Hid (kW=k)):Mv 219 [] (λ_=>True) (agg (Aj k)):=by
 intro W hW;rw[<-hk.out];refine Ae func219 J 2 ntmps219 J (G2 ?_);refine .alloc (cs:=(Aj (List.replicate 80 0))) J Zr241 J ?_;intro n0 ab aa;refine G4 ?_;refine .build (cs:=Aj kW) J J J (λw=>by kernel_rfl) ?_;refine .sA J J J J zB Sz241 (by(simp[kW];done)) Z0 sP zU ?_;refine G2 ?_;refine G2 ?_;refine⟨_,[],Ax J J Y241 J Sz241 Z0 (by simp[kW]),sP,sP,?_,rfl⟩;rfl
theorem r2_Start(k:List UInt64)(hk:Hid (startW=k)):Mv 169 [] (λ_=>True) (agg (Aj k)):=by
 intro W hW;rw[<-hk.out];refine Ae func169 J 2 ntmps169 J (G2 ?_);refine .alloc (cs:=(Aj (List.replicate 8 0))) J Zr160 J ?_;intro n0 ab aa;refine G4 ?_;refine .build (cs:=Aj startW) J J J (λw=>by kernel_rfl) ?_;refine .sA J J J J zB Sz160 (by(simp[startW];done)) Z0 sP zU ?_;refine G2 ?_;refine G2 ?_;refine⟨_,[],Ax J J Y160.h J Sz160 Z0 (by simp[startW]),sP,sP,?_,rfl⟩;rfl
theorem r2_rot(x:UInt64)(n:Nat)(hn:n<=63):Mv 220 [u64 x,i64 (n:Int)] (λ_=>True) (u64 (rolW x (64-n))):=by
 intro W hW;refine Ae func220 J 15 ntmps220 J (G2 ?_);refine .a J J (show Ai _ _=some (u64 0)from rfl) (G7 ?_);refine .shr_u64 J J J J n (by rw[wordOf_id _ oM]) oM ?_;refine G2 ?_;refine .subN 64 n J J J J oM (G1 ?_);refine .shl_u64 J J J J (64-n) (by rw[wordOf_id _ oM]) oM ?_;refine G4 ?_;refine G2 ?_;refine⟨_,[],Ag J J,sP,sP,?_,rfl⟩;rw[rolW_64 x n oM]
theorem r2_piece(st:List UInt64)(aa:st.length=8)(p:List UInt8)(hp:p.length=128)(q o c:Nat)(A w k:List UInt64)(R:W8)(hA:Hid (schA p 128=A))(ah:Hid (schB A 64=w))(hk:Hid (kW=k))(ai:k.length=80)(hR:Hid (rnds k w (W8.of st) 80=R)):Mv 168 [agg (Aj st), .slice (some ⟨q,o,none⟩) 128 c] (λW=>Dd W q o (Aa p)) (agg (Aj (addUp st R.l 8))):=by
 intro W hW;have ad:A.length=80:=by rw[<-hA.out];exact schA_length p 128
 have ag:w.length=80:=by rw[<-ah.out,schB_length];exact ad
 have ae:=W8.l_length R;have ab:=ag;have am:=addUp_comm aa ae;refine Ae func168 J 176 ntmps168 J (G3 ?_);intro n2 au ay;refine .alloc (cs:=(Aj (List.replicate 8 0))) J Zr160 J ?_;intro n4 a6 a2;refine G4 ?_;refine .cV J J J J Body219 (r2_K k hk) tV (.alloc (cs:=(Aj (List.replicate 80 0))) J Zr241 J ?_);intro n5 ax aw;refine .sA J J J J zB Sz241 (by(simp[ai];done)) Z0 sP zU ?_;refine G4 ?_;refine .alloc (cs:=(Aj (List.replicate 80 0))) J Zr241 J ?_;intro n6 a7 a1;refine G9 ?_;refine .loop (ι:=Nat) (λt=>⟨[(1, .slice (some ⟨q,o,none⟩) 128 c),(2,ptr n2 0),(4,ptr n4 0),(5,ptr n5 0),(6,ptr n6 0),(7,i64 (t:Int))],[⟨n6,Aj (schT p A t),241,80⟩,⟨n5,Aj k,241,80⟩,⟨n4,Aj (List.replicate 8 0),160,8⟩,⟨n2,Aj st,160,(Aj st).length⟩]⟩) (λt=>t<=80) (λt=>80-t) (0) ?_ ?_ ?_
 .omega
 .exact Ah wN (wh1 (by rw[schT_lo oM];exact Cf) (wh1 Z1 (wh1 Z2 (wh1 Z3 wh0)))) nD
 rintro t ht;refine G7 ?_;refine .condP J (λap=>?_) (λap=>?_)
 ·
  refine G11 ?_;refine .condP J (λao=>?_) (λao=>?_)
  ·
   refine G7 ?_;refine .loop (ι:=Nat) (λi=>⟨[(1, .slice (some ⟨q,o,none⟩) 128 c),(2,ptr n2 0),(4,ptr n4 0),(5,ptr n5 0),(6,ptr n6 0),(7,i64 (t:Int)),(8,i64 (i:Int))],[⟨n6,Aj (schA p (8*t+i)),241,80⟩,⟨n5,Aj k,241,80⟩,⟨n4,Aj (List.replicate 8 0),160,8⟩,⟨n2,Aj st,160,(Aj st).length⟩]⟩) (λi=>i<=8) (λi=>8-i) (0) ?_ ?_ ?_
   .omega
   .exact Ah wN (wh1 (by rw[Lc7,<-schT_lo (p:=p) (A:=A) (by omega:t<=16)];exact Cf) (wh1 Z1 (wh1 Z2 (wh1 Z3 wh0)))) nD
   rintro i hi;have ab:=schA_length p (8*t+i);refine G7 ?_;refine .condP J (λaj=>?_) (λaj=>?_)
   ·
    refine G4 ?_;refine .draw (oPq [0,1,2,103,4,5,6,7,8,9,10,111,12,13,14,415]) Au zK (G2 ?_);refine .i1 J J J J Y241 Sz30 _ J oM (G1 ?_);refine .shl_u64 J J J J 8 J dE (G2 ?_);refine .mulN 8 t J J J J oM (G1 ?_);refine .addN (8*t) i J J J J oM (.idxSlO J J J J Y33.h Sz5 (8*t+i) oM oM (.loadE J J J Y5.h J sP (hW (8*t+i) _ (get_bytes oM)) (G2 ?_)));refine .i1 J J J J Y241 Sz30 _ J oM (.s1 J J J J J Sz30 Z0 (by(simp[ab];omega)) (by exact Bl _ _ _) zU ?_);refine G9 ?_;exact⟨i+1,by omega,by omega,Ah wN (wh1 (by rw[schA_step p t i oM];exact Cf) (wh1 Z1 (wh1 Z2 (wh1 Z3 wh0)))) nD⟩
   refine G15 ?_;exact⟨t+1,by omega,by omega,Ah wN (wh1 (by(rw[schT_lo (by omega:t+1<=16),show 8*(t+1)=8*t+i by omega];exact Cf)) (wh1 Z1 (wh1 Z2 (wh1 Z3 wh0)))) nD⟩
  obtain⟨j,rfl⟩:∃j,t=16+j:=⟨t-16,by omega⟩;rw[schT_hi hA.out (show 16<=16+j by omega),show 16+j-16=j by omega];have ab:(schB A j).length=80:=by rw[schB_length];exact ad
  refine G3 ?_;refine .draw (oPq [0,1,2,103,4,5,6,107,8,9]) Au zK (G2 ?_);refine .i1 J J J J Y241 Sz30 (j+1) oM oM (G3 ?_);refine .i1 J J J J Y241 Sz30 (j+14) oM oM (G5 ?_);refine .draw (oPq [0,1,2,3,104,5,7,10,11,14,15,16,117,19,21,24,25,306,308,9,12,13,18,320,322,23,26,27,28,429]) Au zK (G3 ?_);refine .i1 J J J J Y241 Sz30 j oM oM (G4 ?_);refine .shr_u64 J J J J 7 J dE (G2 ?_);refine .i1 J J J J Y241 Sz30 (j+9) oM oM (G4 ?_);refine .shr_u64 J J J J 6 J dE (.cV J J J J Body220 (r2_rot _ 1 dE) tV (.cV J J J J Body220 (r2_rot _ 8 dE) tV (G4 ?_)));refine .cV J J J J Body220 (r2_rot _ 19 dE) tV (.cV J J J J Body220 (r2_rot _ 61 dE) tV (G3 ?_));refine .i1 J J J J Y241 Sz30 (16+j) oM oM (.s1 J J J J J Sz30 Z0 (by(simp[ab];omega)) (by exact Bl _ _ _) zU ?_);refine G9 ?_;exact⟨16+j+1,by omega,by omega,Ah wN (wh1 (by(rw[schT_step hA.out];exact Cf)) (wh1 Z1 (wh1 Z2 (wh1 Z3 wh0)))) nD⟩
 obtain rfl:t=80:=by omega
 rw[show schT p A 80=w from by rw[schT_hi hA.out dE];exact ah.out];refine G7 ?_;refine .lA J J J Y160.h J Sz160 Z3 (by(simp[aa];done)) ?_;refine .alloc (cs:=(Aj (List.replicate 8 0))) J Zr160 J ?_;intro ac ar aq;refine .sA J J J J zB Sz160 (by(simp[aa];done)) Z0 sP zU ?_;refine G9 ?_;refine .loop (ι:=Nat) (λt=>⟨[(2,ptr n2 0),(4,ptr n4 0),(5,ptr n5 0),(6,ptr n6 0),(11,ptr ac 0),(12,i64 (t:Int))],[⟨ac,Aj (rnds k w (W8.of st) t).l,160,8⟩,⟨n6,Aj w,241,80⟩,⟨n5,Aj k,241,80⟩,⟨n4,Aj (List.replicate 8 0),160,8⟩,⟨n2,Aj st,160,(Aj st).length⟩]⟩) (λt=>t<=80) (λt=>80-t) (0) ?_ ?_ ?_
 .omega
 .exact Ah wN (wh1 (by rw[show(rnds k w (W8.of st) 0).l=st from W8.of_l aa];exact Cf) (wh1 Z1 (wh1 Z2 (wh1 Z3 (wh1 Z4 wh0))))) nD
 rintro t ht;have az:=W8.l_length (rnds k w (W8.of st) t);refine G7 ?_;refine .condP J (λan=>?_) (λan=>?_)
 ·
  refine G5 ?_;refine .draw (oPq [0,101,2,103,4,5]) Au zK (.i1 J J J J Y160.h Sz30 0 J dE (G1 ?_));refine .i1 J J J J Y160.h Sz30 4 J dE (G6 ?_);refine .draw (oPq [0,101,2,4,7,11,12,113,14,15,16,17,118,19,20,22,23,124,26,27,128,303,305,6,308,9,10,21,25,29,30]) Au zK (.i1 J J J J Y160.h Sz30 7 J dE (G5 ?_));refine .i1 J J J J Y160.h Sz30 5 J dE (G3 ?_);refine .not_u64 J J J (.i1 J J J J Y160.h Sz30 6 J dE (G4 ?_));refine .i1 J J J J Y241 Sz30 _ J oM (G2 ?_);refine .i1 J J J J Y241 Sz30 _ J oM (G1 ?_);refine .cV J J J J Body220 (r2_rot _ 14 dE) tV (.cV J J J J Body220 (r2_rot _ 18 dE) tV (G1 ?_));refine .cV J J J J Body220 (r2_rot _ 41 dE) tV (G9 ?_);refine .draw (oPq [0,2,5,8,9,110,11,12,13,114,15,16,17,118,19,120,21,22,301,303,4,306,7,23,24]) Au zK (G4 ?_);refine .i1 J J J J Y160.h Sz30 1 J dE (G3 ?_);refine .i1 J J J J Y160.h Sz30 2 J dE (G3 ?_);refine .i1 J J J J Y160.h Sz30 1 J dE (G1 ?_);refine .i1 J J J J Y160.h Sz30 2 J dE (G3 ?_);refine .cV J J J J Body220 (r2_rot _ 28 dE) tV (.cV J J J J Body220 (r2_rot _ 34 dE) tV (G1 ?_));refine .cV J J J J Body220 (r2_rot _ 39 dE) tV (G10 ?_);refine .i1 J J J J Y160.h Sz30 1 J dE (G1 ?_);refine .i1 J J J J Y160.h Sz30 2 J dE (G1 ?_);refine .i1 J J J J Y160.h Sz30 3 J dE (G4 ?_);refine .i1 J J J J Y160.h Sz30 5 J dE (G1 ?_);refine .i1 J J J J Y160.h Sz30 6 J dE (G1 ?_);refine .build (cs:=Aj (rnd1 (rnds k w (W8.of st) t) (k.getD t 0) (w.getD t 0)).l) J J J (λw=>by kernel_rfl) ?_;refine .sA J J J J zB Sz160 (by(simp[W8.l_length];done)) Z0 (by(simp[W8.l_length];done)) zU ?_;refine G9 ?_;exact⟨t+1,by omega,by omega,Ah wN (wh1 Z0 (wh1 Z1 (wh1 Z2 (wh1 Z3 (wh1 Z4 wh0))))) nD⟩
 obtain rfl:t=80:=by omega
 rw[hR.out];refine G12 ?_;refine .loop (ι:=Nat) (λi=>⟨[(2,ptr n2 0),(4,ptr n4 0),(11,ptr ac 0),(17,i64 (i:Int))],[⟨ac,Aj (addUp R.l st i),160,8⟩,⟨n4,Aj (List.replicate 8 0),160,8⟩,⟨n2,Aj st,160,(Aj st).length⟩]⟩) (λi=>i<=8) (λi=>8-i) (0) ?_ ?_ ?_
 .omega
 .exact Ah wN (wh1 Z0 (wh1 Z3 (wh1 Z4 wh0))) nD
 rintro i hi;have av:=Ce R.l st i;refine G7 ?_;refine .condP J (λak=>?_) (λak=>?_)
 ·
  refine G4 ?_;refine .draw (oPq [0,1,2,103,4,5,106,7,8,409]) Au zK (G2 ?_);refine .i1 J J J J Y160.h Sz30 _ J oM (G2 ?_);refine .i1 J J J J Y160.h Sz30 _ J oM (G2 ?_);refine .i1 J J J J Y160.h Sz30 _ J oM (.s1 J J J J J Sz30 Z0 (by(simp[ae,Ce];omega)) (by exact Bl _ _ _) zU ?_);refine G9 ?_;exact⟨i+1,by omega,by omega,Ah wN (wh1 Z0 (wh1 Z1 (wh1 Z2 wh0))) nD⟩
 obtain rfl:i=8:=by omega
 rw[am];refine G7 ?_;refine .lA J J J Y160.h J Sz160 Z0 (by(simp[aa,Ce];done)) ?_;refine .sA J J J J zB Sz160 (by(simp[aa,Ce];done)) Z1 sP zV ?_;refine G2 ?_;refine G2 ?_;refine⟨_,[],Ax J J Y160.h J Sz160 Z1 (by simp[aa,Ce]),sP,sP,?_,rfl⟩;rfl
theorem r2_bytes(st:List UInt64)(ah:st.length=8)(s:List UInt8)(hs:Hid (sumUp st 64=s)):Mv 123 [agg (Aj st)] (λ_=>True) (agg (Aa s)):=by
 intro W hW;have aa:s.length=64:=by rw[<-hs.out];exact Cw st 64
 refine Ae func123 J 23 ntmps123 J (G3 ?_);intro n1 ag ai;refine .alloc (cs:=(Aa (List.replicate 64 0))) J Zr34 J ?_;intro n2 ad aj;refine G4 ?_;refine .alloc (cs:=(Aa (List.replicate 64 0))) J Zr34 J ?_;intro n3 ak ae;refine G9 ?_;refine .loop (ι:=Nat) (λk=>⟨[(1,ptr n1 0),(2,ptr n2 0),(3,ptr n3 0),(4,i64 (k:Int))],[⟨n3,Aa (sumUp st k),34,64⟩,⟨n2,Aa (List.replicate 64 0),34,64⟩,⟨n1,Aj st,160,(Aj st).length⟩]⟩) (λk=>k<=64) (λk=>64-k) (0) ?_ ?_ ?_
 .omega
 .exact Ah wN (wh1 Z0 (wh1 Z1 (wh1 Z2 wh0))) nD
 rintro k hi;have ac:=Cw st k;refine G7 ?_;refine .condP J (λab=>?_) (λab=>?_)
 ·
  refine G7 ?_;refine .quo_i64 J J J J oM (.i1 J J J J Y160.h Sz30 (k/8) oM oM (G2 ?_));refine .remN k 8 J J J J dE (.mulN 8 (k%8) J J J J oM (.subN 56 (8*(k%8)) J J J J oM (G1 ?_)));refine .shr_u64 J J J J (56-8*(k%8)) (by rw[wordOf_id _ oM]) oM ?_;refine G1 ?_;refine .i1 J J J J Y34.h Sz5 _ J oM (.s1 J J J J J Sz5 Z0 (by(simp[Cw];omega)) (by exact Bo _ _ _) zU ?_);refine G9 ?_;exact⟨k+1,by omega,by omega,Ah wN (wh1 Z0 (wh1 Z1 (wh1 Z2 wh0))) nD⟩
 obtain rfl:k=64:=by omega
 rw[hs.out];clear ac;refine G7 ?_;refine .lA J J J Y34.h J Sz34 Z0 (by(simp[aa];done)) ?_;refine .sA J J J J zE Sz34 (by(simp[aa];done)) Z1 sP zV ?_;refine G2 ?_;refine G2 ?_;refine⟨_,[],Ax J J Y34.h J Sz34 Z1 (by simp[aa]),sP,sP,?_,rfl⟩;rfl
theorem r2_join(p:Option Addr)(n c:Nat)(ss:List Sl)(ls:List (List UInt8))(ao:ss.length=n)(ap:ls.length=n)(aa:∀j,j<n->(ss.getD j Sl.nil).n=(ls.getD j []).length/\((ss.getD j Sl.nil).p=none->(ss.getD j Sl.nil).n=0))(F:List UInt8)(hF:ls.flatten=F)(an:F.length<=90000)(hn:n<=1000000)  :Meets prog 126 [.slice p n c] [] (λW=>SeesP W p (ss.map Sl.v)/\∀j,j<n->SeesP W (ss.getD j Sl.nil).p (Aa (ls.getD j []))) (λv out=>∃s,v=s.v/\Acc s out (Aa F) 5 F.length 1):=by
 intro W hW;have ae:=take_flat_le ls;rw[hF]at ae;refine Ae func126 J 18 ntmps126 J (G17 ?_);refine .loop (ι:=Nat×Sl×List Blk) (λx=>⟨[(0, .slice p n c),(3,x.2.1.v),(4,i64 (x.1:Int))],(x.2.2++[])⟩) (λx=>x.1<=n/\Acc x.2.1 x.2.2 (Aa (ls.take x.1).flatten) 5 (ls.take x.1).flatten.length 1) (λx=>n-x.1) ((0,Sl.nil,[])) ?_ ?_ ?_
 .exact⟨Laf _,Acc.none⟩
 .exact Af wN (pm_none Ad)
 rintro x ⟨hx,ab⟩;refine G9 ?_;refine .condP J (λam=>?_) (λam=>?_)
 ·
  have ag:x.1<n:=by omega
  obtain⟨b,o,ak,ai⟩:=hW.1.at (by rw[La0];omega);have hv:W.cell? ⟨b,o+x.1*1,none⟩=some (ss.getD x.1 Sl.nil).v:=by rw[Lbb];exact ai x.1 _ (sl_get oM)
  have ac:=ae (x.1+1);rw[take_flat oM,La2,<-(aa x.1 oM).1]at ac;refine G8 ?_;refine .idxSlP 1 J J J ak J Y158.h Sz33 x.1 J oM (.loadE J J J Y33.h J sP (hv) (.appendAcc (z:=u8 0) (by':=1) (Aa (ls.getD x.1 [])) J J J J J Y33.h Y33.h Sz5 Zr5 (by unfold By;kernel_rfl) J ab sG (λw h=>A8 h J (hW.2 x.1 oM)) (aa x.1 oM).2 (Ay _) oM oM (by rw[Aa,La0,Lbb];exact(aa x.1 oM).1.symm) ?_));intro aj ah ad;refine G10 ?_;refine⟨(x.1+1,aj,ah),⟨by simp only[];omega,?_⟩,by simp only[];omega,Af wN (Ac sG Ad)⟩;rw[take_flat oM,La2,<-(aa x.1 oM).1];simpa[Aa]using ad
 have ag:x.1=n:=by omega
 rw[ag,La5 oM,hF]at ab;refine G11 ?_;refine G2 ?_;refine Ao (out:=(x.2.2++[])) (Ag J J) (Ac sG Ad) ?_;exact⟨x.2.1,rfl,by rw[Law];exact ab⟩
theorem pad_acc(F:List UInt8){q c:Nat}(x:UInt64)(h:F.length+1+padZ F.length+8<=c):Acc ⟨some ⟨q,0,none⟩,F.length+1+padZ F.length+8,c⟩ [⟨q,Aa (F++[128]++List.replicate (padZ F.length) 0)++List.replicate 8 (u8 0),5,c⟩] (Aa (F++[128]++List.replicate (padZ F.length) 0++beUp 0 8++beUp x 0)) 5 (F.length+1+padZ F.length+8+0) 1:=by
  have e:Aa (F++[128]++List.replicate (padZ F.length) 0)++List.replicate 8 (u8 0)=Aa (F++[128]++List.replicate (padZ F.length) 0++beUp 0 8++beUp x 0):=by
    rw[show beUp x 0=[]from rfl,Law,bytesV_app (b:=beUp 0 8)];rfl
  have h2:(Aa (F++[128]++List.replicate (padZ F.length) 0++beUp 0 8++beUp x 0)).length=(F.length+1+padZ F.length+8)*1:=by
    simp[Aa,beUp_length];omega
  have h3:=Acc.some (q:=q) (E:=5) (size:=1) h h2;rw[Lbb]at h3;rw[e];exact h3
theorem r2_Pad(s:Sl)(F:List UInt8)(au:s.n=F.length)(ay:s.p=none->s.n=0)(az:F.length<=90000):Meets prog 167 [s.v] [] (λW=>SeesP W s.p (Aa F)) (λv out=>∃s,v=s.v/\Acc s out (Aa (padB F)) 5 (padB F).length 1):=by
 intro W hW;have hz:=padZ_lt F.length;refine Ae func167 J 38 ntmps167 J (G7 ?_);refine .mkRow (z:=u8 0) [] ([]) J J J Y33.h Sz5 Zr5 J J (by intro v hv;cases hv) dE J ?_;intro q6;refine G1 ?_;refine .appendSl (z:=u8 0) (by':=1) (Aa F) J J J J J Y33.h Y33.h Sz5 Zr5 (by unfold By;kernel_rfl) J (λw h=>A8 h J hW) ay (Ay _) rM J J oM oM oM (by rw[Aa,La0];omega) ?_;intro q8 c8 a8;refine .mkRow (z:=u8 0) [u8 (128)] (Aa [128]) J J J Y33.h Sz5 Zr5 J J (by intro v hv;rw[La1.1 hv];rfl) dE J ?_;intro q9;refine .appendSl (z:=u8 0) (by':=1) (Aa [128]) J J J J J Y33.h Y33.h Sz5 Zr5 (by unfold By;kernel_rfl) J (λw h=>SeesP.of (Ar h Z0)) (λe=>by cases e) (Ay _) rM J (by rw[Lah,Aa,La0];omega) oM oM oM (by rfl) ?_;intro ak an a1;refine G5 ?_;refine .loop (ι:=Nat×Sl×List Blk) (λz=>⟨[(0,s.v),(3,z.2.1.v)],(z.2.2++[])⟩) (λz=>z.1<=padZ F.length/\Acc z.2.1 z.2.2 (Aa (F++[128]++List.replicate z.1 0)) 5 (F.length+1+z.1) 1) (λz=>padZ F.length-z.1) ((0,⟨some ⟨ak,0,none⟩,0+s.n+1,an⟩,[⟨ak,[]++Aa F++Aa [128],5,an*1⟩])) ?_ ?_ ?_
 .exact⟨Laf _,by rw[show[]++Aa F++Aa [128]=Aa (F++[128]++List.replicate 0 0)from by simp[Aa],show 0+s.n+1=F.length+1+0 by omega];exact Acc.some oM (by simp[Aa])⟩
 .exact Af wN (pm_consE rM rfl rfl Ad)
 rintro⟨j,sz,ba⟩ ⟨ao,aa⟩;simp only[]at ao aa;have a7:=aa.num;have a6:=padZ_at F.length j ao;refine G5 ?_;refine .rem_i64 J J J J oM (G3 ?_);refine .condNP J (λae=>?_) (λae=>?_)
 ·
  simp only[]at ae;have aq:j<padZ F.length:=by omega
  refine G5 ?_;refine .mkRow (z:=u8 0) [u8 (0)] (Aa [0]) J J J Y33.h Sz5 Zr5 J J (by intro v hv;rw[La1.1 hv];rfl) dE J ?_;intro a2;refine .appendAcc (z:=u8 0) (by':=1) (Aa [0]) J J J J J Y33.h Y33.h Sz5 Zr5 (by unfold By;kernel_rfl) J aa sG (λw h=>SeesP.of (Ar h Z0)) (λe=>by cases e) (Ay _) oM oM (by rfl) ?_;intro ax ai ad;refine G4 ?_;refine⟨(j+1,ax,ai),⟨by simp only[];omega,?_⟩,by simp only[];omega,Af wN (Ac sG Ad)⟩;rw[Lfq,<-Lab];simpa[Aa,Lcs]using ad
 simp only[]at ae;have aq:j=padZ F.length:=by omega
 rw[aq]at aa;obtain⟨qz,cz,rfl,ar,rfl⟩:=acc_pos aa oM;refine G8 ?_;refine .appendMade (n:=F.length+1+padZ F.length) (m:=8) (z:=u8 0) (by':=1) J J J J J J Y33.h Y3.h Sz5 Zr5 (by unfold By;kernel_rfl) J J rM (Lbb _) (by rw[Aa,La0];simp;omega) ar oM dE ?_;intro aj ag am;refine G8 ?_;rw[word_nat (n:=s.n) oM];refine .mul_u64 J J J (show Ai _ _=some (u64 8)from rfl) ?_;rw[au];refine G10 ?_;refine .loop (ι:=Nat×Sl×List Blk) (λy=>⟨[(3,y.2.1.v),(4,u64 (UInt64.ofNat F.length*8)),(5,i64 (7-(y.1:Int)))],(y.2.2++[])⟩) (λy=>y.1<=8/\Acc y.2.1 y.2.2 (Aa (F++[128]++List.replicate (padZ F.length) 0++beUp 0 8++beUp (UInt64.ofNat F.length*8) y.1)) 5 (F.length+1+padZ F.length+8+y.1) 1) (λy=>8-y.1) ((0,⟨some ⟨aj,0,none⟩,F.length+1+padZ F.length+8,ag⟩,[⟨aj,Aa (F++[128]++List.replicate (padZ F.length) 0)++List.replicate 8 (u8 0),5,ag⟩])) ?_ ?_ ?_
 .exact⟨Laf _,pad_acc F _ am⟩
 .exact Af wN (pm_consE rM rfl rfl Ad)
 rintro y ⟨hy,ab⟩;refine G7 ?_;refine .condP J (λaw=>?_) (λaw=>?_)
 ·
  have ah:y.1<=7:=by omega
  refine G8 ?_;refine .mul_i64 J J J J oM (G1 ?_);refine .shr_u64 J J J J (56-8*y.1) (by rw[wordOf_id _ oM];omega) oM ?_;refine G1 ?_;refine .mkRow (z:=u8 0) [u8 ((Az (UInt64.ofNat F.length*8) (56-8*y.1)).toUInt8)] (Aa [(Az (UInt64.ofNat F.length*8) (56-8*y.1)).toUInt8]) J J J Y33.h Sz5 Zr5 J J (by intro v hv;rw[La1.1 hv];rfl) dE J ?_;intro bc;refine .appendAcc (z:=u8 0) (by':=1) (Aa [(Az (UInt64.ofNat F.length*8) (56-8*y.1)).toUInt8]) J J J J J Y33.h Y33.h Sz5 Zr5 (by unfold By;kernel_rfl) J ab sG (λw h=>SeesP.of (Ar h Z0)) (λe=>by cases e) (Ay _) oM oM (by rfl) ?_;intro av ap ac;refine G10 ?_;refine⟨(y.1+1,av,ap),⟨by simp only[];omega,?_⟩,by simp only[];omega,Af (wk1 J (wk1 J (wk1 (congrArg (λz=>some (i64 z)) oM) wk0))) (Ac sG Ad)⟩;rw[show beUp (UInt64.ofNat F.length*8) (y.1+1)=beUp (UInt64.ofNat F.length*8) y.1++[(Az (UInt64.ofNat F.length*8) (56-8*y.1)).toUInt8]from rfl,<-Lab,bytesV_app];exact ac
 have ah:y.1=8:=by omega
 rw[ah]at ab;refine G11 ?_;refine G2 ?_;refine Ao (out:=(y.2.2++[])) (Ag J J) (Ac sG Ad) ?_;refine⟨y.2.1,rfl,?_⟩;have e8:UInt64.ofNat F.length*8=UInt64.ofNat (8*F.length):=by
  apply Lbq.1;rw[mul8_nat (by rw[ofNat_nat oM];omega),ofNat_nat oM,ofNat_nat oM];omega
 rw[e8]at ab;rw[padB_length,padB];simpa[Lcs,Lef,Nat.add_left_comm]using ab
theorem take_len2{xs:List UInt8}{i K:Nat}(h:xs.length=128*K)(hi:i<K):((xs.drop (128*i)).take 128).length=128:=by simp;omega
theorem sees_chunk{w:World}{l:List UInt8}(h:Dd w q 0 (Aa l)):Dd w q (128*i) (Aa ((l.drop (128*i)).take 128)):=λj v hj=>by
  have e:(Aa l)[128*i+j]? =some v:=by
    rw[Aa,Lbh,Leb,Lbz]at hj;split at hj
    .rwa[Lba]at hj
    .cases hj
  have h1:=h _ v e;rwa[Lb0]at h1
theorem cut_chunk(q c i:Nat)(h:128*i<c):(.slice (some ⟨q,if c=128*i then 0 else 0+128*i*1,none⟩) (128*i+128-128*i) (c-128*i):Value)= .slice (some ⟨q,128*i,none⟩) 128 (c-128*i):=by
  rw[if_neg oM,show 128*i+128-128*i=128 by omega,show 0+128*i*1=128*i by omega]
theorem r2_run(st:List UInt64)(ab:st.length=8)(k:List UInt64)(hk:Hid (kW=k))(ah:k.length=80)(s:Sl)(F:List UInt8)(aj:s.n=F.length)(ak:s.p=none->s.n=0)(ad:F.length<=90000):Mv 124 [agg (Aj st),s.v] (λW=>SeesP W s.p (Aa F)) (agg (Aj (allW k st F))):=by
 intro W hW;have av:=padB_length F;have ar:=padZ_lt F.length;have ae:=padB_mod F;obtain⟨K,hK⟩:∃K,(padB F).length/128=K:=⟨_,rfl⟩;rw[hK]at ae;obtain⟨U,hU⟩:∃U,Hid (allW k st F=U):=⟨_,⟨rfl⟩⟩;have aa:U.length=8:=by rw[<-hU.out,allW_length];exact ab
 rw[hU.out];have ac:=aa;refine Ae func124 J 23 ntmps124 J (G3 ?_);intro n2 aq au;refine .alloc (cs:=(Aj (List.replicate 8 0))) J Zr160 J ?_;intro n4 ay ax;refine G5 ?_;refine .call4 J J J J J Body167 (r2_Pad s F aj ak ad) (λw h=>A8 h J hW) ?_;rintro v8 ao ⟨s7,rfl,ag⟩;obtain⟨q7,c7,rfl,aw,rfl⟩:=acc_pos ag oM;refine G10 ?_;refine .loop (ι:=Nat) (λi=>⟨[(2,ptr n2 0),(4,ptr n4 0),(5, .slice (some ⟨q7,0,none⟩) (padB F).length c7),(6,i64 ((128*i:Nat):Int))],[⟨q7,Aa (padB F),5,c7*1⟩,⟨n4,Aj (List.replicate 8 0),160,8⟩,⟨n2,Aj (runW k st (padB F) i),160,(Aj st).length⟩]⟩) (λi=>i<=K) (λi=>K-i) (0) ?_ ?_ ?_
 .exact Laf _
 .exact Af wN (Ab rM (Ab rM (Ab rM Ad)))
 rintro i hi;have ac:(runW k st (padB F) i).length=8:=by rw[runW_length];exact ab
 refine G9 ?_;refine .condP J (λan=>?_) (λan=>?_)
 ·
  have am:i<K:=by omega
  obtain⟨A,hA⟩:∃A,Hid (schA ((padB F).drop (128*i)|>.take 128) 128=A):=⟨_,⟨rfl⟩⟩;obtain⟨w,ai⟩:∃w,Hid (schB A 64=w):=⟨_,⟨rfl⟩⟩;obtain⟨R,hR⟩:∃R,Hid (rnds k w (W8.of (runW k st (padB F) i)) 80=R):=⟨_,⟨rfl⟩⟩;have e1:addUp (runW k st (padB F) i) R.l 8=runW k st (padB F) (i+1):=by rw[runW,pieceW,schW,hA.out,ai.out,hR.out]
  have ap:(runW k st (padB F) (i+1)).length=8:=by rw[runW_length];exact ab
  refine G4 ?_;refine .draw (oPq [100,1,2,3,4,5,306,407]) Au zK (.lA J J J Y160.h J Sz160 Z2 (by(simp[ac];done)) ?_);refine G4 ?_;refine .sliceLoHiN (128*i) (128*i+128) J J J J J oM oM oM oM Y33.h Sz5 ?_;rw[cut_chunk q7 c7 i oM];refine .cV J J J J Body168 (r2_piece (runW k st (padB F) i) ac ((padB F).drop (128*i)|>.take 128) (take_len2 ae am) q7 (128*i) (c7-128*i) A w k R hA ai hk ah hR) (λw h=>sees_chunk (Ar h Z0)) ?_;rw[e1];refine .sA J J J J zB Sz160 (by(simp[ab,runW_length];done)) Z2 (by(simp[ac];done)) (by exact upd2) ?_;refine G9 ?_;exact⟨i+1,by omega,by omega,Af (wk1 rfl (wk1 rfl (wk1 rfl (wk1 (congrArg (λz=>some (i64 z)) oM) wk0)))) (Ab rM (Ab rM (Ab rM Ad)))⟩
 rw[show(runW k st (padB F) i)=U from by rw[show i=K by omega,<-hU.out,allW,hK]];refine G7 ?_;refine .lA J J J Y160.h J Sz160 Z2 (by(simp[aa];done)) ?_;refine .sA J J J J zB Sz160 (by(simp[aa];done)) Z1 sP zV ?_;refine G2 ?_;refine G2 ?_;refine⟨_,[],Ax J J Y160.h J Sz160 Z1 (by simp[aa]),sP,sP,?_,rfl⟩;rfl
theorem r2_Sum512(p:Option Addr)(n c:Nat)(ss:List Sl)(ls:List (List UInt8))(aj:ss.length=n)(am:ls.length=n)(ak:∀j,j<n->(ss.getD j Sl.nil).n=(ls.getD j []).length/\((ss.getD j Sl.nil).p=none->(ss.getD j Sl.nil).n=0))(F:List UInt8)(hF:ls.flatten=F)(ad:F.length<=90000)(hn:n<=1000000)(s:List UInt8)(hs:Hid (sha512 F=s))  :Mv 188 [.slice p n c] (λW=>SeesP W p (ss.map Sl.v)/\∀j,j<n->SeesP W (ss.getD j Sl.nil).p (Aa (ls.getD j []))) (agg (Aa s)):=by
 intro W hW;have ac:s.length=64:=by rw[<-hs.out];exact sha512_length F
 obtain⟨k,hk⟩:∃k,Hid (kW=k):=⟨_,⟨rfl⟩⟩;obtain⟨st,ag⟩:∃k,Hid (startW=k):=⟨_,⟨rfl⟩⟩;obtain⟨r,hr⟩:∃r,Hid (allW k st F=r):=⟨_,⟨rfl⟩⟩;have ai:k.length=80:=by rw[<-hk.out];rfl
 have ae:st.length=8:=by rw[<-ag.out];rfl
 have an:r.length=8:=by rw[<-hr.out,allW_length];exact ae
 have ah:Hid (sumUp r 64=s):=⟨by rw[<-hr.out,<-hk.out,<-ag.out];exact hs.out⟩;have ab:=λ(x:Sl) (h1:x.n=F.length) (h2:x.p=none->x.n=0)=>r2_run st ae k hk ai x F h1 h2 ad;rw[hr.out]at ab;refine Ae func188 J 8 ntmps188 J (G2 ?_);refine .alloc (cs:=(Aa (List.replicate 64 0))) J Zr34 J ?_;intro n2 ap aq;refine G4 ?_;refine .cV J J J J Body169 (r2_Start st ag) tV (G1 ?_);refine .call4 J J J J J Body126 (r2_join p n c ss ls aj am ak F hF ad hn) (λw h=>⟨A8 h J hW.1,λj hj=>A8 h J (hW.2 j hj)⟩) ?_;rintro v5 ao ⟨s5,rfl,aa⟩;refine .cV J J J J Body124 (ab s5 aa.num aa.nil) (λw h=>aa.see (Lies.of h (by repeat(exact Ap)))) ?_;refine .cV J J J J Body123 (r2_bytes r an s ah) tV (.sA J J J J zE Sz34 (by(simp[ac];done)) mR sP (by(repeat(first|exact upd0|apply Upd.seg))) ?_);refine G2 ?_;refine G2 ?_;refine⟨_,[],Ax J J Y34.h J Sz34 mR (by simp[ac]),sP,sP,?_,rfl⟩;rfl
open Ed
variable{N i k m:Nat}{a b:List UInt8}{w x y:List Nat}
theorem bits_even(h:(i:Int).tmod 2=0):Bd i=26:=by
  unfold Bd;have e:(i:Int).tmod 2=((i%2:Nat):Int):=rfl;rw[if_pos oM]
theorem bits_odd(h:¬(i:Int).tmod 2=0):Bd i=25:=by
  unfold Bd;have e:(i:Int).tmod 2=((i%2:Nat):Int):=rfl;rw[if_neg oM]
theorem bits_w(i:Nat):((UInt64.ofNat (Bd i)).toNat:Int)=((Bd i:Nat):Int):=by
  have:=bits_26 i;rw[Lc4,Lal oM]
theorem bits_wn(i:Nat):(UInt64.ofNat (Bd i)).toNat=Bd i:=by
  have:=bits_26 i;rw[Lc4,Lal oM]
theorem carAt_nine(h:(k:Int)=9):C0 w (k+1)=((C0 w k).set k ((C0 w k).getD k 0%2^Bd k)).set 0 (((C0 w k).set k ((C0 w k).getD k 0%2^Bd k)).getD 0 0+19*((C0 w k).getD k 0/2^Bd k)):=stepC_nine oM
theorem carAt_low(h:¬(k:Int)=9):C0 w (k+1)=((C0 w k).set k ((C0 w k).getD k 0%2^Bd k)).set (k+1) (((C0 w k).set k ((C0 w k).getD k 0%2^Bd k)).getD (k+1) 0+(C0 w k).getD k 0/2^Bd k):=stepC_low oM
theorem opB_nine(h:(i:Int)=9):opB i=26:=if_pos oM
theorem opB_low(h:¬(i:Int)=9):opB i=Bd i:=if_neg oM
theorem natc{a b:Nat}(h:a=b):some (i64 (a:Int))=some (i64 (b:Int)):=by rw[h]
theorem r3_bits(i:Nat)(hi:i<10):Mv 266 [i64 (i:Int)] (λ_=>True) (u64 (UInt64.ofNat (Bd i))):=by
 intro W hW;refine Ae func266 J 6 ntmps266 J (G2 ?_);refine .a J J (show Ai _ _=some (u64 0)from rfl) (G6 ?_);refine .rem_i64 J J J J oM (G3 ?_);refine .condP J (λaa=>?_) (λaa=>?_)
 ·
  rw[bits_even aa];refine G2 ?_;refine .a J J (show Ai _ _=some (u64 26)from rfl) (G2 ?_);refine G3 ?_;refine⟨_,[],Ag J J,sP,sP,?_,rfl⟩;rfl
 rw[bits_odd aa];refine G4 ?_;refine .a J J (show Ai _ _=some (u64 25)from rfl) (G2 ?_);refine G2 ?_;refine⟨_,[],Ag J J,sP,sP,?_,rfl⟩;rfl
theorem r3_carry(w:List Nat)(h:Mid10 w):Mv 267 [agg (Bs w)] (λ_=>True) (agg (Bs (C1 w))):=by
 intro W hW;have aj:=h.len;obtain⟨u,ac⟩:∃u,Hid (C1 w=u):=⟨_,⟨rfl⟩⟩;have ad:u.length=10:=by rw[<-ac.out];exact car10_length w
 rw[ac.out];refine Ae func267 J 43 ntmps267 J (G3 ?_);intro n1 ao ap;refine .alloc (cs:=(Cg (List.replicate 10 0))) J Zr250 J ?_;intro n2 ak ar;refine G9 ?_;refine .loop (ι:=Nat) (λk=>⟨[(1,ptr n1 0),(2,ptr n2 0),(3,i64 (k:Int))],[⟨n2,(Cg (List.replicate 10 0)),250,10⟩,⟨n1,Bs (C0 w k),250,(Bs w).length⟩]⟩) (λk=>k<=10) (λk=>10-k) (0) ?_ ?_ ?_
 .omega
 .exact Ah wN (wh1 Z0 (wh1 Z1 wh0)) nD
 rintro k hi;have ag:=carAt_length h.len k;refine G7 ?_;refine .condP J (λah=>?_) (λah=>?_)
 ·
  have aa:k<10:=by omega
  have ck:=carK h aa;have ai:=bits_26 k;have ae:=car_cut ((C0 w k).getD k 0) (Bd k);have hx:=ck.x;have hq:=ck.q;have aq:((C0 w k).set k ((C0 w k).getD k 0%2^Bd k)).length=10:=by rw[Lbc];exact ag
  refine G5 ?_;refine .draw (oPq [0,1,102,3,304,5,6]) Au zK (G1 ?_);refine .i1 J J J J Cq Sz2 _ J oM (.load1 J J J Y2 J Z1 (by exact get_wds oM) ?_);refine G1 ?_;refine .cV J J J J Body266 (r3_bits k aa) tV (.shrN ((C0 w k).getD k 0) (Bd k) J J J J (bits_w k) oM (G4 ?_));refine .draw (oPq [0,1,2,103,4,5,306,7,8,9,410]) Au zK (G2 ?_);refine .i1 J J J J Cq Sz2 _ J oM (.load1 J J J Y2 J Z1 (by exact get_wds oM) ?_);refine G2 ?_;refine .cV J J J J Body266 (r3_bits k aa) tV (.shlN ((C0 w k).getD k 0/2^Bd k) (Bd k) J J J J (bits_w k) oM oM (.subN ((C0 w k).getD k 0) ((C0 w k).getD k 0/2^Bd k*2^Bd k) J J J J oM (.i1 J J J J Cq Sz2 _ J oM ?_)));rw[ae.2];refine .s1 J J J J J Sz2 Z1 (by(simp[Av];omega)) (by exact set_wds _ _ _) zV ?_;refine G8 ?_;refine .condP J (λab=>?_) (λab=>?_)
  ·
   have an:=ck.fs oM;refine .region (.i1 J J J J Cq Sz2 0 J dE (.load1 J J J Y2 J Z1 (by exact get_wds oM) ?_));refine G1 ?_;refine .mulN (19) ((C0 w k).getD k 0/2^Bd k) J J J J oM (.addN (((C0 w k).set k ((C0 w k).getD k 0%2^Bd k)).getD 0 0) (19*((C0 w k).getD k 0/2^Bd k)) J J J J oM (.i1 J J J J Cq Sz2 0 J dE (.s1 J J J J J Sz2 Z1 (by(simp[Av];omega)) (by exact set_wds _ _ _) zV ?_)));refine G9 ?_;exact⟨k+1,by omega,by omega,Ah wN (wh1 Z0 (wh1 (by(rw[carAt_nine ab];exact mem1)) wh0)) nD⟩
  have am:=ck.nx oM;refine G2 ?_;refine .addN (k) (1) J J J J oM (G1 ?_);refine .addN (k) (1) J J J J oM (.i1 J J J J Cq Sz2 _ J oM (.load1 J J J Y2 J Z1 (by exact get_wds oM) ?_));refine G1 ?_;refine .addN (((C0 w k).set k ((C0 w k).getD k 0%2^Bd k)).getD (k+1) 0) ((C0 w k).getD k 0/2^Bd k) J J J J oM (.i1 J J J J Cq Sz2 _ J oM (.s1 J J J J J Sz2 Z1 (by(simp[Av];omega)) (by exact set_wds _ _ _) zV ?_));refine G9 ?_;exact⟨k+1,by omega,by omega,Ah wN (wh1 Z0 (wh1 (by(rw[carAt_low ab];exact mem1)) wh0)) nD⟩
 rw[show C0 w k=u from by rw[show k=10 by omega,carAt_eq h.len,ac.out]];refine G7 ?_;refine .lA J J J Cq J Sz250 Z1 (by(simp[Av,ad];done)) ?_;refine .sA J J J J (by exact Cr _) Sz250 (by(simp[Av,ad];done)) Z0 sP zU ?_;refine G2 ?_;refine G2 ?_;refine⟨_,[],Ax J J Cq J Sz250 Z0 (by simp[Av,ad]),sP,sP,?_,rfl⟩;rfl
theorem op_on(hi:i<10)(hb:N.testBit (B0 i+k)=true):((opAt N i).set i (N/2^B0 i%2^k)).set i (((opAt N i).set i (N/2^B0 i%2^k)).getD i 0+1*2^k)=(opAt N i).set i (N/2^B0 i%2^(k+1)):=by
  have hl:=opAt_length N i oM;rw[getD_set' oM,if_pos rfl,List.set_set,op_bit,hb,if_pos rfl,Le6]
theorem op_off(hb:N.testBit (B0 i+k)=false):(opAt N i).set i (N/2^B0 i%2^k)=(opAt N i).set i (N/2^B0 i%2^(k+1)):=by
  rw[op_bit,hb,if_neg dE,Lc7]
theorem op_val(hi:i<10)(hk:k<=26):((opAt N i).set i (N/2^B0 i%2^k)).getD i 0<=67108864/\2^k<=67108864:=by
  have hl:=opAt_length N i oM;have h1:2^k<=2^26:=Lcn dE hk;have h2:N/2^B0 i%2^k<2^k:=Lc3 _ (Lc5 dE);rw[getD_set' oM,if_pos rfl];omega
theorem bit_is(h:(((UInt8.ofNat ((shr8 (a.getD (m/8) 0) (m%8)).toNat%2)).toNat:Int)=1)):(le a).testBit m=true:=by rw[<-bit_rem];exact decide_eq_true h
theorem bit_isn(h:¬(((UInt8.ofNat ((shr8 (a.getD (m/8) 0) (m%8)).toNat%2)).toNat:Int)=1)):(le a).testBit m=false:=by rw[<-bit_rem];exact decide_eq_false h
theorem r3_Open(a:List UInt8)(ha:a.length=32):Mv 230 [agg (Aa a)] (λ_=>True) (agg (Bs (openT (le a)))):=by
 intro W hW;obtain⟨u,hu⟩:∃u,Hid (openT (le a)=u):=⟨_,⟨rfl⟩⟩;obtain⟨D,hD⟩:∃D,Hid (opD (le a)=D):=⟨_,⟨rfl⟩⟩;have ae:u.length=10:=by rw[<-hu.out];exact openT_length _
 have ad:D.length=10:=by rw[<-hD.out];exact opD_length _
 have hc:=r3_carry D (by rw[<-hD.out];exact opD_mid _);rw[show C1 D=u from by rw[<-hD.out];exact hu.out]at hc;rw[hu.out];have ai:=ad;refine Ae func230 J 58 ntmps230 J (G3 ?_);intro n1 ar aw;refine .alloc (cs:=(Cg (List.replicate 10 0))) J Zr250 J ?_;intro n2 ap ax;refine G4 ?_;refine .alloc (cs:=(Cg (List.replicate 10 0))) J Zr250 J ?_;intro n3 az a1;refine G14 ?_;refine .loop (ι:=Nat) (λi=>⟨[(1,ptr n1 0),(2,ptr n2 0),(3,ptr n3 0),(4,i64 ((B0 i:Nat):Int)),(5,i64 (i:Int))],[⟨n3,Bs (opAt (le a) i),250,10⟩,⟨n2,(Cg (List.replicate 10 0)),250,10⟩,⟨n1,Aa a,184,(Aa a).length⟩]⟩) (λi=>i<=10) (λi=>10-i) (0) ?_ ?_ ?_
 .omega
 .exact Ah wN (wh1 (by rw[show Bs (opAt (le a) 0)=Cg (List.replicate 10 0)from rfl];exact Cf) (wh1 Z1 (wh1 Z2 wh0))) nD
 rintro i hi;refine G7 ?_;refine .condP J (λam=>?_) (λam=>?_)
 ·
  have ab:i<10:=by omega
  have an:=bits_26 i;have av:=bits_wn i;have au:=at_op ab;have ao:=op_le i;have ay:=at_le ab;refine G7 ?_;refine .cV J J J J Body266 (r3_bits i ab) tV (.conv J J J Y139.h Y3.h (cv_u64_i64 oM) ?_);rw[bits_wn];refine G3 ?_;refine .join (ι:=Unit) (λ_u=>⟨[(1,ptr n1 0),(2,ptr n2 0),(3,ptr n3 0),(4,i64 ((B0 i:Nat):Int)),(5,i64 (i:Int)),(6,i64 ((opB i:Nat):Int))],[⟨n3,Bs (opAt (le a) i),250,10⟩,⟨n2,(Cg (List.replicate 10 0)),250,10⟩,⟨n1,Aa a,184,(Aa a).length⟩]⟩) (λ_u=>True) ?_ ?_
  ·
   refine G6 ?_;refine .condP J (λah=>?_) (λah=>?_)
   ·
    refine G4 ?_
    (rw[opB_nine ah];exact⟨(),trivial,Ah wN (wh1 Z0 (wh1 Z1 (wh1 Z2 wh0))) nD⟩)
   refine G2 ?_
   (rw[opB_low ah];exact⟨(),trivial,Ah wN (wh1 Z0 (wh1 Z1 (wh1 Z2 wh0))) nD⟩)
  intro _u hj;skip;refine G7 ?_;refine .loop (ι:=Nat) (λk=>⟨[(1,ptr n1 0),(2,ptr n2 0),(3,ptr n3 0),(4,i64 ((B0 i:Nat):Int)),(5,i64 (i:Int)),(6,i64 ((opB i:Nat):Int)),(7,i64 (k:Int))],[⟨n3,Bs ((opAt (le a) i).set i (le a/2^B0 i%2^k)),250,10⟩,⟨n2,(Cg (List.replicate 10 0)),250,10⟩,⟨n1,Aa a,184,(Aa a).length⟩]⟩) (λk=>k<=opB i) (λk=>opB i-k) (0) ?_ ?_ ?_
  .exact Laf _
  .exact Ah wN (wh1 (by rw[opAt_first _ ab];exact Cf) (wh1 Z1 (wh1 Z2 wh0))) nD
  rintro k hk;have ai:((opAt (le a) i).set i (le a/2^B0 i%2^k)).length=10:=by rw[Lbc];exact opAt_length _ i oM
  refine G5 ?_;refine two (λr hr k=>Tr.lss J J J J hr k) (λaa=>?_) (λaa=>?_)
  ·
   have ac:=of_decide_eq_true aa;skip;refine G3 ?_;refine .addN (B0 i) (k) J J J J oM (.lss J J J J (decide_eq_true oM) (G3 ?_));refine .cond_t J J (G8 ?_);refine .addN (B0 i) (k) J J J J oM (.quoN (B0 i+k) (8) J J J J ⟨by decide,by omega⟩ ?_);refine .i1 J J J J Y184.h Sz5 _ J oM (G3 ?_);refine .addN (B0 i) (k) J J J J oM (.remN (B0 i+k) (8) J J J J dE (G1 ?_));refine .shr_u8 J J J J ((B0 i+k)%8) (by rw[wordOf_id _ oM]) oM ?_;refine .rem_u8 J J J J 2 J dE (G3 ?_);refine .condP J (λag=>?_) (λag=>?_)
   ·
    have aj:=bit_is ag;have aq:=op_val (N:=le a) ab (show k<=26 by omega);refine G3 ?_;refine .i1 J J J J Cq Sz2 _ J oM (.load1 J J J Y2 J Z0 (by exact get_wds oM) ?_);refine G2 ?_;refine .shlN 1 k J J J J (wordOf_id _ oM) oM oM (.addN (((opAt (le a) i).set i (le a/2^B0 i%2^k)).getD i 0) (1*2^k) J J J J oM (.i1 J J J J Cq Sz2 _ J oM (.s1 J J J J J Sz2 Z0 (by(simp[Av,ai];omega)) (by exact set_wds _ _ _) zU ?_)));refine G9 ?_;exact⟨k+1,by omega,by omega,Ah wN (wh1 (by(rw[<-op_on ab aj];exact Cf)) (wh1 Z1 (wh1 Z2 wh0))) nD⟩
   have ak:=bit_isn ag;refine G9 ?_;exact⟨k+1,by omega,by omega,Ah wN (wh1 (by(rw[<-op_off ak];exact Cf)) (wh1 Z1 (wh1 Z2 wh0))) nD⟩
  have ac:=of_decide_eq_false aa;skip;refine G8 ?_;refine .cond_f J J (G8 ?_);refine .cV J J J J Body266 (r3_bits i ab) tV (.conv J J J Y139.h Y3.h (cv_u64_i64 oM) ?_);rw[bits_wn];refine .addN (B0 i) (Bd i) J J J J oM (G10 ?_);exact⟨i+1,by omega,by omega,Ah (wk1 rfl (wk1 rfl (wk1 rfl (wk1 (natc (at_succ ab)) wN)))) (wh1 (by rw[<-opAt_set (le a) ab,show opB i=k by omega];exact Cf) (wh1 Z1 (wh1 Z2 wh0))) nD⟩
 rw[show opAt (le a) i=D from by rw[show i=10 by omega,opAt_ten];exact hD.out];refine G7 ?_;refine .lA J J J Cq J Sz250 Z0 (by(simp[Av,ad];done)) ?_;refine .cV J J J J Body267 (hc) tV (.sA J J J J (by exact Cr _) Sz250 (by(simp[Av,ae];done)) Z1 sP zV ?_);refine G2 ?_;refine G2 ?_;refine⟨_,[],Ax J J Cq J Sz250 Z1 (by simp[Av,ae]),sP,sP,?_,rfl⟩;rfl
theorem close_first(X:Nat):leb 32 (X%2^B0 0)=List.replicate 32 0:=by
  rw[show B0 0=0 from rfl,Ldz,Lfx,leb_zero32]
theorem r3_Close(w:List Nat)(hw:Fit10 w):Mv 271 [agg (Bs w)] (λ_=>True) (agg (Aa (fb (fe (v10 w))))):=by
 intro W hW;have aq:=hw.len;obtain⟨X,hX⟩:∃X,Hid (low10 w=X):=⟨_,⟨rfl⟩⟩;have ad:X<2^255:=by rw[<-hX.out];exact low10_lt hw
 have h4:=car10_four hw;rw[hX.out]at h4;have ax:fe (v10 w)=fe X:=by rw[<-hX.out];exact(low10_fe w).symm
 rw[ax];have f1:Fit10 (C1 w):=car10_fit (by have:=hw.v;omega);have f2:Fit10 (C1 (C1 w)):=car10_fit (by have:=f1.v;omega);have f3:Fit10 (C1 (C1 (C1 w))):=car10_fit (by have:=f2.v;omega);have c1:=r3_carry w hw.mid;have c2:=r3_carry _ f1.mid;have c3:=r3_carry _ f2.mid;have c4:=r3_carry _ f3.mid;rw[h4]at c4;have ap:=f1.len;have au:=f2.len;have ar:=f3.len;have an:(dg X b10).length=10:=by rw[dg_length];rfl
 have ai:∀i k,i<10->k<Bd i->(((((dg X b10).getD i 0/2^k%2:Nat):Int)=1)↔X.testBit (B0 i+k)=true):=λi k h1 h2=>dg_bit_dec X h1 h2;have ht:=λh=>not_top ad h;have hm:=λi h1 h2 h=>not_mid (i:=i) ad h1 h2 h;have ag:=λh1 h2 h3=>is_top ad h1 h2 h3;obtain⟨O,hO⟩:∃O,Hid (leb 32 X=O):=⟨_,⟨rfl⟩⟩;have ac:O.length=32:=by rw[<-hO.out];exact Am _ _
 rw[hO.out]at ht hm ag;clear f1 f2 f3 h4;revert c1 c2 c3 c4 ap au ar an ai;generalize C1 (C1 (C1 w))=w3;generalize C1 (C1 w)=w2;generalize C1 w=w1;generalize dg X b10=D;intro c1 c2 c3 c4 ap au ar an ai;generalize bc:fb (fe X)=FB at ht hm ag ⊢;refine Ae func271 J 77 ntmps271 J (G3 ?_);intro n1 bi bk;refine .alloc (cs:=(Aa (List.replicate 32 0))) J A9 J ?_;intro n2 ba bd;refine G4 ?_;refine .lA J J J Cq J Sz250 Z1 (by(simp[Av,aq];done)) ?_;refine .cV J J J J Body267 (c1) tV (.cV J J J J Body267 (c2) tV (.cV J J J J Body267 (c3) tV (.cV J J J J Body267 (c4) tV (.sA J J J J (by exact Cr _) Sz250 (by(simp[Av,an];done)) Z1 (by(simp[Av,aq];done)) zV ?_))));refine G4 ?_;refine .alloc (cs:=(Aa (List.replicate 32 0))) J A9 J ?_;intro n3 bn bo;refine G14 ?_;refine .loop (ι:=Nat) (λi=>⟨[(1,ptr n1 0),(2,ptr n2 0),(3,ptr n3 0),(4,i64 ((B0 i:Nat):Int)),(5,i64 (i:Int))],[⟨n3,Aa (leb 32 (X%2^B0 i)),184,32⟩,⟨n2,Aa (List.replicate 32 0),184,32⟩,⟨n1,Bs D,250,(Bs w).length⟩]⟩) (λi=>i<=10) (λi=>10-i) (0) ?_ ?_ ?_
 .omega
 .exact Ah wN (wh1 (by rw[close_first];exact Cf) (wh1 Z1 (wh1 Z2 wh0))) nD
 rintro i hi;refine G7 ?_;refine .condP J (λa2=>?_) (λa2=>?_)
 ·
  have ae:i<10:=by omega
  have a7:=bits_26 i;have bj:=bits_wn i;have be:=at_le ae;have a8:=at_succ ae;have a6:B0 (i+1)<=255:=by unfold B0;omega
  refine G11 ?_;refine .loop (ι:=Nat) (λk=>⟨[(1,ptr n1 0),(2,ptr n2 0),(3,ptr n3 0),(4,i64 ((B0 i:Nat):Int)),(5,i64 (i:Int)),(6,i64 (k:Int))],[⟨n3,Aa (leb 32 (X%2^(B0 i+k))),184,32⟩,⟨n2,Aa (List.replicate 32 0),184,32⟩,⟨n1,Bs D,250,(Bs w).length⟩]⟩) (λk=>k<=Bd i) (λk=>Bd i-k) (0) ?_ ?_ ?_
  .exact Laf _
  .exact Ah wN (wh1 (by rw[Lc7];exact Cf) (wh1 Z1 (wh1 Z2 wh0))) nD
  rintro k hk;refine G5 ?_;refine .cV J J J J Body266 (r3_bits i ae) tV (.conv J J J Y139.h Y3.h (cv_u64_i64 oM) ?_);rw[bits_wn];refine G3 ?_;refine .condP J (λay=>?_) (λay=>?_)
  ·
   refine G7 ?_;refine .i1 J J J J Cq Sz2 _ J oM (.load1 J J J Y2 J Z2 (by exact get_wds oM) ?_);refine G2 ?_;refine .shrN (D.getD i 0) (k) J J J J (wordOf_id _ oM) oM (.remN (D.getD i 0/2^k) (2) J J J J dE (G3 ?_));refine .condP J (λak=>?_) (λak=>?_)
   ·
    have az:=(ai i k ae oM).1 ak;have am:leb 32 (X%2^(B0 i+(k+1)))=_:=(bit_set X (m:=B0 i+k) oM az).symm;refine G3 ?_;refine .addN (B0 i) (k) J J J J oM (.quoN (B0 i+k) (8) J J J J ⟨by decide,by omega⟩ ?_);refine G2 ?_;refine .addN (B0 i) (k) J J J J oM (.quoN (B0 i+k) (8) J J J J ⟨by decide,by omega⟩ ?_);refine .i1 J J J J Y184.h Sz5 _ J oM (.load1 J J J Y5.h J Z0 (by exact get_bytes (by(simp[Am];omega))) ?_);refine G2 ?_;refine .addN (B0 i) (k) J J J J oM (.remN (B0 i+k) (8) J J J J dE (G1 ?_));refine .shl_u8 J J (show Ai _ _=some (u8 1)from rfl) J ((B0 i+k)%8) (by rw[wordOf_id _ oM]) oM ?_;refine .add_u8 J J J J (.i1 J J J J Y184.h Sz5 _ J oM (.s1 J J J J J Sz5 Z0 (by(simp[Am];omega)) (by exact Bo _ _ _) zU ?_));refine G9 ?_;exact⟨k+1,by omega,by omega,Ah wN (wh1 (by rw[am];exact Cf) (wh1 Z1 (wh1 Z2 wh0))) nD⟩
   have a1:X.testBit (B0 i+k)=false:=Bool.eq_false_iff.2 (λe=>ak ((ai i k ae oM).2 e));have am:leb 32 (X%2^(B0 i+(k+1)))=leb 32 (X%2^(B0 i+k)):=(bit_off X (B0 i+k) a1).symm;refine G9 ?_;exact⟨k+1,by omega,by omega,Ah wN (wh1 (by rw[am];exact Cf) (wh1 Z1 (wh1 Z2 wh0))) nD⟩
  refine G8 ?_;refine .cV J J J J Body266 (r3_bits i ae) tV (.conv J J J Y139.h Y3.h (cv_u64_i64 oM) ?_);rw[bits_wn];refine .addN (B0 i) (Bd i) J J J J oM (G10 ?_);exact⟨i+1,by omega,by omega,Ah (wk1 rfl (wk1 rfl (wk1 rfl (wk1 (natc (at_succ ae)) wN)))) (wh1 (by rw[<-at_succ ae,show Bd i=k by omega];exact Cf) (wh1 Z1 (wh1 Z2 wh0))) nD⟩
 rw[show leb 32 (X%2^B0 i)=O from by rw[show B0 i=255 from by rw[show i=10 by omega];rfl,Lal ad];exact hO.out];refine G8 ?_;refine .i1 J J J J Y184.h Sz5 0 J dE (G1 ?_);refine two (λr hr k=>Tr.lss J J J J hr k) (λab=>?_) (λab=>?_)
 ·
  have aj:=of_decide_eq_true ab;refine G7 ?_;refine .cond_t J J (G2 ?_);refine .lA J J J Y184.h J Sz184 Z0 (by(simp[ac];done)) ?_;refine .sA J J J J zE Sz184 (by(simp[ac];done)) Z1 sP zV ?_;refine G2 ?_;refine G3 ?_;refine⟨_,[],Ax J J Y184.h J Sz184 Z1 (by simp[ac]),sP,sP,?_,rfl⟩;exact congrArg (λl=>agg (Aa l)) (ht oM)
 have aj:=of_decide_eq_false ab;refine G1 ?_;refine .i1 J J J J Y184.h Sz5 31 J dE (G1 ?_);refine two (λr hr k=>Tr.nei J J J J hr k) (λaa=>?_) (λaa=>?_)
 ·
  have ah:=nd_t aa;refine G3 ?_;refine .cond_t J J (G2 ?_);refine .lA J J J Y184.h J Sz184 Z0 (by(simp[ac];done)) ?_;refine .sA J J J J zE Sz184 (by(simp[ac];done)) Z1 sP zV ?_;refine G2 ?_;refine G3 ?_;refine⟨_,[],Ax J J Y184.h J Sz184 Z1 (by simp[ac]),sP,sP,?_,rfl⟩;exact congrArg (λl=>agg (Aa l)) (ht oM)
 have ah:=nd_f aa;refine G3 ?_;refine .cond_f J J (G9 ?_);refine .loop (ι:=Nat) (λj=>⟨[(2,ptr n2 0),(3,ptr n3 0),(7,i64 (j:Int))],[⟨n3,Aa O,184,32⟩,⟨n2,Aa (List.replicate 32 0),184,32⟩]⟩) (λj=>1<=j/\j<=31/\∀m,0<m->m<j->(O.getD m 0).toNat=255) (λj=>31-j) (1) ?_ ?_ ?_
 .exact⟨Lag _,by omega,λm h1 h2=>by omega⟩
 .exact Ah wN (wh1 Z0 (wh1 Z1 wh0)) nD
 rintro j ⟨bg,bm,ao⟩;refine G7 ?_;refine .condP J (λav=>?_) (λav=>?_)
 ·
  refine G7 ?_;refine .i1 J J J J Y184.h Sz5 _ J oM (G4 ?_);refine .condNP J (λaw=>?_) (λaw=>?_)
  ·
   refine G2 ?_;refine .lA J J J Y184.h J Sz184 Z0 (by(simp[ac];done)) ?_;refine .sA J J J J zE Sz184 (by(simp[ac];done)) Z1 sP zV ?_;refine G2 ?_;refine G7 ?_;refine⟨_,[],Ax J J Y184.h J Sz184 Z1 (by simp[ac]),sP,sP,?_,rfl⟩;exact congrArg (λl=>agg (Aa l)) (hm j oM oM oM)
  refine G9 ?_;exact⟨j+1,⟨by omega,by omega,λm h1 h2=>by
    by_cases e:m=j
    .rw[e];omega
    .exact ao m h1 oM⟩,by omega,Ah wN (wh1 Z0 (wh1 Z1 wh0)) nD⟩
 refine G7 ?_;refine .i1 J J J J Y184.h Sz5 0 J dE (G1 ?_);refine .sub_u8 J J J (show Ai _ _=some (u8 237)from rfl) (.build (cs:=Aa ((O.getD 0 0-237)::List.replicate 31 0)) J J J (λw=>by kernel_rfl) ?_);refine .sA J J J J zE Sz184 (by(simp[ac];done)) Z1 sP zV ?_;refine G2 ?_;refine G2 ?_;refine⟨_,[],Ax J J Y184.h J Sz184 Z1 (by simp[ac]),sP,sP,?_,rfl⟩;exact congrArg (λl=>agg (Aa l)) (ag oM oM (λm h1 h2=>ao m h1 oM))
def p1(i:Nat):Nat:=2^Bd i-1-(if i=0 then 18 else 0)
theorem p1_z(h:(i:Int)=0):p1 i=1*2^Bd i-1-18:=by rw[p1,if_pos oM,Le6]
theorem p1_n(h:¬(i:Int)=0):p1 i=1*2^Bd i-1:=by rw[p1,if_neg oM,Le6,Lgk]
theorem p4_p1(i:Nat):p4 i=4*p1 i:=rfl
def cf2(i k:Nat):Nat:=if i%2=1/\k%2=1 then 2 else 1
theorem cf2_t(P:Nat)(h:((i%2:Nat):Int)=1)(h2:((k%2:Nat):Int)=1):cf2 i k*P=2*P:=by rw[cf2,if_pos ⟨by omega,by omega⟩]
theorem cf2_a(P:Nat)(h:¬((i%2:Nat):Int)=1):cf2 i k*P=P:=by rw[cf2,if_neg (λe=>h oM),Le6]
theorem cf2_b(P:Nat)(h:¬((k%2:Nat):Int)=1):cf2 i k*P=P:=by rw[cf2,if_neg (λe=>h oM),Le6]
theorem cf2_le(i k:Nat):cf2 i k<=2:=by unfold cf2;split<;>omega
theorem coef_hi(P:Nat)(h:(9:Int)<((i+k:Nat):Int)):coef i k*P=19*(cf2 i k*P):=by
  rw[coef,if_pos oM,Lc0];rfl
theorem coef_lo(P:Nat)(h:¬(9:Int)<((i+k:Nat):Int)):coef i k*P=cf2 i k*P:=by
  rw[coef,if_neg oM,Le6];rfl
theorem tRow_bd(hx:Fit10 x)(hy:Fit10 y)(hi:i<10)(hk:k<=10)(hm:m<10):(tRow x y i (tAll x y i) k).getD m 0<=6845471433603153920:=by
  have h1:=tRow_le hi (λk hk=>term_le hx hy i k hi hk) (tAll_length x y i) k hk m hm;have h2:=tAll_le (term_le hx hy) i oM m hm;have h3:(if(m+10-i)%10<k then 38*(2^27*2^27)else 0)<=38*(2^27*2^27):=by split<;>omega
  omega
theorem prod_le(hx:Fit10 x)(hy:Fit10 y)(hi:i<10)(hk:k<10):x.getD i 0*y.getD k 0<=18014398509481984:=
  Lbd (Ld1 (Lfi (hx.all hi)) (Lfi (hy.all hk))) dE
theorem r3_Plus(x y:List Nat)(hx:Fit10 x)(hy:Fit10 y):Mv 270 [agg (Bs x),agg (Bs y)] (λ_=>True) (agg (Bs (plusT x y))):=by
 intro W hW;have ae:=hx.len;have ak:=hy.len;obtain⟨A,hA⟩:∃A,Hid (addAt x y 10=A):=⟨_,⟨rfl⟩⟩;obtain⟨U,hU⟩:∃U,Hid (plusT x y=U):=⟨_,⟨rfl⟩⟩;have ab:A.length=10:=by rw[<-hA.out];exact addAt_length y hx.len 10
 have ac:U.length=10:=by rw[<-hU.out];exact car10_length _
 have hc:=r3_carry A (by rw[<-hA.out];exact addAt_mid hx hy);rw[show C1 A=U from by rw[<-hA.out];exact hU.out]at hc;rw[hU.out];have ad:=ab;refine Ae func270 J 21 ntmps270 J (G3 ?_);intro n2 ah aj;refine G1 ?_;intro n3 am an;refine .alloc (cs:=(Cg (List.replicate 10 0))) J Zr250 J ?_;intro n4 aq ap;refine G9 ?_;refine .loop (ι:=Nat) (λi=>⟨[(2,ptr n2 0),(3,ptr n3 0),(4,ptr n4 0),(5,i64 (i:Int))],[⟨n4,(Cg (List.replicate 10 0)),250,10⟩,⟨n3,Bs y,250,(Bs y).length⟩,⟨n2,Bs (addAt x y i),250,(Bs x).length⟩]⟩) (λi=>i<=10) (λi=>10-i) (0) ?_ ?_ ?_
 .omega
 .exact Ah wN (wh1 Z0 (wh1 Z1 (wh1 Z2 wh0))) nD
 rintro i hi;have ad:=addAt_length y ae i;refine G7 ?_;refine .condP J (λag=>?_) (λag=>?_)
 ·
  have aa:i<10:=by omega
  have ao:(addAt x y i).getD i 0=x.getD i 0+0:=by rw[addAt_get hx.len i oM i aa,if_neg oM]
  have ar:=hx.all aa;have ai:=hy.all aa;refine G4 ?_;refine .draw (oPq [0,1,2,103,4,5,106,7,8,409]) Au zK (G2 ?_);refine .i1 J J J J Cq Sz2 _ J oM (.load1 J J J Y2 J Z2 (by exact get_wds oM) ?_);refine G1 ?_;refine .i1 J J J J Cq Sz2 _ J oM (.load1 J J J Y2 J Z1 (by exact get_wds oM) ?_);refine .addN ((addAt x y i).getD i 0) (y.getD i 0) J J J J oM (.i1 J J J J Cq Sz2 _ J oM (.s1 J J J J J Sz2 Z2 (by(simp[Av,ad];omega)) (by exact set_wds _ _ _) (by exact upd2) ?_));refine G9 ?_;exact⟨i+1,by omega,by omega,Ah wN (wh1 Z0 (wh1 Z1 (wh1 Z2 wh0))) nD⟩
 rw[show addAt x y i=A from by rw[show i=10 by omega];exact hA.out];refine G7 ?_;refine .lA J J J Cq J Sz250 Z2 (by(simp[Av,ab];done)) ?_;refine .cV J J J J Body267 (hc) tV (.sA J J J J (by exact Cr _) Sz250 (by(simp[Av,ac];done)) Z0 sP zU ?_);refine G2 ?_;refine G2 ?_;refine⟨_,[],Ax J J Cq J Sz250 Z0 (by simp[Av,ac]),sP,sP,?_,rfl⟩;rfl
theorem r3_Minus(x y:List Nat)(hx:Fit10 x)(hy:Fit10 y):Mv 269 [agg (Bs x),agg (Bs y)] (λ_=>True) (agg (Bs (minusT x y))):=by
 intro W hW;have ai:=hx.len;have aq:=hy.len;obtain⟨A,hA⟩:∃A,Hid (subAt x y 10=A):=⟨_,⟨rfl⟩⟩;obtain⟨U,hU⟩:∃U,Hid (minusT x y=U):=⟨_,⟨rfl⟩⟩;have ac:A.length=10:=by rw[<-hA.out];exact subAt_length y hx.len 10
 have ad:U.length=10:=by rw[<-hU.out];exact car10_length _
 have hc:=r3_carry A (by rw[<-hA.out];exact subAt_mid hx);rw[show C1 A=U from by rw[<-hA.out];exact hU.out]at hc;rw[hU.out];have ag:=ac;refine Ae func269 J 33 ntmps269 J (G3 ?_);intro n2 an ap;refine G1 ?_;intro n3 ar av;refine .alloc (cs:=(Cg (List.replicate 10 0))) J Zr250 J ?_;intro n4 az ay;refine G9 ?_;refine .loop (ι:=Nat) (λi=>⟨[(2,ptr n2 0),(3,ptr n3 0),(4,ptr n4 0),(5,i64 (i:Int))],[⟨n4,(Cg (List.replicate 10 0)),250,10⟩,⟨n3,Bs y,250,(Bs y).length⟩,⟨n2,Bs (subAt x y i),250,(Bs x).length⟩]⟩) (λi=>i<=10) (λi=>10-i) (0) ?_ ?_ ?_
 .omega
 .exact Ah wN (wh1 Z0 (wh1 Z1 (wh1 Z2 wh0))) nD
 rintro i hi;have ag:=subAt_length y ai i;refine G7 ?_;refine .condP J (λak=>?_) (λak=>?_)
 ·
  have aa:i<10:=by omega
  have aw:(subAt x y i).getD i 0=x.getD i 0+0:=by rw[subAt_get hx.len i oM i aa,if_neg oM]
  have a1:=hx.all aa;have ao:=hy.all aa;have ah:=p4_ge hy aa;have aj:=p4_le i;rw[p4_p1]at ah aj;have ax:=bits_ge i;have au:=bits_le i;have am:=bits_26 i;have ae:(subAt x y i).getD i 0+4*p1 i-y.getD i 0=(subAt x y i).getD i 0+(p4 i-y.getD i 0):=by rw[p4_p1];omega
  refine G7 ?_;refine .cV J J J J Body266 (r3_bits i aa) tV (.shlN (1) (Bd i) J J J J (bits_w i) oM oM (.subN (1*2^Bd i) (1) J J J J oM (G3 ?_)));refine .join (ι:=Unit) (λ_u=>⟨[(2,ptr n2 0),(3,ptr n3 0),(4,ptr n4 0),(5,i64 (i:Int)),(6,i64 ((p1 i:Nat):Int))],[⟨n4,(Cg (List.replicate 10 0)),250,10⟩,⟨n3,Bs y,250,(Bs y).length⟩,⟨n2,Bs (subAt x y i),250,(Bs x).length⟩]⟩) (λ_u=>True) ?_ ?_
  ·
   refine G6 ?_;refine .condP J (λab=>?_) (λab=>?_)
   ·
    refine G2 ?_;refine .subN (1*2^Bd i-1) (18) J J J J oM (G3 ?_)
    (rw[p1_z ab];exact⟨(),trivial,Ah wN (wh1 Z0 (wh1 Z1 (wh1 Z2 wh0))) nD⟩)
   refine G2 ?_
   (rw[p1_n ab];exact⟨(),trivial,Ah wN (wh1 Z0 (wh1 Z1 (wh1 Z2 wh0))) nD⟩)
  intro _u hj;skip;refine .draw (oPq [0,1,2,103,4,5,6,7,8,109,10,11,412]) Au zK (G2 ?_);refine .i1 J J J J Cq Sz2 _ J oM (.load1 J J J Y2 J Z2 (by exact get_wds oM) ?_);refine G1 ?_;refine .mulN (4) (p1 i) J J J J oM (.addN ((subAt x y i).getD i 0) (4*p1 i) J J J J oM (G1 ?_));refine .i1 J J J J Cq Sz2 _ J oM (.load1 J J J Y2 J Z1 (by exact get_wds oM) ?_);refine .subN ((subAt x y i).getD i 0+4*p1 i) (y.getD i 0) J J J J oM (.i1 J J J J Cq Sz2 _ J oM ?_);rw[ae];refine .s1 J J J J J Sz2 Z2 (by(simp[Av,ag];omega)) (by exact set_wds _ _ _) (by exact upd2) ?_;refine G9 ?_;exact⟨i+1,by omega,by omega,Ah wN (wh1 Z0 (wh1 Z1 (wh1 Z2 wh0))) nD⟩
 rw[show subAt x y i=A from by rw[show i=10 by omega];exact hA.out];refine G7 ?_;refine .lA J J J Cq J Sz250 Z2 (by(simp[Av,ac];done)) ?_;refine .cV J J J J Body267 (hc) tV (.sA J J J J (by exact Cr _) Sz250 (by(simp[Av,ad];done)) Z0 sP zU ?_);refine G2 ?_;refine G2 ?_;refine⟨_,[],Ax J J Cq J Sz250 Z0 (by simp[Av,ad]),sP,sP,?_,rfl⟩;rfl
theorem r3_Times(x y:List Nat)(hx:Fit10 x)(hy:Fit10 y):Mv 268 [agg (Bs x),agg (Bs y)] (λ_=>True) (agg (Bs (mulT x y))):=by
 intro W hW;have a7:=hx.len;have ay:=hy.len;obtain⟨A,hA⟩:∃A,Hid (tAll x y 10=A):=⟨_,⟨rfl⟩⟩;obtain⟨U,hU⟩:∃U,Hid (C1 (tAll x y 10)=U):=⟨_,⟨rfl⟩⟩;have ai:A.length=10:=by rw[<-hA.out];exact tAll_length x y 10
 have ar:U.length=10:=by rw[<-hU.out];exact car10_length _
 have hc:=r3_carry A (by rw[<-hA.out];exact tAll_mid hx hy);rw[show C1 A=U from by rw[<-hA.out];exact hU.out]at hc;have am:=r3_carry U (by rw[<-hU.out];exact car10_mid (tAll_v10 hx hy));obtain⟨V,hV⟩:∃V,Hid (mulT x y=V):=⟨_,⟨rfl⟩⟩;have aj:V.length=10:=by rw[<-hV.out];exact car10_length _
 rw[show C1 U=V from by rw[<-hU.out];exact hV.out]at am;rw[hV.out];have ak:=ai;refine Ae func268 J 56 ntmps268 J (G3 ?_);intro n2 aq ax;refine G1 ?_;intro n3 az a1;refine .alloc (cs:=(Cg (List.replicate 10 0))) J Zr250 J ?_;intro n4 a8 a6;refine G4 ?_;refine .alloc (cs:=(Cg (List.replicate 10 0))) J Zr250 J ?_;intro n5 aw av;refine G9 ?_;refine .loop (ι:=Nat) (λi=>⟨[(2,ptr n2 0),(3,ptr n3 0),(4,ptr n4 0),(5,ptr n5 0),(6,i64 (i:Int))],[⟨n5,Bs (tAll x y i),250,10⟩,⟨n4,(Cg (List.replicate 10 0)),250,10⟩,⟨n3,Bs y,250,(Bs y).length⟩,⟨n2,Bs x,250,(Bs x).length⟩]⟩) (λi=>i<=10) (λi=>10-i) (0) ?_ ?_ ?_
 .omega
 .exact Ah wN (wh1 (by rw[show Bs (tAll x y 0)=Cg (List.replicate 10 0)from rfl];exact Cf) (wh1 Z1 (wh1 Z2 (wh1 Z3 wh0)))) nD
 rintro i hi;refine G7 ?_;refine .condP J (λap=>?_) (λap=>?_)
 ·
  have ag:i<10:=by omega
  refine G10 ?_;refine .loop (ι:=Nat) (λk=>⟨[(2,ptr n2 0),(3,ptr n3 0),(4,ptr n4 0),(5,ptr n5 0),(6,i64 (i:Int)),(7,i64 (k:Int))],[⟨n5,Bs (tRow x y i (tAll x y i) k),250,10⟩,⟨n4,(Cg (List.replicate 10 0)),250,10⟩,⟨n3,Bs y,250,(Bs y).length⟩,⟨n2,Bs x,250,(Bs x).length⟩]⟩) (λk=>k<=10) (λk=>10-k) (0) ?_ ?_ ?_
  .omega
  .exact Ah wN (wh1 Z0 (wh1 Z1 (wh1 Z2 (wh1 Z3 wh0)))) nD
  rintro k hk;have ak:=tRow_length x y i (tAll_length x y i) k;refine G7 ?_;refine .condP J (λao=>?_) (λao=>?_)
  ·
   have ah:k<10:=by omega
   have an:=prod_le hx hy ag ah;have a2:cf2 i k*(x.getD i 0*y.getD k 0)<=2*18014398509481984:=Ld1 (cf2_le i k) an;have ba:=term_le hx hy i k ag ah;have au:=tRow_bd hx hy (m:=(i+k)%10) ag (show k<=10 by omega) (Lc3 _ dE);refine G5 ?_;refine .draw (oPq [0,1,102,3,4,105,6,7]) Au zK (G1 ?_);refine .i1 J J J J Cq Sz2 _ J oM (.load1 J J J Y2 J Z3 (by exact get_wds oM) ?_);refine G1 ?_;refine .i1 J J J J Cq Sz2 _ J oM (.load1 J J J Y2 J Z2 (by exact get_wds oM) ?_);refine .mulN (x.getD i 0) (y.getD k 0) J J J J oM (G3 ?_);refine .join (ι:=Unit) (λ_u=>⟨[(2,ptr n2 0),(3,ptr n3 0),(4,ptr n4 0),(5,ptr n5 0),(6,i64 (i:Int)),(7,i64 (k:Int)),(8,i64 ((cf2 i k*(x.getD i 0*y.getD k 0):Nat):Int))],[⟨n5,Bs (tRow x y i (tAll x y i) k),250,10⟩,⟨n4,(Cg (List.replicate 10 0)),250,10⟩,⟨n3,Bs y,250,(Bs y).length⟩,⟨n2,Bs x,250,(Bs x).length⟩]⟩) (λ_u=>True) ?_ ?_
   ·
    refine G3 ?_;refine .remN (i) (2) J J J J dE (two (λr hr k=>Tr.eqi J J J J hr k) (λab=>?_) (λab=>?_))
    ·
     have ac:=of_decide_eq_true ab;refine G2 ?_;refine .remN (k) (2) J J J J dE (two (λr hr k=>Tr.eqi J J J J hr k) (λaa=>?_) (λaa=>?_))
     ·
      have ad:=of_decide_eq_true aa;refine G3 ?_;refine .cond_t J J (G2 ?_);refine .mulN (2) (x.getD i 0*y.getD k 0) J J J J oM (G3 ?_)
      (rw[cf2_t _ ac ad];exact⟨(),trivial,Ah wN (wh1 Z0 (wh1 Z1 (wh1 Z2 (wh1 Z3 wh0)))) nD⟩)
     have ad:=of_decide_eq_false aa;refine G3 ?_;refine .cond_f J J (G2 ?_)
     (rw[cf2_b _ ad];exact⟨(),trivial,Ah wN (wh1 Z0 (wh1 Z1 (wh1 Z2 (wh1 Z3 wh0)))) nD⟩)
    have ac:=of_decide_eq_false ab;refine G7 ?_;refine .cond_f J J (G2 ?_)
    (rw[cf2_a _ ac];exact⟨(),trivial,Ah wN (wh1 Z0 (wh1 Z1 (wh1 Z2 (wh1 Z3 wh0)))) nD⟩)
   intro _u hj;skip;refine .join (ι:=Unit) (λ_u=>⟨[(2,ptr n2 0),(3,ptr n3 0),(4,ptr n4 0),(5,ptr n5 0),(6,i64 (i:Int)),(7,i64 (k:Int)),(8,i64 ((coef i k*(x.getD i 0*y.getD k 0):Nat):Int))],[⟨n5,Bs (tRow x y i (tAll x y i) k),250,10⟩,⟨n4,(Cg (List.replicate 10 0)),250,10⟩,⟨n3,Bs y,250,(Bs y).length⟩,⟨n2,Bs x,250,(Bs x).length⟩]⟩) (λ_u=>True) ?_ ?_
   ·
    refine G4 ?_;refine .addN (i) (k) J J J J oM (G3 ?_);refine .condP J (λae=>?_) (λae=>?_)
    ·
     refine G2 ?_;refine .mulN (19) (cf2 i k*(x.getD i 0*y.getD k 0)) J J J J oM (G3 ?_)
     (rw[coef_hi _ ae];exact⟨(),trivial,Ah wN (wh1 Z0 (wh1 Z1 (wh1 Z2 (wh1 Z3 wh0)))) nD⟩)
    refine G2 ?_
    (rw[coef_lo _ ae];exact⟨(),trivial,Ah wN (wh1 Z0 (wh1 Z1 (wh1 Z2 (wh1 Z3 wh0)))) nD⟩)
   intro _u hj;skip;refine G3 ?_;refine .addN (i) (k) J J J J oM (.remN (i+k) (10) J J J J dE (G2 ?_));refine .addN (i) (k) J J J J oM (.remN (i+k) (10) J J J J dE (.i1 J J J J Cq Sz2 _ J oM (.load1 J J J Y2 J Z0 (by exact get_wds oM) ?_)));refine G1 ?_;refine .addN ((tRow x y i (tAll x y i) k).getD ((i+k)%10) 0) (coef i k*(x.getD i 0*y.getD k 0)) J J J J oM (.i1 J J J J Cq Sz2 _ J oM (.s1 J J J J J Sz2 Z0 (by(simp[Av,ak];omega)) (by exact set_wds _ _ _) zU ?_));refine G9 ?_;exact⟨k+1,by omega,by omega,Ah wN (wh1 Z0 (wh1 Z1 (wh1 Z2 (wh1 Z3 wh0)))) nD⟩
  refine G12 ?_;exact⟨i+1,by omega,by omega,Ah wN (wh1 (by rw[show tAll x y (i+1)=(tRow x y i (tAll x y i) k)from by rw[show k=10 by omega];rfl];exact Cf) (wh1 Z1 (wh1 Z2 (wh1 Z3 wh0)))) nD⟩
 rw[show tAll x y i=A from by rw[show i=10 by omega];exact hA.out];refine G7 ?_;refine .lA J J J Cq J Sz250 Z0 (by(simp[Av,ai];done)) ?_;refine .cV J J J J Body267 (hc) tV (.cV J J J J Body267 (am) tV (.sA J J J J (by exact Cr _) Sz250 (by(simp[Av,aj];done)) Z1 sP zV ?_));refine G2 ?_;refine G2 ?_;refine⟨_,[],Ax J J Cq J Sz250 Z1 (by simp[Av,aj]),sP,sP,?_,rfl⟩;rfl
theorem o_fit(ha:a.length=32):Fit10 (openT (le a)):=openT_fit (le32 ha)
theorem o_v(ha:a.length=32):fe (v10 (openT (le a)))=fe (le a):=openT_v (le32 ha)
theorem r3_Close_v(w:List Nat)(hw:Fit10 w)(X:Fp)(h:fe (v10 w)=X):Mv 271 [agg (Bs w)] (λ_=>True) (agg (Aa (fb X))):=by
  rw[<-h];exact r3_Close w hw
theorem r3_Rest(a:List UInt8)(ha:a.length=32):Mv 263 [agg (Aa a)] (λ_=>True) (agg (Aa (fb (fe (le a))))):=by
 intro W hW;refine Ae func263 J 6 ntmps263 J (G3 ?_);intro n1 ad ab;refine .alloc (cs:=(Aa (List.replicate 32 0))) J A9 J ?_;intro n2 aa ac;refine G4 ?_;refine .lA J J J Y184.h J Sz184 Z1 (by(simp[ha];done)) ?_;refine .cV J J J J Body230 (r3_Open (a) (ha)) tV (.cV J J J J Body271 (r3_Close_v (_) (o_fit ha) (_) (o_v ha)) tV (.sA J J J J zE Sz184 zF Z0 sP zU ?_));refine G2 ?_;refine G2 ?_;refine⟨_,[],Ax J J Y184.h J Sz184 Z0 (by simp[Aw]),sP,sP,?_,rfl⟩;rfl
theorem r3_Canon(a:List UInt8)(ha:a.length=32):Mv 223 [agg (Aa a)] (λ_=>True) (.bool (decide (fb (fe (le a))=a))):=by
 intro W hW;refine Ae func223 J 7 ntmps223 J (G3 ?_);intro n1 ab aa;refine G4 ?_;refine .draw (oPq [100,102,301,3,4]) Au zK (.lA J J J Y184.h J Sz184 Z0 (by(simp[ha];done)) ?_);refine .lA J J J Y184.h J Sz184 Z0 (by(simp[ha];done)) ?_;refine .cV J J J J Body263 (r3_Rest (a) (ha)) tV (.eql_bytes J J J J eqGuardType184 Y184.h Y5.h Sz5 zF (by(simp[ha];done)) J ?_);refine G3 ?_;refine G2 ?_;refine⟨_,[],Ag J J,sP,sP,?_,rfl⟩;rfl
theorem r3_Same(a b:List UInt8)(ha:a.length=32)(hb:b.length=32):Mv 282 [agg (Aa a),agg (Aa b)] (λ_=>True) (.bool (decide (fe (le a)=fe (le b)))):=by
 intro W hW;refine Ae func282 J 10 ntmps282 J (G3 ?_);intro n2 aa ac;refine G1 ?_;intro n3 ad ab;refine G4 ?_;refine .draw (oPq [100,102,301,303,4,5]) Au zK (.lA J J J Y184.h J Sz184 Z1 (by(simp[ha];done)) ?_);refine .lA J J J Y184.h J Sz184 Z0 (by(simp[hb];done)) ?_;refine .cV J J J J Body263 (r3_Rest (a) (ha)) tV (.cV J J J J Body263 (r3_Rest (b) (hb)) tV (.eql_bytes J J J J eqGuardType184 Y184.h Y5.h Sz5 zF zF J (G3 ?_)));refine G2 ?_;refine⟨_,[],Ag J J,sP,sP,?_,rfl⟩;rw[fb_dec]
theorem odd_byte2(x:Fp):decide (((UInt8.ofNat (((fb x).getD 0 0).toNat%2)).toNat:Int)=1)=decide (x.val%2=1):=by
  have e:(UInt8.ofNat (((fb x).getD 0 0).toNat%2)).toNat=x.val%2:=by
    rw[fb_head,Lb9,Lb9];omega
  rw[e];congr 1;exact propext ⟨λh=>by omega,λh=>by omega⟩
theorem r3_Odd(a:List UInt8)(ha:a.length=32):Mv 239 [agg (Aa a)] (λ_=>True) (.bool (decide ((fe (le a)).val%2=1))):=by
 intro W hW;refine Ae func239 J 8 ntmps239 J (G3 ?_);intro n1 ab aa;refine G5 ?_;refine .lA J J J Y184.h J Sz184 Z0 (by(simp[ha];done)) ?_;refine .cV J J J J Body263 (r3_Rest (a) (ha)) tV (.idxA1 J J J J Y184.h Sz5 Y5.h J 0 J oM (by rfl) ?_);refine .rem_u8 J J J J 2 J dE (G4 ?_);refine G2 ?_;refine⟨_,[],Ag J J,sP,sP,?_,rfl⟩;exact congrArg Value.bool (odd_byte2 _)
theorem r3_Of(x:UInt64):Mv 237 [u64 x] (λ_=>True) (agg (Aa (fb (fe x.toNat)))):=by
 intro W hW;have aa:True:=trivial;refine Ae func237 J 18 ntmps237 J (G2 ?_);refine .alloc (cs:=(Aa (List.replicate 32 0))) J A9 J ?_;intro n2 ac ae;refine G4 ?_;refine .alloc (cs:=(Aa (List.replicate 32 0))) J A9 J ?_;intro n3 ag ad;refine G9 ?_;refine .loop (ι:=Nat) (λk=>⟨[(0,u64 x),(2,ptr n2 0),(3,ptr n3 0),(4,i64 (k:Int))],[⟨n3,Aa (padW 32 x.toNat k),184,32⟩,⟨n2,Aa (List.replicate 32 0),184,32⟩]⟩) (λk=>k<=8) (λk=>8-k) (0) ?_ ?_ ?_
 .omega
 .exact Ah wN (wh1 (by rw[padW_zero];exact Cf) (wh1 Z1 wh0)) nD
 rintro k hi;have aa:=padW_length 32 x.toNat k oM;refine G7 ?_;refine .condP J (λab=>?_) (λab=>?_)
 ·
  refine G8 ?_;refine .mul_i64 J J J J oM (G1 ?_);refine .shr_u64 J J J J (8*k) (by rw[wordOf_id _ oM];omega) oM ?_;refine G1 ?_;refine .i1 J J J J Y184.h Sz5 _ J oM (.s1 J J J J J Sz5 Z0 (by(simp[aa];omega)) (by exact Bo _ _ _) zU ?_);refine G9 ?_;exact⟨k+1,by omega,by omega,Ah wN (wh1 (by rw[<-zero_set x k oM];exact Cf) (wh1 Z1 wh0)) nD⟩
 obtain rfl:k=8:=by omega
 rw[pad_small]at*;refine G7 ?_;refine .lA J J J Y184.h J Sz184 Z0 (by(simp[aa];done)) ?_;refine .sA J J J J zE Sz184 (by(simp[aa];done)) Z1 sP zV ?_;refine G2 ?_;refine G2 ?_;refine⟨_,[],Ax J J Y184.h J Sz184 Z1 (by simp[aa]),sP,sP,?_,rfl⟩;rw[fe_small]
theorem mul_ab(ha:a.length=32)(hb:b.length=32):fe (v10 (mulT (openT (le a)) (openT (le b))))=fe (le a)*fe (le b):=by rw[mulT_v (o_fit ha).len (o_fit hb).len,o_v ha,o_v hb]
theorem sub_ab(ha:a.length=32)(hb:b.length=32):fe (v10 (minusT (openT (le a)) (openT (le b))))=fe (le a)-fe (le b):=by rw[minusT_v (o_fit ha).len (o_fit hb),o_v ha,o_v hb]
theorem r3_Mul(a b:List UInt8)(ha:a.length=32)(hb:b.length=32):Mv 236 [agg (Aa a),agg (Aa b)] (λ_=>True) (agg (Aa (fb (fe (le a)*fe (le b))))):=by
 intro W hW;refine Ae func236 J 11 ntmps236 J (G3 ?_);intro n2 aa ad;refine G1 ?_;intro n3 ag ab;refine .alloc (cs:=(Aa (List.replicate 32 0))) J A9 J ?_;intro n4 ae ac;refine G3 ?_;refine .draw (oPq [100,102,301,303,304,305,406]) Au zK (.lA J J J Y184.h J Sz184 Z2 (by(simp[ha];done)) ?_);refine .lA J J J Y184.h J Sz184 Z1 (by(simp[hb];done)) ?_;refine .cV J J J J Body230 (r3_Open (a) (ha)) tV (.cV J J J J Body230 (r3_Open (b) (hb)) tV (.cV J J J J Body268 (r3_Times (_) (_) (o_fit ha) (o_fit hb)) tV (.cV J J J J Body271 (r3_Close_v (_) (Bp (o_fit ha) (o_fit hb)) (_) (mul_ab ha hb)) tV (.sA J J J J zE Sz184 zF Z0 sP zU ?_))));refine G2 ?_;refine G2 ?_;refine⟨_,[],Ax J J Y184.h J Sz184 Z0 (by simp[Aw]),sP,sP,?_,rfl⟩;rfl
theorem r3_Sub(a b:List UInt8)(ha:a.length=32)(hb:b.length=32):Mv 264 [agg (Aa a),agg (Aa b)] (λ_=>True) (agg (Aa (fb (fe (le a)-fe (le b))))):=by
 intro W hW;refine Ae func264 J 11 ntmps264 J (G3 ?_);intro n2 aa ad;refine G1 ?_;intro n3 ag ab;refine .alloc (cs:=(Aa (List.replicate 32 0))) J A9 J ?_;intro n4 ae ac;refine G3 ?_;refine .draw (oPq [100,102,301,303,304,305,406]) Au zK (.lA J J J Y184.h J Sz184 Z2 (by(simp[ha];done)) ?_);refine .lA J J J Y184.h J Sz184 Z1 (by(simp[hb];done)) ?_;refine .cV J J J J Body230 (r3_Open (a) (ha)) tV (.cV J J J J Body230 (r3_Open (b) (hb)) tV (.cV J J J J Body269 (r3_Minus (_) (_) (o_fit ha) (o_fit hb)) tV (.cV J J J J Body271 (r3_Close_v (_) (minusT_fit (o_fit ha) (o_fit hb)) (_) (sub_ab ha hb)) tV (.sA J J J J zE Sz184 zF Z0 sP zU ?_))));refine G2 ?_;refine G2 ?_;refine⟨_,[],Ax J J Y184.h J Sz184 Z0 (by simp[Aw]),sP,sP,?_,rfl⟩;rfl
theorem r3_Neg(a:List UInt8)(ha:a.length=32):Mv 225 [agg (Aa a)] (λ_=>True) (agg (Aa (fb (-fe (le a))))):=by
 intro W hW;refine Ae func225 J 6 ntmps225 J (G3 ?_);intro n1 ad ab;refine .alloc (cs:=(Aa (List.replicate 32 0))) J A9 J ?_;intro n2 aa ac;refine G4 ?_;refine .build (cs:=Aa (List.replicate 32 0)) J J J (λw=>by kernel_rfl) ?_;refine .lA J J J Y184.h J Sz184 Z1 (by(simp[ha];done)) ?_;refine .cV J J J J Body264 (r3_Sub (List.replicate 32 0) (a) (rfl) (ha)) tV (.sA J J J J zE Sz184 zF Z0 sP zU ?_);refine G2 ?_;refine G2 ?_;refine⟨_,[],Ax J J Y184.h J Sz184 Z0 (by simp[Aw]),sP,sP,?_,rfl⟩;rw[show fe (le (List.replicate 32 0))-fe (le a)= -fe (le a)from by rw[show fe (le (List.replicate 32 0))=0 by kernel_rfl];grind]
theorem oneT_l:oneT.length=10:=rfl
theorem r3_Power(x:List Nat)(e:List UInt8)(hx:Fit10 x)(he:e.length=32):Mv 283 [agg (Bs x),agg (Aa e)] (λ_=>True) (agg (Bs (powT x (le e) 256))):=by
 intro W hW;have ah:=hx.len;have hE:=le32 he;obtain⟨U,hU⟩:∃U,Hid (powT x (le e) 256=U):=⟨_,⟨rfl⟩⟩;have ab:U.length=10:=by rw[<-hU.out];exact(powT_ok hx hE 256 (Lag _)).1.len
 rw[hU.out];have ac:=ab;refine Ae func283 J 29 ntmps283 J (G3 ?_);intro n2 aj aq;refine G1 ?_;intro n3 ar au;refine .alloc (cs:=(Cg (List.replicate 10 0))) J Zr250 J ?_;intro n4 aw av;refine G4 ?_;refine .build (cs:=Bs oneT) J J J (λw=>by kernel_rfl) ?_;refine .alloc (cs:=(Cg (List.replicate 10 0))) J Zr250 J ?_;intro n5 ap ao;refine .sA J J J J (by exact Cr _) Sz250 (by(simp[Av,oneT_l];done)) Z0 sP zU ?_;refine G9 ?_;refine .loop (ι:=Nat) (λj=>⟨[(2,ptr n2 0),(3,ptr n3 0),(4,ptr n4 0),(5,ptr n5 0),(6,i64 (255-(j:Int)))],[⟨n5,Bs (powT x (le e) j),250,10⟩,⟨n4,(Cg (List.replicate 10 0)),250,10⟩,⟨n3,Aa e,184,(Aa e).length⟩,⟨n2,Bs x,250,(Bs x).length⟩]⟩) (λj=>j<=256) (λj=>256-j) (0) ?_ ?_ ?_
 .omega
 .exact Ah wN (wh1 (by rw[show powT x (le e) 0=oneT from rfl];exact Cf) (wh1 Z1 (wh1 Z2 (wh1 Z3 wh0)))) nD
 rintro j hj;obtain⟨aa,am⟩:=powT_ok hx hE j hj;have ac:=aa.len;have ak:(mulT (powT x (le e) j) (powT x (le e) j)).length=10:=mulT_length _ _;refine G7 ?_;refine .condP J (λai=>?_) (λai=>?_)
 ·
  have an:j<256:=by omega
  rw[show(255:Int)-(j:Int)=((255-j:Nat):Int) by omega];refine G6 ?_;refine .lA J J J Cq J Sz250 Z0 (by(simp[Av,ac];done)) ?_;refine .lA J J J Cq J Sz250 Z0 (by(simp[Av,ac];done)) ?_;refine .cV J J J J Body268 (r3_Times _ _ aa aa) tV (.sA J J J J (by exact Cr _) Sz250 (by(simp[Av,mulT_length];done)) Z0 (by(simp[Av,ac];done)) zU ?_);refine G5 ?_;refine .quoN (255-j) (8) J J J J ⟨by decide,by omega⟩ ?_;refine .i1 J J J J Y184.h Sz5 _ J oM (G2 ?_);refine .remN (255-j) (8) J J J J dE (G1 ?_);refine .shr_u8 J J J J ((255-j)%8) (by rw[wordOf_id _ oM]) oM ?_;refine .rem_u8 J J J J 2 J dE (G3 ?_);refine .condP J (λad=>?_) (λad=>?_)
  ·
   have ae:=bit_is ad;refine .region (.lA J J J Cq J Sz250 Z0 (by(simp[Av,mulT_length];done)) ?_);refine .lA J J J Cq J Sz250 Z3 (by(simp[Av,ah];done)) ?_;refine .cV J J J J Body268 (r3_Times _ _ (Bp aa aa) hx) tV (.sA J J J J (by exact Cr _) Sz250 (by(simp[Av,mulT_length];done)) Z0 (by(simp[Av,mulT_length];done)) zU ?_);refine G9 ?_;exact⟨j+1,by omega,by omega,Ah (wk1 rfl (wk1 rfl (wk1 rfl (wk1 rfl (wk1 (congrArg (λz=>some (i64 z)) (show((255-j:Nat):Int)-1=255-((j+1:Nat):Int) by omega)) wk0))))) (wh1 (by(rw[powT_t ae];exact Cf)) (wh1 Z1 (wh1 Z2 (wh1 Z3 wh0)))) nD⟩
  have ag:=bit_isn ad;refine G9 ?_;exact⟨j+1,by omega,by omega,Ah (wk1 rfl (wk1 rfl (wk1 rfl (wk1 rfl (wk1 (congrArg (λz=>some (i64 z)) (show((255-j:Nat):Int)-1=255-((j+1:Nat):Int) by omega)) wk0))))) (wh1 (by(rw[powT_f ag];exact Cf)) (wh1 Z1 (wh1 Z2 (wh1 Z3 wh0)))) nD⟩
 rw[show powT x (le e) j=U from by rw[show j=256 by omega];exact hU.out];refine G7 ?_;refine .lA J J J Cq J Sz250 Z0 (by(simp[Av,ab];done)) ?_;refine .sA J J J J (by exact Cr _) Sz250 (by(simp[Av,ab];done)) Z1 sP zV ?_;refine G2 ?_;refine G2 ?_;refine⟨_,[],Ax J J Cq J Sz250 Z1 (by simp[Av,ab]),sP,sP,?_,rfl⟩;rfl
theorem pow_ab{a e:List UInt8}(ha:a.length=32)(he:e.length=32):fe (v10 (powT (openT (le a)) (le e) 256))=Cy (fe (le a)) (le e):=by rw[powT_all (o_fit ha) (le32 he),o_v ha]
theorem r3_Pow(a e:List UInt8)(ha:a.length=32)(he:e.length=32):Mv 272 [agg (Aa a),agg (Aa e)] (λ_=>True) (agg (Aa (fb (Cy (fe (le a)) (le e))))):=by
 intro W hW;refine Ae func272 J 10 ntmps272 J (G3 ?_);intro n2 aa ad;refine G1 ?_;intro n3 ag ab;refine .alloc (cs:=(Aa (List.replicate 32 0))) J A9 J ?_;intro n4 ae ac;refine G3 ?_;refine .draw (oPq [100,102,301,303,304,405]) Au zK (.lA J J J Y184.h J Sz184 Z2 (by(simp[ha];done)) ?_);refine .lA J J J Y184.h J Sz184 Z1 (by(simp[he];done)) ?_;refine .cV J J J J Body230 (r3_Open (a) (ha)) tV (.cV J J J J Body283 (r3_Power (_) (e) (o_fit ha) (he)) tV (.cV J J J J Body271 (r3_Close_v (_) ((powT_ok (o_fit ha) (le32 he) 256 (Lag _)).1) (_) (pow_ab ha he)) tV (.sA J J J J zE Sz184 zF Z0 sP zU ?_)));refine G2 ?_;refine G2 ?_;refine⟨_,[],Ax J J Y184.h J Sz184 Z0 (by simp[Aw]),sP,sP,?_,rfl⟩;rfl
theorem half_rem{p:UInt8}:((UInt8.ofNat (p.toNat%2)).toNat:Int)=1↔p.toNat%2=1:=by
  rw[Lb9];omega
theorem ones_three(n:Nat):((List.replicate 32 (255:UInt8)).set 0 (UInt8.ofNat (237-n))).set 31 127=leb 32 (le (onesB (UInt8.ofNat (237-n)) 127)/2^0):=by
  rw[Ldz,Lf3,ones_leb];rfl
theorem half_pow(V j:Nat):leb 32 (V/2^(j+1))=Co (V/2^j) 32:=by
  rw[halfAt_end,Lb3,<-Lbg]
theorem r3_shifted(n k:Nat)(hn:n<=237)(hk:k<=9):Mv 273 [i64 (n:Int),i64 (k:Int)] (λ_=>True) (agg (Aa (expT n k))):=by
 intro W hW;obtain⟨V,hV⟩:∃V,Hid (le (onesB (UInt8.ofNat (237-n)) 127)=V):=⟨_,⟨rfl⟩⟩;have an:V<2^256:=by rw[<-hV.out];exact le32 (onesB_length _ _)
 have hx:expT n k=leb 32 (V/2^k):=by rw[expT,hV.out]
 rw[hx];have ag:=ones_three n;rw[hV.out]at ag;have ae:True:=trivial;have aj:True:=trivial;refine Ae func273 J 50 ntmps273 J (G2 ?_);refine .alloc (cs:=(Aa (List.replicate 32 0))) J A9 J ?_;intro n4 au ar;refine G4 ?_;refine .alloc (cs:=(Aa (List.replicate 32 0))) J A9 J ?_;intro n5 aq ap;refine G9 ?_;refine .loop (ι:=Nat) (λi=>⟨[(0,i64 (n:Int)),(1,i64 (k:Int)),(4,ptr n4 0),(5,ptr n5 0),(6,i64 (i:Int))],[⟨n5,Aa (List.replicate i 255++List.replicate (32-i) 0),184,32⟩,⟨n4,Aa (List.replicate 32 0),184,32⟩]⟩) (λi=>i<=32) (λi=>32-i) (0) ?_ ?_ ?_
 .omega
 .exact Ah wN (wh1 Z0 (wh1 Z1 wh0)) nD
 rintro i hi;refine G7 ?_;refine .condP J (λao=>?_) (λao=>?_)
 ·
  have ah:i<32:=by omega
  refine G6 ?_;refine .i1 J J J J Y184.h Sz5 _ J oM (.s1 J J J (show Ai _ _=some (u8 255)from rfl) J Sz5 Z0 (by(simp;omega)) (by exact Bo _ _ _) zU ?_);refine G9 ?_;exact⟨i+1,by omega,by omega,Ah wN (wh1 (by rw[<-ones_step ah];exact Cf) (wh1 Z1 wh0)) nD⟩
 obtain rfl:i=32:=by omega
 rw[show((List.replicate 32 255++List.replicate (32-32) 0):List UInt8)=List.replicate 32 255 from rfl];refine G8 ?_;refine .subN (237) (n) J J J J oM (G1 ?_);refine .i1 J J J J Y184.h Sz5 0 J dE ?_;rw[byteOf_nat];refine .s1 J J J J J Sz5 Z0 sP (by exact Bo _ _ _) zU ?_;refine .i1 J J J J Y184.h Sz5 31 J dE (.s1 J J J (show Ai _ _=some (u8 127)from rfl) J Sz5 Z0 sP (by exact Bo _ _ _) zU ?_);refine G4 ?_;refine .loop (ι:=Nat) (λj=>⟨[(1,i64 ((k:Int)-(j:Int))),(4,ptr n4 0),(5,ptr n5 0)],[⟨n5,Aa (leb 32 (V/2^j)),184,32⟩,⟨n4,Aa (List.replicate 32 0),184,32⟩]⟩) (λj=>j<=k) (λj=>k-j) (0) ?_ ?_ ?_
 .exact Laf _
 .exact Ah (wk1 (congrArg (λz=>some (i64 z)) (show(k:Int)=(k:Int)-((0:Nat):Int) by omega)) wN) (wh1 (by rw[<-ag];exact Cf) (wh1 Z1 wh0)) nD
 rintro j hj;refine G7 ?_;refine .condP J (λam=>?_) (λam=>?_)
 ·
  have ak:V/2^j<2^256:=Lfc (Ldd _ _) an;refine G10 ?_;refine .loop (ι:=Nat) (λi=>⟨[(1,i64 ((k:Int)-(j:Int))),(4,ptr n4 0),(5,ptr n5 0),(7,i64 (i:Int))],[⟨n5,Aa (Co (V/2^j) i),184,32⟩,⟨n4,Aa (List.replicate 32 0),184,32⟩]⟩) (λi=>i<=32) (λi=>32-i) (0) ?_ ?_ ?_
  .omega
  .exact Ah wN (wh1 (by rw[halfAt_zero];exact Cf) (wh1 Z1 wh0)) nD
  rintro i hi;have ae:=halfAt_length (V/2^j) i hi;have aj:((Co (V/2^j) i).set i (UInt8.ofNat (((Co (V/2^j) i).getD i 0).toNat/2))).length=32:=by rw[Lbc];exact ae
  refine G7 ?_;refine .condP J (λai=>?_) (λai=>?_)
  ·
   have ah:i<32:=by omega
   refine G8 ?_;refine .i1 J J J J Y184.h Sz5 _ J oM (G1 ?_);refine .quo_u8 J J J J 2 J dE (.i1 J J J J Y184.h Sz5 _ J oM (.s1 J J J J J Sz5 Z0 (by(simp[ae];omega)) (by exact Bo _ _ _) zU ?_));refine G5 ?_;refine two (λr hr k=>Tr.lss J J J J hr k) (λab=>?_) (λab=>?_)
   ·
    have ad:=of_decide_eq_true ab;refine G2 ?_;refine .addN (i) (1) J J J J oM (.i1 J J J J Y184.h Sz5 _ J oM (G1 ?_));refine .rem_u8 J J J J 2 J dE (two (λr hr k=>Tr.eqi J J J J hr k) (λaa=>?_) (λaa=>?_))
    ·
     have ac:=of_decide_eq_true aa;refine G3 ?_;refine .cond_t J J (G3 ?_);refine .i1 J J J J Y184.h Sz5 _ J oM (G1 ?_);refine .add_u8 J J J (show Ai _ _=some (u8 128)from rfl) (.i1 J J J J Y184.h Sz5 _ J oM (.s1 J J J J J Sz5 Z0 (by(simp[ae];omega)) (by exact Bo _ _ _) zU ?_));refine G9 ?_;exact⟨i+1,by omega,by omega,Ah wN (wh1 (by(rw[<-half_odd (V/2^j) oM (half_rem.1 ac)];exact Cf)) (wh1 Z1 wh0)) nD⟩
    have ac:=of_decide_eq_false aa;refine G3 ?_;refine .cond_f J J (G9 ?_);exact⟨i+1,by omega,by omega,Ah wN (wh1 (by(rw[<-half_even (V/2^j) oM (λe=>ac (half_rem.2 e))];exact Cf)) (wh1 Z1 wh0)) nD⟩
   have ad:=of_decide_eq_false ab;refine G10 ?_;refine .cond_f J J (G9 ?_);exact⟨i+1,by omega,by omega,Ah wN (wh1 (by(rw[show i=31 by omega,<-half_last _ ak];exact Cf)) (wh1 Z1 wh0)) nD⟩
  refine G12 ?_;exact⟨j+1,by omega,by omega,Ah (wk1 (congrArg (λz=>some (i64 z)) (show(k:Int)-(j:Int)-1=(k:Int)-((j+1:Nat):Int) by omega)) wN) (wh1 (by rw[half_pow,show(32:Nat)=i by omega];exact Cf) (wh1 Z1 wh0)) nD⟩
 obtain rfl:j=k:=by omega
 refine G7 ?_;refine .lA J J J Y184.h J Sz184 Z0 (by(simp[Am];done)) ?_;refine .sA J J J J zE Sz184 (by(simp[Am];done)) Z1 sP zV ?_;refine G2 ?_;refine G2 ?_;refine⟨_,[],Ax J J Y184.h J Sz184 Z1 (by simp[Am]),sP,sP,?_,rfl⟩;rfl
theorem r3_Pow_e(a e:List UInt8)(ha:a.length=32)(he:e.length=32)(N:Nat)(X:Fp)(hN:le e=N)(hX:fe (le a)=X):Mv 272 [agg (Aa a),agg (Aa e)] (λ_=>True) (agg (Aa (fb (Cy X N)))):=by
  rw[<-hN,<-hX];exact r3_Pow a e ha he
theorem r3_Inv(a:List UInt8)(ha:a.length=32):Mv 238 [agg (Aa a)] (λ_=>True) (agg (Aa (fb (finv (fe (le a)))))):=by
 intro W hW;obtain⟨E,hE⟩:∃E,Hid (expT 2 0=E):=⟨_,⟨rfl⟩⟩;have aa:E.length=32:=by rw[<-hE.out];exact expT_length _ _
 have hs:=r3_shifted 2 0 dE dE;rw[hE.out]at hs;have hp:=r3_Pow_e a E ha aa (PF-2) _ (by rw[<-hE.out];exact expT_inv) rfl;rw[show Cy (fe (le a)) (PF-2)=finv (fe (le a))from rfl]at hp;obtain⟨R,hR⟩:∃R,Hid (finv (fe (le a))=R):=⟨_,⟨rfl⟩⟩;rw[hR.out]at hp ⊢;refine Ae func238 J 6 ntmps238 J (G3 ?_);intro n1 ac ad;refine .alloc (cs:=(Aa (List.replicate 32 0))) J A9 J ?_;intro n2 ab ae;refine G3 ?_;refine .draw (oPq [100,301,302,403]) Au zK (.lA J J J Y184.h J Sz184 Z1 (by(simp[ha];done)) ?_);refine .cV J J J J Body273 (hs) tV (.cV J J J J Body272 (hp) tV (.sA J J J J zE Sz184 zF Z0 sP zU ?_));refine G2 ?_;refine G2 ?_;refine⟨_,[],Ax J J Y184.h J Sz184 Z0 (by simp[Aw]),sP,sP,?_,rfl⟩;rfl
end Go.Proofs.YtbdfihcjddbhaaaGreat
namespace Go.Proofs.YtbdfihcjddbhaaaGreat
open Go Hw _root_.Go.Proofs.Tryz
theorem ref_L  :Mv 227 [] (λ_=>True) (agg (Aa (leb 32 L))):=by
 intro W hW;refine Ae func227 J 2 ntmps227 J (G2 ?_);refine .alloc (cs:=(Aa (List.replicate 32 0))) J A9 J ?_;intro n0 ab aa;refine G4 ?_;refine .build (cs:=Aa (leb 32 L)) J J J (λw=>by kernel_rfl) ?_;refine .sA J J J J zB Sz184 (by(simp[Am];done)) Z0 sP zU ?_;refine G2 ?_;refine G2 ?_;refine⟨_,[],Ax J J Y184.h J Sz184 Z0 (by simp[Am]),sP,sP,?_,rfl⟩;rfl
theorem ref_below(a b:List UInt8)(ha:a.length=32)(hb:b.length=32):Mv 226 [agg (Aa a),agg (Aa b)] (λ_=>True) (.bool (decide (le a<le b))):=by
  intro W hW;refine Ae func226 J 24 ntmps226 J (G3 ?_);intro n2 ad ah;refine G1 ?_;intro n3 ai ag;refine G10 ?_;refine .loop (ι:=Nat) (λk=>⟨[(2,ptr n2 0),(3,ptr n3 0),(5,i64 (31-(k:Int)))],[⟨n3,Aa b,184,(Aa b).length⟩,⟨n2,Aa a,184,(Aa a).length⟩]⟩) (λk=>k<=32/\a.drop (32-k)=b.drop (32-k)) (λk=>32-k) (0) ?_ ?_ ?_
  .exact⟨by omega,by rw[Lao oM,Lao oM]⟩
  .exact Ah wN (wh1 Z0 (wh1 Z1 wh0)) nD
  rintro k ⟨hk,hd⟩;refine G7 ?_;refine .condP J (λac=>?_) (λac=>?_)
  ·
    have ae:k<32:=by omega
    refine G5 ?_;refine .draw (oPq [0,1,102,3,4,105,6]) Au zK (G1 ?_);refine .i1 J J J J Y184.h Sz5 (31-k) oM oM (G2 ?_);refine .i1 J J J J Y184.h Sz5 (31-k) oM oM (G4 ?_);refine .condNP J (λab=>?_) (λab=>?_)
    ·
      have aa:=le_lt_at ha hb (i:=31-k) oM (by rw[show 31-k+1=32-k by omega];exact hd) oM;refine .seq (.draw (oPq [0,1,102,3,4,105,6,7]) Au zK (G1 ?_));refine .i1 J J J J Y184.h Sz5 (31-k) oM oM (G2 ?_);refine .i1 J J J J Y184.h Sz5 (31-k) oM oM (G5 ?_);refine G7 ?_;refine⟨_,[],Ag J J,sP,sP,?_,rfl⟩;first
        |(rw[show decide (le a<le b)=decide (((a.getD (31-k) 0).toNat:Int)<((b.getD (31-k) 0).toNat:Int))from decide_eq_decide.2 (aa.symm.trans oM)])
        | (have he:a=b:=by simpa using hd
           rw[he,decide_eq_false (Lh5 _)])
    refine G9 ?_;exact⟨k+1,⟨by omega,drop_step ha hb oM (by rw[show 32-(k+1)+1=32-k by omega];exact hd) (by rw[show 32-(k+1)=31-k by omega];omega)⟩,by omega,Ah (wk1 rfl (wk1 rfl (wk1 (by rw[show(31-((k+1:Nat):Int))=31-(k:Int)-1 by omega];rfl) wk0))) (wh1 Z0 (wh1 Z1 wh0)) nD⟩
  obtain rfl:k=32:=by omega
  refine G10 ?_;refine G2 ?_;refine⟨_,[],Ag J J,sP,sP,?_,rfl⟩;first
    |(rw[show decide (le a<le b)=decide (((a.getD (31-k) 0).toNat:Int)<((b.getD (31-k) 0).toNat:Int))from decide_eq_decide.2 (aa.symm.trans oM)])
    | (have he:a=b:=by simpa using hd
       rw[he,decide_eq_false (Lh5 _)])
theorem ref_plus(a b:List UInt8)(ha:a.length=32)(hb:b.length=32)(ay:le a<L)(a7:le b<L):Mv 241 [agg (Aa a),agg (Aa b)] (λ_=>True) (agg (Aa (leb 32 ((le a+le b)%L)))):=by
 intro W hW;have hL:L<2^253:=by decide
 refine Ae func241 J 61 ntmps241 J (G3 ?_);intro n2 aq a6;refine G1 ?_;intro n3 ab bc;refine .alloc (cs:=(Aa (List.replicate 32 0))) J A9 J ?_;intro n4 bg be;refine G4 ?_;refine .alloc (cs:=(Aa (List.replicate 32 0))) J A9 J ?_;intro n5 a2 a1;refine G7 ?_;refine .join (ι:=Unit) (λ_u=>⟨[(4,ptr n4 0),(5,ptr n5 0)],[⟨n5,Aa (leb 32 (le a+le b)),184,32⟩,⟨n4,Aa (List.replicate 32 0),184,32⟩]⟩) (λ_u=>True) ?_ ?_
 ·
  refine G6 ?_;refine .loop (ι:=Nat) (λk=>⟨[(2,ptr n2 0),(3,ptr n3 0),(4,ptr n4 0),(5,ptr n5 0),(6,i64 (((le (a.take k)+le (b.take k))/256^k:Nat):Int)),(7,i64 (k:Int))],[⟨n5,Aa (padW 32 (le (a.take k)+le (b.take k)) k),184,32⟩,⟨n4,Aa (List.replicate 32 0),184,32⟩,⟨n3,Aa b,184,(Aa b).length⟩,⟨n2,Aa a,184,(Aa a).length⟩]⟩) (λk=>k<=32) (λk=>32-k) (0) ?_ ?_ ?_
  .omega
  .exact Ah (wk1 rfl (wk1 rfl (wk1 rfl (wk1 rfl (wk1 (by rw[Ld8,Ld8];rfl) wN))))) (wh1 (by rw[padW_zero];exact Cf) (wh1 Z1 (wh1 Z2 (wh1 Z3 wh0)))) nD
  rintro k hk;have an:=padW_length 32 (le (a.take k)+le (b.take k)) k hk;have ak:(le (a.take k)+le (b.take k))/256^k<=1:=by
   have h1:=le_take_lt a k;have h2:=le_take_lt b k;rw[<-Nat.lt_succ_iff,Le0 (Lc5 dE)];omega
  have ax:(0:Int)<=(((le (a.take k)+le (b.take k))/256^k:Nat):Int):=Leo _;have ap:(((le (a.take k)+le (b.take k))/256^k:Nat):Int)<=1:=Int.ofNat_le.2 ak;refine G7 ?_;refine .condP J (λao=>?_) (λao=>?_)
  ·
   have ar:k<32:=by omega
   have av:=(a.getD k 0).toNat_lt;have a8:=(b.getD k 0).toNat_lt;have hs:(((le (a.take k)+le (b.take k))/256^k:Nat):Int)+((a.getD k 0).toNat:Int)+((b.getD k 0).toNat:Int)=(((le (a.take k)+le (b.take k))/256^k+((a.getD k 0).toNat+(b.getD k 0).toNat):Nat):Int):=by rw[Lcd,Lcd,Int.add_assoc]
   refine G5 ?_;refine .draw (oPq [0,1,2,103,4,5,6,7,108,9,10,11]) Au zK (G2 ?_);refine .i1 J J J J Y184.h Sz5 _ J oM (G4 ?_);refine .i1 J J J J Y184.h Sz5 _ J oM (G10 ?_);refine .rem_i64 J J J J oM (G1 ?_);refine .i1 J J J J Y184.h Sz5 _ J oM (.s1 J J J J J Sz5 Z0 (by(simp;omega)) (by exact Bo _ _ _) zU ?_);refine G4 ?_;refine .quo_i64 J J J J oM (G10 ?_);have ag:le (a.take (k+1))+le (b.take (k+1))=(le (a.take k)+le (b.take k))+256^k*((a.getD k 0).toNat+(b.getD k 0).toNat):=by
    rw[le_take_succ a k oM,le_take_succ b k oM,Lcl];omega
   exact⟨k+1,by omega,by omega,Ah (wk1 rfl (wk1 rfl (wk1 rfl (wk1 rfl (wk1 (by rw[ag,<-carry_step _ _ _ _ hs];rfl) wN))))) (wh1 (by rw[ag,<-padW_step 32 _ _ k oM _ hs,byteOf_mod];exact Cf) (wh1 Z1 (wh1 Z2 (wh1 Z3 wh0)))) nD⟩
  obtain rfl:k=32:=by omega
  have ai:le (a.take 32)=le a:=by rw[La5 oM]
  have am:le (b.take 32)=le b:=by rw[La5 oM]
  refine G5 ?_;refine⟨(),trivial,Ah wN (wh1 (by rw[<-padW_all,<-ai,<-am];exact Cf) (wh1 Z1 wh0)) nD⟩
 intro _u hj;skip;refine G2 ?_;refine .draw (oPq [100,301,302]) Au zK (.lA J J J Y184.h J Sz184 Z0 (by(simp[Am];done)) ?_);refine .cV J J J J Body227 (ref_L) tV (.cV J J J J Body226 (ref_below _ _ (by simp[Am]) (by simp[Am])) tV ?_);refine G2 ?_;refine .condP J (λaa=>?_) (λaa=>?_)
 ·
  have hS:le a+le b<L:=by rw[le_leb32 oM,le_leb32 L_lt]at aa;exact aa
  refine G2 ?_;refine .lA J J J Y184.h J Sz184 Z0 (by(simp[Am];done)) ?_;refine .sA J J J J zB Sz184 (by(simp[Am];done)) Z1 sP zV ?_;refine G2 ?_;refine G3 ?_;refine⟨_,[],Ax J J Y184.h J Sz184 Z1 (by simp[Am]),sP,sP,?_,rfl⟩
  (rw[Lal hS];done)
 have ah:L<=le a+le b:=by rw[le_leb32 oM,le_leb32 L_lt]at aa;exact Nat.le_of_not_lt aa
 refine G4 ?_;refine .cV J J J J Body227 (ref_L) tV (.alloc (cs:=(Aa (List.replicate 32 0))) J A9 J ?_);intro n8 bd au;refine .sA J J J J zB Sz184 (by(simp[Am];done)) Z0 sP zU ?_;refine G14 ?_;refine .loop (ι:=Nat) (λk=>⟨[(4,ptr n4 0),(5,ptr n5 0),(8,ptr n8 0),(6,i64 (-((bor (le a+le b-L) L k:Nat):Int))),(9,i64 (k:Int))],[⟨n8,Aa (leb 32 L),184,32⟩,⟨n5,Aa (subB (le a+le b-L) L k),184,32⟩,⟨n4,Aa (List.replicate 32 0),184,32⟩]⟩) (λk=>k<=32) (λk=>32-k) (0) ?_ ?_ ?_
 .omega
 .exact Ah (wk1 rfl (wk1 rfl (wk1 rfl (wk1 (by rw[bor_zero];rfl) wN)))) (wh1 Z0 (wh1 (by rw[subB_zero,Nat.sub_add_cancel ah];exact mem1) (wh1 Z2 wh0))) nD
 rintro k hk;have an:=subB_length (le a+le b-L) L k hk;have ba:=bor_le (le a+le b-L) L k;refine G7 ?_;refine .condP J (λaj=>?_) (λaj=>?_)
 ·
  have ac:k<32:=by omega
  have az:=((subB (le a+le b-L) L k).getD k 0).toNat_lt;have aw:=((leb 32 L).getD k 0).toNat_lt;have hJ:(((subB (le a+le b-L) L k).getD k 0).toNat:Int)-(((leb 32 L).getD k 0).toNat:Int)+ -((bor (le a+le b-L) L k:Nat):Int)=(((le a+le b-L+L)/256^k%256:Nat):Int)-((L/256^k%256:Nat):Int)+ -((bor (le a+le b-L) L k:Nat):Int):=by rw[subB_get _ _ k ac,leb_getD 32 L k ac,ofNat8_toNat,ofNat8_toNat]
  have ae:=bor_next _ _ k _ hJ;refine G2 ?_;refine .join (ι:=Unit) (λ_u=>⟨[(4,ptr n4 0),(5,ptr n5 0),(8,ptr n8 0),(6,i64 (-((bor (le a+le b-L) L (k+1):Nat):Int))),(9,i64 (k:Int))],[⟨n8,Aa (leb 32 L),184,32⟩,⟨n5,Aa (subB (le a+le b-L) L (k+1)),184,32⟩,⟨n4,Aa (List.replicate 32 0),184,32⟩]⟩) (λ_u=>True) ?_ ?_
  ·
   refine G2 ?_;refine .draw (oPq [0,1,102,3,4,5,106,7,8,9,10,11]) Au zK (G1 ?_);refine .i1 J J J J Y184.h Sz5 _ J oM (G3 ?_);refine .i1 J J J J Y184.h Sz5 _ J oM (.load1 J J J Y5.h J Z0 (by exact get_bytes (by(simp[Am];omega))) ?_);refine G12 ?_;refine .rem_i64 J J J J oM (G1 ?_);refine .i1 J J J J Y184.h Sz5 _ J oM (.s1 J J J J J Sz5 Z1 (by(simp;omega)) (by exact Bo _ _ _) zV ?_);refine G8 ?_;refine .condP J (λad=>?_) (λad=>?_)
   ·
    have ab:=ae.1 ad;refine G5 ?_;refine⟨(),trivial,Ah (wk1 J (wk1 J (wk1 J (wk1 (by rw[ab];rfl) wN)))) (wh1 Z0 (wh1 (by rw[<-subB_step _ _ k ac _ hJ,byteOf_mod];exact mem1) (wh1 Z2 wh0))) nD⟩
   have ab:=ae.2 ad;refine G5 ?_;refine⟨(),trivial,Ah (wk1 J (wk1 J (wk1 J (wk1 (by rw[ab];rfl) wN)))) (wh1 Z0 (wh1 (by rw[<-subB_step _ _ k ac _ hJ,byteOf_mod];exact mem1) (wh1 Z2 wh0))) nD⟩
  intro _u hj;skip;refine G6 ?_;exact⟨k+1,by omega,by omega,Ah wN (wh1 Z0 (wh1 Z1 (wh1 Z2 wh0))) nD⟩
 obtain rfl:k=32:=by omega
 refine G7 ?_;refine .lA J J J Y184.h J Sz184 Z1 (by(simp[Am,subB_all];done)) ?_;refine .sA J J J J zB Sz184 (by(simp[Am,subB_all];done)) Z2 sP (by exact upd2) ?_;refine G2 ?_;refine G2 ?_;refine⟨_,[],Ax J J Y184.h J Sz184 Z2 (by simp[Am,subB_all]),sP,sP,?_,rfl⟩
 (rw[subB_all,Nat.mod_eq_sub_mod ah,Lal (a:=le a+le b-L) oM])
theorem ref_plus_n(x y:Nat)(hx:x<L)(hy:y<L):Mv 241 [agg (Aa (leb 32 x)),agg (Aa (leb 32 y))] (λ_=>True) (agg (Aa (leb 32 ((x+y)%L)))):=by
  have e1:=le_leb32 (Ldt hx L_lt);have e2:=le_leb32 (Ldt hy L_lt);have:=ref_plus (leb 32 x) (leb 32 y) (Am 32 x) (Am 32 y) (by rw[e1];exact hx) (by rw[e2];exact hy);rw[e1,e2]at this;exact this
theorem ref_plus_one(x:Nat)(hx:x<L):Mv 241 [agg (Aa (leb 32 x)),agg (Aa ((List.replicate 32 0).set 0 1))] (λ_=>True) (agg (Aa (leb 32 ((x+1)%L)))):=by
  have e1:=le_leb32 (Ldt hx L_lt);have:=ref_plus (leb 32 x) ((List.replicate 32 0).set 0 1) (Am 32 x) sP (by rw[e1];exact hx) (by rw[le_one'];decide);rw[e1,le_one']at this;exact this
theorem ref_rest(b o c n:Nat)(xs:List UInt8)(hx:xs.length=n)(hn:n<=1000000):Mv 240 [.slice (some ⟨b,o,none⟩) n c] (λW=>Dd W b o (Aa xs)) (agg (Aa (leb 32 (le xs%L)))):=by
 intro W hW;refine Ae func240 J 33 ntmps240 J (G2 ?_);refine .alloc (cs:=(Aa (List.replicate 32 0))) J A9 J ?_;intro n2 ag ak;refine G4 ?_;refine .alloc (cs:=(Aa (List.replicate 32 0))) J A9 J ?_;intro n3 an ai;refine .alloc (cs:=(Aa (List.replicate 32 0))) J A9 J ?_;intro n4 am aj;refine G4 ?_;refine .i1 J J J J Y184.h Sz5 0 J dE (.s1 J J J (show Ai _ _=some (u8 1)from rfl) J Sz5 Z0 sP (by exact Bo _ _ _) zU ?_);refine G7 ?_;refine .mul_i64 J J J J oM (G5 ?_);refine .loop (ι:=Nat) (λk=>⟨[(0, .slice (some ⟨b,o,none⟩) n c),(2,ptr n2 0),(3,ptr n3 0),(4,ptr n4 0),(5,i64 (8*(n:Int)-1-(k:Int)))],[⟨n4,Aa ((List.replicate 32 0).set 0 1),184,32⟩,⟨n3,Aa (leb 32 ((le xs/2^(8*n-k))%L)),184,32⟩,⟨n2,Aa (List.replicate 32 0),184,32⟩]⟩) (λk=>k<=8*n) (λk=>8*n-k) (0) ?_ ?_ ?_
 .omega
 .exact Ah (wk1 rfl (wk1 rfl (wk1 rfl (wk1 rfl (wk1 (by rw[show(8*(n:Int)-1-((0:Nat):Int))=8*(n:Int)-1 by omega];rfl) wk0))))) (wh1 Z0 (wh1 (by rw[Lgk,le_zero_div xs n hx,zero_modL,leb_zero32];exact mem1) (wh1 Z2 wh0))) nD
 rintro k hk;refine G7 ?_;refine .condP J (λae=>?_) (λae=>?_)
 ·
  have ah:k<8*n:=by omega
  have aa:=div_bit (le xs) (8*n-(k+1));rw[show 8*n-(k+1)+1=8*n-k by omega]at aa;have ab:=bit_rem xs (8*n-(k+1));rw[show 8*n-(k+1)=8*n-1-k by omega]at ab aa;refine G2 ?_;refine .join (ι:=Unit) (λ_u=>⟨[(0, .slice (some ⟨b,o,none⟩) n c),(2,ptr n2 0),(3,ptr n3 0),(4,ptr n4 0),(5,i64 (8*(n:Int)-1-(k:Int)))],[⟨n4,Aa ((List.replicate 32 0).set 0 1),184,32⟩,⟨n3,Aa (leb 32 ((le xs/2^(8*n-(k+1)))%L)),184,32⟩,⟨n2,Aa (List.replicate 32 0),184,32⟩]⟩) (λ_u=>True) ?_ ?_
  ·
   refine G3 ?_;refine .lA J J J Y184.h J Sz184 Z1 (by(simp[Am];done)) ?_;refine .lA J J J Y184.h J Sz184 Z1 (by(simp[Am];done)) ?_;refine .cV J J J J Body241 (ref_plus_n _ _ (Lc3 _ L_pos) (Lc3 _ L_pos)) tV (.sA J J J J zB Sz184 (by(simp[Am];done)) Z1 (by(simp[Am];done)) zV ?_);refine G6 ?_;refine .quo_i64 J J J J oM (.idxSlO J J J J Y33.h Sz5 ((8*n-1-k)/8) oM oM (.loadE J J J Y5.h J sP (hW _ _ (get_bytes oM)) (G1 ?_)));refine .rem_i64 J J J J oM (G1 ?_);refine .shr_u8 J J J J ((8*n-1-k)%8) (by rw[wordOf_id _ oM];omega) oM ?_;refine .rem_u8 J J J J 2 J dE (G3 ?_);refine .condP J (λac=>?_) (λac=>?_)
   ·
    have ad:le xs/2^(8*n-(k+1))=2*(le xs/2^(8*n-k))+1:=by rw[show 8*n-(k+1)=8*n-1-k by omega,aa,<-ab,if_pos (decide_eq_true ac)]
    refine .region (.lA J J J Y184.h J Sz184 Z1 (by(simp[Am];done)) ?_);refine .lA J J J Y184.h J Sz184 Z0 sP ?_;refine .cV J J J J Body241 (ref_plus_one _ (Lc3 _ L_pos)) tV (.sA J J J J zB Sz184 (by(simp[Am];done)) Z1 (by(simp[Am];done)) zV ?_);refine G3 ?_;refine⟨(),trivial,Ah wN (wh1 Z0 (wh1 (by(rw[ad,<-dbl_mod1];exact mem1)) (wh1 Z2 wh0))) nD⟩
   have ad:le xs/2^(8*n-(k+1))=2*(le xs/2^(8*n-k)):=by rw[show 8*n-(k+1)=8*n-1-k by omega,aa,<-ab,if_neg (by simpa using ac),Lc7]
   refine G3 ?_;refine⟨(),trivial,Ah wN (wh1 Z0 (wh1 (by(rw[ad,<-dbl_mod];exact mem1)) (wh1 Z2 wh0))) nD⟩
  intro _u hj;skip;refine G6 ?_;exact⟨k+1,by omega,by omega,Ah (wk1 rfl (wk1 rfl (wk1 rfl (wk1 rfl (wk1 (by rw[show(8*(n:Int)-1-((k+1:Nat):Int))=8*(n:Int)-1-(k:Int)-1 by omega];rfl) wk0))))) (wh1 Z0 (wh1 Z1 (wh1 Z2 wh0))) nD⟩
 obtain rfl:k=8*n:=by omega
 refine G7 ?_;refine .lA J J J Y184.h J Sz184 Z1 (by(simp[Am];done)) ?_;refine .sA J J J J zB Sz184 (by(simp[Am];done)) Z2 sP (by exact upd2) ?_;refine G2 ?_;refine G2 ?_;refine⟨_,[],Ax J J Y184.h J Sz184 Z2 (by simp[Am]),sP,sP,?_,rfl⟩;rw[Lf0,Ldz,Lf3]
theorem ref_Rest(b o c n:Nat)(xs:List UInt8)(hx:xs.length=n)(hn:n<=64):Mv 189 [.slice (some ⟨b,o,none⟩) n c] (λW=>Dd W b o (Aa xs)) (.tuple #[agg (Aa (leb 32 (le xs%L))),i64 0]):=by
 intro W hW;refine Ae func189 J 10 ntmps189 J (G2 ?_);refine .alloc (cs:=(Aa (List.replicate 32 0))) J A9 J ?_;intro n2 aa ab;refine G8 ?_;refine .gtr J J J J (decide_eq_false oM) (G2 ?_);refine .cond_f J (rfl) (G5 ?_);refine .cV J J J J Body240 (ref_rest _ _ _ n xs hx oM) (λW h=>sees_ext h sP hW) (.sA J J J J zB Sz184 (by(simp[Am];done)) Z0 sP zU ?_);refine G3 ?_;refine G2 ?_;refine⟨_,[],Bg J J J Y184.h J Sz184 Z0 (by simp[Am]),sP,sP,?_,rfl⟩;rfl
theorem ref_canon(a:List UInt8)(ha:a.length=32)  :Mv 179 [agg (Aa a)] (λ_=>True) (.bool (decide (le a<L))):=by
 intro W hW;refine Ae func179 J 6 ntmps179 J (.sr (.boxA J J ?_));intro n1 ab aa;refine .a J J J (.na (.seq (.draw (oPq [100,301,302,3]) Au zK (.lA J J J Y184.h J Sz184 Z0 (by(simp[ha];done)) ?_))));refine .cV J J J J Body227 (ref_L) tV (.cV J J J J Body226 (ref_below _ _ (by simp[ha]) (by simp[Am])) tV ?_);refine .a J J J (.na ?_);refine .ret (en_r ?_);refine⟨_,[],Ag J J,sP,sP,?_,rfl⟩;rw[le_leb32 L_lt]
theorem ref_bit_at(a:List UInt8)(ha:a.length=32)(k:Nat)(hk:k<256):Mv 234 [agg (Aa a),i64 (k:Int)] (λ_=>True) (.bool ((le a).testBit k)):=by
 intro W hW;refine Ae func234 J 23 ntmps234 J (G3 ?_);intro n2 aa ab;refine G6 ?_;refine .geq J J J J (decide_eq_true oM) (G2 ?_);refine .lss J J J J (decide_eq_true oM) (G3 ?_);refine .quo_i64 J J J J oM (.i1 J J J J Y184.h Sz5 (k/8) oM oM (G2 ?_));refine .rem_i64 J J J J oM (G1 ?_);refine .shr_u8 J J J J (k%8) (by rw[wordOf_id _ oM];omega) oM ?_;refine .rem_u8 J J J J 2 J dE (G5 ?_);refine G2 ?_;refine⟨_,[],Ag J J,sP,sP,?_,rfl⟩;rw[<-bit_rem a k];rfl
end Go.Proofs.YtbdfihcjddbhaaaGreat
end
