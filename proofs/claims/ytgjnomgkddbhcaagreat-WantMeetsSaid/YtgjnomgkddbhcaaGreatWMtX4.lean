/- Contracts of functions of the loaded program, and the lemmas that they need (part 4). It proves no statement by itself; it has no conditions. -/
import Derived.WalkKit
import Derived.Orders
import Derived.Deep.LoopGhost
import Derived.IntWalk
import Derived.Laws.StructEq
import Derived.Test.YtgjnomgkddbhcaaGreatRows
import Derived.KernelRfl
import Derived.ArgAppend
import Derived.Deep.AppendSrc
import Derived.Lib.Bytealg
import Derived.Lib.BytesEntry
import Derived.Laws.IdiomStrings
import Derived.WideKeyArr2
import Derived.ProofKit
import Derived.OpenShut
import Derived.Deep.Slices
import Derived.Laws.Pointers
import Derived.Laws.Cover3
import Derived.LaidEqlPtr
import Derived.LoopN
import Derived.RangeFuncLeaves
import Derived.RangeFuncSeq
import Derived.OrdersIn
import Derived.Maps.Keyed
import Derived.Maps.RangeRun
import Derived.DeepKeys4
import Derived.Below
import Derived.Laws.Externs
import Derived.Defers
import Derived.Laws.MathBits
import Derived.Shelf.SlSortCmp.WholeK
import Derived.Shelf.SlGeneric
import Derived.Test.YtgjnomgkddbhcaaGreatProg
import Derived.Shelf.SlSortCmp.NoneTotal
import Derived.Deep.QuietTactic
import Derived.BigQuiet
import Derived.ScopeJumps
import Derived.DeepKeys3
import Derived.ChangeOld
import Derived.JoinedOf
import Derived.Test.YtgjnomgkddbhcaaGreatWMtX3
set_option maxRecDepth 100000
set_option maxHeartbeats 8000000
set_option linter.unusedVariables false
set_option linter.unusedSimpArgs false
set_option linter.unusedSectionVars false
set_option linter.unnecessarySimpa false
section
namespace Go.Proofs.YtgjnomgkddbhcaaGreat
open Go Hw _root_.Go.Proofs.Tryz
theorem scalar_modulus  :Mv 198 [] (fun _=>True) (agg (Al modW)):=by
 intro W hW;refine Ad func198 J 2 ntmps198 J (G2 ?_);refine .alloc (cs:=(Al (List.replicate 4 0))) J Zr221 J ?_;intro n0 hn0 hf0;refine G4 ?_;refine .build (cs:=Al modW) J J J (fun w=>by kernel_rfl) ?_;refine .sA J J J J zB Sz221 (by(simp[modW_length];done)) Z0 sP zU ?_;refine G2 ?_;refine G2 ?_;refine⟨_,[],Aw J J Y221.h J Sz221 Z0 (by simp[modW_length]),sP,sP,?_,rfl⟩;rfl
theorem scalar_doubled(w:List UInt64)(b:UInt64)(hw:w.length=4):Mv 282 [agg (Al w),u64 b] (fun _=>True) (agg (Al (dblW w b))):=by
 intro W hW;refine Ad func282 J 32 ntmps282 J (G3 ?_);intro n2 hn2 hf2;refine .alloc (cs:=(Al (List.replicate 4 0))) J Zr221 J ?_;intro n4 hn4 hf4;refine G4 ?_;refine .i1 J J J J Y221.h Sz30 0 J dE (G1 ?_);refine .shl_u64 J J J J 1 J dE (.i1 J J J J Y221.h Sz30 1 J dE (G1 ?_));refine .shr_u64 J J J J 63 J dE (G1 ?_);refine .i1 J J J J Y221.h Sz30 1 J dE (G1 ?_);refine .shl_u64 J J J J 1 J dE (.i1 J J J J Y221.h Sz30 2 J dE (G1 ?_));refine .shr_u64 J J J J 63 J dE (G1 ?_);refine .i1 J J J J Y221.h Sz30 2 J dE (G1 ?_);refine .shl_u64 J J J J 1 J dE (.i1 J J J J Y221.h Sz30 3 J dE (G1 ?_));refine .shr_u64 J J J J 63 J dE (G1 ?_);refine .i1 J J J J Y221.h Sz30 3 J dE (G1 ?_);refine .shl_u64 J J J J 1 J dE (G2 ?_);refine .build (cs:=Al (dblW w b)) J J J (fun w=>by kernel_rfl) ?_;refine .sA J J J J zB Sz221 (by(simp[dblW_length];done)) Z0 sP zU ?_;refine G2 ?_;refine G2 ?_;refine⟨_,[],Aw J J Y221.h J Sz221 Z0 (by simp[dblW_length]),sP,sP,?_,rfl⟩;rfl
theorem scalar_load(a:List UInt8)(ha:a.length=32):Mv 196 [agg (Aa a)] (fun _=>True) (agg (Al (ldW a 32))):=by
 intro W hW;refine Ad func196 J 24 ntmps196 J (G3 ?_);intro n1 hn1 hf1;refine .alloc (cs:=(Al (List.replicate 4 0))) J Zr221 J ?_;intro n2 hn2 hf2;refine G4 ?_;refine .alloc (cs:=(Al (List.replicate 4 0))) J Zr221 J ?_;intro n3 hn3 hf3;refine G9 ?_;refine .loop (ι:=Nat) (fun k=>⟨[(1,ptr n1 0),(2,ptr n2 0),(3,ptr n3 0),(5,i64 (k:Int))],[⟨n3,Al (ldW a k),221,4⟩,⟨n2,Al (List.replicate 4 0),221,4⟩,⟨n1,Aa a,187,(Aa a).length⟩]⟩) (fun k=>k≤32) (fun k=>32-k) (0) ?_ ?_ ?_
 ·omega
 ·exact Ah wN (wh1 Z0 (wh1 Z1 (wh1 Z2 wh0))) nD
 rintro k hi;have hlk:=ldW_length a k;refine G6 ?_;refine .condP J (fun hc0=>?_) (fun hc0=>?_)
 ·
  refine G10 ?_;refine .draw (oPq [0,1,2,3,4,105,6,7,8,9,110,11,12,13,414]) Aq zK (G1 ?_);refine .quo_i64 J J J J oM (G1 ?_);refine .quo_i64 J J J J oM (.i1 J J J J Y221.h Sz30 (k/8) oM oM (G1 ?_));refine .shl_u64 J J J J 8 J dE (G2 ?_);refine .i1 J J J J Y187.h Sz5 (31-k) oM oM (G3 ?_);refine .i1 J J J J Y221.h Sz30 (k/8) oM oM (.s1 J J J J J Sz30 Z0 (by(simp[ldW_length];omega)) (by exact Bj _ _ _) zU ?_);refine G8 ?_;exact⟨k+1,by omega,by omega,Ah wN (wh1 Z0 (wh1 Z1 (wh1 Z2 wh0))) nD⟩
 obtain rfl:k=32:=by omega
 refine G7 ?_;refine .lA J J J Y221.h J Sz221 Z0 (by(simp[ldW_length];done)) ?_;refine .sA J J J J zB Sz221 (by(simp[ldW_length];done)) Z1 sP zV ?_;refine G2 ?_;refine G2 ?_;refine⟨_,[],Aw J J Y221.h J Sz221 Z1 (by simp[ldW_length]),sP,sP,?_,rfl⟩;rfl
theorem scalar_store(w:List UInt64)(hw:w.length=4):Mv 284 [agg (Al w)] (fun _=>True) (agg (Aa (stB w 32))):=by
 intro W hW;refine Ad func284 J 23 ntmps284 J (G3 ?_);intro n1 hn1 hf1;refine .alloc (cs:=(Aa (List.replicate 32 0))) J A8 J ?_;intro n2 hn2 hf2;refine G4 ?_;refine .alloc (cs:=(Aa (List.replicate 32 0))) J A8 J ?_;intro n3 hn3 hf3;refine G9 ?_;refine .loop (ι:=Nat) (fun k=>⟨[(1,ptr n1 0),(2,ptr n2 0),(3,ptr n3 0),(5,i64 (k:Int))],[⟨n3,Aa (stB w k),187,32⟩,⟨n2,Aa (List.replicate 32 0),187,32⟩,⟨n1,Al w,221,(Al w).length⟩]⟩) (fun k=>k≤32) (fun k=>32-k) (0) ?_ ?_ ?_
 ·omega
 ·exact Ah wN (wh1 Z0 (wh1 Z1 (wh1 Z2 wh0))) nD
 rintro k hi;have hlk:=stB_length w k;refine G6 ?_;refine .condP J (fun hc0=>?_) (fun hc0=>?_)
 ·
  refine G14 ?_;refine .quo_i64 J J J J oM (.i1 J J J J Y221.h Sz30 (k/8) oM oM (G2 ?_));refine .rem_i64 J J J J oM (.mul_i64 J J J J oM (G1 ?_));refine .shr_u64 J J J J (56-8*(k%8)) oM oM (G1 ?_);refine .i1 J J J J Y187.h Sz5 (31-k) oM oM (.s1 J J J J J Sz5 Z0 (by(simp[stB_length];omega)) (by exact Bl _ _ _) zU ?_);refine G8 ?_;exact⟨k+1,by omega,by omega,Ah wN (wh1 Z0 (wh1 Z1 (wh1 Z2 wh0))) nD⟩
 obtain rfl:k=32:=by omega
 refine G7 ?_;refine .lA J J J Y187.h J Sz187 Z0 (by(simp[stB_length];done)) ?_;refine .sA J J J J zB Sz187 (by(simp[stB_length];done)) Z1 sP zV ?_;refine G2 ?_;refine G2 ?_;refine⟨_,[],Aw J J Y187.h J Sz187 Z1 (by simp[stB_length]),sP,sP,?_,rfl⟩;rfl
theorem sub64_run(x y b:UInt64)(hb:b.toNat≤1)(w:World):(callFunc 288 [u64 x,u64 y,u64 b].toArray).run prog w= .ok (.value (.tuple #[u64 (w64 (x.toNat+2^64-y.toNat-b.toNat)),u64 (if x.toNat<y.toNat+b.toNat then 1 else 0)])) w:=by
  rw[run_callFunc_extern func288 zK zK zK (e:=sub64E) zK];have h:(sub64E [u64 x,u64 y,u64 b].toArray).run prog w= .ok (.tuple #[.int .u64 (((x.toNat+18446744073709551616-y.toNat-b.toNat)%18446744073709551616:Nat):Int), .int .u64 ((if x.toNat<y.toNat+b.toNat then 1 else 0:Nat):Int)]) w:=by
    have:b.toNat=0∨b.toNat=1:=by omega
    rcases this with h|h<;>simp only[u64,h]<;>rfl
  rw[h];simp only[Result.andThen,u64,Bt];congr 5;split<;>rfl
theorem add64_run(x y b:UInt64)(hb:b.toNat≤1)(w:World):(callFunc 287 [u64 x,u64 y,u64 b].toArray).run prog w= .ok (.value (.tuple #[u64 (w64 (x.toNat+y.toNat+b.toNat)),u64 (w64 ((x.toNat+y.toNat+b.toNat)/2^64))])) w:=by
  rw[run_callFunc_extern func287 zK zK zK (e:=add64Entry) zK];have hx:=x.toNat_lt;have hy:=y.toNat_lt;have h:=run_add64 (P:=prog) (x.toNat:Int) y.toNat b.toNat oM oM oM oM w;have e:[u64 x,u64 y,u64 b].toArray= #[.int .u64 x.toNat, .int .u64 y.toNat, .int .u64 b.toNat]:=rfl;have e1:((x.toNat:Int)+y.toNat+b.toNat)%18446744073709551616=((w64 (x.toNat+y.toNat+b.toNat)).toNat:Int):=by rw[Bt];omega
  have e2:((x.toNat:Int)+y.toNat+b.toNat)/18446744073709551616=((w64 ((x.toNat+y.toNat+b.toNat)/2^64)).toNat:Int):=by rw[Bt];omega
  rw[e,h,e1,e2];rfl
theorem isNaN_u64(x:UInt64):Mv 95 [u64 x] (fun _=>True) (.bool false):=by
 intro W hW;refine Ad func95 J 6 ntmps95 J (G9 ?_);refine .nei J J J J (show(!decide _)=false from congrArg not (decide_eq_true (rfl))) (G3 ?_);refine G2 ?_;refine⟨_,[],Af J J,sP,sP,?_,rfl⟩;rfl
theorem cmp_u64(x y:UInt64):Mv 57 [u64 x,u64 y] (fun _=>True) (i64 (cmp1 x y)):=by
 intro W hW;refine Ad func57 J 20 ntmps57 J (G8 ?_);refine .cV J J J J Body95 (isNaN_u64 _) tV (G6 ?_);refine .cV J J J J Body95 (isNaN_u64 _) tV (G9 ?_);refine .cond_f J (rfl) (G8 ?_);refine .cond_f J (rfl) (G10 ?_);refine .condP J (fun hc3=>?_) (fun hc3=>?_)
 ·
  refine G5 ?_;refine G3 ?_;refine⟨_,[],Af J J,sP,sP,?_,rfl⟩;unfold cmp1;rw[if_pos oM]
 refine G10 ?_;refine .condP J (fun hc4=>?_) (fun hc4=>?_)
 ·
  refine G5 ?_;refine G3 ?_;refine⟨_,[],Af J J,sP,sP,?_,rfl⟩;unfold cmp1;rw[if_neg oM,if_pos oM]
 refine G7 ?_;refine G2 ?_;refine⟨_,[],Af J J,sP,sP,?_,rfl⟩;unfold cmp1;rw[if_neg oM,if_neg oM]
theorem cmpFunc_u64(b1 o1 c1 b2 o2 c2 n:Nat)(xs ys:List UInt64)(hx:xs.length=n)(hy:ys.length=n)(hn:n≤1000000):Mv 246 [.slice (some ⟨b1,o1,none⟩) n c1, .slice (some ⟨b2,o2,none⟩) n c2, .func (.func 57) #[] #[]] (fun W=>De W b1 o1 (Al xs)∧De W b2 o2 (Al ys)) (i64 (cmpW xs ys)):=by
 intro W hW;refine Ad func246 J 39 ntmps246 J (G14 ?_);refine .loop (ι:=Nat) (fun k=>⟨[(0, .slice (some ⟨b1,o1,none⟩) n c1),(1, .slice (some ⟨b2,o2,none⟩) n c2),(2, .func (.func 57) #[] #[]),(11, .slice (some ⟨b1,o1,none⟩) n c1),(12,i64 (n:Int)),(13,i64 (k:Int))],[]⟩) (fun k=>k≤n∧∀j,j<k→xs.getD j 0=ys.getD j 0) (fun k=>n-k) (0) ?_ ?_ ?_
 ·exact⟨by omega,fun j hj=>by omega⟩
 ·exact Ah wN wh0 nD
 rintro k ⟨hk,hi⟩;refine G6 ?_;refine .condP J (fun hc0=>?_) (fun hc0=>?_)
 ·
  refine G7 ?_;refine .idxSlO J J J J Y261.h Sz30 _ J oM (.loadE J J J Y30.h J sP (hW.1 _ _ (get_words oM)) (G13 ?_));refine .cond_f J (by simp;omega) ?_;refine G6 ?_;refine .idxSlO J J J J Y261.h Sz30 _ J oM (.loadE J J J Y30.h J sP (hW.2 _ _ (get_words oM)) (G8 ?_));refine .cV J J J J Body57 (cmp_u64 _ _) tV (G9 ?_);refine .condNP J (fun hc2=>?_) (fun hc2=>?_)
  ·
   refine G6 ?_;refine G7 ?_;refine⟨_,[],Af J J,sP,sP,?_,rfl⟩;exact congrArg i64 (cmpW_at _ _ _ hi oM oM hc2).symm
  refine G8 ?_;exact⟨k+1,⟨by omega,fun j hj=>if h:j<k then hi j h else(show j=k by omega)▸cmp1_eq hc2⟩,by omega,Ah wN wh0 nD⟩
 obtain rfl:k=n:=by omega
 refine G15 ?_;refine .cond_f J sP (G7 ?_);refine G2 ?_;refine⟨_,[],Af J J,sP,sP,?_,rfl⟩;exact congrArg i64 (cmpW_all _ _ oM (by rw[hx];exact hi)).symm
theorem scalar_below(w m:List UInt64)(hw:w.length=4)(hm:m.length=4):Mv 197 [agg (Al w),agg (Al m)] (fun _=>True) (.bool (decide (wv w<wv m))):=by
 intro W hW;refine Ad func197 J 9 ntmps197 J (G3 ?_);intro n2 hn2 hf2;refine G1 ?_;intro n3 hn3 hf3;refine G4 ?_;refine .draw (oPq [0,1,302,3,4]) Aq zK (G2 ?_);refine .cV J J J J Body246 (cmpFunc_u64 _ _ _ _ _ _ 4 w m hw hm oM) (fun W h=>⟨An h Z1,An h Z0⟩) ?_;refine G4 ?_;refine G2 ?_;refine⟨_,[],Af J J,sP,sP,?_,rfl⟩;exact congrArg Value.bool (by simp only[cmpW_lt hw hm])
theorem scalar_minus(w m:List UInt64)(hw:w.length=4)(hm:m.length=4):Mv 283 [agg (Al w),agg (Al m)] (fun _=>True) (agg (Al (mnsW w m 4).1)):=by
 intro W hW;refine Ad func283 J 25 ntmps283 J (G3 ?_);intro n2 hn2 hf2;refine G1 ?_;intro n3 hn3 hf3;refine .alloc (cs:=(Al (List.replicate 4 0))) J Zr221 J ?_;intro n4 hn4 hf4;refine G4 ?_;refine .a J J (show Ai _ _=some (u64 0)from rfl) (G9 ?_);refine .loop (ι:=Nat) (fun k=>⟨[(2,ptr n2 0),(3,ptr n3 0),(4,ptr n4 0),(5,u64 (mnsW w m k).2),(6,i64 (3-(k:Int)))],[⟨n4,Al (List.replicate 4 0),221,4⟩,⟨n3,Al m,221,(Al m).length⟩,⟨n2,Al (mnsW w m k).1,221,(Al w).length⟩]⟩) (fun k=>k≤4) (fun k=>4-k) (0) ?_ ?_ ?_
 ·omega
 ·exact Ah wN (wh1 Z0 (wh1 Z1 (wh1 Z2 wh0))) nD
 rintro k hi;have hl:=mnsW_length w m k;refine G7 ?_;refine .condP J (fun hc0=>?_) (fun hc0=>?_)
 ·
  have hk4:k<4:=by omega
  refine G4 ?_;refine .draw (oPq [0,1,2,103,4,5,106,7,8,9,10,11,12,413,14]) Aq zK (G2 ?_);refine .i1 J J J J Y221.h Sz30 (3-k) oM oM (G2 ?_);refine .i1 J J J J Y221.h Sz30 (3-k) oM oM (G2 ?_);refine .ext J J J J (sub64_run _ _ _ (mnsW_borrow w m k)) (G3 ?_);refine .i1 J J J J Y221.h Sz30 (3-k) oM oM (.s1 J J J J J Sz30 Z2 (by(simp[mnsW_length,hw];omega)) (by exact Bj _ _ _) (by exact upd2) ?_);refine G10 ?_;exact⟨k+1,by omega,by omega,Ah (wk1 rfl (wk1 rfl (wk1 rfl (wk1 rfl (wk1 (by rw[show(3-((k+1:Nat):Int))=3-(k:Int)-1 by omega];rfl) wk0))))) (wh1 Z0 (wh1 Z1 (wh1 Z2 wh0))) nD⟩
 obtain rfl:k=4:=by omega
 refine G7 ?_;refine .lA J J J Y221.h J Sz221 Z2 (by(simp[mnsW_length,hw];done)) ?_;refine .sA J J J J zB Sz221 (by(simp[mnsW_length,hw];done)) Z0 sP zU ?_;refine G2 ?_;refine G2 ?_;refine⟨_,[],Aw J J Y221.h J Sz221 Z0 (by simp[mnsW_length,hw]),sP,sP,?_,rfl⟩;rfl
theorem mul64_ok(x y:UInt64):Mv 262 [u64 x,u64 y] (fun _=>True) (.tuple #[u64 (mulHi x y),u64 (x*y)]):=by
 intro W hW;refine Ad func262 J 51 ntmps262 J (G2 ?_);refine .a J J (show Ai _ _=some (u64 0)from rfl) (.a J J (show Ai _ _=some (u64 0)from rfl) (G5 ?_));refine .and_u64 J J J (show Ai _ _=some (u64 4294967295)from rfl) (G6 ?_);refine .shr_u64 J J J J 32 J dE (G6 ?_);refine .and_u64 J J J (show Ai _ _=some (u64 4294967295)from rfl) (G6 ?_);refine .shr_u64 J J J J 32 J dE (G17 ?_);refine .shr_u64 J J J J 32 J dE (G7 ?_);refine .and_u64 J J J (show Ai _ _=some (u64 4294967295)from rfl) (G6 ?_);refine .shr_u64 J J J J 32 J dE (G21 ?_);refine .shr_u64 J J J J 32 J dE (G12 ?_);refine G2 ?_;refine⟨_,[],Ca J J J,sP,sP,?_,rfl⟩;rfl
theorem scalar_load_n(a:List UInt8)(ha:a.length=32):Mv 196 [agg (Aa a)] (fun _=>True) (agg (Al (B3 (le a)))):=by
  rw[←ldW_eq ha];exact scalar_load a ha
theorem scalar_store_n(n:Nat):Mv 284 [agg (Al (B3 n))] (fun _=>True) (agg (Aa (leb 32 n))):=by
  rw[←stB_eq n];exact scalar_store (B3 n) rfl
theorem scalar_modulus_n:Mv 198 [] (fun _=>True) (agg (Al (B3 L))):=by
  rw[←modW_eq];exact scalar_modulus
theorem scalar_doubled_n(n:Nat)(b:UInt64)(hb:b.toNat≤1):Mv 282 [agg (Al (B3 n)),u64 b] (fun _=>True) (agg (Al (B3 (2*n+b.toNat)))):=by
  rw[←dblW_eq n b hb];exact scalar_doubled (B3 n) b rfl
theorem scalar_below_n(n m:Nat)(hn:n<2^256)(hm:m<2^256):Mv 197 [agg (Al (B3 n)),agg (Al (B3 m))] (fun _=>True) (.bool (decide (n<m))):=by
  have:=scalar_below (B3 n) (B3 m) rfl rfl;rw[wv_words4,wv_words4,Lai hn,Lai hm]at this;exact this
theorem scalar_minus_n(n m:Nat)(hn:n<2^256)(hm:m≤n):Mv 283 [agg (Al (B3 n)),agg (Al (B3 m))] (fun _=>True) (agg (Al (B3 (n-m)))):=by
  have:=scalar_minus (B3 n) (B3 m) rfl rfl;rw[mnsW_eq rfl rfl,wv_words4,wv_words4,Lai hn,Lai (Lfb hm hn)]at this;have e:B3 (n+2^256-m)=B3 (n-m):=by rw[←words4_mod,show(n+2^256-m)%2^256=(n-m)%2^256 by omega,words4_mod]
  rw[←e,←words4_mod n,Lai hn];exact this
theorem bit_le(x:UInt64)(n:Nat):(Ax x n&&&1).toNat=x.toNat/2^n%2:=by
  rw[Lfu,Bf];exact Lco _ 1
theorem words4_start(xs:List UInt64):B3 (wv (List.take 0 xs)%L)=List.replicate 4 0:=by
  rw[Le8];decide
theorem res_bd(m:Nat)(x:UInt64)(n:Nat)(h:m<L):2*m+(Ax x n&&&1).toNat<2^256:=by
  have hL:L<2^254:=by decide
  rw[bit_le];omega
theorem scalar_residue(b o c n:Nat)(xs:List UInt64)(hx:xs.length=n)(hn:n≤1000000):Mv 257 [.slice (some ⟨b,o,none⟩) n c] (fun W=>De W b o (Al xs)) (agg (Aa (leb 32 (wv xs%L)))):=by
 intro W hW;have hL:L<2^256:=by decide
 refine Ad func257 J 35 ntmps257 J (G2 ?_);refine .alloc (cs:=(Aa (List.replicate 32 0))) J A8 J ?_;intro n2 hn2 hf2;refine G4 ?_;refine .alloc (cs:=(Al (List.replicate 4 0))) J Zr221 J ?_;intro n3 hn3 hf3;refine G4 ?_;refine .cV J J J J Body198 (scalar_modulus_n) tV (.alloc (cs:=(Al (List.replicate 4 0))) J Zr221 J ?_);intro n4 hn4 hf4;refine .sA J J J J zB Sz221 (by(simp[C2];done)) Z0 sP zU ?_;refine G11 ?_;refine .loop (ι:=Nat) (fun k=>⟨[(2,ptr n2 0),(3,ptr n3 0),(4,ptr n4 0),(9, .slice (some ⟨b,o,none⟩) n c),(10,i64 (n:Int)),(11,i64 (k:Int))],[⟨n4,Al (B3 L),221,4⟩,⟨n3,Al (B3 (wv (xs.take k)%L)),221,4⟩,⟨n2,Aa (List.replicate 32 0),187,32⟩]⟩) (fun k=>k≤n) (fun k=>n-k) (0) ?_ ?_ ?_
 ·omega
 ·exact Ah wN (wh1 Z0 (wh1 (by rw[words4_start];exact mem1) (wh1 Z2 wh0))) nD
 rintro k hi;refine G6 ?_;refine .condP J (fun hc0=>?_) (fun hc0=>?_)
 ·
  refine G6 ?_;refine .idxSlO J J J J Y261.h Sz30 _ J oM (.loadE J J J Y30.h J sP (hW _ _ (get_words oM)) (G9 ?_));refine .loop (ι:=Nat) (fun t=>⟨[(2,ptr n2 0),(3,ptr n3 0),(4,ptr n4 0),(6,u64 (xs.getD k 0)),(7,i64 (63-(t:Int))),(9, .slice (some ⟨b,o,none⟩) n c),(10,i64 (n:Int)),(11,i64 (k:Int))],[⟨n4,Al (B3 L),221,4⟩,⟨n3,Al (B3 ((wv (xs.take k)*2^(t)+(xs.getD k 0).toNat/2^(64-(t)))%L)),221,4⟩,⟨n2,Aa (List.replicate 32 0),187,32⟩]⟩) (fun t=>t≤64) (fun t=>64-t) (0) ?_ ?_ ?_
  ·omega
  ·exact Ah wN (wh1 Z0 (wh1 (by rw[Lds,Lba,Lbk (Lfd _),Lca];exact mem1) (wh1 Z2 wh0))) nD
  rintro t hi;refine G7 ?_;refine .condP J (fun hc1=>?_) (fun hc1=>?_)
  ·
   have ht:t<64:=by omega
   have hmL:(wv (xs.take k)*2^t+(xs.getD k 0).toNat/2^(64-t))%L<L:=Lc3 _ dE;refine G2 ?_;refine .join (ι:=Unit) (fun _u=>⟨[(2,ptr n2 0),(3,ptr n3 0),(4,ptr n4 0),(6,u64 (xs.getD k 0)),(7,i64 (63-(t:Int))),(9, .slice (some ⟨b,o,none⟩) n c),(10,i64 (n:Int)),(11,i64 (k:Int))],[⟨n4,Al (B3 L),221,4⟩,⟨n3,Al (B3 ((wv (xs.take k)*2^(t+1)+(xs.getD k 0).toNat/2^(64-(t+1)))%L)),221,4⟩,⟨n2,Aa (List.replicate 32 0),187,32⟩]⟩) (fun _u=>True) ?_ ?_
   ·
    refine G2 ?_;refine .draw (oPq [100,1,2,3,4,305,406]) Aq zK (.lA J J J Y221.h J Sz221 Z1 (by(simp[C2];done)) ?_);refine G2 ?_;refine .shr_u64 J J J J (63-t) oM oM (.and_u64 J J J (show Ai _ _=some (u64 1)from rfl) (.cV J J J J Body282 (scalar_doubled_n _ _ (by rw[bit_le];omega)) tV ?_));refine .sA J J J J zB Sz221 (by(simp[C2];done)) Z1 (by(simp[C2];done)) zV ?_;refine G4 ?_;refine .lA J J J Y221.h J Sz221 Z1 (by(simp[C2];done)) ?_;refine .lA J J J Y221.h J Sz221 Z0 (by(simp[C2];done)) ?_;refine .cV J J J J Body197 (scalar_below_n _ _ (res_bd _ _ _ hmL) hL) tV (G3 ?_);refine .condNP J (fun hc2=>?_) (fun hc2=>?_)
    ·
     refine .region (.lA J J J Y221.h J Sz221 Z1 (by(simp[C2];done)) ?_);refine .lA J J J Y221.h J Sz221 Z0 (by(simp[C2];done)) ?_;refine .cV J J J J Body283 (scalar_minus_n _ _ (res_bd _ _ _ hmL) (Nat.le_of_not_lt hc2)) tV (.sA J J J J zB Sz221 (by(simp[C2];done)) Z1 (by(simp[C2];done)) zV ?_);refine G3 ?_;have hst:=res_step (wv (xs.take k)) (xs.getD k 0).toNat t (Lfd _) ht;simp only[]at hst;refine⟨(),trivial,Ah wN (wh1 Z0 (wh1 (by rw[show 64-(t+1)=63-t by omega,←hst,←bit_le];simp only[hc2,if_true,if_false];exact mem1) (wh1 Z2 wh0))) nD⟩
    refine G3 ?_;have hst:=res_step (wv (xs.take k)) (xs.getD k 0).toNat t (Lfd _) ht;simp only[]at hst;refine⟨(),trivial,Ah wN (wh1 Z0 (wh1 (by rw[show 64-(t+1)=63-t by omega,←hst,←bit_le];simp only[hc2,if_true,if_false];exact mem1) (wh1 Z2 wh0))) nD⟩
   intro _u hj;skip;refine G6 ?_;exact⟨t+1,by omega,by omega,Ah (wk1 rfl (wk1 rfl (wk1 rfl (wk1 rfl (wk1 (by rw[show(63-((t+1:Nat):Int))=63-(t:Int)-1 by omega];rfl) wN))))) (wh1 Z0 (wh1 Z1 (wh1 Z2 wh0))) nD⟩
  obtain rfl:t=64:=by omega
  refine G11 ?_;exact⟨k+1,by omega,by omega,Ah wN (wh1 Z0 (wh1 (by rw[wv_take_succ xs k oM,show(64-64:Nat)=0 from rfl,Lds,Lf2];exact mem1) (wh1 Z2 wh0))) nD⟩
 obtain rfl:k=n:=by omega
 refine G7 ?_;refine .lA J J J Y221.h J Sz221 Z1 (by(simp[C2];done)) ?_;refine .cV J J J J Body284 (scalar_store_n _) tV (.sA J J J J zB Sz187 (by(simp[Am];done)) Z2 sP (by exact upd2) ?_);refine G2 ?_;refine G2 ?_;refine⟨_,[],Aw J J Y187.h J Sz187 Z2 (by simp[Am]),sP,sP,?_,rfl⟩;rw[La5 oM]
open Ed
theorem field_put(q o n c m:Nat)(l:List UInt8)(x:UInt64)(BT:TypeId)(hn:8≤n)(hl:o+8≤l.length):Meets prog 251 [.slice (some ⟨q,o,none⟩) n c,u64 x] [q] (fun W=>BlkOk W ⟨q,Aa l,BT,m⟩) (fun v out=>out=[⟨q,Aa (set8 l o x),BT,m⟩]):=by
 intro W hW;refine calls_of (hp0:=[⟨q,Aa l,BT,m⟩]) func251 J 46 ntmps251 J (HRep.one hW) (G3 ?_);refine .idxSlO J J J J Y33.h Sz5 7 J oM (.load1 J J J Y5.h J Z0 (get_bytes oM) ?_);refine G11 ?_;refine .shr_u64 J J J J 8 J dE (G2 ?_);refine .shr_u64 J J J J 16 J dE (G2 ?_);refine .shr_u64 J J J J 24 J dE (G1 ?_);refine .idxSlO J J J J Y33.h Sz5 0 J oM (.s1 J J J J J Sz5 Z0 (by simp;omega) (Bl _ _ _) zU ?_);refine .idxSlO J J J J Y33.h Sz5 1 J oM (.s1 J J J J J Sz5 Z0 (by simp;omega) (Bl _ _ _) zU ?_);refine .idxSlO J J J J Y33.h Sz5 2 J oM (.s1 J J J J J Sz5 Z0 (by simp;omega) (Bl _ _ _) zU ?_);refine .idxSlO J J J J Y33.h Sz5 3 J oM (.s1 J J J J J Sz5 Z0 (by simp;omega) (Bl _ _ _) zU ?_);refine G8 ?_;refine .shr_u64 J J J J 32 J dE (G2 ?_);refine .shr_u64 J J J J 40 J dE (G2 ?_);refine .shr_u64 J J J J 48 J dE (G2 ?_);refine .shr_u64 J J J J 56 J dE (G1 ?_);refine .idxSlO J J J J Y33.h Sz5 4 J oM (.s1 J J J J J Sz5 Z0 (by simp;omega) (Bl _ _ _) zU ?_);refine .idxSlO J J J J Y33.h Sz5 5 J oM (.s1 J J J J J Sz5 Z0 (by simp;omega) (Bl _ _ _) zU ?_);refine .idxSlO J J J J Y33.h Sz5 6 J oM (.s1 J J J J J Sz5 Z0 (by simp;omega) (Bl _ _ _) zU ?_);refine .idxSlO J J J J Y33.h Sz5 7 J oM (.s1 J J J J J Sz5 Z0 (by simp;omega) (Bl _ _ _) zU ?_);refine G2 ?_;exact⟨_,_,res_none rfl,(fun b hb=>by rw[La1.1 hb];exact Cb),nodup1,rfl⟩
theorem field_quarters(a:List UInt8)(ha:a.length=32):Mv 277 [agg (Aa a)] (fun _=>True) (agg (Al [qw a 0,qw a 1,qw a 2,qw a 3])):=by
 intro W hW;refine Ad func277 J 65 ntmps277 J (G3 ?_);intro n1 hn1 hf1;refine .alloc (cs:=(Al (List.replicate 4 0))) J Zr220 J ?_;intro n2 hn2 hf2;refine G4 ?_;refine .alloc (cs:=(Al (List.replicate 4 0))) J Zr220 J ?_;intro n3 hn3 hf3;refine G9 ?_;refine .loop (ι:=Nat) (fun k=>⟨[(1,ptr n1 0),(2,ptr n2 0),(3,ptr n3 0),(6,i64 (k:Int))],[⟨n3,Al (qtA a k),220,4⟩,⟨n2,Al (List.replicate 4 0),220,4⟩,⟨n1,Aa a,187,(Aa a).length⟩]⟩) (fun k=>k≤4) (fun k=>4-k) (0) ?_ ?_ ?_
 ·omega
 ·exact Ah wN (wh1 Z0 (wh1 Z1 (wh1 Z2 wh0))) nD
 rintro k hi;have hlk:=qtA_length a k;refine G6 ?_;refine .condP J (fun hc0=>?_) (fun hc0=>?_)
 ·
  refine G13 ?_;refine .mul_i64 J J J J oM (G1 ?_);refine .mul_i64 J J J J oM (G1 ?_);refine .sliceArrLH (8*k) (8*k+8) J J J J J oM oM oM oM oM Y187.h Sz5 (G3 ?_);refine .draw (oPq [0,1,2,103,4,5,6,107,8,9,10,11,12,113,14,15,16,17,18,119,20,21,22,23,24,125,26,27,28,29,30,131,32,33,34,35,36,137,38,39,40,41,42,143,44,45,46,47,448]) Aq zK (G2 ?_);refine .idxSlO J J J J Y33.h Sz5 0 J oM (G3 ?_);refine .idxSlO J J J J Y33.h Sz5 1 J oM (G2 ?_);refine .shl_u64 J J J J 8 J dE (G2 ?_);refine .idxSlO J J J J Y33.h Sz5 2 J oM (G2 ?_);refine .shl_u64 J J J J 16 J dE (G2 ?_);refine .idxSlO J J J J Y33.h Sz5 3 J oM (G2 ?_);refine .shl_u64 J J J J 24 J dE (G2 ?_);refine .idxSlO J J J J Y33.h Sz5 4 J oM (G2 ?_);refine .shl_u64 J J J J 32 J dE (G2 ?_);refine .idxSlO J J J J Y33.h Sz5 5 J oM (G2 ?_);refine .shl_u64 J J J J 40 J dE (G2 ?_);refine .idxSlO J J J J Y33.h Sz5 6 J oM (G2 ?_);refine .shl_u64 J J J J 48 J dE (G2 ?_);refine .idxSlO J J J J Y33.h Sz5 7 J oM (G2 ?_);refine .shl_u64 J J J J 56 J dE (G1 ?_);refine .i1 J J J J Y220 Sz30 _ J oM (.s1 J J J J J Sz30 Z0 (by(simp[qtA_length];omega)) (by exact Bj _ _ _) zU ?_);refine G8 ?_;exact⟨k+1,by omega,by omega,Ah wN (wh1 Z0 (wh1 Z1 (wh1 Z2 wh0))) nD⟩
 obtain rfl:k=4:=by omega
 refine G7 ?_;refine .lA J J J Y220 J Sz220 Z0 (by(simp[qtA_length];done)) ?_;refine .sA J J J J zB Sz220 (by(simp[qtA_length];done)) Z1 sP zV ?_;refine G2 ?_;refine G2 ?_;refine⟨_,[],Aw J J Y220 J Sz220 Z1 (by simp[qtA_length]),sP,sP,?_,rfl⟩;rfl
theorem field_load(a:List UInt8)(ha:a.length=32):Mv 248 [agg (Aa a)] (fun _=>True) (agg (Al (ldN a).l)):=by
 intro W hW;refine Ad func248 J 37 ntmps248 J (G3 ?_);intro n1 hn1 hf1;refine .alloc (cs:=(Al (List.replicate 5 0))) J Zr263 J ?_;intro n2 hn2 hf2;refine G4 ?_;refine .lA J J J Y187.h J Sz187 Z1 (by(simp[ha];done)) ?_;refine .cV J J J J Body277 (field_quarters a ha) tV (.alloc (cs:=(Al (List.replicate 4 0))) J Zr220 J ?_);intro n3 hn3 hf3;refine .sA J J J J zB Sz220 sP Z0 sP zU ?_;refine G4 ?_;refine .i1 J J J J Y220 Sz30 0 J dE (G1 ?_);refine .and_u64 J J J (show Ai _ _=some (u64 2251799813685247)from rfl) (.i1 J J J J Y220 Sz30 0 J dE (G1 ?_));refine .shr_u64 J J J J 51 J dE (.i1 J J J J Y220 Sz30 1 J dE (G1 ?_));refine .shl_u64 J J J J 13 J dE (G1 ?_);refine .and_u64 J J J (show Ai _ _=some (u64 2251799813685247)from rfl) (.i1 J J J J Y220 Sz30 1 J dE (G1 ?_));refine .shr_u64 J J J J 38 J dE (.i1 J J J J Y220 Sz30 2 J dE (G1 ?_));refine .shl_u64 J J J J 26 J dE (G1 ?_);refine .and_u64 J J J (show Ai _ _=some (u64 2251799813685247)from rfl) (.i1 J J J J Y220 Sz30 2 J dE (G1 ?_));refine .shr_u64 J J J J 25 J dE (.i1 J J J J Y220 Sz30 3 J dE (G1 ?_));refine .shl_u64 J J J J 39 J dE (G1 ?_);refine .and_u64 J J J (show Ai _ _=some (u64 2251799813685247)from rfl) (.i1 J J J J Y220 Sz30 3 J dE (G1 ?_));refine .shr_u64 J J J J 12 J dE (.build (cs:=Al (ldN a).l) J J J (fun w=>by kernel_rfl) ?_);refine .sA J J J J zB Sz263 zW Z1 sP zV ?_;refine G2 ?_;refine G2 ?_;refine⟨_,[],Aw J J Y263.h J Sz263 Z1 (by simp[W5.l_length]),sP,sP,?_,rfl⟩;rfl
theorem field_carried(w:W5):Mv 280 [agg (Al w.l)] (fun _=>True) (agg (Al (carF w).l)):=by
 intro W hW;refine Ad func280 J 40 ntmps280 J (G3 ?_);intro n1 hn1 hf1;refine .alloc (cs:=(Al (List.replicate 5 0))) J Zr263 J ?_;intro n2 hn2 hf2;refine G4 ?_;refine .i1 J J J J Y263.h Sz30 0 J dE (G1 ?_);refine .and_u64 J J J (show Ai _ _=some (u64 2251799813685247)from rfl) (.i1 J J J J Y263.h Sz30 4 J dE (G1 ?_));refine .shr_u64 J J J J 51 J dE (.mul_u64 J J (show Ai _ _=some (u64 19)from rfl) J (G1 ?_));refine .i1 J J J J Y263.h Sz30 1 J dE (G1 ?_);refine .and_u64 J J J (show Ai _ _=some (u64 2251799813685247)from rfl) (.i1 J J J J Y263.h Sz30 0 J dE (G1 ?_));refine .shr_u64 J J J J 51 J dE (G1 ?_);refine .i1 J J J J Y263.h Sz30 2 J dE (G1 ?_);refine .and_u64 J J J (show Ai _ _=some (u64 2251799813685247)from rfl) (.i1 J J J J Y263.h Sz30 1 J dE (G1 ?_));refine .shr_u64 J J J J 51 J dE (G1 ?_);refine .i1 J J J J Y263.h Sz30 3 J dE (G1 ?_);refine .and_u64 J J J (show Ai _ _=some (u64 2251799813685247)from rfl) (.i1 J J J J Y263.h Sz30 2 J dE (G1 ?_));refine .shr_u64 J J J J 51 J dE (G1 ?_);refine .i1 J J J J Y263.h Sz30 4 J dE (G1 ?_);refine .and_u64 J J J (show Ai _ _=some (u64 2251799813685247)from rfl) (.i1 J J J J Y263.h Sz30 3 J dE (G1 ?_));refine .shr_u64 J J J J 51 J dE (G1 ?_);refine .build (cs:=Al (carF w).l) J J J (fun w=>by kernel_rfl) ?_;refine .sA J J J J zB Sz263 zW Z0 sP zU ?_;refine G2 ?_;refine G2 ?_;refine⟨_,[],Aw J J Y263.h J Sz263 Z0 (by simp[W5.l_length]),sP,sP,?_,rfl⟩;rfl
theorem B4(s:UInt64×UInt64)(a b:UInt64):Mv 278 [agg [u64 s.1,u64 s.2],u64 a,u64 b] (fun _=>True) (agg [u64 (plF s a b).1,u64 (plF s a b).2]):=by
 intro W hW;refine Ad func278 J 34 ntmps278 J (G3 ?_);intro n3 hn3 hf3;refine .alloc (cs:=([u64 0]++[u64 0])) J Zr284 J ?_;intro n6 hn6 hf6;refine G6 ?_;refine .cV J J J J Body262 (mul64_ok _ _) tV (G12 ?_);refine .ext J J J J (add64_run _ _ 0 dE) (G13 ?_);refine .ext J J J J (add64_run _ _ _ (by rw[Bt];have:=s.2.toNat_lt;have:=(a*b).toNat_lt;simp only[show(0:UInt64).toNat=0 from rfl];omega)) ?_;refine G10 ?_;refine .build (cs:=[u64 (plF s a b).1,u64 (plF s a b).2]) J J J (fun w=>by kernel_rfl) ?_;refine .sA J J J J zB Sz284 sP Z0 sP zU ?_;refine G2 ?_;refine G2 ?_;refine⟨_,[],Aw J J Y284.h J Sz284 Z0 sP,sP,sP,?_,rfl⟩;rfl
theorem wide_upper(s:UInt64×UInt64):Mv 279 [agg [u64 s.1,u64 s.2]] (fun _=>True) (u64 (upF s)):=by
 intro W hW;refine Ad func279 J 10 ntmps279 J (G3 ?_);intro n1 hn1 hf1;refine .a J J (show Ai _ _=some (u64 0)from rfl) (G6 ?_);refine .shl_u64 J J J J 13 J dE (G2 ?_);refine .shr_u64 J J J J 51 J dE (G4 ?_);refine G2 ?_;refine⟨_,[],Af J J,sP,sP,?_,rfl⟩;rfl
theorem field_product(na nb:Nat)(a b:W5):Mv 249 [ptr na 0,ptr nb 0] (fun W=>De W na 0 (Al a.l)∧De W nb 0 (Al b.l)) (agg (Al (mulF a b).l)):=by
 intro W hW;refine Ad func249 J 267 ntmps249 J (G2 ?_);refine .alloc (cs:=(Al (List.replicate 5 0))) J Zr263 J ?_;intro n4 hn4 hf4;refine G3 ?_;refine .draw (oPq [0,1,2,103,4,5,6,7,108,9,10,11,12,113,14,15,16,17,118,19,20,21,22,23]) Aq zK (G2 ?_);refine .i1 J J J J Y263.h Sz30 1 J dE (.loadE J J J Y30.h J sP (hW.1 1 _ J) (.mul_u64 J J (show Ai _ _=some (u64 19)from rfl) J (G2 ?_)));refine .i1 J J J J Y263.h Sz30 2 J dE (.loadE J J J Y30.h J sP (hW.1 2 _ J) (.mul_u64 J J (show Ai _ _=some (u64 19)from rfl) J (G2 ?_)));refine .i1 J J J J Y263.h Sz30 3 J dE (.loadE J J J Y30.h J sP (hW.1 3 _ J) (.mul_u64 J J (show Ai _ _=some (u64 19)from rfl) J (G2 ?_)));refine .i1 J J J J Y263.h Sz30 4 J dE (.loadE J J J Y30.h J sP (hW.1 4 _ J) (.mul_u64 J J (show Ai _ _=some (u64 19)from rfl) J (G7 ?_)));refine .draw (oPq [0,1,2,3,104,5,6,7,108,10,11,12,13,114,16,17,18,19,120,22,23,24,25,126,28,29,30,31,132,309,315,321,327,333,234,435]) Aq zK (.build (cs:=[u64 0,u64 0]) J J J (fun w=>by kernel_rfl) ?_);refine G2 ?_;refine .i1 J J J J Y263.h Sz30 0 J dE (.loadE J J J Y30.h J sP (hW.1 0 _ J) (G2 ?_));refine .i1 J J J J Y263.h Sz30 0 J dE (.loadE J J J Y30.h J sP (hW.2 0 _ J) (G3 ?_));refine .i1 J J J J Y263.h Sz30 4 J dE (.loadE J J J Y30.h J sP (hW.2 4 _ J) (G3 ?_));refine .i1 J J J J Y263.h Sz30 3 J dE (.loadE J J J Y30.h J sP (hW.2 3 _ J) (G3 ?_));refine .i1 J J J J Y263.h Sz30 2 J dE (.loadE J J J Y30.h J sP (hW.2 2 _ J) (G3 ?_));refine .i1 J J J J Y263.h Sz30 1 J dE (.loadE J J J Y30.h J sP (hW.2 1 _ J) (.cV J J J J C8 (B4 (0,0) a.a b.a) tV (.cV J J J J C8 (B4 (plF (0,0) a.a b.a) (19*a.b) b.e) tV (.cV J J J J C8 (B4 (plF (plF (0,0) a.a b.a) (19*a.b) b.e) (19*a.c) b.d) tV (.cV J J J J C8 (B4 (plF (plF (plF (0,0) a.a b.a) (19*a.b) b.e) (19*a.c) b.d) (19*a.d) b.c) tV (.cV J J J J C8 (B4 (plF (plF (plF (plF (0,0) a.a b.a) (19*a.b) b.e) (19*a.c) b.d) (19*a.d) b.c) (19*a.e) b.b) tV (.alloc (cs:=([u64 0]++[u64 0])) J Zr284 J ?_)))))));intro n9 hn9 hf9;refine .sA J J J J zB Sz284 sP Z0 sP zU ?_;refine G3 ?_;refine .draw (oPq [0,1,2,3,104,5,6,7,108,10,11,12,113,14,15,16,117,19,20,21,22,123,25,26,27,28,129,31,32,33,34,135,309,318,324,330,336,237,438]) Aq zK (.build (cs:=[u64 0,u64 0]) J J J (fun w=>by kernel_rfl) ?_);refine G2 ?_;refine .i1 J J J J Y263.h Sz30 0 J dE (.loadE J J J Y30.h J sP (hW.1 0 _ J) (G2 ?_));refine .i1 J J J J Y263.h Sz30 1 J dE (.loadE J J J Y30.h J sP (hW.2 1 _ J) (G2 ?_));refine .i1 J J J J Y263.h Sz30 1 J dE (.loadE J J J Y30.h J sP (hW.1 1 _ J) (G2 ?_));refine .i1 J J J J Y263.h Sz30 0 J dE (.loadE J J J Y30.h J sP (hW.2 0 _ J) (G3 ?_));refine .i1 J J J J Y263.h Sz30 4 J dE (.loadE J J J Y30.h J sP (hW.2 4 _ J) (G3 ?_));refine .i1 J J J J Y263.h Sz30 3 J dE (.loadE J J J Y30.h J sP (hW.2 3 _ J) (G3 ?_))
 refine .i1 J J J J Y263.h Sz30 2 J dE (.loadE J J J Y30.h J sP (hW.2 2 _ J) (.cV J J J J C8 (B4 (0,0) a.a b.b) tV (.cV J J J J C8 (B4 (plF (0,0) a.a b.b) a.b b.a) tV (.cV J J J J C8 (B4 (plF (plF (0,0) a.a b.b) a.b b.a) (19*a.c) b.e) tV (.cV J J J J C8 (B4 (plF (plF (plF (0,0) a.a b.b) a.b b.a) (19*a.c) b.e) (19*a.d) b.d) tV (.cV J J J J C8 (B4 (plF (plF (plF (plF (0,0) a.a b.b) a.b b.a) (19*a.c) b.e) (19*a.d) b.d) (19*a.e) b.c) tV (.alloc (cs:=([u64 0]++[u64 0])) J Zr284 J ?_)))))));intro n10 hn10 hf10;refine .sA J J J J zB Sz284 sP Z0 sP zU ?_;refine G3 ?_;refine .draw (oPq [0,1,2,3,104,5,6,7,108,10,11,12,113,14,15,16,117,19,20,21,122,23,24,25,126,28,29,30,31,132,34,35,36,37,138,309,318,327,333,339,240,441]) Aq zK (.build (cs:=[u64 0,u64 0]) J J J (fun w=>by kernel_rfl) ?_);refine G2 ?_;refine .i1 J J J J Y263.h Sz30 0 J dE (.loadE J J J Y30.h J sP (hW.1 0 _ J) (G2 ?_));refine .i1 J J J J Y263.h Sz30 2 J dE (.loadE J J J Y30.h J sP (hW.2 2 _ J) (G2 ?_));refine .i1 J J J J Y263.h Sz30 1 J dE (.loadE J J J Y30.h J sP (hW.1 1 _ J) (G2 ?_));refine .i1 J J J J Y263.h Sz30 1 J dE (.loadE J J J Y30.h J sP (hW.2 1 _ J) (G2 ?_));refine .i1 J J J J Y263.h Sz30 2 J dE (.loadE J J J Y30.h J sP (hW.1 2 _ J) (G2 ?_));refine .i1 J J J J Y263.h Sz30 0 J dE (.loadE J J J Y30.h J sP (hW.2 0 _ J) (G3 ?_));refine .i1 J J J J Y263.h Sz30 4 J dE (.loadE J J J Y30.h J sP (hW.2 4 _ J) (G3 ?_));refine .i1 J J J J Y263.h Sz30 3 J dE (.loadE J J J Y30.h J sP (hW.2 3 _ J) (.cV J J J J C8 (B4 (0,0) a.a b.c) tV (.cV J J J J C8 (B4 (plF (0,0) a.a b.c) a.b b.b) tV (.cV J J J J C8 (B4 (plF (plF (0,0) a.a b.c) a.b b.b) a.c b.a) tV (.cV J J J J C8 (B4 (plF (plF (plF (0,0) a.a b.c) a.b b.b) a.c b.a) (19*a.d) b.e) tV (.cV J J J J C8 (B4 (plF (plF (plF (plF (0,0) a.a b.c) a.b b.b) a.c b.a) (19*a.d) b.e) (19*a.e) b.d) tV (.alloc (cs:=([u64 0]++[u64 0])) J Zr284 J ?_)))))));intro n11 hn11 hf11;refine .sA J J J J zB Sz284 sP Z0 sP zU ?_;refine G3 ?_;refine .draw (oPq [0,1,2,3,104,5,6,7,108,10,11,12,113,14,15,16,117,19,20,21,122,23,24,25,126,28,29,30,131,32,33,34,135,37,38,39,40,141,309,318,327,336,342,243,444]) Aq zK (.build (cs:=[u64 0,u64 0]) J J J (fun w=>by kernel_rfl) ?_);refine G2 ?_;refine .i1 J J J J Y263.h Sz30 0 J dE (.loadE J J J Y30.h J sP (hW.1 0 _ J) (G2 ?_));refine .i1 J J J J Y263.h Sz30 3 J dE (.loadE J J J Y30.h J sP (hW.2 3 _ J) (G2 ?_));refine .i1 J J J J Y263.h Sz30 1 J dE (.loadE J J J Y30.h J sP (hW.1 1 _ J) (G2 ?_));refine .i1 J J J J Y263.h Sz30 2 J dE (.loadE J J J Y30.h J sP (hW.2 2 _ J) (G2 ?_));refine .i1 J J J J Y263.h Sz30 2 J dE (.loadE J J J Y30.h J sP (hW.1 2 _ J) (G2 ?_));refine .i1 J J J J Y263.h Sz30 1 J dE (.loadE J J J Y30.h J sP (hW.2 1 _ J) (G2 ?_));refine .i1 J J J J Y263.h Sz30 3 J dE (.loadE J J J Y30.h J sP (hW.1 3 _ J) (G2 ?_));refine .i1 J J J J Y263.h Sz30 0 J dE (.loadE J J J Y30.h J sP (hW.2 0 _ J) (G3 ?_))
 refine .i1 J J J J Y263.h Sz30 4 J dE (.loadE J J J Y30.h J sP (hW.2 4 _ J) (.cV J J J J C8 (B4 (0,0) a.a b.d) tV (.cV J J J J C8 (B4 (plF (0,0) a.a b.d) a.b b.c) tV (.cV J J J J C8 (B4 (plF (plF (0,0) a.a b.d) a.b b.c) a.c b.b) tV (.cV J J J J C8 (B4 (plF (plF (plF (0,0) a.a b.d) a.b b.c) a.c b.b) a.d b.a) tV (.cV J J J J C8 (B4 (plF (plF (plF (plF (0,0) a.a b.d) a.b b.c) a.c b.b) a.d b.a) (19*a.e) b.e) tV (.alloc (cs:=([u64 0]++[u64 0])) J Zr284 J ?_)))))));intro n12 hn12 hf12;refine .sA J J J J zB Sz284 sP Z0 sP zU ?_;refine G3 ?_;refine .draw (oPq [0,1,2,3,104,5,6,7,108,10,11,12,113,14,15,16,117,19,20,21,122,23,24,25,126,28,29,30,131,32,33,34,135,37,38,39,140,41,42,43,144,309,318,327,336,345,246,447]) Aq zK (.build (cs:=[u64 0,u64 0]) J J J (fun w=>by kernel_rfl) ?_);refine G2 ?_;refine .i1 J J J J Y263.h Sz30 0 J dE (.loadE J J J Y30.h J sP (hW.1 0 _ J) (G2 ?_));refine .i1 J J J J Y263.h Sz30 4 J dE (.loadE J J J Y30.h J sP (hW.2 4 _ J) (G2 ?_));refine .i1 J J J J Y263.h Sz30 1 J dE (.loadE J J J Y30.h J sP (hW.1 1 _ J) (G2 ?_));refine .i1 J J J J Y263.h Sz30 3 J dE (.loadE J J J Y30.h J sP (hW.2 3 _ J) (G2 ?_));refine .i1 J J J J Y263.h Sz30 2 J dE (.loadE J J J Y30.h J sP (hW.1 2 _ J) (G2 ?_));refine .i1 J J J J Y263.h Sz30 2 J dE (.loadE J J J Y30.h J sP (hW.2 2 _ J) (G2 ?_));refine .i1 J J J J Y263.h Sz30 3 J dE (.loadE J J J Y30.h J sP (hW.1 3 _ J) (G2 ?_));refine .i1 J J J J Y263.h Sz30 1 J dE (.loadE J J J Y30.h J sP (hW.2 1 _ J) (G2 ?_));refine .i1 J J J J Y263.h Sz30 4 J dE (.loadE J J J Y30.h J sP (hW.1 4 _ J) (G2 ?_));refine .i1 J J J J Y263.h Sz30 0 J dE (.loadE J J J Y30.h J sP (hW.2 0 _ J) (.cV J J J J C8 (B4 (0,0) a.a b.e) tV (.cV J J J J C8 (B4 (plF (0,0) a.a b.e) a.b b.d) tV (.cV J J J J C8 (B4 (plF (plF (0,0) a.a b.e) a.b b.d) a.c b.c) tV (.cV J J J J C8 (B4 (plF (plF (plF (0,0) a.a b.e) a.b b.d) a.c b.c) a.d b.b) tV (.cV J J J J C8 (B4 (plF (plF (plF (plF (0,0) a.a b.e) a.b b.d) a.c b.c) a.d b.b) a.e b.a) tV (.alloc (cs:=([u64 0]++[u64 0])) J Zr284 J ?_)))))));intro n13 hn13 hf13;refine .sA J J J J zB Sz284 sP Z0 sP zU ?_;refine G3 ?_;refine .draw (oPq [0,101,2,103,7,108,9,110,13,114,15,116,19,120,21,122,25,126,27,128,304,5,6,311,12,317,18,323,24,329,30,31,332,433]) Aq zK (G2 ?_);refine .and_u64 J J J (show Ai _ _=some (u64 2251799813685247)from rfl) (.lA J J J Y284.h J Sz284 Z0 sP ?_);refine G2 ?_;refine .and_u64 J J J (show Ai _ _=some (u64 2251799813685247)from rfl) (.lA J J J Y284.h J Sz284 Z4 sP ?_);refine G2 ?_;refine .and_u64 J J J (show Ai _ _=some (u64 2251799813685247)from rfl) (.lA J J J Y284.h J Sz284 Z3 sP ?_);refine G2 ?_;refine .and_u64 J J J (show Ai _ _=some (u64 2251799813685247)from rfl) (.lA J J J Y284.h J Sz284 Z2 sP ?_);refine G2 ?_;refine .and_u64 J J J (show Ai _ _=some (u64 2251799813685247)from rfl) (.lA J J J Y284.h J Sz284 Z1 sP ?_);refine .cV J J J J Body279 (wide_upper (s4F a b)) tV (.mul_u64 J J (show Ai _ _=some (u64 19)from rfl) J (G1 ?_))
 refine .cV J J J J Body279 (wide_upper (s0F a b)) tV (G1 ?_);refine .cV J J J J Body279 (wide_upper (s1F a b)) tV (G1 ?_);refine .cV J J J J Body279 (wide_upper (s2F a b)) tV (G1 ?_);refine .cV J J J J Body279 (wide_upper (s3F a b)) tV (G1 ?_);refine .build (cs:=Al (⟨((s0F a b).2&&&LOW)+19*upF (s4F a b),((s1F a b).2&&&LOW)+upF (s0F a b),((s2F a b).2&&&LOW)+upF (s1F a b),((s3F a b).2&&&LOW)+upF (s2F a b),((s4F a b).2&&&LOW)+upF (s3F a b)⟩:W5).l) J J J (fun w=>by kernel_rfl) ?_;refine .cV J J J J Body280 (field_carried ⟨((s0F a b).2&&&LOW)+19*upF (s4F a b),((s1F a b).2&&&LOW)+upF (s0F a b),((s2F a b).2&&&LOW)+upF (s1F a b),((s3F a b).2&&&LOW)+upF (s2F a b),((s4F a b).2&&&LOW)+upF (s3F a b)⟩) tV (.sA J J J J zB Sz263 zW (by exact mem5) sP (by exact upd5) ?_);refine G2 ?_;refine G2 ?_;refine⟨_,[],Aw J J Y263.h J Sz263 (by exact mem5) (by simp[W5.l_length]),sP,sP,?_,rfl⟩;rfl
theorem field_store(w:W5):Mv 250 [agg (Al w.l)] (fun _=>True) (agg (Aa (fb (fe w.v)))):=by
 intro W hW;refine Ad func250 J 88 ntmps250 J (G3 ?_);intro n1 hn1 hf1;refine .alloc (cs:=(Aa (List.replicate 32 0))) J A8 J ?_;intro n2 hn2 hf2;refine G5 ?_;refine .cV J J J J Body280 (field_carried w) tV (G5 ?_);refine .i1 J J J J Y263.h Sz30 0 J dE (G1 ?_);refine .add_u64 J J J (show Ai _ _=some (u64 19)from rfl) (.shr_u64 J J J J 51 J dE (G10 ?_));refine .rounds 5 (SRounds.more (G7 ?_));refine .cond_t J (rfl) (G6 ?_);refine .i1 J J J J Y263.h Sz30 1 J oM (G3 ?_);refine .shr_u64 J J J J 51 J dE (G9 ?_);refine A7 (SRounds.more (G7 ?_));refine .cond_t J (rfl) (G6 ?_);refine .i1 J J J J Y263.h Sz30 2 J oM (G3 ?_);refine .shr_u64 J J J J 51 J dE (G9 ?_);refine A7 (SRounds.more (G7 ?_));refine .cond_t J (rfl) (G6 ?_);refine .i1 J J J J Y263.h Sz30 3 J oM (G3 ?_);refine .shr_u64 J J J J 51 J dE (G9 ?_);refine A7 (SRounds.more (G7 ?_));refine .cond_t J (rfl) (G6 ?_);refine .i1 J J J J Y263.h Sz30 4 J oM (G3 ?_);refine .shr_u64 J J J J 51 J dE (G9 ?_);refine A7 (SRounds.more (G7 ?_));refine .cond_f J (rfl) (G7 ?_);refine .i1 J J J J Y263.h Sz30 0 J dE (G2 ?_);refine .mul_u64 J J (show Ai _ _=some (u64 19)from rfl) J (G1 ?_);refine .i1 J J J J Y263.h Sz30 0 J dE (.s1 J J J J J Sz30 Z1 zW (by exact Bj _ _ _) zV ?_);refine G9 ?_;refine .rounds 5 (SRounds.more (G6 ?_));refine .cond_t J (rfl) (G11 ?_);refine .draw (oPq [0,1,2,103,4,5,106,7,8,9,410]) Aq zK (G2 ?_);refine .i1 J J J J Y263.h Sz30 1 J oM (G2 ?_);refine .i1 J J J J Y263.h Sz30 0 J oM (G1 ?_);refine .shr_u64 J J J J 51 J dE (G1 ?_);refine .i1 J J J J Y263.h Sz30 1 J oM (.s1 J J J J J Sz30 Z1 zW (by exact Bj _ _ _) zV ?_);refine G4 ?_;refine .i1 J J J J Y263.h Sz30 0 J oM (G1 ?_);refine .and_u64 J J J (show Ai _ _=some (u64 2251799813685247)from rfl) (.i1 J J J J Y263.h Sz30 0 J oM (.s1 J J J J J Sz30 Z1 zW (by exact Bj _ _ _) zV ?_));refine G7 ?_;refine A7 (SRounds.more (G6 ?_));refine .cond_t J (rfl) (G11 ?_);refine .draw (oPq [0,1,2,103,4,5,106,7,8,9,410]) Aq zK (G2 ?_);refine .i1 J J J J Y263.h Sz30 2 J oM (G2 ?_);refine .i1 J J J J Y263.h Sz30 1 J oM (G1 ?_);refine .shr_u64 J J J J 51 J dE (G1 ?_);refine .i1 J J J J Y263.h Sz30 2 J oM (.s1 J J J J J Sz30 Z1 zW (by exact Bj _ _ _) zV ?_);refine G4 ?_;refine .i1 J J J J Y263.h Sz30 1 J oM (G1 ?_);refine .and_u64 J J J (show Ai _ _=some (u64 2251799813685247)from rfl) (.i1 J J J J Y263.h Sz30 1 J oM (.s1 J J J J J Sz30 Z1 zW (by exact Bj _ _ _) zV ?_));refine G7 ?_;refine A7 (SRounds.more (G6 ?_));refine .cond_t J (rfl) (G11 ?_);refine .draw (oPq [0,1,2,103,4,5,106,7,8,9,410]) Aq zK (G2 ?_);refine .i1 J J J J Y263.h Sz30 3 J oM (G2 ?_);refine .i1 J J J J Y263.h Sz30 2 J oM (G1 ?_);refine .shr_u64 J J J J 51 J dE (G1 ?_);refine .i1 J J J J Y263.h Sz30 3 J oM (.s1 J J J J J Sz30 Z1 zW (by exact Bj _ _ _) zV ?_);refine G4 ?_;refine .i1 J J J J Y263.h Sz30 2 J oM (G1 ?_)
 refine .and_u64 J J J (show Ai _ _=some (u64 2251799813685247)from rfl) (.i1 J J J J Y263.h Sz30 2 J oM (.s1 J J J J J Sz30 Z1 zW (by exact Bj _ _ _) zV ?_));refine G7 ?_;refine A7 (SRounds.more (G6 ?_));refine .cond_t J (rfl) (G11 ?_);refine .draw (oPq [0,1,2,103,4,5,106,7,8,9,410]) Aq zK (G2 ?_);refine .i1 J J J J Y263.h Sz30 4 J oM (G2 ?_);refine .i1 J J J J Y263.h Sz30 3 J oM (G1 ?_);refine .shr_u64 J J J J 51 J dE (G1 ?_);refine .i1 J J J J Y263.h Sz30 4 J oM (.s1 J J J J J Sz30 Z1 zW (by exact Bj _ _ _) zV ?_);refine G4 ?_;refine .i1 J J J J Y263.h Sz30 3 J oM (G1 ?_);refine .and_u64 J J J (show Ai _ _=some (u64 2251799813685247)from rfl) (.i1 J J J J Y263.h Sz30 3 J oM (.s1 J J J J J Sz30 Z1 zW (by exact Bj _ _ _) zV ?_));refine G7 ?_;refine A7 (SRounds.more (G6 ?_));refine .cond_f J (rfl) (G7 ?_);refine .i1 J J J J Y263.h Sz30 4 J dE (G1 ?_);refine .and_u64 J J J (show Ai _ _=some (u64 2251799813685247)from rfl) (.i1 J J J J Y263.h Sz30 4 J dE (.s1 J J J J J Sz30 Z1 zW (by exact Bj _ _ _) zV ?_));refine G4 ?_;refine .alloc (cs:=(Aa (List.replicate 32 0))) J A8 J ?_;intro n6 hn6 hf6;refine G3 ?_;refine .draw (oPq [0,1,102,3,104,5,6,407]) Aq zK (.sliceArrLH 0 8 J J J J J J J dE dE dE Y187.h Sz5 (.i1 J J J J Y263.h Sz30 0 J dE (G1 ?_)));refine .i1 J J J J Y263.h Sz30 1 J dE (G1 ?_);refine .shl_u64 J J J J 51 J dE (G1 ?_);refine .callL (L:=[⟨n6,Aa (List.replicate 32 0),187,32⟩]) J J J J J Body251 (field_put n6 0 8 32 32 (List.replicate 32 0) ((stF w).a|||A6 (stF w).b 51) _ dE sP) (Ab rM Ae) (C5 J) (fun w h=>B5 h Z0) ?_;rintro v59 out59 rfl;rw[set8_1];refine G3 ?_;refine .draw (oPq [0,1,102,3,4,105,6,7,408]) Aq zK (.sliceArrLH 8 16 J J J J J J J dE dE dE Y187.h Sz5 (.i1 J J J J Y263.h Sz30 1 J dE (G1 ?_)));refine .shr_u64 J J J J 13 J dE (.i1 J J J J Y263.h Sz30 2 J dE (G1 ?_));refine .shl_u64 J J J J 38 J dE (G1 ?_);refine .callL (L:=[⟨n6,Aa (by8 ((stF w).a|||A6 (stF w).b 51)++List.replicate 24 0),187,32⟩]) J J J J J Body251 (field_put n6 8 8 24 32 (by8 ((stF w).a|||A6 (stF w).b 51)++List.replicate 24 0) (Ax (stF w).b 13|||A6 (stF w).c 38) _ dE (by simp[by8_length])) (Ab rM Ae) (C5 J) (fun w h=>B5 h Z0) ?_;rintro v68 out68 rfl;rw[set8_2];refine G3 ?_;refine .draw (oPq [0,1,102,3,4,105,6,7,408]) Aq zK (.sliceArrLH 16 24 J J J J J J J dE dE dE Y187.h Sz5 (.i1 J J J J Y263.h Sz30 2 J dE (G1 ?_)));refine .shr_u64 J J J J 26 J dE (.i1 J J J J Y263.h Sz30 3 J dE (G1 ?_));refine .shl_u64 J J J J 25 J dE (G1 ?_);refine .callL (L:=[⟨n6,Aa (by8 ((stF w).a|||A6 (stF w).b 51)++by8 (Ax (stF w).b 13|||A6 (stF w).c 38)++List.replicate 16 0),187,32⟩]) J J J J J Body251 (field_put n6 16 8 16 32 (by8 ((stF w).a|||A6 (stF w).b 51)++by8 (Ax (stF w).b 13|||A6 (stF w).c 38)++List.replicate 16 0) (Ax (stF w).c 26|||A6 (stF w).d 25) _ dE (by simp[by8_length])) (Ab rM Ae) (C5 J) (fun w h=>B5 h Z0) ?_;rintro v77 out77 rfl;rw[set8_3];refine G3 ?_
 refine .draw (oPq [0,1,102,3,4,105,6,7,408]) Aq zK (.sliceArrLH 24 32 J J J J J J J dE dE dE Y187.h Sz5 (.i1 J J J J Y263.h Sz30 3 J dE (G1 ?_)));refine .shr_u64 J J J J 39 J dE (.i1 J J J J Y263.h Sz30 4 J dE (G1 ?_));refine .shl_u64 J J J J 12 J dE (G1 ?_);refine .callL (L:=[⟨n6,Aa (by8 ((stF w).a|||A6 (stF w).b 51)++by8 (Ax (stF w).b 13|||A6 (stF w).c 38)++by8 (Ax (stF w).c 26|||A6 (stF w).d 25)++List.replicate 8 0),187,32⟩]) J J J J J Body251 (field_put n6 24 8 8 32 (by8 ((stF w).a|||A6 (stF w).b 51)++by8 (Ax (stF w).b 13|||A6 (stF w).c 38)++by8 (Ax (stF w).c 26|||A6 (stF w).d 25)++List.replicate 8 0) (Ax (stF w).d 39|||A6 (stF w).e 12) _ dE (by simp[by8_length])) (Ab rM Ae) (C5 J) (fun w h=>B5 h Z0) ?_;rintro v86 out86 rfl;rw[set8_4];refine G4 ?_;refine .lA J J J Y187.h J Sz187 Z0 (by(simp[by8_length];done)) ?_;refine .sA J J J J zE Sz187 (by(simp[by8_length];done)) Z1 sP zV ?_;refine G2 ?_;refine G2 ?_;refine⟨_,[],Aw J J Y187.h J Sz187 Z1 (by simp[by8_length]),sP,sP,?_,rfl⟩;rw[fb_fe,←store_eq,←by8_store]
theorem field_Rest(a:List UInt8)(ha:a.length=32):Mv 247 [agg (Aa a)] (fun _=>True) (agg (Aa (fb (fe (le a))))):=by
 intro W hW;refine Ad func247 J 6 ntmps247 J (G3 ?_);intro n1 hn1 hf1;refine .alloc (cs:=(Aa (List.replicate 32 0))) J A8 J ?_;intro n2 hn2 hf2;refine G4 ?_;refine .lA J J J Y187.h J Sz187 Z1 (by(simp[ha];done)) ?_;refine .cV J J J J Body248 (field_load a ha) tV (.cV J J J J Body250 (field_store (ldN a)) tV (.sA J J J J zE Sz187 zF Z0 sP zU ?_));refine G2 ?_;refine G2 ?_;refine⟨_,[],Aw J J Y187.h J Sz187 Z0 (by simp[Ar]),sP,sP,?_,rfl⟩;rw[ldN_v ha]
theorem field_Canon(a:List UInt8)(ha:a.length=32):Mv 199 [agg (Aa a)] (fun _=>True) (.bool (decide (fb (fe (le a))=a))):=by
 intro W hW;refine Ad func199 J 7 ntmps199 J (G3 ?_);intro n1 hn1 hf1;refine G4 ?_;refine .draw (oPq [100,102,301,3,4]) Aq zK (.lA J J J Y187.h J Sz187 Z0 (by(simp[ha];done)) ?_);refine .lA J J J Y187.h J Sz187 Z0 (by(simp[ha];done)) ?_;refine .cV J J J J Body247 (field_Rest a ha) tV (.eql_bytes J J J J eqGuardType187 Y187.h Y5.h Sz5 zF (by(simp[ha];done)) J ?_);refine G3 ?_;refine G2 ?_;refine⟨_,[],Af J J,sP,sP,?_,rfl⟩;rfl
theorem field_Same(a b:List UInt8)(ha:a.length=32)(hb:b.length=32):Mv 254 [agg (Aa a),agg (Aa b)] (fun _=>True) (.bool (decide (fe (le a)=fe (le b)))):=by
 intro W hW;refine Ad func254 J 10 ntmps254 J (G3 ?_);intro n2 hn2 hf2;refine G1 ?_;intro n3 hn3 hf3;refine G4 ?_;refine .draw (oPq [100,102,301,303,4,5]) Aq zK (.lA J J J Y187.h J Sz187 Z1 (by(simp[ha];done)) ?_);refine .lA J J J Y187.h J Sz187 Z0 (by(simp[hb];done)) ?_;refine .cV J J J J Body247 (field_Rest a ha) tV (.cV J J J J Body247 (field_Rest b hb) tV (.eql_bytes J J J J eqGuardType187 Y187.h Y5.h Sz5 zF zF J (G3 ?_)));refine G2 ?_;refine⟨_,[],Af J J,sP,sP,?_,rfl⟩;rw[fb_dec]
theorem field_Odd(a:List UInt8)(ha:a.length=32):Mv 255 [agg (Aa a)] (fun _=>True) (.bool (decide ((fe (le a)).val%2=1))):=by
 intro W hW;refine Ad func255 J 8 ntmps255 J (G3 ?_);intro n1 hn1 hf1;refine G5 ?_;refine .lA J J J Y187.h J Sz187 Z0 (by(simp[ha];done)) ?_;refine .cV J J J J Body247 (field_Rest a ha) tV (.idxA1 J J J J Y187.h Sz5 Y5.h J 0 J oM (by rfl) ?_);refine .and_u8 J J J (show Ai _ _=some (u8 1)from rfl) (G4 ?_);refine G2 ?_;refine⟨_,[],Af J J,sP,sP,?_,rfl⟩;exact congrArg Value.bool (odd_byte _)
structure PowS where
  k:Nat
  p:W5
  a:UInt64
  b:UInt64
  c:UInt64
  d:UInt64
theorem leb_small(x:UInt64):leb 8 x.toNat++List.replicate 24 0=leb 32 x.toNat:=by
  have h:=leb_split 24 8 x.toNat;rw[show x.toNat/256^8=0 from Lbk x.toNat_lt]at h;rw[show leb 24 0=List.replicate 24 0 from by decide]at h;exact h.symm
theorem field_Of(x:UInt64):Mv 202 [u64 x] (fun _=>True) (agg (Aa (fb (fe x.toNat)))):=by
 intro W hW;refine Ad func202 J 8 ntmps202 J (G2 ?_);refine .alloc (cs:=(Aa (List.replicate 32 0))) J A8 J ?_;intro n2 hn2 hf2;refine G4 ?_;refine .alloc (cs:=(Aa (List.replicate 32 0))) J A8 J ?_;intro n3 hn3 hf3;refine G4 ?_;refine .sliceArrHi 8 J J J J J dE dE Y187.h Sz5 (G1 ?_);refine .callL (L:=[⟨n3,Aa (List.replicate 32 0),187,32⟩]) J J J J J Body251 (field_put n3 0 8 32 32 (List.replicate 32 0) (x) _ dE sP) (Ab rM Ae) (C5 J) (fun w h=>B5 h Z0) ?_;rintro v6 out6 rfl;rw[set8_1];refine G4 ?_;refine .lA J J J Y187.h J Sz187 Z0 (by(simp[by8_length];done)) ?_;refine .sA J J J J zE Sz187 (by(simp[by8_length];done)) Z1 sP zV ?_;refine G2 ?_;refine G2 ?_;refine⟨_,[],Aw J J Y187.h J Sz187 Z1 (by simp[by8_length]),sP,sP,?_,rfl⟩;rw[fe_small,by8_eq];exact congrArg (fun l=>agg (Aa l)) (leb_small x)
theorem field_Add(a b:List UInt8)(ha:a.length=32)(hb:b.length=32):Mv 203 [agg (Aa a),agg (Aa b)] (fun _=>True) (agg (Aa (fb (fe (le a)+fe (le b))))):=by
 intro W hW;refine Ad func203 J 26 ntmps203 J (G3 ?_);intro n2 hn2 hf2;refine G1 ?_;intro n3 hn3 hf3;refine .alloc (cs:=(Aa (List.replicate 32 0))) J A8 J ?_;intro n4 hn4 hf4;refine G3 ?_;refine .draw (oPq [100,102,301,303,204,205,406,407]) Aq zK (.lA J J J Y187.h J Sz187 Z2 (by(simp[ha];done)) ?_);refine .lA J J J Y187.h J Sz187 Z1 (by(simp[hb];done)) ?_;refine .cV J J J J Body248 (field_load a ha) tV (.cV J J J J Body248 (field_load b hb) tV (.alloc (cs:=(Al (List.replicate 5 0))) J Zr263 J ?_));intro n5 hn5 hf5;refine .alloc (cs:=(Al (List.replicate 5 0))) J Zr263 J ?_;intro n6 hn6 hf6;refine .sA J J J J zB Sz263 zW Z1 sP zV ?_;refine .sA J J J J zB Sz263 zW Z0 sP zU ?_;refine G9 ?_;refine .rounds 6 (SRounds.more (G6 ?_));refine .cond_t J (rfl) (G10 ?_);refine .draw (oPq [0,1,102,3,4,105,6,7,408]) Aq zK (G1 ?_);refine .i1 J J J J Y263.h Sz30 0 J oM (G2 ?_);refine .i1 J J J J Y263.h Sz30 0 J oM (G2 ?_);refine .i1 J J J J Y263.h Sz30 0 J oM (.s1 J J J J J Sz30 Z1 zW (by exact Bj _ _ _) zV ?_);refine G7 ?_;refine A7 (SRounds.more (G6 ?_));refine .cond_t J (rfl) (G10 ?_);refine .draw (oPq [0,1,102,3,4,105,6,7,408]) Aq zK (G1 ?_);refine .i1 J J J J Y263.h Sz30 1 J oM (G2 ?_);refine .i1 J J J J Y263.h Sz30 1 J oM (G2 ?_);refine .i1 J J J J Y263.h Sz30 1 J oM (.s1 J J J J J Sz30 Z1 zW (by exact Bj _ _ _) zV ?_);refine G7 ?_;refine A7 (SRounds.more (G6 ?_));refine .cond_t J (rfl) (G10 ?_);refine .draw (oPq [0,1,102,3,4,105,6,7,408]) Aq zK (G1 ?_);refine .i1 J J J J Y263.h Sz30 2 J oM (G2 ?_);refine .i1 J J J J Y263.h Sz30 2 J oM (G2 ?_);refine .i1 J J J J Y263.h Sz30 2 J oM (.s1 J J J J J Sz30 Z1 zW (by exact Bj _ _ _) zV ?_);refine G7 ?_;refine A7 (SRounds.more (G6 ?_));refine .cond_t J (rfl) (G10 ?_);refine .draw (oPq [0,1,102,3,4,105,6,7,408]) Aq zK (G1 ?_);refine .i1 J J J J Y263.h Sz30 3 J oM (G2 ?_);refine .i1 J J J J Y263.h Sz30 3 J oM (G2 ?_);refine .i1 J J J J Y263.h Sz30 3 J oM (.s1 J J J J J Sz30 Z1 zW (by exact Bj _ _ _) zV ?_);refine G7 ?_;refine A7 (SRounds.more (G6 ?_));refine .cond_t J (rfl) (G10 ?_);refine .draw (oPq [0,1,102,3,4,105,6,7,408]) Aq zK (G1 ?_);refine .i1 J J J J Y263.h Sz30 4 J oM (G2 ?_);refine .i1 J J J J Y263.h Sz30 4 J oM (G2 ?_);refine .i1 J J J J Y263.h Sz30 4 J oM (.s1 J J J J J Sz30 Z1 zW (by exact Bj _ _ _) zV ?_);refine G7 ?_;refine A7 (SRounds.more (G6 ?_));refine .cond_f J (rfl) (G8 ?_);refine .cV J J J J Body250 (field_store (addF (ldN a) (ldN b))) tV (.sA J J J J zE Sz187 zF Z2 sP (by exact upd2) ?_);refine G2 ?_;refine G2 ?_;refine⟨_,[],Aw J J Y187.h J Sz187 Z2 (by simp[Ar]),sP,sP,?_,rfl⟩;rw[addF_fe ha hb]
theorem field_Sub(a b:List UInt8)(ha:a.length=32)(hb:b.length=32):Mv 201 [agg (Aa a),agg (Aa b)] (fun _=>True) (agg (Aa (fb (fe (le a)-fe (le b))))):=by
 intro W hW;refine Ad func201 J 34 ntmps201 J (.sr (.boxA J J ?_));intro n2 hn2 hf2;refine .boxA J J ?_;intro n3 hn3 hf3;refine .alloc (cs:=(Aa (List.replicate 32 0))) J A8 J ?_;intro n4 hn4 hf4;refine .na (.seq (.draw (oPq [100,102,301,303,204,205,406,407]) Aq zK (.lA J J J Y187.h J Sz187 Z2 (by(simp[ha];done)) ?_)));refine .lA J J J Y187.h J Sz187 Z1 (by(simp[hb];done)) ?_;refine .cV J J J J Body248 (field_load a ha) tV (.cV J J J J Body248 (field_load b hb) tV (.alloc (cs:=(Al (List.replicate 5 0))) J Zr263 J ?_));intro n5 hn5 hf5;refine .alloc (cs:=(Al (List.replicate 5 0))) J Zr263 J ?_;intro n6 hn6 hf6;refine .sA J J J J zB Sz263 zW Z1 sP zV ?_;refine .sA J J J J zB Sz263 zW Z0 sP zU ?_;refine .nsr (.i1 J J J J Y263.h Sz30 0 J dE (.load1 J J J Y30.h J Z1 (by rfl) ?_));refine .i1 J J J J Y263.h Sz30 0 J dE (.load1 J J J Y30.h J Z0 (by rfl) ?_);refine .sub_u64 J J (show Ai _ _=some (u64 9007199254740916)from rfl) J (.add_u64 J J J J (.i1 J J J J Y263.h Sz30 0 J dE (.s1 J J J J J Sz30 Z1 zW (by exact Bj _ _ _) zV ?_)));refine .na (.seq (.sr (.a J J J (.na (.block (.rounds 5 (SRounds.more (.seq (.sr (.m J J J (.lss J J J J J (.na (.cond_t J (rfl) (.skip (A7 (.seq (.block (.draw (oPq [0,1,102,3,4,105,6,7,8,409]) Aq zK (.m J J J (.i1 J J J J Y263.h Sz30 1 J oM (.load1 J J J Y30.h J Z1 (by rfl) ?_)))))))))))))))))))));refine .m J J J (.i1 J J J J Y263.h Sz30 1 J oM (.load1 J J J Y30.h J Z0 (by rfl) ?_));refine .sub_u64 J J (show Ai _ _=some (u64 9007199254740988)from rfl) J (.add_u64 J J J J (.i1 J J J J Y263.h Sz30 1 J oM (.s1 J J J J J Sz30 Z1 zW (by exact Bj _ _ _) zV ?_)));refine .nil (bl_n (A7 (.region (.m J J J (.aI J J J J oM (.a J J J (.na (SRounds.more (.seq (.sr (.m J J J (.lss J J J J J (.na (.cond_t J (rfl) (.skip (A7 (.seq (.block (.draw (oPq [0,1,102,3,4,105,6,7,8,409]) Aq zK (.m J J J (.i1 J J J J Y263.h Sz30 2 J oM (.load1 J J J Y30.h J Z1 (by rfl) ?_))))))))))))))))))))));refine .m J J J (.i1 J J J J Y263.h Sz30 2 J oM (.load1 J J J Y30.h J Z0 (by rfl) ?_));refine .sub_u64 J J (show Ai _ _=some (u64 9007199254740988)from rfl) J (.add_u64 J J J J (.i1 J J J J Y263.h Sz30 2 J oM (.s1 J J J J J Sz30 Z1 zW (by exact Bj _ _ _) zV ?_)));refine .nil (bl_n (A7 (.region (.m J J J (.aI J J J J oM (.a J J J (.na (SRounds.more (.seq (.sr (.m J J J (.lss J J J J J (.na (.cond_t J (rfl) (.skip (A7 (.seq (.block (.draw (oPq [0,1,102,3,4,105,6,7,8,409]) Aq zK (.m J J J (.i1 J J J J Y263.h Sz30 3 J oM (.load1 J J J Y30.h J Z1 (by rfl) ?_))))))))))))))))))))));refine .m J J J (.i1 J J J J Y263.h Sz30 3 J oM (.load1 J J J Y30.h J Z0 (by rfl) ?_));refine .sub_u64 J J (show Ai _ _=some (u64 9007199254740988)from rfl) J (.add_u64 J J J J (.i1 J J J J Y263.h Sz30 3 J oM (.s1 J J J J J Sz30 Z1 zW (by exact Bj _ _ _) zV ?_)))
 refine .nil (bl_n (A7 (.region (.m J J J (.aI J J J J oM (.a J J J (.na (SRounds.more (.seq (.sr (.m J J J (.lss J J J J J (.na (.cond_t J (rfl) (.skip (A7 (.seq (.block (.draw (oPq [0,1,102,3,4,105,6,7,8,409]) Aq zK (.m J J J (.i1 J J J J Y263.h Sz30 4 J oM (.load1 J J J Y30.h J Z1 (by rfl) ?_))))))))))))))))))))));refine .m J J J (.i1 J J J J Y263.h Sz30 4 J oM (.load1 J J J Y30.h J Z0 (by rfl) ?_));refine .sub_u64 J J (show Ai _ _=some (u64 9007199254740988)from rfl) J (.add_u64 J J J J (.i1 J J J J Y263.h Sz30 4 J oM (.s1 J J J J J Sz30 Z1 zW (by exact Bj _ _ _) zV ?_)));refine .nil (bl_n (A7 (.region (.m J J J (.aI J J J J oM (.a J J J (.na (SRounds.more (.seq (.sr (.m J J J (.lss J J J J J (.na (.cond_f J (rfl) (.exit (at_x (at_x (bl_h (A7 (.sr (.lA J J J Y263.h J Sz263 Z1 zW ?_)))))))))))))))))))));refine .cV J J J J Body250 (field_store (subF (ldN a) (ldN b))) tV (.sA J J J J zE Sz187 zF Z2 sP (by exact upd2) ?_);refine .na ?_;refine .ret (C6 ?_);refine⟨_,[],Aw J J Y187.h J Sz187 Z2 (by simp[Ar]),sP,sP,?_,rfl⟩;rw[subL_fe ha hb]
theorem field_Neg(a:List UInt8)(ha:a.length=32):Mv 207 [agg (Aa a)] (fun _=>True) (agg (Aa (fb (-fe (le a))))):=by
 intro W hW;refine Ad func207 J 6 ntmps207 J (G3 ?_);intro n1 hn1 hf1;refine .alloc (cs:=(Aa (List.replicate 32 0))) J A8 J ?_;intro n2 hn2 hf2;refine G4 ?_;refine .build (cs:=Aa (List.replicate 32 0)) J J J (fun w=>by kernel_rfl) ?_;refine .lA J J J Y187.h J Sz187 Z1 (by(simp[ha];done)) ?_;refine .cV J J J J Body201 (field_Sub (List.replicate 32 0) a J ha) tV (.sA J J J J zE Sz187 zF Z0 sP zU ?_);refine G2 ?_;refine G2 ?_;refine⟨_,[],Aw J J Y187.h J Sz187 Z0 (by simp[Ar]),sP,sP,?_,rfl⟩;rw[show fe (le (List.replicate 32 0))-fe (le a)= -fe (le a)from by rw[show fe (le (List.replicate 32 0))=0 by kernel_rfl];grind]
theorem field_Mul(a b:List UInt8)(ha:a.length=32)(hb:b.length=32):Mv 200 [agg (Aa a),agg (Aa b)] (fun _=>True) (agg (Aa (fb (fe (le a)*fe (le b))))):=by
 intro W hW;refine Ad func200 J 13 ntmps200 J (G3 ?_);intro n2 hn2 hf2;refine G1 ?_;intro n3 hn3 hf3;refine .alloc (cs:=(Aa (List.replicate 32 0))) J A8 J ?_;intro n4 hn4 hf4;refine G3 ?_;refine .draw (oPq [100,102,301,303,204,205,406,407]) Aq zK (.lA J J J Y187.h J Sz187 Z2 (by(simp[ha];done)) ?_);refine .lA J J J Y187.h J Sz187 Z1 (by(simp[hb];done)) ?_;refine .cV J J J J Body248 (field_load a ha) tV (.cV J J J J Body248 (field_load b hb) tV (.alloc (cs:=(Al (List.replicate 5 0))) J Zr263 J ?_));intro n5 hn5 hf5;refine .alloc (cs:=(Al (List.replicate 5 0))) J Zr263 J ?_;intro n6 hn6 hf6;refine .sA J J J J zB Sz263 zW Z1 sP zV ?_;refine .sA J J J J zB Sz263 zW Z0 sP zU ?_;refine G4 ?_;refine .cV J J J J Body249 (field_product n5 n6 (ldN a) (ldN b)) (fun w h=>⟨An h Z1,An h Z0⟩) ?_;refine .cV J J J J Body250 (field_store (mulF (ldN a) (ldN b))) tV (.sA J J J J zE Sz187 zF Z2 sP (by exact upd2) ?_);refine G2 ?_;refine G2 ?_;refine⟨_,[],Aw J J Y187.h J Sz187 Z2 (by simp[Ar]),sP,sP,?_,rfl⟩;rw[mulL_fe ha hb]
theorem field_shifted(a b c d:UInt64):Mv 281 [agg (Al [a,b,c,d])] (fun _=>True) (agg (Al [A6 a 1,A6 b 1|||Ax a 63,A6 c 1|||Ax b 63,A6 d 1|||Ax c 63])):=by
 intro W hW;refine Ad func281 J 25 ntmps281 J (G3 ?_);intro n1 hn1 hf1;refine .alloc (cs:=(Al (List.replicate 4 0))) J Zr220 J ?_;intro n2 hn2 hf2;refine G9 ?_;refine .rounds 4 (SRounds.more (G7 ?_));refine .cond_t J (rfl) (G4 ?_);refine .draw (oPq [0,1,2,103,4,5,6,7,108,9,10,11,412]) Aq zK (G2 ?_);refine .i1 J J J J Y220 Sz30 3 J oM (G1 ?_);refine .shl_u64 J J J J 1 J dE (G2 ?_);refine .i1 J J J J Y220 Sz30 2 J oM (G1 ?_);refine .shr_u64 J J J J 63 J dE (G1 ?_);refine .i1 J J J J Y220 Sz30 3 J oM (.s1 J J J J J Sz30 Z1 sP (by exact Bj _ _ _) zV ?_);refine G8 ?_;refine A7 (SRounds.more (G7 ?_));refine .cond_t J (rfl) (G4 ?_);refine .draw (oPq [0,1,2,103,4,5,6,7,108,9,10,11,412]) Aq zK (G2 ?_);refine .i1 J J J J Y220 Sz30 2 J oM (G1 ?_);refine .shl_u64 J J J J 1 J dE (G2 ?_);refine .i1 J J J J Y220 Sz30 1 J oM (G1 ?_);refine .shr_u64 J J J J 63 J dE (G1 ?_);refine .i1 J J J J Y220 Sz30 2 J oM (.s1 J J J J J Sz30 Z1 sP (by exact Bj _ _ _) zV ?_);refine G8 ?_;refine A7 (SRounds.more (G7 ?_));refine .cond_t J (rfl) (G4 ?_);refine .draw (oPq [0,1,2,103,4,5,6,7,108,9,10,11,412]) Aq zK (G2 ?_);refine .i1 J J J J Y220 Sz30 1 J oM (G1 ?_);refine .shl_u64 J J J J 1 J dE (G2 ?_);refine .i1 J J J J Y220 Sz30 0 J oM (G1 ?_);refine .shr_u64 J J J J 63 J dE (G1 ?_);refine .i1 J J J J Y220 Sz30 1 J oM (.s1 J J J J J Sz30 Z1 sP (by exact Bj _ _ _) zV ?_);refine G8 ?_;refine A7 (SRounds.more (G7 ?_));refine .cond_f J (rfl) (G7 ?_);refine .i1 J J J J Y220 Sz30 0 J dE (G1 ?_);refine .shl_u64 J J J J 1 J dE (.i1 J J J J Y220 Sz30 0 J dE (.s1 J J J J J Sz30 Z1 sP (by exact Bj _ _ _) zV ?_));refine G4 ?_;refine .lA J J J Y220 J Sz220 Z1 sP ?_;refine .sA J J J J zB Sz220 sP Z0 sP zU ?_;refine G2 ?_;refine G2 ?_;refine⟨_,[],Aw J J Y220 J Sz220 Z0 sP,sP,sP,?_,rfl⟩;rfl
theorem field_ones(f l:UInt8):Mv 253 [u8 f,u8 l] (fun _=>True) (agg (Aa (onesB f l))):=by
 intro W hW;refine Ad func253 J 18 ntmps253 J (G2 ?_);refine .alloc (cs:=(Aa (List.replicate 32 0))) J A8 J ?_;intro n4 hn4 hf4;refine G4 ?_;refine .alloc (cs:=(Aa (List.replicate 32 0))) J A8 J ?_;intro n5 hn5 hf5;refine G9 ?_;refine .loop (ι:=Nat) (fun k=>⟨[(0,u8 f),(1,u8 l),(4,ptr n4 0),(5,ptr n5 0),(7,i64 (k:Int))],[⟨n5,Aa (List.replicate k 255++List.replicate (32-k) 0),187,32⟩,⟨n4,Aa (List.replicate 32 0),187,32⟩]⟩) (fun k=>k≤32) (fun k=>32-k) (0) ?_ ?_ ?_
 ·omega
 ·exact Ah wN (wh1 Z0 (wh1 Z1 wh0)) nD
 rintro k hi;refine G6 ?_;refine .condP J (fun hc0=>?_) (fun hc0=>?_)
 ·
  have hk2:k<32:=by omega
  refine G12 ?_;refine .i1 J J J J Y187.h Sz5 _ J oM (.s1 J J J (show Ai _ _=some (u8 255)from rfl) J Sz5 Z0 (by(simp;omega)) (by exact Bl _ _ _) zU ?_);refine G8 ?_;exact⟨k+1,by omega,by omega,Ah wN (wh1 (by rw[←ones_step hk2];exact Cb) (wh1 Z1 wh0)) nD⟩
 obtain rfl:k=32:=by omega
 rw[show((List.replicate 32 255++List.replicate (32-32) 0):List UInt8)=List.replicate 32 255 from rfl];refine G9 ?_;refine .i1 J J J J Y187.h Sz5 0 J dE (.s1 J J J J J Sz5 Z0 sP (by exact Bl _ _ _) zU ?_);refine .i1 J J J J Y187.h Sz5 31 J dE (.s1 J J J J J Sz5 Z0 sP (by exact Bl _ _ _) zU ?_);refine G4 ?_;refine .lA J J J Y187.h J Sz187 Z0 sP ?_;refine .sA J J J J zE Sz187 sP Z1 sP zV ?_;refine G2 ?_;refine G2 ?_;refine⟨_,[],Aw J J Y187.h J Sz187 Z1 sP,sP,sP,?_,rfl⟩;rfl
theorem field_Pow(a e:List UInt8)(ha:a.length=32)(he:e.length=32):Mv 252 [agg (Aa a),agg (Aa e)] (fun _=>True) (agg (Aa (fb (Ct (fe (le a)) (le e))))):=by
 intro W hW;have hE:le e<2^256:=le32 he;have hXf:(ldN a).fit:=(ldN_lt a).fit;have hXv:fe (ldN a).v=fe (le a):=by rw[ldN_v ha]
 refine Ad func252 J 26 ntmps252 J (G3 ?_);intro n2 hn2 hf2;refine G1 ?_;intro n3 hn3 hf3;refine .alloc (cs:=(Aa (List.replicate 32 0))) J A8 J ?_;intro n4 hn4 hf4;refine G3 ?_;refine .draw (oPq [100,102,4,301,303,205,206,207,408,409,410]) Aq zK (.lA J J J Y187.h J Sz187 Z2 (by(simp[ha];done)) ?_);refine .lA J J J Y187.h J Sz187 Z1 (by(simp[he];done)) ?_;refine .build (cs:=Al (⟨1,0,0,0,0⟩:W5).l) J J J (fun w=>by kernel_rfl) ?_;refine .cV J J J J Body248 (field_load a ha) tV (.cV J J J J Body277 (field_quarters e he) tV (.alloc (cs:=(Al (List.replicate 5 0))) J Zr263 J ?_));intro n5 hn5 hf5;refine .alloc (cs:=(Al (List.replicate 4 0))) J Zr220 J ?_;intro n6 hn6 hf6;refine .alloc (cs:=(Al (List.replicate 5 0))) J Zr263 J ?_;intro n7 hn7 hf7;refine .sA J J J J zB Sz263 zW Z2 sP (by exact upd2) ?_;refine .sA J J J J zB Sz220 sP Z1 sP zV ?_;refine .sA J J J J zB Sz263 zW Z0 sP zU ?_;refine G9 ?_;refine .loop (ι:=PowS) (fun s=>⟨[(4,ptr n4 0),(5,ptr n5 0),(6,ptr n6 0),(7,ptr n7 0),(13,i64 (s.k:Int))],[⟨n7,Al s.p.l,263,5⟩,⟨n6,Al [s.a,s.b,s.c,s.d],220,4⟩,⟨n5,Al (ldN a).l,263,5⟩,⟨n4,Aa (List.replicate 32 0),187,32⟩]⟩) (fun s=>PowI (le e) (fe (le a)) s.k s.p s.a s.b s.c s.d) (fun s=>256-s.k) (⟨0,⟨1,0,0,0,0⟩,qw e 0,qw e 1,qw e 2,qw e 3⟩) ?_ ?_ ?_
 ·exact PowI.first he _
 ·exact Ah wN (wh1 Z0 (wh1 Z1 (wh1 Z2 (wh1 Z3 wh0)))) nD
 rintro s hs;have hsl:=hs.le;refine G6 ?_;refine .condP J (fun hc0=>?_) (fun hc0=>?_)
 ·
  have hk2:s.k<256:=by omega
  refine G6 ?_;refine .cV J J J J Body249 (field_product n7 n7 s.p s.p) (fun w h=>⟨An h Z0,An h Z0⟩) ?_;refine G3 ?_;refine .join (ι:=W5) (fun u=>⟨[(4,ptr n4 0),(5,ptr n5 0),(6,ptr n6 0),(7,ptr n7 0),(13,i64 (s.k:Int))],[⟨n7,Al u.l,263,5⟩,⟨n6,Al [s.a,s.b,s.c,s.d],220,4⟩,⟨n5,Al (ldN a).l,263,5⟩,⟨n4,Aa (List.replicate 32 0),187,32⟩]⟩) (fun u=>PowI (le e) (fe (le a)) (s.k+1) u (A6 s.a 1) (A6 s.b 1|||Ax s.a 63) (A6 s.c 1|||Ax s.b 63) (A6 s.d 1|||Ax s.c 63)) ?_ ?_
  ·
   refine G2 ?_;refine .i1 J J J J Y220 Sz30 3 J dE (G1 ?_);refine .shr_u64 J J J J 63 J dE (G3 ?_);refine .condP J (fun hc1=>?_) (fun hc1=>?_)
   ·
    have hb1:(Ax s.d 63).toNat=1:=by omega
    refine .region (.cV J J J J Body249 (field_product n7 n5 (mulF s.p s.p) (ldN a)) (fun w h=>⟨An h Z0,An h Z2⟩) ?_);refine G3 ?_;exact⟨mulF (mulF s.p s.p) (ldN a),hs.odd hE hk2 hXf hXv hb1,Ah wN (wh1 Z0 (wh1 Z1 (wh1 Z2 (wh1 Z3 wh0)))) nD⟩
   have hb1:¬(Ax s.d 63).toNat=1:=by omega
   refine G2 ?_;exact⟨mulF s.p s.p,hs.even hE hk2 hb1,Ah wN (wh1 Z0 (wh1 Z1 (wh1 Z2 (wh1 Z3 wh0)))) nD⟩
  intro u hj;have hu:=hj;refine .region (.lA J J J Y220 J Sz220 Z1 sP ?_);refine .cV J J J J Body281 (field_shifted s.a s.b s.c s.d) tV (.sA J J J J zB Sz220 sP Z1 sP zV ?_);refine G8 ?_;exact⟨⟨s.k+1,u,_,_,_,_⟩,hu,by simp only[];omega,Ah wN (wh1 Z0 (wh1 Z1 (wh1 Z2 (wh1 Z3 wh0)))) nD⟩
 have hke:s.k=256:=by omega
 have hfin:fe s.p.v=Ct (fe (le a)) (le e):=by rw[hke]at hs;exact hs.last
 refine G8 ?_;refine .cV J J J J Body250 (field_store s.p) tV (.sA J J J J zE Sz187 zF Z3 sP (by exact upd3) ?_);refine G2 ?_;refine G2 ?_;refine⟨_,[],Aw J J Y187.h J Sz187 Z3 (by simp[Ar]),sP,sP,?_,rfl⟩;rw[hfin]
theorem field_Inv(a:List UInt8)(ha:a.length=32):Mv 206 [agg (Aa a)] (fun _=>True) (agg (Aa (fb (finv (fe (le a)))))):=by
 intro W hW;refine Ad func206 J 6 ntmps206 J (G3 ?_);intro n1 hn1 hf1;refine .alloc (cs:=(Aa (List.replicate 32 0))) J A8 J ?_;intro n2 hn2 hf2;refine G3 ?_;refine .draw (oPq [100,301,302,403]) Aq zK (.lA J J J Y187.h J Sz187 Z1 (by(simp[ha];done)) ?_);refine .cV J J J J Body253 (field_ones 235 127) tV (.cV J J J J Body252 (field_Pow a (onesB 235 127) ha (onesB_length _ _)) tV (.sA J J J J zE Sz187 zF Z0 sP zU ?_));refine G2 ?_;refine G2 ?_;refine⟨_,[],Aw J J Y187.h J Sz187 Z0 (by simp[Ar]),sP,sP,?_,rfl⟩;rw[ones_inv];rfl
theorem f_mul(x y:Fp):Mv 200 [agg (Aa (fb x)),agg (Aa (fb y))] (fun _=>True) (agg (Aa (fb (x*y)))):=by
  have h:=field_Mul (fb x) (fb y) (Ar x) (Ar y);rwa[fe_fb x,fe_fb y]at h
theorem f_add(x y:Fp):Mv 203 [agg (Aa (fb x)),agg (Aa (fb y))] (fun _=>True) (agg (Aa (fb (x+y)))):=by
  have h:=field_Add (fb x) (fb y) (Ar x) (Ar y);rwa[fe_fb x,fe_fb y]at h
theorem f_sub(x y:Fp):Mv 201 [agg (Aa (fb x)),agg (Aa (fb y))] (fun _=>True) (agg (Aa (fb (x-y)))):=by
  have h:=field_Sub (fb x) (fb y) (Ar x) (Ar y);rwa[fe_fb x,fe_fb y]at h
theorem f_neg(x:Fp):Mv 207 [agg (Aa (fb x))] (fun _=>True) (agg (Aa (fb (-x)))):=by
  have h:=field_Neg (fb x) (Ar x);rwa[fe_fb x]at h
theorem f_inv(x:Fp):Mv 206 [agg (Aa (fb x))] (fun _=>True) (agg (Aa (fb (finv x)))):=by
  have h:=field_Inv (fb x) (Ar x);rwa[fe_fb x]at h
theorem f_odd(x:Fp):Mv 255 [agg (Aa (fb x))] (fun _=>True) (.bool (decide (x.val%2=1))):=by
  have h:=field_Odd (fb x) (Ar x);rwa[fe_fb x]at h
theorem f_same_raw(x:Fp)(a:List UInt8)(ha:a.length=32):Mv 254 [agg (Aa (fb x)),agg (Aa a)] (fun _=>True) (.bool (decide (x=fe (le a)))):=by
  have h:=field_Same (fb x) a (Ar x) ha;rwa[fe_fb x]at h
theorem f_pow_root(a:List UInt8)(ha:a.length=32):Mv 252 [agg (Aa a),agg (Aa (onesB 254 15))] (fun _=>True) (agg (Aa (fb (Ct (fe (le a)) ((PF+3)/8))))):=by
  have h:=field_Pow a (onesB 254 15) ha (onesB_length _ _);rwa[ones_root]at h
theorem f_pow_unit:Mv 252 [agg (Aa (fb (fe (2:UInt64).toNat))),agg (Aa (onesB 251 31))] (fun _=>True) (agg (Aa (fb (Ct (fe 2) ((PF-1)/4))))):=by
  have h:=field_Pow (fb (fe (2:UInt64).toNat)) (onesB 251 31) (Ar _) (onesB_length _ _);rwa[ones_unit,fe_fb]at h
theorem f_one:Mv 202 [u64 1] (fun _=>True) (agg (Aa (fb 1))):=by
  have h:=field_Of 1;rwa[show fe (1:UInt64).toNat=1 from rfl]at h
theorem field_Root(a:List UInt8)(X:Fp)(ha:a.length=32)(hX:fe (le a)=X):Mv 205 [agg (Aa a)] (fun _=>True) (.tuple #[agg (Aa (fb (fRoot X).1)), .bool (fRoot X).2]):=by
 intro W hW;obtain⟨r0,hr0⟩:∃r,Ct X ((PF+3)/8)=r:=⟨_,rfl⟩;obtain⟨un,hun⟩:∃r,Ct (fe 2) ((PF-1)/4)=r:=⟨_,rfl⟩;obtain⟨r1,hr1⟩:∃r,fRoot1 X=r:=⟨_,rfl⟩;have hp0:=f_pow_root a ha;have hpu:=f_pow_unit;rw[hX,hr0]at hp0;rw[hun]at hpu;have hm:=fun y=>f_same_raw y a ha;rw[hX]at hm;have hr1':r1=if r0*r0=X then r0 else r0*un:=by rw[←hr1,fRoot1,hr0,hun]
 have hR:fRoot X=if r1*r1=X then((if r1.val%2=1 then-r1 else r1),true)else(0,false):=by rw[fRoot,hr1]
 clear hr1;refine Ad func205 J 31 ntmps205 J (G3 ?_);intro n1 hn1 hf1;refine .alloc (cs:=(Aa (List.replicate 32 0))) J A8 J ?_;intro n2 hn2 hf2;refine G4 ?_;refine .draw (oPq [100,301,302,203,404]) Aq zK (.lA J J J Y187.h J Sz187 Z1 (by(simp[ha];done)) ?_);refine .cV J J J J Body253 (field_ones 254 15) tV (.cV J J J J Body252 (hp0) tV (.alloc (cs:=(Aa (List.replicate 32 0))) J A8 J ?_));intro n4 hn4 hf4;refine .sA J J J J zE Sz187 zF Z0 sP zU ?_;refine G2 ?_;refine .join (ι:=Unit) (fun _u=>⟨[(1,ptr n1 0),(2,ptr n2 0),(4,ptr n4 0)],[⟨n4,Aa (fb r1),187,32⟩,⟨n2,Aa (List.replicate 32 0),187,32⟩,⟨n1,Aa a,187,(Aa a).length⟩]⟩) (fun _u=>True) ?_ ?_
 ·
  refine .seq (.draw (oPq [100,101,103,302,304,5]) Aq zK (G2 ?_));refine .lA J J J Y187.h J Sz187 Z2 (by(simp[ha];done)) ?_;refine .cV J J J J Cm (f_mul r0 r0) tV (.cV J J J J Body254 (hm (r0*r0)) tV (G3 ?_));refine .condNP J (fun hc0=>?_) (fun hc0=>?_)
  ·
   refine .draw (oPq [100,301,302,303,304,405]) Aq zK (G1 ?_);refine .cV J J J J Body202 (field_Of 2) tV (.cV J J J J Body253 (field_ones 251 31) tV (.cV J J J J Body252 (hpu) tV (.cV J J J J Cm (f_mul r0 un) tV (G3 ?_))))
   (rw[hr1',if_neg hc0];exact⟨(),trivial,Ah wN (wh1 Z0 (wh1 Z1 (wh1 Z2 wh0))) nD⟩)
  refine G2 ?_
  (rw[hr1',if_pos hc0];exact⟨(),trivial,Ah wN (wh1 Z0 (wh1 Z1 (wh1 Z2 wh0))) nD⟩)
 intro _u hj;skip;refine G2 ?_;refine .draw (oPq [100,101,103,302,304,5]) Aq zK (G2 ?_);refine .lA J J J Y187.h J Sz187 Z2 (by(simp[ha];done)) ?_;refine .cV J J J J Cm (f_mul r1 r1) tV (.cV J J J J Body254 (hm (r1*r1)) tV (G3 ?_));refine .condNP J (fun hc1=>?_) (fun hc1=>?_)
 ·
  refine G2 ?_;refine .build (cs:=Aa (List.replicate 32 0)) J J J (fun w=>by kernel_rfl) ?_;refine .sA J J J J zE Sz187 sP Z1 sP zV ?_;refine G3 ?_;refine G3 ?_;refine⟨_,[],Bg J J J Y187.h J Sz187 Z1 sP,sP,sP,?_,rfl⟩
  (rw[hR,if_neg hc1,fb_zero];done)
 refine G2 ?_;refine .join (ι:=Unit) (fun _u=>⟨[(2,ptr n2 0),(4,ptr n4 0)],[⟨n4,Aa (fb (if r1.val%2=1 then-r1 else r1)),187,32⟩,⟨n2,Aa (List.replicate 32 0),187,32⟩]⟩) (fun _u=>True) ?_ ?_
 ·
  refine G3 ?_;refine .cV J J J J Body255 (f_odd r1) tV (G2 ?_);refine .condP J (fun hc2=>?_) (fun hc2=>?_)
  ·
   refine G2 ?_;refine .cV J J J J Body207 (f_neg r1) tV (G3 ?_)
   (rw[if_pos hc2];exact⟨(),trivial,Ah wN (wh1 Z0 (wh1 Z1 wh0)) nD⟩)
  refine G2 ?_
  (rw[if_neg hc2];exact⟨(),trivial,Ah wN (wh1 Z0 (wh1 Z1 wh0)) nD⟩)
 intro _u hj;skip;refine G3 ?_;refine .sA J J J J zE Sz187 zF Z1 sP zV ?_;refine G3 ?_;refine G2 ?_;refine⟨_,[],Bg J J J Y187.h J Sz187 Z1 (by simp[Ar]),sP,sP,?_,rfl⟩
 (rw[hR,if_pos hc1];done)
end Go.Proofs.YtgjnomgkddbhcaaGreat
namespace Go.Proofs.YtgjnomgkddbhcaaGreat
open Go Hw _root_.Go.Proofs.Tryz
theorem scalar_canon(a:List UInt8)(ha:a.length=32):Mv 159 [agg (Aa a)] (fun _=>True) (.bool (decide (le a<L))):=by
 intro W hW;refine Ad func159 J 7 ntmps159 J (G3 ?_);intro n1 hn1 hf1;refine G5 ?_;refine .lA J J J Y187.h J Sz187 Z0 (by(simp[ha];done)) ?_;refine .cV J J J J Body196 (scalar_load_n _ (by simp[ha])) tV ?_;refine .cV J J J J Body198 (scalar_modulus_n) tV (.cV J J J J Body197 (scalar_below_n _ _ (le32 ha) L_lt) tV (G3 ?_));refine G2 ?_;refine⟨_,[],Af J J,sP,sP,?_,rfl⟩;rfl
theorem scalar_rest(b o c n:Nat)(xs:List UInt8)(hx:xs.length=n)(hn:n≤64):Mv 216 [.slice (some ⟨b,o,none⟩) n c] (fun W=>De W b o (Aa xs)) (.tuple #[agg (Aa (leb 32 (le xs%L))),i64 0]):=by
 intro W hW;refine Ad func216 J 34 ntmps216 J (G2 ?_);refine .alloc (cs:=(Aa (List.replicate 32 0))) J A8 J ?_;intro n2 hn2 hf2;refine G8 ?_;refine .gtr J J J J (decide_eq_false oM) (G2 ?_);refine .cond_f J (rfl) (G4 ?_);refine .alloc (cs:=(Al (List.replicate 8 0))) J Zr152 J ?_;intro n4 hn4 hf4;refine G11 ?_;refine .loop (ι:=Nat) (fun k=>⟨[(2,ptr n2 0),(4,ptr n4 0),(11, .slice (some ⟨b,o,none⟩) n c),(12,i64 (n:Int)),(13,i64 (k:Int))],[⟨n4,Al (words8 (le (xs.take k))),152,8⟩,⟨n2,Aa (List.replicate 32 0),187,32⟩]⟩) (fun k=>k≤n) (fun k=>n-k) (0) ?_ ?_ ?_
 ·omega
 ·exact Ah wN (wh1 (by rw[Le8,show le []=0 from rfl,words8_zero];exact Cb) (wh1 Z1 wh0)) nD
 rintro k hi;refine G6 ?_;refine .condP J (fun hc1=>?_) (fun hc1=>?_)
 ·
  refine G7 ?_;refine .idxSlO J J J J Y33.h Sz5 _ J oM (.loadE J J J Y5.h J sP (hW _ _ (get_bytes oM)) (G4 ?_));refine .draw (oPq [0,1,2,3,104,5,6,7,8,9,10,11,12,413]) Aq zK (G1 ?_);refine .quo_i64 J J J J oM (G1 ?_);refine .i1 J J J J Y152.h Sz30 (7-k/8) oM oM (.load1 J J J Y30.h J Z0 (by exact get_words (by(simp[words8_length];omega))) ?_);refine G3 ?_;refine .rem_i64 J J J J oM (.mul_i64 J J J J oM (.shl_u64 J J J J (8*(k%8)) oM oM (G1 ?_)));refine .i1 J J J J Y152.h Sz30 (7-k/8) oM oM (.s1 J J J J J Sz30 Z0 (by(simp[words8_length];omega)) (by exact Bj _ _ _) zU ?_);refine G8 ?_;exact⟨k+1,by omega,by omega,Ah wN (wh1 (by rw[le_take_succ xs k oM,words8_step _ _ _ (le_take_lt xs k) oM];exact Cb) (wh1 Z1 wh0)) nD⟩
 obtain rfl:k=n:=by omega
 refine G8 ?_;refine .cV J J J J Body257 (scalar_residue _ _ _ 8 (words8 (le (xs.take k))) J oM) (fun W h=>An h Z0) ?_;refine .sA J J J J zB Sz187 (by(simp[Am];done)) Z1 sP zV ?_;refine G3 ?_;refine G2 ?_;refine⟨_,[],Bg J J J Y187.h J Sz187 Z1 (by simp[Am]),sP,sP,?_,rfl⟩;rw[wv_words8 (take_512 xs k oM),La5 oM]
theorem scalar_bit_at(a:List UInt8)(ha:a.length=32)(k:Nat)(hk:k<256):Mv 213 [agg (Aa a),i64 (k:Int)] (fun _=>True) (.bool ((le a).testBit k)):=by
 intro W hW;refine Ad func213 J 22 ntmps213 J (G3 ?_);intro n2 hn2 hf2;refine G6 ?_;refine .geq J J J J (decide_eq_true oM) (G2 ?_);refine .lss J J J J (decide_eq_true oM) (G3 ?_);refine .quo_i64 J J J J oM (.i1 J J J J Y187.h Sz5 (k/8) oM oM (G2 ?_));refine .rem_i64 J J J J oM (.shr_u8 J J J J (k%8) oM oM (.and_u8 J J J (show Ai _ _=some (u8 1)from rfl) (G5 ?_)));refine G2 ?_;refine⟨_,[],Af J J,sP,sP,?_,rfl⟩;rw[←bit_and a k];rfl
open Ed
def ptc(P:Pt Fp):Point:=⟨fb P.x,fb P.y⟩
def wdc(w:Wd Fp):wide:=⟨fb w.x,fb w.y,fb w.z,fb w.t⟩
variable{P:Pt Fp}{b f l:List UInt8}{k:Nat}{r:Fp×Bool}{w:World}
theorem ptc_ok(P:Pt Fp):(ptc P).ok:=⟨C1 _,C1 _⟩
theorem Bq(w:Wd Fp):(wdc w).ok:=⟨C1 _,C1 _,C1 _,C1 _⟩
theorem sees_subC{b o off:Nat}{cs l:List Value}(hs:De w b o cs)(h:∀(j:Nat) (v:Value),l[j]? =some v→cs[off+j]? =some v):De w b (o+off) l:=fun j v hj=>by
  have:=hs _ v (h j v hj);rwa[←Lcd]at this
theorem ptc_inj{P Q:Pt Fp}:ptc P=ptc Q↔P=Q:=⟨fun h=>by
  obtain⟨x,y⟩:=P;obtain⟨z,w⟩:=Q;simp only[ptc,Point.mk.injEq,fb_inj]at h;rw[h.1,h.2],fun h=>by rw[h]⟩
theorem curve_D  :Mv 204 [] (fun _=>True) (agg (Aa (fb fD))):=by
 intro W hW;refine Ad func204 J 2 ntmps204 J (G2 ?_);refine .alloc (cs:=(Aa (List.replicate 32 0))) J A8 J ?_;intro n0 hn0 hf0;refine G4 ?_;refine .build (cs:=Aa (fb fD)) J J J (fun w=>by kernel_rfl) ?_;refine .sA J J J J zE Sz187 zF Z0 sP zU ?_;refine G2 ?_;refine G2 ?_;refine⟨_,[],Aw J J Y187.h J Sz187 Z0 (by simp[Ar]),sP,sP,?_,rfl⟩;rfl
theorem curve_Zero  :Mv 209 [] (fun _=>True) (agg (ptc (zero:Pt Fp)).cells):=by
 intro W hW;refine Ad func209 J 3 ntmps209 J (G2 ?_);refine .alloc (cs:=Point.zero.cells) J Point.zr J ?_;intro n0 hn0 hf0;refine G4 ?_;refine .cV J J J J Body202 (f_one) tV (.build (cs:=(⟨fb 0,fb 1⟩:Point).cells) J J J (fun w=>by kernel_rfl) ?_);refine .sA J J J J (Point.isCell (by exact⟨C1 _,C1 _⟩)) Sz190 (Point.length (by exact⟨C1 _,C1 _⟩)) Z0 (Point.length zZ) zU ?_;refine G2 ?_;refine G2 ?_;refine⟨_,[],Aw J J Y190.h J Sz190 Z0 (by exact Point.length (by exact⟨C1 _,C1 _⟩)),sP,sP,?_,rfl⟩;rfl
theorem base_len(h:k≤32):(Aa (bX++(List.replicate k 102++List.replicate (32-k) 0))).length=64:=by
  rw[Aa,La0,La2,La2,Ldg,Ldg,show bX.length=32 from rfl];omega
theorem base_step(h:k<32):(bX++(List.replicate k (102:UInt8)++List.replicate (32-k) 0)).set (32+k) 102=bX++(List.replicate (k+1) 102++List.replicate (32-(k+1)) 0):=by
  rw[Ldu _ _ (by rw[show bX.length=32 from rfl];omega),show bX.length=32 from rfl,show 32+k-32=k by omega,show 32-k=(32-(k+1))+1 by omega,Lfy,Ldu _ _ sP];simp[Lfo]
theorem base_end:Aa ((bX++(List.replicate 32 (102:UInt8)++List.replicate (32-32) 0)).set 32 88)=(ptc bP).cells:=by
  show _=Aa (fb bP.x)++Aa (fb bP.y);rw[bP_x,bP_y];kernel_rfl
theorem curve_Base  :Mv 162 [] (fun _=>True) (agg (ptc bP).cells):=by
 intro W hW;refine Ad func162 J 15 ntmps162 J (G2 ?_);refine .alloc (cs:=Point.zero.cells) J Point.zr J ?_;intro n0 hn0 hf0;refine G4 ?_;refine .build (cs:=Aa bX) J J J (fun w=>by kernel_rfl) ?_;refine .build (cs:=(⟨bX,List.replicate 32 0⟩:Point).cells) J J J (fun w=>by kernel_rfl) ?_;refine .alloc (cs:=Point.zero.cells) J Point.zr J ?_;intro n1 hn1 hf1;refine .sA J J J J (Point.isCell (by exact⟨rfl,rfl⟩)) Sz190 (Point.length (by exact⟨rfl,rfl⟩)) Z0 (Point.length (by exact⟨rfl,rfl⟩)) zU ?_;refine G9 ?_;refine .loop (ι:=Nat) (fun k=>⟨[(0,ptr n0 0),(1,ptr n1 0),(5,i64 (k:Int))],[⟨n1,Aa (bX++(List.replicate k 102++List.replicate (32-k) 0)),190,64⟩,⟨n0,Point.zero.cells,190,64⟩]⟩) (fun k=>k≤32) (fun k=>32-k) (0) ?_ ?_ ?_
 ·omega
 ·exact Ah wN (wh1 (by rw[show Aa (bX++(List.replicate 0 102++List.replicate (32-0) 0))=(⟨bX,List.replicate 32 0⟩:Point).cells from by kernel_rfl];exact Cb) (wh1 Z1 wh0)) nD
 rintro k hi;refine G6 ?_;refine .condP J (fun hc0=>?_) (fun hc0=>?_)
 ·
  have hk2:k<32:=by omega
  refine G13 ?_;refine .idxArrO J J J J Y187.h Sz5 k J oM (.s1 J J J J J Sz5 Z0 (by rw[base_len oM];exact(show 32+k<64 by omega)) (by exact Bl _ (32+k) 102) zU ?_);refine G8 ?_;exact⟨k+1,by omega,by omega,Ah wN (wh1 (by rw[←base_step hk2];exact Cb) (wh1 Z1 wh0)) nD⟩
 obtain rfl:k=32:=by omega
 refine G8 ?_;refine .idxArrO J J J J Y187.h Sz5 0 J dE (.s1 J J J J J Sz5 Z0 (by rw[base_len oM];exact(show 32+0<64 by decide)) (by exact Bl _ (32+0) 88) zU ?_);rw[base_end];refine G5 ?_;refine .sA J J J J (Point.isCell zP) Sz190 (Point.length zP) Z1 (Point.length (by exact⟨rfl,rfl⟩)) zV ?_;refine G2 ?_;refine G2 ?_;refine⟨_,[],Aw J J Y190.h J Sz190 Z1 (by exact Point.length zP),sP,sP,?_,rfl⟩;rfl
theorem curve_Check(p:Point)(hp:p.ok):Mv 208 [agg p.cells] (fun _=>True) (i64 (pchk p.fX p.fY)):=by
 intro W hW;refine Ad func208 J 38 ntmps208 J (G3 ?_);intro n1 hn1 hf1;refine G7 ?_;refine .lN (Aa _) J J J Y187.h J Sz187 Z0 (Point.row_fX (by exact hp)) (Point.rl_fX (by exact hp)) ?_;refine .callB J J J J Body199 (field_Canon p.fX hp.l_fX) tV (fun hs1_20=>?_) (fun hs1_20=>?_)
 ·
  have hs1_2:=of_decide_eq_true hs1_20;refine G3 ?_;refine .lN (Aa _) J J J Y187.h J Sz187 Z0 (Point.row_fY (by exact hp)) (Point.rl_fY (by exact hp)) ?_;refine .callB J J J J Body199 (field_Canon p.fY hp.l_fY) tV (fun hs1_70=>?_) (fun hs1_70=>?_)
  ·
   have hs1_7:=of_decide_eq_true hs1_70;refine G4 ?_;refine .cond_f J J (G3 ?_);refine .draw (oPq [0,101,2,103,5,106,7,108,304,309,210,211,412,413]) Aq zK (G1 ?_);refine .lN (Aa _) J J J Y187.h J Sz187 Z0 (Point.row_fX (by exact hp)) (Point.rl_fX (by exact hp)) ?_;refine G1 ?_;refine .lN (Aa _) J J J Y187.h J Sz187 Z0 (Point.row_fX (by exact hp)) (Point.rl_fX (by exact hp)) ?_;refine G1 ?_;refine .lN (Aa _) J J J Y187.h J Sz187 Z0 (Point.row_fY (by exact hp)) (Point.rl_fY (by exact hp)) ?_;refine G1 ?_;refine .lN (Aa _) J J J Y187.h J Sz187 Z0 (Point.row_fY (by exact hp)) (Point.rl_fY (by exact hp)) ?_;refine .cV J J J J Cm (field_Mul p.fX p.fX hp.l_fX hp.l_fX) tV (.cV J J J J Cm (field_Mul p.fY p.fY hp.l_fY hp.l_fY) tV (.alloc (cs:=(Aa (List.replicate 32 0))) J A8 J ?_));intro n3 hn3 hf3;refine .alloc (cs:=(Aa (List.replicate 32 0))) J A8 J ?_;intro n4 hn4 hf4;refine .sA J J J J zE Sz187 zF Z1 sP zV ?_;refine .sA J J J J zE Sz187 zF Z0 sP zU ?_;refine G3 ?_;refine .draw (oPq [102,103,300,301,304,305,306,207,408]) Aq zK (G2 ?_);refine .cV J J J J Body202 (f_one) tV (.cV J J J J Body204 (curve_D) tV (.cV J J J J Cm (f_mul _ _) tV (.cV J J J J Cm (f_mul _ _) tV (.cV J J J J Body203 (f_add _ _) tV (.alloc (cs:=(Aa (List.replicate 32 0))) J A8 J ?_)))));intro n5 hn5 hf5;refine .sA J J J J zE Sz187 zF Z0 sP zU ?_;refine G4 ?_;refine .draw (oPq [100,101,103,302,4]) Aq zK (G3 ?_);refine .cV J J J J Body201 (f_sub _ _) tV (.neq_bytes J J J J eqGuardType187 Y187.h Y5.h Sz5 zF zF J (G2 ?_));refine .condNP J (fun hc1=>?_) (fun hc1=>?_)
   ·
    refine G5 ?_;refine G3 ?_;refine⟨_,[],Af J J,sP,sP,?_,rfl⟩;unfold pchk;exact congrArg i64 (if_neg (fun h=>by exact hc1 (fb_inj.2 h.2.2))).symm
   refine G7 ?_;refine G2 ?_;refine⟨_,[],Af J J,sP,sP,?_,rfl⟩;unfold pchk;exact congrArg i64 (if_pos ⟨hs1_2,hs1_7,fb_inj.1 hc1⟩).symm
  have hs1_7:=of_decide_eq_false hs1_70;refine G4 ?_;refine .cond_t J J (G5 ?_);refine G3 ?_;refine⟨_,[],Af J J,sP,sP,?_,rfl⟩;unfold pchk;exact congrArg i64 (if_neg (fun h=>by exact hs1_7 h.2.1)).symm
 have hs1_2:=of_decide_eq_false hs1_20;refine G9 ?_;refine .cond_t J J (G5 ?_);refine G3 ?_;refine⟨_,[],Af J J,sP,sP,?_,rfl⟩;unfold pchk;exact congrArg i64 (if_neg (fun h=>by exact hs1_2 h.1)).symm
theorem curve_Check_on(P:Pt Fp)(h:cv.on P):Mv 208 [agg (ptc P).cells] (fun _=>True) (i64 0):=by
  have h1:=curve_Check (ptc P) (ptc_ok P);rwa[show pchk (ptc P).fX (ptc P).fY=0 from pchk_on h]at h1
theorem curve_widen(P:Pt Fp):Mv 210 [agg (ptc P).cells] (fun _=>True) (agg (wdc (Wd.of P)).cells):=by
 intro W hW;refine Ad func210 J 14 ntmps210 J (G3 ?_);intro n1 hn1 hf1;refine .alloc (cs:=wide.zero.cells) J wide.zr J ?_;intro n2 hn2 hf2;refine G3 ?_;refine .draw (oPq [0,101,2,103,5,106,7,108,304,309,10,411]) Aq zK (G1 ?_);refine .lN (Aa _) J J J Y187.h J Sz187 Z1 (Point.row_fX zP) (Point.rl_fX zP) ?_;refine G1 ?_;refine .lN (Aa _) J J J Y187.h J Sz187 Z1 (Point.row_fY zP) (Point.rl_fY zP) ?_;refine G1 ?_;refine .lN (Aa _) J J J Y187.h J Sz187 Z1 (Point.row_fX zP) (Point.rl_fX zP) ?_;refine G1 ?_;refine .lN (Aa _) J J J Y187.h J Sz187 Z1 (Point.row_fY zP) (Point.rl_fY zP) ?_;refine .cV J J J J Body202 (f_one) tV (.cV J J J J Cm (f_mul P.x P.y) tV (.build (cs:=(wdc (Wd.of P)).cells) J J J (fun w=>by kernel_rfl) ?_));refine .sA J J J J (wide.isCell (by exact Bq _)) Sz233 (wide.length (by exact Bq _)) Z0 (wide.length (by exact wide.zero_ok)) zU ?_;refine G2 ?_;refine G2 ?_;refine⟨_,[],Aw J J Y233.h J Sz233 Z0 (by exact wide.length (by exact Bq _)),sP,sP,?_,rfl⟩;rfl
theorem wide_point(n:Nat)(w:Wd Fp):Mv 214 [ptr n 0] (fun W=>De W n 0 (wdc w).cells) (agg (ptc (⟨w.x*finv w.z,w.y*finv w.z⟩:Pt Fp)).cells):=by
 intro W hW;have hinv:=f_inv w.z;revert hinv;generalize finv w.z=iz;intro hinv;refine Ad func214 J 22 ntmps214 J (.sr (.alloc (cs:=Point.zero.cells) J Point.zr J ?_));intro n2 hn2 hf2;refine .nsr (.m J J J (.nC J J J (.fld J J J Y233.h J Sz187 dE _ J (.loadEN (Aa (fb w.z)) J J J Y187.h J Sz187 sP (by rw[Aa,La0,Ar]) (sees_subC hW (wide.see_fZ (Bq w))) ?_))));refine .cV J J J J Body206 (hinv) tV (.alloc (cs:=(Aa (List.replicate 32 0))) J A8 J ?_);intro n3 hn3 hf3;refine .sA J J J J zE Sz187 zF Z0 sP zU ?_;refine .na (.seq (.draw (oPq [0,1,2,103,104,6,7,8,109,110,305,311,12,413]) Aq zK (.m J J J (.nC J J J (.fld J J J Y233.h J Sz187 dE _ J (.loadEN (Aa (fb w.x)) J J J Y187.h J Sz187 sP (by rw[Aa,La0,Ar]) (sees_subC hW (wide.see_fX (Bq w))) ?_))))));refine .lA J J J Y187.h J Sz187 Z0 zF ?_;refine .m J J J (.nC J J J (.fld J J J Y233.h J Sz187 dE _ J (.loadEN (Aa (fb w.y)) J J J Y187.h J Sz187 sP (by rw[Aa,La0,Ar]) (sees_subC hW (wide.see_fY (Bq w))) ?_)));refine .lA J J J Y187.h J Sz187 Z0 zF ?_;refine .cV J J J J Cm (f_mul _ _) tV (.cV J J J J Cm (f_mul _ _) tV (.build (cs:=(ptc (⟨w.x*iz,w.y*iz⟩:Pt Fp)).cells) J J J (fun w=>by kernel_rfl) ?_));refine .sA J J J J (Point.isCell zP) Sz190 (Point.length zP) Z1 (Point.length zZ) zV ?_;refine .na ?_;refine .ret (C6 ?_);refine⟨_,[],Aw J J Y190.h J Sz190 Z1 (by exact Point.length zP),sP,sP,?_,rfl⟩;rfl
theorem wide_finish(n:Nat)(w:Wd Fp)(e f g h:Fp):Meets prog 256 [ptr n 0,agg (Aa (fb e)),agg (Aa (fb f)),agg (Aa (fb g)),agg (Aa (fb h))] [n] (fun W=>BlkOk W ⟨n,(wdc w).cells,233,128⟩) (fun v out=>out=[⟨n,(wdc (Wd.fin e f g h)).cells,233,128⟩]):=by
 intro W hW;refine calls_of (hp0:=[⟨n,(wdc w).cells,233,128⟩]) func256 J 34 ntmps256 J (HRep.one hW) (G3 ?_);intro n6 hn6 hf6;refine G1 ?_;intro n7 hn7 hf7;refine G1 ?_;intro n8 hn8 hf8;refine G1 ?_;intro n9 hn9 hf9;refine G3 ?_;refine .draw (oPq [0,1,102,103,105,106,304,307,8,9,410,11,12,413]) Aq zK (G6 ?_);refine .cV J J J J Cm (f_mul _ _) tV (.cV J J J J Cm (f_mul _ _) tV (G2 ?_));refine .storeN (Aa _) J J J J J zE Sz187 (by simp[Ar]) Z4 (by rw[wide.length (by exact Bq _)];simp[Ar]) (wide.upd_fX (by exact Bq _) _ (by simp[Ar])) (by exact upd4) ?_;refine G2 ?_;refine .storeN (Aa _) J J J J J zE Sz187 (by simp[Ar]) Z4 (by rw[wide.length (by exact⟨C1 _,C1 _,C1 _,C1 _⟩)];simp[Ar]) (wide.upd_fY (by exact⟨C1 _,C1 _,C1 _,C1 _⟩) _ (by simp[Ar])) (by exact upd4) ?_;refine G2 ?_;refine .draw (oPq [0,1,102,103,105,106,304,307,8,9,410,11,12,413]) Aq zK (G6 ?_);refine .cV J J J J Cm (f_mul _ _) tV (.cV J J J J Cm (f_mul _ _) tV (G2 ?_));refine .storeN (Aa _) J J J J J zE Sz187 (by simp[Ar]) Z4 (by rw[wide.length (by exact⟨C1 _,C1 _,C1 _,C1 _⟩)];simp[Ar]) (wide.upd_fZ (by exact⟨C1 _,C1 _,C1 _,C1 _⟩) _ (by simp[Ar])) (by exact upd4) ?_;refine G2 ?_;refine .storeN (Aa _) J J J J J zE Sz187 (by simp[Ar]) Z4 (by rw[wide.length (by exact⟨C1 _,C1 _,C1 _,C1 _⟩)];simp[Ar]) (wide.upd_fT (by exact⟨C1 _,C1 _,C1 _,C1 _⟩) _ (by simp[Ar])) (by exact upd4) ?_;refine G2 ?_;exact⟨_,[⟨n,(wdc (Wd.fin e f g h)).cells,233,128⟩],res_none rfl,(fun b hb=>by rw[La1.1 hb];exact Z4),nodup1,rfl⟩
theorem wide_add(n q:Nat)(w p:Wd Fp)(tw:Fp):Meets prog 211 [ptr n 0,ptr q 0,agg (Aa (fb tw))] [n] (fun W=>BlkOk W ⟨n,(wdc w).cells,233,128⟩∧De W q 0 (wdc p).cells∧q≠n) (fun v out=>out=[⟨n,(wdc (Wd.fin ((w.y+w.x)*(p.y+p.x)-(w.y-w.x)*(p.y-p.x)) (w.z*p.z+w.z*p.z-w.t*tw*p.t) (w.z*p.z+w.z*p.z+w.t*tw*p.t) ((w.y+w.x)*(p.y+p.x)+(w.y-w.x)*(p.y-p.x)))).cells,233,128⟩]):=by
 intro W hW;refine calls_of (hp0:=[⟨n,(wdc w).cells,233,128⟩]) func211 J 85 ntmps211 J (HRep.one hW.1) (G3 ?_);intro n5 hn5 hf5;refine G3 ?_;refine .draw (oPq [0,1,2,103,4,5,6,107,9,10,11,112,13,14,15,116,308,317,318,219,420]) Aq zK (G3 ?_);refine .lN (Aa _) J J J Y187.h J Sz187 Z1 (wide.row_fY (by exact Bq _)) (wide.rl_fY (by exact Bq _)) ?_;refine G3 ?_;refine .lN (Aa _) J J J Y187.h J Sz187 Z1 (wide.row_fX (by exact Bq _)) (wide.rl_fX (by exact Bq _)) ?_;refine G3 ?_;refine .loadEN (Aa (fb p.y)) J J J Y187.h J Sz187 (by simp;exact hW.2.2) (by rw[Aa,La0,Ar]) (sees_subC hW.2.1 (wide.see_fY (Bq p))) ?_;refine G3 ?_;refine .loadEN (Aa (fb p.x)) J J J Y187.h J Sz187 (by simp;exact hW.2.2) (by rw[Aa,La0,Ar]) (sees_subC hW.2.1 (wide.see_fX (Bq p))) ?_;refine .cV J J J J Body201 (f_sub _ _) tV (.cV J J J J Body201 (f_sub _ _) tV (.cV J J J J Cm (f_mul _ _) tV (.alloc (cs:=(Aa (List.replicate 32 0))) J A8 J ?_)));intro n6 hn6 hf6;refine .sA J J J J zE Sz187 zF Z0 sP zU ?_;refine G3 ?_;refine .draw (oPq [0,1,2,103,4,5,6,107,9,10,11,112,13,14,15,116,308,317,318,219,420]) Aq zK (G3 ?_);refine .lN (Aa _) J J J Y187.h J Sz187 Z2 (wide.row_fY (by exact Bq _)) (wide.rl_fY (by exact Bq _)) ?_;refine G3 ?_;refine .lN (Aa _) J J J Y187.h J Sz187 Z2 (wide.row_fX (by exact Bq _)) (wide.rl_fX (by exact Bq _)) ?_;refine G3 ?_;refine .loadEN (Aa (fb p.y)) J J J Y187.h J Sz187 (by simp;exact hW.2.2) (by rw[Aa,La0,Ar]) (sees_subC hW.2.1 (wide.see_fY (Bq p))) ?_;refine G3 ?_;refine .loadEN (Aa (fb p.x)) J J J Y187.h J Sz187 (by simp;exact hW.2.2) (by rw[Aa,La0,Ar]) (sees_subC hW.2.1 (wide.see_fX (Bq p))) ?_;refine .cV J J J J Body203 (f_add _ _) tV (.cV J J J J Body203 (f_add _ _) tV (.cV J J J J Cm (f_mul _ _) tV (.alloc (cs:=(Aa (List.replicate 32 0))) J A8 J ?_)));intro n7 hn7 hf7;refine .sA J J J J zE Sz187 zF Z0 sP zU ?_;refine G3 ?_;refine .draw (oPq [0,1,2,103,104,6,7,8,109,305,310,211,412]) Aq zK (G3 ?_);refine .lN (Aa _) J J J Y187.h J Sz187 Z3 (wide.row_fT (by exact Bq _)) (wide.rl_fT (by exact Bq _)) ?_;refine G4 ?_;refine .loadEN (Aa (fb p.t)) J J J Y187.h J Sz187 (by simp;exact hW.2.2) (by rw[Aa,La0,Ar]) (sees_subC hW.2.1 (wide.see_fT (Bq p))) ?_;refine .cV J J J J Cm (f_mul _ _) tV (.cV J J J J Cm (f_mul _ _) tV (.alloc (cs:=(Aa (List.replicate 32 0))) J A8 J ?_));intro n8 hn8 hf8;refine .sA J J J J zE Sz187 zF Z0 sP zU ?_;refine G3 ?_;refine .draw (oPq [0,1,2,103,4,5,6,107,308,209,410]) Aq zK (G3 ?_);refine .lN (Aa _) J J J Y187.h J Sz187 Z4 (wide.row_fZ (by exact Bq _)) (wide.rl_fZ (by exact Bq _)) ?_;refine G3 ?_;refine .loadEN (Aa (fb p.z)) J J J Y187.h J Sz187 (by simp;exact hW.2.2) (by rw[Aa,La0,Ar]) (sees_subC hW.2.1 (wide.see_fZ (Bq p))) ?_;refine .cV J J J J Cm (f_mul _ _) tV (.alloc (cs:=(Aa (List.replicate 32 0))) J A8 J ?_);intro n9 hn9 hf9;refine .sA J J J J zE Sz187 zF Z0 sP zU ?_;refine G6 ?_
 refine .cV J J J J Body203 (f_add _ _) tV (G3 ?_);refine .draw (oPq [0,101,102,104,105,107,108,110,111,303,306,309,312,413]) Aq zK (G9 ?_);refine .cV J J J J Body201 (f_sub _ _) tV (.cV J J J J Body201 (f_sub _ _) tV (.cV J J J J Body203 (f_add _ _) tV (.cV J J J J Body203 (f_add _ _) tV (.callL (L:=[⟨n,(wdc w).cells,233,128⟩]) J J J J J Body256 (wide_finish n w ((w.y+w.x)*(p.y+p.x)-(w.y-w.x)*(p.y-p.x)) (w.z*p.z+w.z*p.z-w.t*tw*p.t) (w.z*p.z+w.z*p.z+w.t*tw*p.t) ((w.y+w.x)*(p.y+p.x)+(w.y-w.x)*(p.y-p.x))) (Ab rM Ae) (C5 J) (fun w h=>B5 h (by exact mem5)) ?_))));rintro v84 out84 rfl;refine G2 ?_;exact⟨_,[⟨n,(wdc (Wd.fin ((w.y+w.x)*(p.y+p.x)-(w.y-w.x)*(p.y-p.x)) (w.z*p.z+w.z*p.z-w.t*tw*p.t) (w.z*p.z+w.z*p.z+w.t*tw*p.t) ((w.y+w.x)*(p.y+p.x)+(w.y-w.x)*(p.y-p.x)))).cells,233,128⟩],res_none rfl,(fun b hb=>by rw[La1.1 hb];exact Z0),nodup1,rfl⟩
theorem wide_double(n:Nat)(w:Wd Fp):Meets prog 212 [ptr n 0] [n] (fun W=>BlkOk W ⟨n,(wdc w).cells,233,128⟩) (fun v out=>out=[⟨n,(wdc (Wd.dbl w)).cells,233,128⟩]):=by
 intro W hW;refine calls_of (hp0:=[⟨n,(wdc w).cells,233,128⟩]) func212 J 66 ntmps212 J (HRep.one hW) (.seq (.draw (oPq [0,1,2,103,4,5,6,107,9,10,11,112,13,14,15,116,18,19,20,121,22,23,24,125,308,317,326,227,228,229,430,431,432]) Aq zK (G3 ?_)));refine .lN (Aa _) J J J Y187.h J Sz187 Z0 (wide.row_fX (by exact Bq _)) (wide.rl_fX (by exact Bq _)) ?_;refine G3 ?_;refine .lN (Aa _) J J J Y187.h J Sz187 Z0 (wide.row_fX (by exact Bq _)) (wide.rl_fX (by exact Bq _)) ?_;refine G3 ?_;refine .lN (Aa _) J J J Y187.h J Sz187 Z0 (wide.row_fY (by exact Bq _)) (wide.rl_fY (by exact Bq _)) ?_;refine G3 ?_;refine .lN (Aa _) J J J Y187.h J Sz187 Z0 (wide.row_fY (by exact Bq _)) (wide.rl_fY (by exact Bq _)) ?_;refine G3 ?_;refine .lN (Aa _) J J J Y187.h J Sz187 Z0 (wide.row_fZ (by exact Bq _)) (wide.rl_fZ (by exact Bq _)) ?_;refine G3 ?_;refine .lN (Aa _) J J J Y187.h J Sz187 Z0 (wide.row_fZ (by exact Bq _)) (wide.rl_fZ (by exact Bq _)) ?_;refine .cV J J J J Cm (f_mul _ _) tV (.cV J J J J Cm (f_mul _ _) tV (.cV J J J J Cm (f_mul _ _) tV (.alloc (cs:=(Aa (List.replicate 32 0))) J A8 J ?_)));intro n2 hn2 hf2;refine .alloc (cs:=(Aa (List.replicate 32 0))) J A8 J ?_;intro n3 hn3 hf3;refine .alloc (cs:=(Aa (List.replicate 32 0))) J A8 J ?_;intro n4 hn4 hf4;refine .sA J J J J zE Sz187 zF Z2 sP (by exact upd2) ?_;refine .sA J J J J zE Sz187 zF Z1 sP zV ?_;refine .sA J J J J zE Sz187 zF Z0 sP zU ?_;refine G3 ?_;refine .draw (oPq [0,1,2,103,4,5,6,107,308,209,410]) Aq zK (G3 ?_);refine .lN (Aa _) J J J Y187.h J Sz187 Z3 (wide.row_fX (by exact Bq _)) (wide.rl_fX (by exact Bq _)) ?_;refine G3 ?_;refine .lN (Aa _) J J J Y187.h J Sz187 Z3 (wide.row_fY (by exact Bq _)) (wide.rl_fY (by exact Bq _)) ?_;refine .cV J J J J Body203 (f_add _ _) tV (.alloc (cs:=(Aa (List.replicate 32 0))) J A8 J ?_);intro n5 hn5 hf5;refine .sA J J J J zE Sz187 zF Z0 sP zU ?_;refine G6 ?_;refine .cV J J J J Body203 (f_add _ _) tV (.alloc (cs:=(Aa (List.replicate 32 0))) J A8 J ?_);intro n6 hn6 hf6;refine .sA J J J J zE Sz187 zF Z0 sP zU ?_;refine G3 ?_;refine .draw (oPq [100,101,102,303,304,205,406]) Aq zK (G3 ?_);refine .cV J J J J Cm (f_mul _ _) tV (.cV J J J J Body201 (f_sub _ _) tV (.alloc (cs:=(Aa (List.replicate 32 0))) J A8 J ?_));intro n7 hn7 hf7;refine .sA J J J J zE Sz187 zF Z0 sP zU ?_;refine G6 ?_;refine .cV J J J J Body201 (f_sub _ _) tV (.alloc (cs:=(Aa (List.replicate 32 0))) J A8 J ?_);intro n8 hn8 hf8;refine .sA J J J J zE Sz187 zF Z0 sP zU ?_;refine G2 ?_;refine .draw (oPq [0,101,102,103,105,107,108,304,306,409]) Aq zK (G7 ?_);refine .cV J J J J Body203 (f_add _ _) tV (.cV J J J J Body203 (f_add _ _) tV (.callL (L:=[⟨n,(wdc w).cells,233,128⟩]) J J J J J Body256 (wide_finish n w (w.x*w.x+w.y*w.y-(w.x+w.y)*(w.x+w.y)) (w.z*w.z+w.z*w.z+(w.x*w.x-w.y*w.y)) (w.x*w.x-w.y*w.y) (w.x*w.x+w.y*w.y)) (Ab rM Ae) (C5 J) (fun w h=>B5 h (by exact mem7)) ?_));rintro v65 out65 rfl;refine G2 ?_
 exact⟨_,[⟨n,(wdc (Wd.dbl w)).cells,233,128⟩],res_none rfl,(fun b hb=>by rw[La1.1 hb];exact Z0),nodup1,rfl⟩
theorem own_ne{C:Cx}{hp R:List Blk}{b1 b2:Blk}(h:HRep C hp w)(p:hp.Perm ((b1::b2::[])++R)):b2.n≠b1.n:=fun e=>by
  have:=(p.map (·.n)).nodup_iff.1 h.nodup;simp[e]at this
theorem wide_addD(n q:Nat)(w p:Wd Fp):Meets prog 211 [ptr n 0,ptr q 0,agg (Aa (fb (fD+fD)))] [n] (fun W=>BlkOk W ⟨n,(wdc w).cells,233,128⟩∧De W q 0 (wdc p).cells∧q≠n) (fun v out=>out=[⟨n,(wdc (Wd.add fD w p)).cells,233,128⟩]):=wide_add n q w p (fD+fD)
theorem wide_pointR(n:Nat)(w:Wd Fp)(R:Pt Fp)(hw:w.rep R):Mv 214 [ptr n 0] (fun W=>De W n 0 (wdc w).cells) (agg (ptc R).cells):=by
  have h:=wide_point n w;have e:(⟨w.x*finv w.z,w.y*finv w.z⟩:Pt Fp)=R:=cv.rep_pt hw;rwa[e]at h
theorem pair_eg:prog.eqGuardType prog.depth 239=false:=by kernel_rfl
theorem pair_eq(a b c d:Bool)(w:World):(Op.equalIn 10000 239 (agg [.bool a, .bool b]) (agg [.bool c, .bool d])).run prog w= .ok (a==c&&b==d) w:=by
  cases a<;>cases b<;>cases c<;>cases d<;>kernel_rfl
theorem curve_Mul2(a b:List UInt8)(P Q:Pt Fp)(ha:a.length=32)(hb:b.length=32)(hP:cv.on P)(hQ:cv.on Q):Mv 161 [agg (Aa a),agg (ptc P).cells,agg (Aa b),agg (ptc Q).cells] (fun _=>True) (agg (ptc (cv.lin (le a) (le b) P Q)).cells):=by
 intro W hW;refine Ad func161 J 65 ntmps161 J (.sr (.boxA J J ?_));intro n4 hn4 hf4;refine .boxA J J ?_;intro n5 hn5 hf5;refine .boxA J J ?_;intro n6 hn6 hf6;refine .boxA J J ?_;intro n7 hn7 hf7;refine .alloc (cs:=Point.zero.cells) J Point.zr J ?_;intro n8 hn8 hf8;refine .na (.seq (.sr (.lA J J J Y190.h J Sz190 Z3 (Point.length zP) ?_)));refine .cV J J J J Body208 (curve_Check_on P hP) tV (.nei J J J J (show(!decide _)=false from congrArg not (decide_eq_true (rfl))) (.m J J J (.lA J J J Y190.h J Sz190 Z1 (Point.length zP) ?_)));refine .cV J J J J Body208 (curve_Check_on Q hQ) tV (.nei J J J J (show(!decide _)=false from congrArg not (decide_eq_true (rfl))) (.pick J J J J J J (.na (.cond_f J J (.skip (A7 (.sr (.cV J J J J Body204 (curve_D) tV (.cV J J J J Body204 (curve_D) tV (.cV J J J J Body203 (f_add _ _) tV (.alloc (cs:=(Aa (List.replicate 32 0))) J A8 J ?_)))))))))));intro n9 hn9 hf9;refine .sA J J J J zE Sz187 zF Z0 sP zU ?_;refine .na (.seq (.draw (oPq [100,102,104,301,303,305,306,307,208,209,210,211,412,413,414,415]) Aq zK (.lA J J J Y190.h J Sz190 Z4 (Point.length zP) ?_)));refine .lA J J J Y190.h J Sz190 Z2 (Point.length zP) ?_;refine .lA J J J Y190.h J Sz190 Z4 (Point.length zP) ?_;refine .cV J J J J Body210 (curve_widen P) tV (.cV J J J J Body210 (curve_widen Q) tV (.cV J J J J Body210 (curve_widen P) tV (.cV J J J J Body209 (curve_Zero) tV (.cV J J J J Body210 (curve_widen (zero:Pt Fp)) tV (.alloc (cs:=wide.zero.cells) J wide.zr J ?_)))));intro n10 hn10 hf10;refine .alloc (cs:=wide.zero.cells) J wide.zr J ?_;intro n11 hn11 hf11;refine .alloc (cs:=wide.zero.cells) J wide.zr J ?_;intro n12 hn12 hf12;refine .alloc (cs:=wide.zero.cells) J wide.zr J ?_;intro n13 hn13 hf13;refine .sA J J J J (wide.isCell (by exact Bq _)) Sz233 (wide.length (by exact Bq _)) Z3 (wide.length (by exact wide.zero_ok)) (by exact upd3) ?_;refine .sA J J J J (wide.isCell (by exact Bq _)) Sz233 (wide.length (by exact Bq _)) Z2 (wide.length (by exact wide.zero_ok)) (by exact upd2) ?_;refine .sA J J J J (wide.isCell (by exact Bq _)) Sz233 (wide.length (by exact Bq _)) Z1 (wide.length (by exact wide.zero_ok)) zV ?_;refine .sA J J J J (wide.isCell (by exact Bq _)) Sz233 (wide.length (by exact Bq _)) Z0 (wide.length (by exact wide.zero_ok)) zU ?_;refine .nsr (.lA J J J Y187.h J Sz187 Z4 zF ?_);refine .callL (L:=[⟨n12,(wdc (Wd.of P)).cells,233,128⟩]) J J J J J Body211 (wide_addD n12 n11 (Wd.of P) (Wd.of Q)) (Ab rM Ae) (C5 J) (fun w h=>⟨B5 h Z1,An h Z2,own_ne (b1:=⟨n12,(wdc (Wd.of P)).cells,233,128⟩) (b2:=⟨n11,(wdc (Wd.of Q)).cells,233,128⟩) h (Ab rM (Ab rM Ae))⟩) ?_;rintro v36 out36 rfl;simp only[Lak,Lah]
 refine .na (.seq (.sr (.a J J J (.na (.block (.loop (ι:=Nat×Wd Fp) (fun p=>⟨[(4,ptr n4 0),(6,ptr n6 0),(8,ptr n8 0),(9,ptr n9 0),(10,ptr n10 0),(11,ptr n11 0),(12,ptr n12 0),(13,ptr n13 0),(14,i64 (255-(p.1:Int)))],[⟨n13,(wdc p.2).cells,233,128⟩,⟨n12,(wdc (Wd.add fD (Wd.of P) (Wd.of Q))).cells,233,128⟩,⟨n11,(wdc (Wd.of Q)).cells,233,128⟩,⟨n10,(wdc (Wd.of P)).cells,233,128⟩,⟨n9,Aa (fb (fD+fD)),187,32⟩,⟨n8,Point.zero.cells,190,64⟩,⟨n6,Aa b,187,(Aa b).length⟩,⟨n4,Aa a,187,(Aa a).length⟩]⟩) (fun p=>p.1≤256∧p.2.rep (cv.lin (le a/2^(256-p.1)) (le b/2^(256-p.1)) P Q)) (fun p=>256-p.1) ((0,Wd.of zero)) ?_ ?_ ?_))))))
 ·exact⟨Lan _,lin_first a b ha hb P Q⟩
 ·exact Ag wN (Ab rM (Ab rM (Ab rM (Ab rM (Ab rM (Ab rM (Ab rM (Ab rM Ae))))))))
 rintro p ⟨hj1,hw⟩;refine .seq (.sr (.m J J J (.geq J J J J J (.na (.condP J (fun hc1=>?_) (fun hc1=>?_))))))
 ·
  have hj:p.1<256:=by omega
  refine .skip (A7 (.join (ι:=Wd Fp) (fun u=>⟨[(4,ptr n4 0),(6,ptr n6 0),(8,ptr n8 0),(9,ptr n9 0),(10,ptr n10 0),(11,ptr n11 0),(12,ptr n12 0),(13,ptr n13 0),(14,i64 (((255-p.1:Nat):Int)))],[⟨n13,(wdc u).cells,233,128⟩,⟨n12,(wdc (Wd.add fD (Wd.of P) (Wd.of Q))).cells,233,128⟩,⟨n11,(wdc (Wd.of Q)).cells,233,128⟩,⟨n10,(wdc (Wd.of P)).cells,233,128⟩,⟨n9,Aa (fb (fD+fD)),187,32⟩,⟨n8,Point.zero.cells,190,64⟩,⟨n6,Aa b,187,(Aa b).length⟩,⟨n4,Aa a,187,(Aa a).length⟩]⟩) (fun u=>u.rep (cv.lin (le a/2^(256-(p.1+1))) (le b/2^(256-(p.1+1))) P Q)) ?_ ?_))
  ·
   refine .block (.sr (.callL (L:=[⟨n13,(wdc p.2).cells,233,128⟩]) J J J J J Body212 (wide_double n13 p.2) (Ab rM Ae) (C5 J) (fun w h=>B5 h Z0) ?_));rintro v41 out41 rfl;simp only[Lak,Lah];rw[show(255:Int)-(p.1:Int)=((255-p.1:Nat):Int) by omega];refine .na (.seq (.draw (oPq [100,1,103,4,302,305,6]) Aq zK (.lA J J J Y187.h J Sz187 (by exact mem7) (by(simp[ha];done)) ?_)));refine .m J J J (.lA J J J Y187.h J Sz187 (by exact mem6) (by(simp[hb];done)) ?_);refine .m J J J (.callB J J J J Body213 (scalar_bit_at a ha (255-p.1) oM) tV (fun hs10_20=>?_) (fun hs10_20=>?_))
   ·
    have hs10_2:=nd_t hs10_20;have hs10_2:=hs10_20;refine .callB J J J J Body213 (scalar_bit_at b hb (255-p.1) oM) tV (fun hs10_50=>?_) (fun hs10_50=>?_)
    ·
     have hs10_5:=nd_t hs10_50;have hs10_5:=hs10_50;refine .build (cs:=[.bool true, .bool true]) J J J (fun w=>by kernel_rfl) ?_;refine .na (.block (.sr (.build (cs:=[.bool true, .bool true]) J J J (fun w=>by kernel_rfl) ?_)));refine .eql_rec (q:=(true==true&&true==true)) (r:=true) J J J J pair_eg (fun w=>pair_eq true true true true w) J (.a J J J (.na (.cond_t J J (.region (.lA J J J Y187.h J Sz187 Z4 zF ?_)))));refine .callL (L:=[⟨n13,(wdc (Wd.dbl p.2)).cells,233,128⟩]) J J J J J Body211 (wide_addD n13 n12 (Wd.dbl p.2) (Wd.add fD (Wd.of P) (Wd.of Q))) (Ab rM Ae) (C5 J) (fun w h=>⟨B5 h Z0,An h Z1,own_ne (b1:=⟨n13,(wdc (Wd.dbl p.2)).cells,233,128⟩) (b2:=⟨n12,(wdc (Wd.add fD (Wd.of P) (Wd.of Q))).cells,233,128⟩) h (Ab rM (Ab rM Ae))⟩) ?_;rintro v53 out53 rfl;simp only[Lak,Lah];refine .nil (bl_n (bl_n (A7 ?_)))
     (exact⟨Wd.add fD (Wd.dbl p.2) (Wd.add fD (Wd.of P) (Wd.of Q)),(by rw[lin_tt hj hP hQ hs10_2 hs10_5];exact cv.rep_add (cv.rep_dbl hw (cv.on_lin hP hQ _ _)) (cv.rep_add (cv.rep_of P) (cv.rep_of Q) hP hQ) (cv.on_add (cv.on_lin hP hQ _ _) (cv.on_lin hP hQ _ _)) (cv.on_add hP hQ)),Ag wN (Ab rM (Ab rM (Ab rM (Ab rM (Ab rM (Ab rM (Ab rM (Ab rM Ae))))))))⟩)
    have hs10_5:=nd_f hs10_50;have hs10_5:=hs10_50;refine .build (cs:=[.bool true, .bool false]) J J J (fun w=>by kernel_rfl) ?_;refine .na (.block (.sr (.build (cs:=[.bool true, .bool true]) J J J (fun w=>by kernel_rfl) ?_)));refine .eql_rec (q:=(true==true&&false==true)) (r:=false) J J J J pair_eg (fun w=>pair_eq true false true true w) J (.a J J J (.na (.cond_f J J (.sr (.build (cs:=[.bool true, .bool false]) J J J (fun w=>by kernel_rfl) ?_)))));refine .eql_rec (q:=(true==true&&false==false)) (r:=true) J J J J pair_eg (fun w=>pair_eq true false true false w) J (.a J J J (.na (.cond_t J J (.region (.lA J J J Y187.h J Sz187 Z4 zF ?_)))));refine .callL (L:=[⟨n13,(wdc (Wd.dbl p.2)).cells,233,128⟩]) J J J J J Body211 (wide_addD n13 n10 (Wd.dbl p.2) (Wd.of P)) (Ab rM Ae) (C5 J) (fun w h=>⟨B5 h Z0,An h Z3,own_ne (b1:=⟨n13,(wdc (Wd.dbl p.2)).cells,233,128⟩) (b2:=⟨n10,(wdc (Wd.of P)).cells,233,128⟩) h (Ab rM (Ab rM Ae))⟩) ?_;rintro v58 out58 rfl;simp only[Lak,Lah];refine .nil (bl_n (bl_n (A7 ?_)))
    (exact⟨Wd.add fD (Wd.dbl p.2) (Wd.of P),(by rw[lin_tf hj hP hQ hs10_2 hs10_5];exact cv.rep_add (cv.rep_dbl hw (cv.on_lin hP hQ _ _)) (cv.rep_of P) (cv.on_add (cv.on_lin hP hQ _ _) (cv.on_lin hP hQ _ _)) hP),Ag wN (Ab rM (Ab rM (Ab rM (Ab rM (Ab rM (Ab rM (Ab rM (Ab rM Ae))))))))⟩)
   have hs10_2:=nd_f hs10_20;have hs10_2:=hs10_20;refine .callB J J J J Body213 (scalar_bit_at b hb (255-p.1) oM) tV (fun hs10_50=>?_) (fun hs10_50=>?_)
   ·
    have hs10_5:=nd_t hs10_50;have hs10_5:=hs10_50;refine .build (cs:=[.bool false, .bool true]) J J J (fun w=>by kernel_rfl) ?_;refine .na (.block (.sr (.build (cs:=[.bool true, .bool true]) J J J (fun w=>by kernel_rfl) ?_)));refine .eql_rec (q:=(false==true&&true==true)) (r:=false) J J J J pair_eg (fun w=>pair_eq false true true true w) J (.a J J J (.na (.cond_f J J (.sr (.build (cs:=[.bool true, .bool false]) J J J (fun w=>by kernel_rfl) ?_)))));refine .eql_rec (q:=(false==true&&true==false)) (r:=false) J J J J pair_eg (fun w=>pair_eq false true true false w) J (.a J J J (.na (.cond_f J J (.sr (.build (cs:=[.bool false, .bool true]) J J J (fun w=>by kernel_rfl) ?_)))));refine .eql_rec (q:=(false==false&&true==true)) (r:=true) J J J J pair_eg (fun w=>pair_eq false true false true w) J (.a J J J (.na (.cond_t J J (.region (.lA J J J Y187.h J Sz187 Z4 zF ?_)))));refine .callL (L:=[⟨n13,(wdc (Wd.dbl p.2)).cells,233,128⟩]) J J J J J Body211 (wide_addD n13 n11 (Wd.dbl p.2) (Wd.of Q)) (Ab rM Ae) (C5 J) (fun w h=>⟨B5 h Z0,An h Z2,own_ne (b1:=⟨n13,(wdc (Wd.dbl p.2)).cells,233,128⟩) (b2:=⟨n11,(wdc (Wd.of Q)).cells,233,128⟩) h (Ab rM (Ab rM Ae))⟩) ?_;rintro v63 out63 rfl;simp only[Lak,Lah];refine .nil (bl_n (bl_n (A7 ?_)))
    (exact⟨Wd.add fD (Wd.dbl p.2) (Wd.of Q),(by rw[lin_ft hj hP hQ hs10_2 hs10_5];exact cv.rep_add (cv.rep_dbl hw (cv.on_lin hP hQ _ _)) (cv.rep_of Q) (cv.on_add (cv.on_lin hP hQ _ _) (cv.on_lin hP hQ _ _)) hQ),Ag wN (Ab rM (Ab rM (Ab rM (Ab rM (Ab rM (Ab rM (Ab rM (Ab rM Ae))))))))⟩)
   have hs10_5:=nd_f hs10_50;have hs10_5:=hs10_50;refine .build (cs:=[.bool false, .bool false]) J J J (fun w=>by kernel_rfl) ?_;refine .na (.block (.sr (.build (cs:=[.bool true, .bool true]) J J J (fun w=>by kernel_rfl) ?_)));refine .eql_rec (q:=(false==true&&false==true)) (r:=false) J J J J pair_eg (fun w=>pair_eq false false true true w) J (.a J J J (.na (.cond_f J J (.sr (.build (cs:=[.bool true, .bool false]) J J J (fun w=>by kernel_rfl) ?_)))));refine .eql_rec (q:=(false==true&&false==false)) (r:=false) J J J J pair_eg (fun w=>pair_eq false false true false w) J (.a J J J (.na (.cond_f J J (.sr (.build (cs:=[.bool false, .bool true]) J J J (fun w=>by kernel_rfl) ?_)))));refine .eql_rec (q:=(false==false&&false==true)) (r:=false) J J J J pair_eg (fun w=>pair_eq false false false true w) J (.a J J J (.na (.cond_f J J (.skip (bl_n (bl_n (A7 ?_)))))))
   (exact⟨Wd.dbl p.2,(by rw[lin_ff hj hP hQ hs10_2 hs10_5];exact(cv.rep_dbl hw (cv.on_lin hP hQ _ _))),Ag wN (Ab rM (Ab rM (Ab rM (Ab rM (Ab rM (Ab rM (Ab rM (Ab rM Ae))))))))⟩)
  intro u hj;have hu:=hj;refine .region (.m J J J (.sub_i64 J J J J oM (.a J J J (.na ?_))));exact⟨(p.1+1,u),⟨by simp only[];omega,hu⟩,by simp only[];omega,Ag (wk1 rfl (wk1 rfl (wk1 rfl (wk1 rfl (wk1 rfl (wk1 rfl (wk1 rfl (wk1 rfl (wk1 (congrArg (fun z=>some (i64 z)) (show((255-p.1:Nat):Int)-1=255-((p.1+1:Nat):Int) by omega)) wk0))))))))) (Ab rM (Ab rM (Ab rM (Ab rM (Ab rM (Ab rM (Ab rM (Ab rM Ae))))))))⟩
 have hje:p.1=256:=by omega
 have hfin:p.2.rep (cv.lin (le a) (le b) P Q):=by rw[hje,lin_last]at hw;exact hw
 refine .exit (at_x (at_x (bl_h (A7 (.sr (.cV J J J J Body214 (wide_pointR n13 p.2 _ hfin) (fun w h=>An h Z0) ?_))))));refine .sA J J J J (Point.isCell zP) Sz190 (Point.length zP) (by exact mem5) (Point.length zZ) (by exact upd5) ?_;refine .na ?_;refine .ret (C6 ?_);refine⟨_,[],Aw J J Y190.h J Sz190 (by exact mem5) (by exact Point.length zP),sP,sP,?_,rfl⟩;rfl
theorem ptc_y(P:Pt Fp):(ptc P).fY=fb P.y:=rfl
theorem le_zero32:le (List.replicate 32 0)=0:=by kernel_rfl
theorem curve_Neg(P:Pt Fp)(hP:cv.on P):Mv 164 [agg (ptc P).cells] (fun _=>True) (agg (ptc (neg P)).cells):=by
 intro W hW;refine Ad func164 J 13 ntmps164 J (.sr (.boxA J J ?_));intro n1 hn1 hf1;refine .alloc (cs:=Point.zero.cells) J Point.zr J ?_;intro n2 hn2 hf2;refine .na (.seq (.sr (.lA J J J Y190.h J Sz190 Z1 (Point.length zP) ?_)));refine .cV J J J J Body208 (curve_Check_on P hP) tV (.nei J J J J (show(!decide _)=false from congrArg not (decide_eq_true (rfl))) (.na (.cond_f J (rfl) (.skip (A7 (.seq (.draw (oPq [0,101,3,104,302,5,406]) Aq zK (.fld J J J Y190.h J Sz187 dE _ J (.lN (Aa _) J J J Y187.h J Sz187 Z1 (Point.row_fX zP) (Point.rl_fX zP) ?_)))))))));refine .fld J J J Y190.h J Sz187 dE _ J (.lN (Aa _) J J J Y187.h J Sz187 Z1 (Point.row_fY zP) (Point.rl_fY zP) ?_);refine .cV J J J J Body207 (f_neg _) tV (.build (cs:=(ptc (neg P)).cells) J J J (fun w=>by kernel_rfl) ?_);refine .sA J J J J (Point.isCell zP) Sz190 (Point.length zP) Z0 (Point.length zZ) zU ?_;refine .na ?_;refine .ret (C6 ?_);refine⟨_,[],Aw J J Y190.h J Sz190 Z0 (by exact Point.length zP),sP,sP,?_,rfl⟩;rfl
def rdV(b:List UInt8):Value:=match rdP b with
  |some P=> .tuple #[agg (ptc P).cells,i64 0]
  |none=> .tuple #[agg Point.zero.cells,i64 4]
theorem rdV_none(h:rdP b=none):rdV b= .tuple #[agg Point.zero.cells,i64 4]:=by rw[rdV,h]
theorem rdV_some(h:rdP b=some P):rdV b= .tuple #[agg (ptc P).cells,i64 0]:=by rw[rdV,h]
theorem rd_n1(h:¬fb (fe (le (lowB b)))=lowB b):rdP b=none:=by rw[rdP,if_neg h]
theorem rd_n2(hx:xOf (fe (le (lowB b)))=r)(h:r.2=false):rdP b=none:=by
  rw[rdP];split
  ·rw[hx,if_neg (by rw[h];simp)]
  ·rfl
theorem rd_n3(hx:xOf (fe (le (lowB b)))=r)(h1:topB b=true)(h:fb r.1=List.replicate 32 0):rdP b=none:=by
  have h2:r.1=0:=fb_inj.1 (h.trans fb_zero.symm);rw[rdP];split
  ·rw[hx,if_neg (fun e=>e.2 ⟨h1,h2⟩)]
  ·rfl
theorem rd_s1(hc:fb (fe (le (lowB b)))=lowB b)(hx:xOf (fe (le (lowB b)))=r)(h2:r.2=true)(h1:topB b=true)(h:¬fb r.1=List.replicate 32 0):rdP b=some ⟨-r.1,fe (le (lowB b))⟩:=by
  rw[rdP,if_pos hc,hx,if_pos ⟨h2,fun e=>h (by rw[e.2,fb_zero])⟩,if_pos h1]
theorem rd_s2(hc:fb (fe (le (lowB b)))=lowB b)(hx:xOf (fe (le (lowB b)))=r)(h2:r.2=true)(h1:topB b=false):rdP b=some ⟨r.1,fe (le (lowB b))⟩:=by
  rw[rdP,if_pos hc,hx,if_pos ⟨h2,fun e=>by rw[h1]at e;cases e.1⟩,if_neg (by rw[h1];decide)]
theorem topB_t(h:¬((b.getD 31 0&&&128).toNat:Int)=0):topB b=true:=by rw[topB,decide_eq_false h];rfl
theorem topB_f(h:((b.getD 31 0&&&128).toNat:Int)=0):topB b=false:=by rw[topB,decide_eq_true h];rfl
theorem curve_Read(b:List UInt8)(hb:b.length=32):Mv 160 [agg (Aa b)] (fun _=>True) (rdV b):=by
 intro W hW;have hll:=lowB_length hb;obtain⟨Y,hY⟩:∃Y,fe (le (lowB b))=Y:=⟨_,rfl⟩;have hcan:=field_Canon (lowB b) hll;have hmul:=field_Mul (lowB b) (lowB b) hll hll;have hinv:=f_inv (fD*(Y*Y)+1);have hxo:xOf Y=fRoot ((Y*Y-1)*finv (fD*(Y*Y)+1)):=rfl;revert hinv hxo;generalize finv (fD*(Y*Y)+1)=iz;intro hinv hxo;have hroot:=field_Root (fb ((Y*Y-1)*iz)) ((Y*Y-1)*iz) (Ar _) (fe_fb _);revert hroot hxo;generalize fRoot ((Y*Y-1)*iz)=xr;intro hxo hroot;rw[←hY]at hxo;rw[hY]at hcan hmul;refine Ad func160 J 60 ntmps160 J (G3 ?_);intro n1 hn1 hf1;refine .alloc (cs:=Point.zero.cells) J Point.zr J ?_;intro n2 hn2 hf2;refine G5 ?_;refine .i1 J J J J Y28.h Sz5 31 J dE (G1 ?_);refine .and_u8 J J J (show Ai _ _=some (u8 128)from rfl) (two (fun r hr k=>Tr.nei J J J J hr k) (fun hs1_30=>?_) (fun hs1_30=>?_))
 ·
  have hs1_3:=nd_t hs1_30;refine G5 ?_;refine .lA J J J Y28.h J Sz28 Z1 (by(simp[hb];done)) ?_;refine .alloc (cs:=(Aa (List.replicate 32 0))) J A8 J ?_;intro n5 hn5 hf5;refine .sA J J J J zE Sz187 (by(simp[hb];done)) Z0 sP zU ?_;refine G4 ?_;refine .i1 J J J J Y187.h Sz5 31 J dE (G1 ?_);refine .and_u8 J J J (show Ai _ _=some (u8 127)from rfl) (.i1 J J J J Y187.h Sz5 31 J dE (.s1 J J J J J Sz5 Z0 (by(simp[hb];done)) (by exact Bl _ _ _) zU ?_));refine G5 ?_;refine .lA J J J Y187.h J Sz187 Z0 (by(simp[hb];done)) ?_;refine .cV J J J J Body199 (hcan) tV (G3 ?_);refine .cond J (fun hc0=>?_) (fun hc0=>?_)
  ·
   have hcn:¬fb Y=lowB b:=of_decide_eq_false (by simpa using hc0);refine G2 ?_;refine .build (cs:=Point.zero.cells) J J J (fun w=>by kernel_rfl) ?_;refine G4 ?_;refine G3 ?_;refine⟨_,[],Bg J J J Y190.h J Sz190 Z1 (by exact Point.length zZ),sP,sP,?_,rfl⟩;exact(rdV_none (rd_n1 (by rw[hY];exact hcn))).symm
  have hcy:fb Y=lowB b:=of_decide_eq_true (by simpa using hc0);refine G4 ?_;refine .lA J J J Y187.h J Sz187 Z0 (by(simp[hb];done)) ?_;refine .lA J J J Y187.h J Sz187 Z0 (by(simp[hb];done)) ?_;refine .cV J J J J Cm (hmul) tV (.alloc (cs:=(Aa (List.replicate 32 0))) J A8 J ?_);intro n6 hn6 hf6;refine .sA J J J J zE Sz187 zF Z0 sP zU ?_;refine G3 ?_;refine .draw (oPq [100,301,302,203,404]) Aq zK (G1 ?_);refine .cV J J J J Body202 (f_one) tV (.cV J J J J Body201 (f_sub _ _) tV (.alloc (cs:=(Aa (List.replicate 32 0))) J A8 J ?_));intro n7 hn7 hf7;refine .sA J J J J zE Sz187 zF Z0 sP zU ?_;refine G3 ?_;refine .draw (oPq [101,300,302,303,304,205,406]) Aq zK (G1 ?_);refine .cV J J J J Body204 (curve_D) tV (.cV J J J J Cm (f_mul _ _) tV (.cV J J J J Body202 (f_one) tV (.cV J J J J Body203 (f_add _ _) tV (.alloc (cs:=(Aa (List.replicate 32 0))) J A8 J ?_))));intro n8 hn8 hf8;refine .sA J J J J zE Sz187 zF Z0 sP zU ?_;refine G3 ?_;refine .draw (oPq [100,101,302,303,304,5,6,7,208,409,10]) Aq zK (G2 ?_);refine .cV J J J J Body206 (hinv) tV (.cV J J J J Cm (f_mul _ _) tV (.cV J J J J Body205 (hroot) tV (G2 ?_)));refine .extractB J J J J (fun hs9_70=>?_) (fun hs9_70=>?_)
  ·
   have hs9_7:=hs9_70;refine .alloc (cs:=(Aa (List.replicate 32 0))) J A8 J ?_;intro n9 hn9 hf9;refine .sA J J J J zE Sz187 zF Z0 sP zU ?_;refine G12 ?_;refine .build (cs:=Aa (List.replicate 32 0)) J J J (fun w=>by kernel_rfl) ?_;refine two (fun r hr k=>Tr.eql_bytes J J J J eqGuardType187 Y187.h Y5.h Sz5 zF sP hr k) (fun hs10_70=>?_) (fun hs10_70=>?_)
   ·
    have hs10_7:=of_decide_eq_true hs10_70;refine G4 ?_;refine .cond_t J J (G2 ?_);refine .build (cs:=Point.zero.cells) J J J (fun w=>by kernel_rfl) ?_;refine G4 ?_;refine G3 ?_;refine⟨_,[],Bg J J J Y190.h J Sz190 (by exact mem5) (by exact Point.length zZ),sP,sP,?_,rfl⟩;exact(rdV_none (rd_n3 hxo (topB_t hs1_3) hs10_7)).symm
   have hs10_7:=of_decide_eq_false hs10_70;refine G4 ?_;refine .cond_f J J (G8 ?_);refine .cond_t J J (G2 ?_);refine .cV J J J J Body207 (f_neg _) tV (G5 ?_);rw[show b.set 31 (b.getD 31 0&&&127)=fb Y from hcy.symm];refine G2 ?_;refine .build (cs:=(⟨fb (-xr.1),fb Y⟩:Point).cells) J J J (fun w=>by kernel_rfl) ?_;refine .sA J J J J (Point.isCell (by exact⟨C1 _,C1 _⟩)) Sz190 (Point.length (by exact⟨C1 _,C1 _⟩)) (by exact mem5) (Point.length zZ) (by exact upd5) ?_;refine G3 ?_;refine G2 ?_;refine⟨_,[],Bg J J J Y190.h J Sz190 (by exact mem5) (by exact Point.length (by exact⟨C1 _,C1 _⟩)),sP,sP,?_,rfl⟩
   (rw[rdV_some (rd_s1 (by rw[hY];exact hcy) hxo hs9_7 (topB_t hs1_3) hs10_7),hY];rfl)
  have hs9_7:=hs9_70;refine .alloc (cs:=(Aa (List.replicate 32 0))) J A8 J ?_;intro n9 hn9 hf9;refine .sA J J J J zE Sz187 zF Z0 sP zU ?_;refine G18 ?_;refine .cond_t J J (G2 ?_);refine .build (cs:=Point.zero.cells) J J J (fun w=>by kernel_rfl) ?_;refine G4 ?_;refine G3 ?_;refine⟨_,[],Bg J J J Y190.h J Sz190 (by exact mem5) (by exact Point.length zZ),sP,sP,?_,rfl⟩;exact(rdV_none (rd_n2 hxo hs9_7)).symm
 have hs1_3:=nd_f hs1_30;refine G5 ?_;refine .lA J J J Y28.h J Sz28 Z1 (by(simp[hb];done)) ?_;refine .alloc (cs:=(Aa (List.replicate 32 0))) J A8 J ?_;intro n5 hn5 hf5;refine .sA J J J J zE Sz187 (by(simp[hb];done)) Z0 sP zU ?_;refine G4 ?_;refine .i1 J J J J Y187.h Sz5 31 J dE (G1 ?_);refine .and_u8 J J J (show Ai _ _=some (u8 127)from rfl) (.i1 J J J J Y187.h Sz5 31 J dE (.s1 J J J J J Sz5 Z0 (by(simp[hb];done)) (by exact Bl _ _ _) zU ?_));refine G5 ?_;refine .lA J J J Y187.h J Sz187 Z0 (by(simp[hb];done)) ?_;refine .cV J J J J Body199 (hcan) tV (G3 ?_);refine .cond J (fun hc0=>?_) (fun hc0=>?_)
 ·
  have hcn:¬fb Y=lowB b:=of_decide_eq_false (by simpa using hc0);refine G2 ?_;refine .build (cs:=Point.zero.cells) J J J (fun w=>by kernel_rfl) ?_;refine G4 ?_;refine G3 ?_;refine⟨_,[],Bg J J J Y190.h J Sz190 Z1 (by exact Point.length zZ),sP,sP,?_,rfl⟩;exact(rdV_none (rd_n1 (by rw[hY];exact hcn))).symm
 have hcy:fb Y=lowB b:=of_decide_eq_true (by simpa using hc0);refine G4 ?_;refine .lA J J J Y187.h J Sz187 Z0 (by(simp[hb];done)) ?_;refine .lA J J J Y187.h J Sz187 Z0 (by(simp[hb];done)) ?_;refine .cV J J J J Cm (hmul) tV (.alloc (cs:=(Aa (List.replicate 32 0))) J A8 J ?_);intro n6 hn6 hf6;refine .sA J J J J zE Sz187 zF Z0 sP zU ?_;refine G3 ?_;refine .draw (oPq [100,301,302,203,404]) Aq zK (G1 ?_);refine .cV J J J J Body202 (f_one) tV (.cV J J J J Body201 (f_sub _ _) tV (.alloc (cs:=(Aa (List.replicate 32 0))) J A8 J ?_));intro n7 hn7 hf7;refine .sA J J J J zE Sz187 zF Z0 sP zU ?_;refine G3 ?_;refine .draw (oPq [101,300,302,303,304,205,406]) Aq zK (G1 ?_);refine .cV J J J J Body204 (curve_D) tV (.cV J J J J Cm (f_mul _ _) tV (.cV J J J J Body202 (f_one) tV (.cV J J J J Body203 (f_add _ _) tV (.alloc (cs:=(Aa (List.replicate 32 0))) J A8 J ?_))));intro n8 hn8 hf8;refine .sA J J J J zE Sz187 zF Z0 sP zU ?_;refine G3 ?_;refine .draw (oPq [100,101,302,303,304,5,6,7,208,409,10]) Aq zK (G2 ?_);refine .cV J J J J Body206 (hinv) tV (.cV J J J J Cm (f_mul _ _) tV (.cV J J J J Body205 (hroot) tV (G2 ?_)));refine .extractB J J J J (fun hs9_70=>?_) (fun hs9_70=>?_)
 ·
  have hs9_7:=hs9_70;refine .alloc (cs:=(Aa (List.replicate 32 0))) J A8 J ?_;intro n9 hn9 hf9;refine .sA J J J J zE Sz187 zF Z0 sP zU ?_;refine G18 ?_;refine .cond_f J J (G8 ?_);refine .cond_f J J (G4 ?_);rw[show b.set 31 (b.getD 31 0&&&127)=fb Y from hcy.symm];refine G2 ?_;refine .build (cs:=(⟨fb xr.1,fb Y⟩:Point).cells) J J J (fun w=>by kernel_rfl) ?_;refine .sA J J J J (Point.isCell (by exact⟨C1 _,C1 _⟩)) Sz190 (Point.length (by exact⟨C1 _,C1 _⟩)) (by exact mem5) (Point.length zZ) (by exact upd5) ?_;refine G3 ?_;refine G2 ?_;refine⟨_,[],Bg J J J Y190.h J Sz190 (by exact mem5) (by exact Point.length (by exact⟨C1 _,C1 _⟩)),sP,sP,?_,rfl⟩
  (rw[rdV_some (rd_s2 (by rw[hY];exact hcy) hxo hs9_7 (topB_f hs1_3)),hY];rfl)
 have hs9_7:=hs9_70;refine .alloc (cs:=(Aa (List.replicate 32 0))) J A8 J ?_;intro n9 hn9 hf9;refine .sA J J J J zE Sz187 zF Z0 sP zU ?_;refine G18 ?_;refine .cond_t J J (G2 ?_);refine .build (cs:=Point.zero.cells) J J J (fun w=>by kernel_rfl) ?_;refine G4 ?_;refine G3 ?_;refine⟨_,[],Bg J J J Y190.h J Sz190 (by exact mem5) (by exact Point.length zZ),sP,sP,?_,rfl⟩;exact(rdV_none (rd_n2 hxo hs9_7)).symm
def sha512(l:List UInt8):List UInt8:=sumUp (allW kW startW l) 64
theorem sha512_length(l:List UInt8):(sha512 l).length=64:=Cs _ _
theorem sha_StartS(s:List UInt64)(h:Hid (startW=s)):Mv 222 [] (fun _=>True) (agg (Al s)):=by
  rw[←h.out];exact sha_Start
theorem sha_Sum512(p:Option Addr)(n c:Nat)(ss:List Sl)(ls:List (List UInt8))(hss:ss.length=n)(hls:ls.length=n)(hsl:∀j,j<n→(ss.getD j Sl.nil).n=(ls.getD j []).length∧((ss.getD j Sl.nil).p=none→(ss.getD j Sl.nil).n=0))(F:List UInt8)(hF:ls.flatten=F)(htot:F.length≤90000)(hn:n≤1000000)(s:List UInt8)(hs:Hid (sha512 F=s))  :Mv 215 [.slice p n c] (fun W=>SeesP W p (ss.map Sl.v)∧∀j,j<n→SeesP W (ss.getD j Sl.nil).p (Aa (ls.getD j []))) (agg (Aa s)):=by
 intro W hW;have hs64:s.length=64:=by rw[←hs.out];exact sha512_length F
 obtain⟨k,hk⟩:∃k,Hid (kW=k):=⟨_,⟨rfl⟩⟩;obtain⟨st,hst⟩:∃k,Hid (startW=k):=⟨_,⟨rfl⟩⟩;obtain⟨r,hr⟩:∃r,Hid (allW k st F=r):=⟨_,⟨rfl⟩⟩;have hk80:k.length=80:=by rw[←hk.out];rfl
 have hst8:st.length=8:=by rw[←hst.out];rfl
 have hr8:r.length=8:=by rw[←hr.out,allW_length];exact hst8
 have hs2:Hid (sumUp r 64=s):=⟨by rw[←hs.out,sha512,hk.out,hst.out,hr.out]⟩;refine Ad func215 J 7 ntmps215 J (G2 ?_);refine .alloc (cs:=(Aa (List.replicate 64 0))) J Zr34 J ?_;intro n2 hn2 hf2;refine G4 ?_;refine .cV J J J J Body222 (sha_StartS st hst) tV (G1 ?_);refine .cV J J J J Body167 (sha_whole st hst8 k hk hk80 p n c ss ls hss hls hsl F hF htot hn) (fun w h=>⟨A5 h J hW.1,fun j hj=>A5 h J (hW.2 j hj)⟩) ?_;rw[hr.out];refine .cV J J J J Body166 (sha_sum r hr8 s hs2) tV (.sA J J J J zE Sz34 (by(simp[hs64];done)) Z0 sP zU ?_);refine G2 ?_;refine G2 ?_;refine⟨_,[],Aw J J Y34.h J Sz34 Z0 (by simp[hs64]),sP,sP,?_,rfl⟩;rfl
theorem sign_residue(p:Option Addr)(n c:Nat)(ss:List Sl)(ls:List (List UInt8))(hss:ss.length=n)(hls:ls.length=n)(hsl:∀j,j<n→(ss.getD j Sl.nil).n=(ls.getD j []).length∧((ss.getD j Sl.nil).p=none→(ss.getD j Sl.nil).n=0))(F:List UInt8)(hF:ls.flatten=F)(htot:F.length≤90000)(hn:n≤1000000)(s:List UInt8)(hs:Hid (sha512 F=s))  :Mv 163 [.slice p n c] (fun W=>SeesP W p (ss.map Sl.v)∧∀j,j<n→SeesP W (ss.getD j Sl.nil).p (Aa (ls.getD j []))) (agg (Aa (leb 32 (le s%L)))):=by
 intro W hW;have hs64:s.length=64:=by rw[←hs.out];exact sha512_length F
 refine Ad func163 J 14 ntmps163 J (G2 ?_);refine .alloc (cs:=(Aa (List.replicate 32 0))) J A8 J ?_;intro n2 hn2 hf2;refine G5 ?_;refine .cV J J J J Body215 (sha_Sum512 p n c ss ls hss hls hsl F hF htot hn s hs) (fun w h=>⟨A5 h J hW.1,fun j hj=>A5 h J (hW.2 j hj)⟩) (.alloc (cs:=(Aa (List.replicate 64 0))) J Zr34 J ?_);intro n3 hn3 hf3;refine .sA J J J J zE Sz34 (by(simp[hs64];done)) Z0 sP zU ?_;refine G5 ?_;refine .cV J J J J Body216 (scalar_rest n3 0 64 64 s hs64 dE) (fun w h=>An h Z0) ?_;refine G3 ?_;refine .alloc (cs:=(Aa (List.replicate 32 0))) J A8 J ?_;intro n4 hn4 hf4;refine .sA J J J J zE Sz187 (by(simp[Am];done)) Z0 sP zU ?_;refine G5 ?_;refine .lA J J J Y187.h J Sz187 Z0 (by(simp[Am];done)) ?_;refine .sA J J J J zE Sz187 (by(simp[Am];done)) Z2 sP (by exact upd2) ?_;refine G2 ?_;refine G2 ?_;refine⟨_,[],Aw J J Y187.h J Sz187 Z2 (by simp[Am]),sP,sP,?_,rfl⟩;rfl
def clampB(l:List UInt8):List UInt8:=(l.set 0 (l.getD 0 0&&&248)).set 31 (((l.getD 31 0)&&&127)|||64)
theorem clampB_length(h:l.length=32):(clampB l).length=32:=by simp[clampB,h]
theorem d64{s:List UInt8}(h:s.length=64):(s.drop 32).take 32=s.drop 32:=La5 (by rw[Lb6,h];decide)
def sgR(s:List UInt8):List UInt8:=leb 32 (le s%L)
theorem sgR_length(s:List UInt8):(sgR s).length=32:=Am _ _
def sgF(s1:List UInt8):List UInt8:=pb (cv.mul (le (sgR s1)) bP)
def sgK(s:List UInt8):List UInt8:=pb (cv.mul (le (clampB (s.take 32))) bP)
theorem sgF_length(s:List UInt8):(sgF s).length=32:=Cp _
theorem sgK_length(s:List UInt8):(sgK s).length=32:=Cp _
def sgS(s s1 s2:List UInt8):List UInt8:=leb 32 ((le (sgR s2)*le (clampB (s.take 32))+le (sgR s1))%L)
theorem sgS_length(s s1 s2:List UInt8):(sgS s s1 s2).length=32:=Am _ _
theorem upd_first(h:f.length=32):upd (Aa (List.replicate 64 0)) 0 (Aa f)=Aa (f++List.replicate 32 0):=by
  simp[upd,Aa,h]
theorem upd_last{f g:List UInt8}(h:f.length=32)(hg:g.length=32):upd (Aa (f++List.replicate 32 0)) 32 (Aa g)=Aa (f++g):=by
  simp[upd,Aa,h,hg]
theorem sign_residueR(p:Option Addr)(n c:Nat)(ss:List Sl)(ls:List (List UInt8))(hss:ss.length=n)(hls:ls.length=n)(hsl:∀j,j<n→(ss.getD j Sl.nil).n=(ls.getD j []).length∧((ss.getD j Sl.nil).p=none→(ss.getD j Sl.nil).n=0))(F:List UInt8)(hF:ls.flatten=F)(htot:F.length≤90000)(hn:n≤1000000)(s:List UInt8)(hs:Hid (sha512 F=s))(r:List UInt8)(hr:Hid (sgR s=r))  :Mv 163 [.slice p n c] (fun W=>SeesP W p (ss.map Sl.v)∧∀j,j<n→SeesP W (ss.getD j Sl.nil).p (Aa (ls.getD j []))) (agg (Aa r)):=by
  have h:=sign_residue p n c ss ls hss hls hsl F hF htot hn s hs;rwa[show leb 32 (le s%L)=r from hr.out]at h
theorem take_sees{n i:Nat}{v:Value}(h:(Aa (l.take n))[i]? =some v):(Aa l)[i]? =some v:=by
  rw[Aa,Lbe,Lby]at h;split at h
  ·exact h
  ·cases h
theorem curve_Read_none(b:List UInt8)(hb:b.length=32)(h:rdP b=none):Mv 160 [agg (Aa b)] (fun _=>True) (.tuple #[agg Point.zero.cells,i64 4]):=by
  have:=curve_Read b hb;rwa[rdV_none h]at this
theorem curve_Read_some(b:List UInt8)(P:Pt Fp)(hb:b.length=32)(h:rdP b=some P):Mv 160 [agg (Aa b)] (fun _=>True) (.tuple #[agg (ptc P).cells,i64 0]):=by
  have:=curve_Read b hb;rwa[rdV_some h]at this
open Classical in
noncomputable def goodB(k bb sg:List UInt8):Bool:=decide (le (sg.drop 32)<L∧∃A R,rdP k=some A∧rdP (sg.take 32)=some R∧cv.lin (le (sg.drop 32)) (le (sgR (sha512 (sg.take 32++(k++bb))))) bP (neg A)=R)
variable{bb k sg:List UInt8}
theorem good_dec{A R Q:Pt Fp}(h1:le (sg.drop 32)<L)(h2:rdP k=some A)(h3:rdP (sg.take 32)=some R)(h4:cv.lin (le (sg.drop 32)) (le (sgR (sha512 (sg.take 32++(k++bb))))) bP (neg A)=Q): @decide (ptc Q=ptc R) (Classical.propDecidable _)=goodB k bb sg:=by
  rw[goodB,Lec];simp only[decide_eq_true_eq,ptc_inj];constructor
  · intro h
    exact⟨h1,A,R,h2,h3,h4.trans h⟩
  · rintro⟨_,A',R',e1,e2,e3⟩
    rw[h2]at e1;rw[h3]at e2;cases e1;cases e2;exact h4.symm.trans e3
theorem good_no(h:¬(le (sg.drop 32)<L∧(∃A,rdP k=some A)∧∃R,rdP (sg.take 32)=some R)):goodB k bb sg=false:=by
  rw[goodB,decide_eq_false_iff_not];intro e;refine h ?_;obtain⟨h1,A,R,h2,h3,_⟩:=e;exact⟨h1,⟨A,h2⟩,⟨R,h3⟩⟩
theorem sign_Good_c(k:List UInt8)(hk:k.length=32)(sb:Sl)(bb:List UInt8)(hbn:bb.length≤80000)(sg:List UInt8)(hsg:sg.length=64)(hc:¬le (sg.drop 32)<L):Mv 120 [agg (Aa k),sb.v,agg (Aa sg)] (fun W=>BytesAt W sb bb) (.bool false):=by
 intro W hW;have hd32:(sg.drop 32).length=32:=by rw[Lb6,hsg]
 have ht32:(sg.take 32).length=32:=by rw[Lac,hsg];rfl
 refine Ad func120 J 45 ntmps120 J (G3 ?_);intro n3 hn3 hf3;refine G1 ?_;intro n5 hn5 hf5;refine G5 ?_;refine .sliceArrLo 32 J J J J J dE Y35.h Sz5 (.s2a J J J Y187.h oM (.lN (Aa (sg.drop 32)) J J J Y187.h J Sz187 Z0 (by show((sg.map u8).drop 32).take 32=_;rw[←Lej,←Lbe,d64 hsg]) (by rw[La0];exact hd32) ?_));refine .alloc (cs:=(Aa (List.replicate 32 0))) J A8 J ?_;intro n7 hn7 hf7;refine .sA J J J J zE Sz187 (by(simp[hsg];done)) Z0 sP zU ?_;refine G5 ?_;refine .lA J J J Y187.h J Sz187 Z0 (by(simp[hsg];done)) ?_;refine .cV J J J J Body159 (scalar_canon (sg.drop 32) hd32) tV (G3 ?_);refine .cond_t J (by rw[decide_eq_false hc];rfl) ?_;refine G5 ?_;refine G3 ?_;refine⟨_,[],Af J J,sP,sP,?_,rfl⟩;rfl
theorem sign_Good_k(k:List UInt8)(hk:k.length=32)(sb:Sl)(bb:List UInt8)(hbn:bb.length≤80000)(sg:List UInt8)(hsg:sg.length=64)(hc:le (sg.drop 32)<L)(h1:rdP k=none):Mv 120 [agg (Aa k),sb.v,agg (Aa sg)] (fun W=>BytesAt W sb bb) (.bool false):=by
 intro W hW;have hd32:(sg.drop 32).length=32:=by rw[Lb6,hsg]
 have ht32:(sg.take 32).length=32:=by rw[Lac,hsg];rfl
 refine Ad func120 J 45 ntmps120 J (G3 ?_);intro n3 hn3 hf3;refine G1 ?_;intro n5 hn5 hf5;refine G5 ?_;refine .sliceArrLo 32 J J J J J dE Y35.h Sz5 (.s2a J J J Y187.h oM (.lN (Aa (sg.drop 32)) J J J Y187.h J Sz187 Z0 (by show((sg.map u8).drop 32).take 32=_;rw[←Lej,←Lbe,d64 hsg]) (by rw[La0];exact hd32) ?_));refine .alloc (cs:=(Aa (List.replicate 32 0))) J A8 J ?_;intro n7 hn7 hf7;refine .sA J J J J zE Sz187 (by(simp[hsg];done)) Z0 sP zU ?_;refine G5 ?_;refine .lA J J J Y187.h J Sz187 Z0 (by(simp[hsg];done)) ?_;refine .cV J J J J Body159 (scalar_canon (sg.drop 32) hd32) tV (G3 ?_);refine .cond_f J (by rw[decide_eq_true hc];rfl) ?_;refine G4 ?_;refine .lA J J J Y29.h J Sz29 Z2 (by(simp[hk];done)) ?_;refine .cV J J J J Body160 (curve_Read_none k hk h1) tV (G3 ?_);refine .alloc (cs:=Point.zero.cells) J Point.zr J ?_;intro n8 hn8 hf8;refine G8 ?_;refine .nei J J J J (show(!decide _)=true from congrArg not (decide_eq_false dE)) (G2 ?_);refine .cond_t J (rfl) (G5 ?_);refine G3 ?_;refine⟨_,[],Af J J,sP,sP,?_,rfl⟩;rfl
theorem sign_Good_r(k:List UInt8)(hk:k.length=32)(sb:Sl)(bb:List UInt8)(hbn:bb.length≤80000)(sg:List UInt8)(hsg:sg.length=64)(hc:le (sg.drop 32)<L)(A:Pt Fp)(h1:rdP k=some A)(h2:rdP (sg.take 32)=none):Mv 120 [agg (Aa k),sb.v,agg (Aa sg)] (fun W=>BytesAt W sb bb) (.bool false):=by
 intro W hW;have hd32:(sg.drop 32).length=32:=by rw[Lb6,hsg]
 have ht32:(sg.take 32).length=32:=by rw[Lac,hsg];rfl
 refine Ad func120 J 45 ntmps120 J (.sr (.boxA J J ?_));intro n3 hn3 hf3;refine .boxA J J ?_;intro n5 hn5 hf5;refine .a J J J (.nsr (.sliceArrLo 32 J J J J J dE Y35.h Sz5 (.s2a J J J Y187.h oM (.lN (Aa (sg.drop 32)) J J J Y187.h J Sz187 Z0 (by show((sg.map u8).drop 32).take 32=_;rw[←Lej,←Lbe,d64 hsg]) (by rw[La0];exact hd32) ?_))));refine .alloc (cs:=(Aa (List.replicate 32 0))) J A8 J ?_;intro n7 hn7 hf7;refine .sA J J J J zE Sz187 (by(simp[hsg];done)) Z0 sP zU ?_;refine .na (.seq (.sr (.lA J J J Y187.h J Sz187 Z0 (by(simp[hsg];done)) ?_)));refine .cV J J J J Body159 (scalar_canon (sg.drop 32) hd32) tV (.not J J J (.na (.cond_f J (by rw[decide_eq_true hc];rfl) ?_)));refine .skip (A7 (.sr (.lA J J J Y29.h J Sz29 Z2 (by(simp[hk];done)) ?_)));refine .cV J J J J Body160 (curve_Read_some k A hk h1) tV (.m J J J (.eX J J J J (.eX J J J J (.alloc (cs:=Point.zero.cells) J Point.zr J ?_))));intro n8 hn8 hf8;refine .sA J J J J (Point.isCell zP) Sz190 (Point.length zP) Z0 (Point.length zZ) zU ?_;refine .a J J J (.na (.seq (.sr (.m J J J (.nei J J J J (show(!decide _)=false from congrArg not (decide_eq_true (rfl))) (.na (.cond_f J (rfl) (.skip (A7 (.sr (.sliceArrHi 32 J J J J J dE dE Y35.h Sz5 (.s2a J J J Y28.h oM (.lN (Aa (sg.take 32)) J J J Y28.h J Sz28 Z2 (by rw[Lf8,←Lbe]) (by rw[La0];exact ht32) ?_)))))))))))));refine .cV J J J J Body160 (curve_Read_none (sg.take 32) ht32 h2) tV (.m J J J (.eX J J J J (.eX J J J J (.alloc (cs:=Point.zero.cells) J Point.zr J ?_))));intro n10 hn10 hf10;refine .sA J J J J (Point.isCell zZ) Sz190 (Point.length zZ) Z0 (Point.length zZ) zU ?_;refine .a J J J (.na (.seq (.sr (.m J J J (.nei J J J J (show(!decide _)=true from congrArg not (decide_eq_false dE)) (.na (.cond_t J (rfl) (.sr (.a J J J (.na ?_))))))))));refine .ret (at_r (C6 ?_));refine⟨_,[],Af J J,sP,sP,?_,rfl⟩;rfl
theorem sign_Good_ok(k:List UInt8)(hk:k.length=32)(sb:Sl)(bb:List UInt8)(hbn:bb.length≤80000)(sg:List UInt8)(hsg:sg.length=64)(hc:le (sg.drop 32)<L)(A R:Pt Fp)(h1:rdP k=some A)(h2:rdP (sg.take 32)=some R)(s r:List UInt8)(hs:Hid (sha512 (sg.take 32++(k++bb))=s))(hr:Hid (sgR s=r))(hrl:r.length=32):Mv 120 [agg (Aa k),sb.v,agg (Aa sg)] (fun W=>BytesAt W sb bb) (.bool (goodB k bb sg)):=by
 intro W hW;have hd32:(sg.drop 32).length=32:=by rw[Lb6,hsg]
 have ht32:(sg.take 32).length=32:=by rw[Lac,hsg];rfl
 have hA:=rdP_on h1;obtain⟨Q,hQ⟩:∃Q,cv.lin (le (sg.drop 32)) (le (sgR (sha512 (sg.take 32++(k++bb))))) bP (neg A)=Q:=⟨_,rfl⟩;have hmul:=curve_Mul2 (sg.drop 32) r bP (neg A) hd32 hrl bP_on (cv.on_neg hA);rw[show cv.lin (le (sg.drop 32)) (le r) bP (neg A)=Q from by rw[←hr.out,←hs.out];exact hQ]at hmul;refine Ad func120 J 45 ntmps120 J (.sr (.boxA J J ?_));intro n3 hn3 hf3;refine .boxA J J ?_;intro n5 hn5 hf5;refine .a J J J (.nsr (.sliceArrLo 32 J J J J J dE Y35.h Sz5 (.s2a J J J Y187.h oM (.lN (Aa (sg.drop 32)) J J J Y187.h J Sz187 Z0 (by show((sg.map u8).drop 32).take 32=_;rw[←Lej,←Lbe,d64 hsg]) (by rw[La0];exact hd32) ?_))));refine .alloc (cs:=(Aa (List.replicate 32 0))) J A8 J ?_;intro n7 hn7 hf7;refine .sA J J J J zE Sz187 (by(simp[hsg];done)) Z0 sP zU ?_;refine .na (.seq (.sr (.lA J J J Y187.h J Sz187 Z0 (by(simp[hsg];done)) ?_)));refine .cV J J J J Body159 (scalar_canon (sg.drop 32) hd32) tV (.not J J J (.na (.cond_f J (by rw[decide_eq_true hc];rfl) ?_)));refine .skip (A7 (.sr (.lA J J J Y29.h J Sz29 Z2 (by(simp[hk];done)) ?_)));refine .cV J J J J Body160 (curve_Read_some k A hk h1) tV (.m J J J (.eX J J J J (.eX J J J J (.alloc (cs:=Point.zero.cells) J Point.zr J ?_))));intro n8 hn8 hf8;refine .sA J J J J (Point.isCell zP) Sz190 (Point.length zP) Z0 (Point.length zZ) zU ?_;refine .a J J J (.na (.seq (.sr (.m J J J (.nei J J J J (show(!decide _)=false from congrArg not (decide_eq_true (rfl))) (.na (.cond_f J (rfl) (.skip (A7 (.sr (.sliceArrHi 32 J J J J J dE dE Y35.h Sz5 (.s2a J J J Y28.h oM (.lN (Aa (sg.take 32)) J J J Y28.h J Sz28 Z2 (by rw[Lf8,←Lbe]) (by rw[La0];exact ht32) ?_)))))))))))));refine .cV J J J J Body160 (curve_Read_some (sg.take 32) R ht32 h2) tV (.m J J J (.eX J J J J (.eX J J J J (.alloc (cs:=Point.zero.cells) J Point.zr J ?_))));intro n10 hn10 hf10;refine .sA J J J J (Point.isCell zP) Sz190 (Point.length zP) Z0 (Point.length zZ) zU ?_;refine .a J J J (.na (.seq (.sr (.m J J J (.nei J J J J (show(!decide _)=false from congrArg not (decide_eq_true (rfl))) (.na (.cond_f J (rfl) (.skip (A7 (.seq (.draw (oPq [100,2,3,4,107,110,301,205,306,308,309,11,12]) Aq zK (.lA J J J Y187.h J Sz187 Z2 (by(simp[hsg];done)) ?_))))))))))));refine .sliceArrHi 32 J J J J J dE dE Y35.h Sz5 (.sliceArr J J J Y29.h Sz5 (.m J J J (.lA J J J Y190.h J Sz190 Z1 (Point.length zP) ?_)));refine .lA J J J Y190.h J Sz190 Z0 (Point.length zP) ?_;refine .cV J J J J Body162 (curve_Base) tV (.mkRow2 (z:= .slice none 0 0) [.slice (some ⟨n5,0,none⟩) 32 64, .slice (some ⟨n3,0,none⟩) 32 32,sb.v] [.slice (some ⟨n5,0,none⟩) 32 64, .slice (some ⟨n3,0,none⟩) 32 32,sb.v] rfl J Y150.h Sz33 Zr33 J J (by intro v hv;simp only[Laj,Lbu,or_false]at hv;rcases hv with rfl|rfl|rfl<;>rfl) dE J ?_);intro q38
 refine .cV J J J J Body163 (sign_residueR (some ⟨q38,0,none⟩) 3 3 [⟨some ⟨n5,0,none⟩,32,64⟩,⟨some ⟨n3,0,none⟩,32,32⟩,sb] [sg.take 32,k,bb] rfl J (fun j hj=>(by
   rcases(show j=0∨j=1∨j=2 by omega)with rfl|rfl|rfl
   ·exact⟨by show 32=List.length _;exact ht32.symm,fun e=>by cases e⟩
   ·exact⟨by show 32=List.length _;exact hk.symm,fun e=>by cases e⟩
   ·exact⟨by show sb.n=bb.length;exact hW.len.symm,fun e=>by have h1:=hW.nil e;have h2:=hW.cap;show sb.n=0;omega⟩)) (sg.take 32++(k++bb)) sP (by simp[hsg,hk];omega) dE s hs r hr) (fun w h=>⟨SeesP.of (An h Z0),(fun j hj=>(by
   rcases(show j=0∨j=1∨j=2 by omega)with rfl|rfl|rfl
   ·exact SeesP.of (by have h9:=An (cs:=Aa sg) h Z4;exact fun i v hv=>h9 i v (take_sees hv))
   ·exact SeesP.of (An (cs:=Aa k) h (by exact mem5))
   ·exact A5 h rfl hW.see))⟩) ?_
 refine .cV J J J J Body164 (curve_Neg A hA) tV (.cV J J J J Body161 (hmul) tV (.eql_rec J J J J Point.eg (fun w=>Point.eq_runC (ptc_ok _) (ptc_ok _) w) (good_dec hc h1 h2 hQ) (.a J J J (.na ?_))));refine .ret (C6 ?_);refine⟨_,[],Af J J,sP,sP,?_,rfl⟩;rfl
theorem sign_Good(k:List UInt8)(hk:k.length=32)(sb:Sl)(bb:List UInt8)(hbn:bb.length≤80000)(sg:List UInt8)(hsg:sg.length=64):Mv 120 [agg (Aa k),sb.v,agg (Aa sg)] (fun W=>BytesAt W sb bb) (.bool (goodB k bb sg)):=by
  by_cases hc:le (sg.drop 32)<L
  · cases h1:rdP k with
    | none=>
      rw[good_no (fun e=>by obtain⟨_,⟨A,h⟩,_⟩:=e;rw[h1]at h;cases h)];exact sign_Good_k k hk sb bb hbn sg hsg hc h1
    | some A=>
      cases h2:rdP (sg.take 32)with
      | none=>
        rw[good_no (fun e=>by obtain⟨_,_,⟨R,h⟩⟩:=e;rw[h2]at h;cases h)];exact sign_Good_r k hk sb bb hbn sg hsg hc A h1 h2
      |some R=>exact sign_Good_ok k hk sb bb hbn sg hsg hc A R h1 h2 _ _ ⟨rfl⟩ ⟨rfl⟩ (sgR_length _)
  · rw[good_no (fun e=>hc e.1)]
    exact sign_Good_c k hk sb bb hbn sg hsg hc
end Go.Proofs.YtgjnomgkddbhcaaGreat
namespace Go.Proofs.YtgjnomgkddbhcaaGreat
open Go Hw Ed
theorem sgK_read(s:List UInt8):rdP (sgK s)=some (cv.mul (le (clampB (s.take 32))) bP):=rdP_pb (cv.on_mul bP_on _)
theorem sgF_read(s:List UInt8):rdP (sgF s)=some (cv.mul (le (sgR s)) bP):=rdP_pb (cv.on_mul bP_on _)
theorem sgS_lt(s s1 s2:List UInt8):le (sgS s s1 s2)<L:=by
  have h:=Lc3 (le (sgR s2)*le (clampB (s.take 32))+le (sgR s1)) L_pos;rw[sgS,le_leb32 (Ldn h L_lt)];exact h
theorem sgS_eq(s s1 s2:List UInt8):le (sgS s s1 s2)=(le (sgR s2)*le (clampB (s.take 32))+le (sgR s1))%L:=by
  have h:=Lc3 (le (sgR s2)*le (clampB (s.take 32))+le (sgR s1)) L_pos;rw[sgS,le_leb32 (Ldn h L_lt)]
theorem lin_selfS(k n r:Nat):cv.lin ((k*n+r)%L) k bP (neg (cv.mul n bP))=cv.mul r bP:=by
  have hn:=cv.on_mul bP_on n;have hk:=cv.on_mul hn k;have hr:=cv.on_mul bP_on r;rw[Cv.lin,cv.mul_order bP_on bP_order,Le7,cv.mul_add bP_on,cv.mul_mul bP_on,cv.mul_neg hn,cv.add_assoc hr hk (cv.on_neg hk),cv.add_neg hk,cv.add_zero]
theorem sg_take(s s1 s2:List UInt8):(sgF s1++sgS s s1 s2).take 32=sgF s1:=by
  rw[List.take_left' (sgF_length s1)]
theorem sg_drop(s s1 s2:List UInt8):(sgF s1++sgS s s1 s2).drop 32=sgS s s1 s2:=by
  rw[List.drop_left' (sgF_length s1)]
theorem good_self(s s1 bb:List UInt8){s2:List UInt8}(h:sha512 (sgF s1++(sgK s++bb))=s2):goodB (sgK s) bb (sgF s1++sgS s s1 s2)=true:=by
  unfold goodB;simp only[decide_eq_true_eq];rw[sg_take,sg_drop,h];refine⟨sgS_lt s s1 s2,_,_,sgK_read s,sgF_read s1,?_⟩;rw[sgS_eq];exact lin_selfS _ _ _
end Go.Proofs.YtgjnomgkddbhcaaGreat
namespace Go.Proofs.YtgjnomgkddbhcaaGreat
open Go Hw _root_.Go.Proofs.Tryz
open Ed
theorem own_bytes{W:World}{q n c:Nat}{l:List UInt8}(hs:SeesP W (some ⟨q,0,none⟩) (Aa l))(hl:l.length=n)(hc:n≤c)(hm:n≤maxLen):BytesAt W ⟨some ⟨q,0,none⟩,n,c⟩ l:=⟨hl,hc,hs,hm,fun e=>by cases e⟩
end Go.Proofs.YtgjnomgkddbhcaaGreat
namespace Go.Proofs.YtgjnomgkddbhcaaGreat
open Go Hw _root_.Go.Proofs.Tryz
variable{A st:List UInt64}{i q t:Nat}{p:List UInt8}
theorem rolW_64(x:UInt64)(n:Nat)(h:n≤64):Ax x n|||A6 x (64-n)=rolW x (64-n):=by
  rw[rolW,show 64-(64-n)=n by omega,Lgh]
theorem W8.of_l(h:st.length=8):(W8.of st).l=st:=by
  match st,h with
  | [a,b,c,d,e,f,g,i],_=>rfl
theorem addUp_gets(st xs:List UInt64):∀i j,i≤st.length→j<st.length→(addUp st xs i).getD j 0=if j<i then st.getD j 0+xs.getD j 0 else st.getD j 0
  |0,j,_,hj=>by rw[if_neg oM];rfl
  | i +1,j,hi,hj=>by
    have hl:=B9 st xs i;rw[addUp,La4,Lct];split
    · rename_i e
      subst e;rw[if_pos oM,if_pos oM,Lc1,addUp_get st xs i i (Lad _)]
    · rename_i e
      rw[←La4,addUp_gets st xs i j oM hj];by_cases h:j<i
      ·rw[if_pos h,if_pos oM]
      ·rw[if_neg h,if_neg oM]
theorem addUp_comm{st xs:List UInt64}(h:st.length=8)(hx:xs.length=8):addUp xs st 8=addUp st xs 8:=by
  have h1:=B9 xs st 8;have h2:=B9 st xs 8;apply Le0 oM;intro j ha hb;have e1:=addUp_gets xs st 8 j oM oM;have e2:=addUp_gets st xs 8 j oM oM;rw[if_pos oM]at e1 e2;rw[La4,La3 ha,Lc1]at e1;rw[La4,La3 hb,Lc1]at e2;rw[e1,e2,UInt64.add_comm]
def schT(p:List UInt8)(A:List UInt64)(t:Nat):List UInt64:=if t≤16 then schA p (8*t)else schB A (t-16)
theorem schT_lo(h:t≤16):schT p A t=schA p (8*t):=if_pos h
theorem schT_hi(hA:schA p 128=A)(h:16≤t):schT p A t=schB A (t-16):=by
  unfold schT;split
  · obtain rfl:t=16:=by omega
    exact hA
  ·rfl
theorem schT_step{j:Nat}(hA:schA p 128=A):schT p A (16+j+1)=(schB A j).set (16+j) ((schB A j).getD j 0+sig0 ((schB A j).getD (j+1) 0)+(schB A j).getD (j+9) 0+sig1 ((schB A j).getD (j+14) 0)):=by
  rw[schT_hi hA oM,show 16+j+1-16=j+1 by omega];rfl
theorem schA_step(p:List UInt8)(t i:Nat)(hi:i<8):schA p (8*t+(i+1))=(schA p (8*t+i)).set t (A6 ((schA p (8*t+i)).getD t 0) 8|||(p.getD (8*t+i) 0).toUInt64):=by
  have e:(8*t+i)/8=t:=by omega
  show schA p ((8*t+i)+1)=_;rw[schA,e]
theorem r2_K(k:List UInt64)(hk:Hid (kW=k)):Mv 187 [] (fun _=>True) (agg (Al k)):=by
 intro W hW;rw[←hk.out];refine Ad func187 J 2 ntmps187 J (G2 ?_);refine .alloc (cs:=(Al (List.replicate 80 0))) J Zr207 J ?_;intro n0 hn0 hf0;refine G4 ?_;refine .build (cs:=Al kW) J J J (fun w=>by kernel_rfl) ?_;refine .sA J J J J zB Sz207 (by(simp[kW];done)) Z0 sP zU ?_;refine G2 ?_;refine G2 ?_;refine⟨_,[],Aw J J Y207 J Sz207 Z0 (by simp[kW]),sP,sP,?_,rfl⟩;rfl
theorem r2_Start(k:List UInt64)(hk:Hid (startW=k)):Mv 156 [] (fun _=>True) (agg (Al k)):=by
 intro W hW;rw[←hk.out];refine Ad func156 J 2 ntmps156 J (G2 ?_);refine .alloc (cs:=(Al (List.replicate 8 0))) J Zr152 J ?_;intro n0 hn0 hf0;refine G4 ?_;refine .build (cs:=Al startW) J J J (fun w=>by kernel_rfl) ?_;refine .sA J J J J zB Sz152 (by(simp[startW];done)) Z0 sP zU ?_;refine G2 ?_;refine G2 ?_;refine⟨_,[],Aw J J Y152.h J Sz152 Z0 (by simp[startW]),sP,sP,?_,rfl⟩;rfl
theorem r2_rot(x:UInt64)(n:Nat)(hn:n≤63):Mv 188 [u64 x,i64 (n:Int)] (fun _=>True) (u64 (rolW x (64-n))):=by
 intro W hW;refine Ad func188 J 15 ntmps188 J (G2 ?_);refine .a J J (show Ai _ _=some (u64 0)from rfl) (G7 ?_);refine .shr_u64 J J J J n (by rw[wordOf_id _ oM]) oM ?_;refine G2 ?_;refine .subN 64 n J J J J oM (G1 ?_);refine .shl_u64 J J J J (64-n) (by rw[wordOf_id _ oM]) oM ?_;refine G4 ?_;refine G2 ?_;refine⟨_,[],Af J J,sP,sP,?_,rfl⟩;rw[rolW_64 x n oM]
theorem r2_piece(st:List UInt64)(hst:st.length=8)(p:List UInt8)(hp:p.length=128)(q o c:Nat)(A w k:List UInt64)(R:W8)(hA:Hid (schA p 128=A))(hwp:Hid (schB A 64=w))(hk:Hid (kW=k))(hk80:k.length=80)(hR:Hid (rnds k w (W8.of st) 80=R)):Mv 155 [agg (Al st), .slice (some ⟨q,o,none⟩) 128 c] (fun W=>De W q o (Aa p)) (agg (Al (addUp st R.l 8))):=by
 intro W hW;have hA80:A.length=80:=by rw[←hA.out];exact schA_length p 128
 have hw80:w.length=80:=by rw[←hwp.out,schB_length];exact hA80
 have hRl:=W8.l_length R;have hlw:=hw80;have hcm:=addUp_comm hst hRl;refine Ad func155 J 176 ntmps155 J (G3 ?_);intro n2 hn2 hf2;refine .alloc (cs:=(Al (List.replicate 8 0))) J Zr152 J ?_;intro n4 hn4 hf4;refine G4 ?_;refine .cV J J J J Body187 (r2_K k hk) tV (.alloc (cs:=(Al (List.replicate 80 0))) J Zr207 J ?_);intro n5 hn5 hf5;refine .sA J J J J zB Sz207 (by(simp[hk80];done)) Z0 sP zU ?_;refine G4 ?_;refine .alloc (cs:=(Al (List.replicate 80 0))) J Zr207 J ?_;intro n6 hn6 hf6;refine G9 ?_;refine .loop (ι:=Nat) (fun t=>⟨[(1, .slice (some ⟨q,o,none⟩) 128 c),(2,ptr n2 0),(4,ptr n4 0),(5,ptr n5 0),(6,ptr n6 0),(7,i64 (t:Int))],[⟨n6,Al (schT p A t),207,80⟩,⟨n5,Al k,207,80⟩,⟨n4,Al (List.replicate 8 0),152,8⟩,⟨n2,Al st,152,(Al st).length⟩]⟩) (fun t=>t≤80) (fun t=>80-t) (0) ?_ ?_ ?_
 ·omega
 ·exact Ah wN (wh1 (by rw[schT_lo oM];exact Cb) (wh1 Z1 (wh1 Z2 (wh1 Z3 wh0)))) nD
 rintro t ht;refine G7 ?_;refine .condP J (fun hc0=>?_) (fun hc0=>?_)
 ·
  refine G11 ?_;refine .condP J (fun hc1=>?_) (fun hc1=>?_)
  ·
   refine G7 ?_;refine .loop (ι:=Nat) (fun i=>⟨[(1, .slice (some ⟨q,o,none⟩) 128 c),(2,ptr n2 0),(4,ptr n4 0),(5,ptr n5 0),(6,ptr n6 0),(7,i64 (t:Int)),(8,i64 (i:Int))],[⟨n6,Al (schA p (8*t+i)),207,80⟩,⟨n5,Al k,207,80⟩,⟨n4,Al (List.replicate 8 0),152,8⟩,⟨n2,Al st,152,(Al st).length⟩]⟩) (fun i=>i≤8) (fun i=>8-i) (0) ?_ ?_ ?_
   ·omega
   ·exact Ah wN (wh1 (by rw[Lca,←schT_lo (p:=p) (A:=A) (by omega:t≤16)];exact Cb) (wh1 Z1 (wh1 Z2 (wh1 Z3 wh0)))) nD
   rintro i hi;have hlw:=schA_length p (8*t+i);refine G7 ?_;refine .condP J (fun hc2=>?_) (fun hc2=>?_)
   ·
    refine G4 ?_;refine .draw (oPq [0,1,2,103,4,5,6,7,8,9,10,111,12,13,14,415]) Aq zK (G2 ?_);refine .i1 J J J J Y207 Sz30 _ J oM (G1 ?_);refine .shl_u64 J J J J 8 J dE (G2 ?_);refine .mulN 8 t J J J J oM (G1 ?_);refine .addN (8*t) i J J J J oM (.idxSlO J J J J Y33.h Sz5 (8*t+i) oM oM (.loadE J J J Y5.h J sP (hW (8*t+i) _ (get_bytes oM)) (G2 ?_)));refine .i1 J J J J Y207 Sz30 _ J oM (.s1 J J J J J Sz30 Z0 (by(simp[hlw];omega)) (by exact Bj _ _ _) zU ?_);refine G9 ?_;exact⟨i+1,by omega,by omega,Ah wN (wh1 (by rw[schA_step p t i oM];exact Cb) (wh1 Z1 (wh1 Z2 (wh1 Z3 wh0)))) nD⟩
   refine G15 ?_;exact⟨t+1,by omega,by omega,Ah wN (wh1 (by(rw[schT_lo (by omega:t+1≤16),show 8*(t+1)=8*t+i by omega];exact Cb)) (wh1 Z1 (wh1 Z2 (wh1 Z3 wh0)))) nD⟩
  obtain⟨j,rfl⟩:∃j,t=16+j:=⟨t-16,by omega⟩;rw[schT_hi hA.out (show 16≤16+j by omega),show 16+j-16=j by omega];have hlw:(schB A j).length=80:=by rw[schB_length];exact hA80
  refine G3 ?_;refine .draw (oPq [0,1,2,103,4,5,6,107,8,9]) Aq zK (G2 ?_);refine .i1 J J J J Y207 Sz30 (j+1) oM oM (G3 ?_);refine .i1 J J J J Y207 Sz30 (j+14) oM oM (G5 ?_);refine .draw (oPq [0,1,2,3,104,5,7,10,11,14,15,16,117,19,21,24,25,306,308,9,12,13,18,320,322,23,26,27,28,429]) Aq zK (G3 ?_);refine .i1 J J J J Y207 Sz30 j oM oM (G4 ?_);refine .shr_u64 J J J J 7 J dE (G2 ?_);refine .i1 J J J J Y207 Sz30 (j+9) oM oM (G4 ?_);refine .shr_u64 J J J J 6 J dE (.cV J J J J Body188 (r2_rot _ 1 dE) tV (.cV J J J J Body188 (r2_rot _ 8 dE) tV (G4 ?_)));refine .cV J J J J Body188 (r2_rot _ 19 dE) tV (.cV J J J J Body188 (r2_rot _ 61 dE) tV (G3 ?_));refine .i1 J J J J Y207 Sz30 (16+j) oM oM (.s1 J J J J J Sz30 Z0 (by(simp[hlw];omega)) (by exact Bj _ _ _) zU ?_);refine G9 ?_;exact⟨16+j+1,by omega,by omega,Ah wN (wh1 (by(rw[schT_step hA.out];exact Cb)) (wh1 Z1 (wh1 Z2 (wh1 Z3 wh0)))) nD⟩
 obtain rfl:t=80:=by omega
 rw[show schT p A 80=w from by rw[schT_hi hA.out dE];exact hwp.out];refine G7 ?_;refine .lA J J J Y152.h J Sz152 Z3 (by(simp[hst];done)) ?_;refine .alloc (cs:=(Al (List.replicate 8 0))) J Zr152 J ?_;intro n11 hn11 hf11;refine .sA J J J J zB Sz152 (by(simp[hst];done)) Z0 sP zU ?_;refine G9 ?_;refine .loop (ι:=Nat) (fun t=>⟨[(2,ptr n2 0),(4,ptr n4 0),(5,ptr n5 0),(6,ptr n6 0),(11,ptr n11 0),(12,i64 (t:Int))],[⟨n11,Al (rnds k w (W8.of st) t).l,152,8⟩,⟨n6,Al w,207,80⟩,⟨n5,Al k,207,80⟩,⟨n4,Al (List.replicate 8 0),152,8⟩,⟨n2,Al st,152,(Al st).length⟩]⟩) (fun t=>t≤80) (fun t=>80-t) (0) ?_ ?_ ?_
 ·omega
 ·exact Ah wN (wh1 (by rw[show(rnds k w (W8.of st) 0).l=st from W8.of_l hst];exact Cb) (wh1 Z1 (wh1 Z2 (wh1 Z3 (wh1 Z4 wh0))))) nD
 rintro t ht;have hlr:=W8.l_length (rnds k w (W8.of st) t);refine G7 ?_;refine .condP J (fun hc3=>?_) (fun hc3=>?_)
 ·
  refine G5 ?_;refine .draw (oPq [0,101,2,103,4,5]) Aq zK (.i1 J J J J Y152.h Sz30 0 J dE (G1 ?_));refine .i1 J J J J Y152.h Sz30 4 J dE (G6 ?_);refine .draw (oPq [0,101,2,4,7,11,12,113,14,15,16,17,118,19,20,22,23,124,26,27,128,303,305,6,308,9,10,21,25,29,30]) Aq zK (.i1 J J J J Y152.h Sz30 7 J dE (G5 ?_));refine .i1 J J J J Y152.h Sz30 5 J dE (G3 ?_);refine .not_u64 J J J (.i1 J J J J Y152.h Sz30 6 J dE (G4 ?_));refine .i1 J J J J Y207 Sz30 _ J oM (G2 ?_);refine .i1 J J J J Y207 Sz30 _ J oM (G1 ?_);refine .cV J J J J Body188 (r2_rot _ 14 dE) tV (.cV J J J J Body188 (r2_rot _ 18 dE) tV (G1 ?_));refine .cV J J J J Body188 (r2_rot _ 41 dE) tV (G9 ?_);refine .draw (oPq [0,2,5,8,9,110,11,12,13,114,15,16,17,118,19,120,21,22,301,303,4,306,7,23,24]) Aq zK (G4 ?_);refine .i1 J J J J Y152.h Sz30 1 J dE (G3 ?_);refine .i1 J J J J Y152.h Sz30 2 J dE (G3 ?_);refine .i1 J J J J Y152.h Sz30 1 J dE (G1 ?_);refine .i1 J J J J Y152.h Sz30 2 J dE (G3 ?_);refine .cV J J J J Body188 (r2_rot _ 28 dE) tV (.cV J J J J Body188 (r2_rot _ 34 dE) tV (G1 ?_));refine .cV J J J J Body188 (r2_rot _ 39 dE) tV (G10 ?_);refine .i1 J J J J Y152.h Sz30 1 J dE (G1 ?_);refine .i1 J J J J Y152.h Sz30 2 J dE (G1 ?_);refine .i1 J J J J Y152.h Sz30 3 J dE (G4 ?_);refine .i1 J J J J Y152.h Sz30 5 J dE (G1 ?_);refine .i1 J J J J Y152.h Sz30 6 J dE (G1 ?_);refine .build (cs:=Al (rnd1 (rnds k w (W8.of st) t) (k.getD t 0) (w.getD t 0)).l) J J J (fun w=>by kernel_rfl) ?_;refine .sA J J J J zB Sz152 (by(simp[W8.l_length];done)) Z0 (by(simp[W8.l_length];done)) zU ?_;refine G9 ?_;exact⟨t+1,by omega,by omega,Ah wN (wh1 Z0 (wh1 Z1 (wh1 Z2 (wh1 Z3 (wh1 Z4 wh0))))) nD⟩
 obtain rfl:t=80:=by omega
 rw[hR.out];refine G12 ?_;refine .loop (ι:=Nat) (fun i=>⟨[(2,ptr n2 0),(4,ptr n4 0),(11,ptr n11 0),(17,i64 (i:Int))],[⟨n11,Al (addUp R.l st i),152,8⟩,⟨n4,Al (List.replicate 8 0),152,8⟩,⟨n2,Al st,152,(Al st).length⟩]⟩) (fun i=>i≤8) (fun i=>8-i) (0) ?_ ?_ ?_
 ·omega
 ·exact Ah wN (wh1 Z0 (wh1 Z3 (wh1 Z4 wh0))) nD
 rintro i hi;have hlu:=B9 R.l st i;refine G7 ?_;refine .condP J (fun hc4=>?_) (fun hc4=>?_)
 ·
  refine G4 ?_;refine .draw (oPq [0,1,2,103,4,5,106,7,8,409]) Aq zK (G2 ?_);refine .i1 J J J J Y152.h Sz30 _ J oM (G2 ?_);refine .i1 J J J J Y152.h Sz30 _ J oM (G2 ?_);refine .i1 J J J J Y152.h Sz30 _ J oM (.s1 J J J J J Sz30 Z0 (by(simp[hRl,B9];omega)) (by exact Bj _ _ _) zU ?_);refine G9 ?_;exact⟨i+1,by omega,by omega,Ah wN (wh1 Z0 (wh1 Z1 (wh1 Z2 wh0))) nD⟩
 obtain rfl:i=8:=by omega
 rw[hcm];refine G7 ?_;refine .lA J J J Y152.h J Sz152 Z0 (by(simp[hst,B9];done)) ?_;refine .sA J J J J zB Sz152 (by(simp[hst,B9];done)) Z1 sP zV ?_;refine G2 ?_;refine G2 ?_;refine⟨_,[],Aw J J Y152.h J Sz152 Z1 (by simp[hst,B9]),sP,sP,?_,rfl⟩;rfl
theorem r2_bytes(st:List UInt64)(hst:st.length=8)(s:List UInt8)(hs:Hid (sumUp st 64=s)):Mv 112 [agg (Al st)] (fun _=>True) (agg (Aa s)):=by
 intro W hW;have hs64:s.length=64:=by rw[←hs.out];exact Cs st 64
 refine Ad func112 J 23 ntmps112 J (G3 ?_);intro n1 hn1 hf1;refine .alloc (cs:=(Aa (List.replicate 64 0))) J Zr34 J ?_;intro n2 hn2 hf2;refine G4 ?_;refine .alloc (cs:=(Aa (List.replicate 64 0))) J Zr34 J ?_;intro n3 hn3 hf3;refine G9 ?_;refine .loop (ι:=Nat) (fun k=>⟨[(1,ptr n1 0),(2,ptr n2 0),(3,ptr n3 0),(4,i64 (k:Int))],[⟨n3,Aa (sumUp st k),34,64⟩,⟨n2,Aa (List.replicate 64 0),34,64⟩,⟨n1,Al st,152,(Al st).length⟩]⟩) (fun k=>k≤64) (fun k=>64-k) (0) ?_ ?_ ?_
 ·omega
 ·exact Ah wN (wh1 Z0 (wh1 Z1 (wh1 Z2 wh0))) nD
 rintro k hi;have hlk:=Cs st k;refine G7 ?_;refine .condP J (fun hc0=>?_) (fun hc0=>?_)
 ·
  refine G7 ?_;refine .quo_i64 J J J J oM (.i1 J J J J Y152.h Sz30 (k/8) oM oM (G2 ?_));refine .remN k 8 J J J J dE (.mulN 8 (k%8) J J J J oM (.subN 56 (8*(k%8)) J J J J oM (G1 ?_)));refine .shr_u64 J J J J (56-8*(k%8)) (by rw[wordOf_id _ oM]) oM ?_;refine G1 ?_;refine .i1 J J J J Y34.h Sz5 _ J oM (.s1 J J J J J Sz5 Z0 (by(simp[Cs];omega)) (by exact Bl _ _ _) zU ?_);refine G9 ?_;exact⟨k+1,by omega,by omega,Ah wN (wh1 Z0 (wh1 Z1 (wh1 Z2 wh0))) nD⟩
 obtain rfl:k=64:=by omega
 rw[hs.out];clear hlk;refine G7 ?_;refine .lA J J J Y34.h J Sz34 Z0 (by(simp[hs64];done)) ?_;refine .sA J J J J zE Sz34 (by(simp[hs64];done)) Z1 sP zV ?_;refine G2 ?_;refine G2 ?_;refine⟨_,[],Aw J J Y34.h J Sz34 Z1 (by simp[hs64]),sP,sP,?_,rfl⟩;rfl
theorem r2_join(p:Option Addr)(n c:Nat)(ss:List Sl)(ls:List (List UInt8))(hss:ss.length=n)(hls:ls.length=n)(hsl:∀j,j<n→(ss.getD j Sl.nil).n=(ls.getD j []).length∧((ss.getD j Sl.nil).p=none→(ss.getD j Sl.nil).n=0))(F:List UInt8)(hF:ls.flatten=F)(htot:F.length≤90000)(hn:n≤1000000)  :Meets prog 115 [.slice p n c] [] (fun W=>SeesP W p (ss.map Sl.v)∧∀j,j<n→SeesP W (ss.getD j Sl.nil).p (Aa (ls.getD j []))) (fun v out=>∃s,v=s.v∧Acc s out (Aa F) 5 F.length 1):=by
 intro W hW;have hle:=take_flat_le ls;rw[hF]at hle;refine Ad func115 J 18 ntmps115 J (G17 ?_);refine .loop (ι:=Nat×Sl×List Blk) (fun x=>⟨[(0, .slice p n c),(3,x.2.1.v),(4,i64 (x.1:Int))],(x.2.2++[])⟩) (fun x=>x.1≤n∧Acc x.2.1 x.2.2 (Aa (ls.take x.1).flatten) 5 (ls.take x.1).flatten.length 1) (fun x=>n-x.1) ((0,Sl.nil,[])) ?_ ?_ ?_
 ·exact⟨Lan _,Acc.none⟩
 ·exact Ag wN (pm_none Ae)
 rintro x ⟨hx,hax⟩;refine G9 ?_;refine .condP J (fun hc0=>?_) (fun hc0=>?_)
 ·
  have hx3:x.1<n:=by omega
  obtain⟨b,o,hbp,hbs⟩:=hW.1.at (by rw[La0];omega);have hv:W.cell? ⟨b,o+x.1*1,none⟩=some (ss.getD x.1 Sl.nil).v:=by rw[Lba];exact hbs x.1 _ (sl_get oM)
  have hstep:=hle (x.1+1);rw[take_flat oM,La2,←(hsl x.1 oM).1]at hstep;refine G8 ?_;refine .idxSlP 1 J J J hbp J Y150.h Sz33 x.1 J oM (.loadE J J J Y33.h J sP (hv) (.appendAcc (z:=u8 0) (by':=1) (Aa (ls.getD x.1 [])) J J J J J Y33.h Y33.h Sz5 Zr5 (by unfold By;kernel_rfl) J hax sG (fun w h=>A5 h J (hW.2 x.1 oM)) (hsl x.1 oM).2 (A0 _) oM oM (by rw[Aa,La0,Lba];exact(hsl x.1 oM).1.symm) ?_));intro s16 bl16 hac16;refine G10 ?_;refine⟨(x.1+1,s16,bl16),⟨by simp only[];omega,?_⟩,by simp only[];omega,Ag wN (Ac sG Ae)⟩;rw[take_flat oM,La2,←(hsl x.1 oM).1];simpa[Aa]using hac16
 have hx3:x.1=n:=by omega
 rw[hx3,La5 oM,hF]at hax;refine G11 ?_;refine G2 ?_;refine As (out:=(x.2.2++[])) (Af J J) (Ac sG Ae) ?_;exact⟨x.2.1,rfl,by rw[Lat];exact hax⟩
theorem pad_acc(F:List UInt8){q c:Nat}(x:UInt64)(h:F.length+1+padZ F.length+8≤c):Acc ⟨some ⟨q,0,none⟩,F.length+1+padZ F.length+8,c⟩ [⟨q,Aa (F++[128]++List.replicate (padZ F.length) 0)++List.replicate 8 (u8 0),5,c⟩] (Aa (F++[128]++List.replicate (padZ F.length) 0++beUp 0 8++beUp x 0)) 5 (F.length+1+padZ F.length+8+0) 1:=by
  have e:Aa (F++[128]++List.replicate (padZ F.length) 0)++List.replicate 8 (u8 0)=Aa (F++[128]++List.replicate (padZ F.length) 0++beUp 0 8++beUp x 0):=by
    rw[show beUp x 0=[]from rfl,Lat,bytesV_app (b:=beUp 0 8)];rfl
  have h2:(Aa (F++[128]++List.replicate (padZ F.length) 0++beUp 0 8++beUp x 0)).length=(F.length+1+padZ F.length+8)*1:=by
    simp[Aa,beUp_length];omega
  have h3:=Acc.some (q:=q) (E:=5) (size:=1) h h2;rw[Lba]at h3;rw[e];exact h3
theorem r2_Pad(s:Sl)(F:List UInt8)(hsl:s.n=F.length)(hsn:s.p=none→s.n=0)(htot:F.length≤90000):Meets prog 154 [s.v] [] (fun W=>SeesP W s.p (Aa F)) (fun v out=>∃s,v=s.v∧Acc s out (Aa (padB F)) 5 (padB F).length 1):=by
 intro W hW;have hz:=padZ_lt F.length;refine Ad func154 J 38 ntmps154 J (G7 ?_);refine .mkRow (z:=u8 0) [] ([]) J J J Y33.h Sz5 Zr5 J J (by intro v hv;cases hv) dE J ?_;intro q6;refine G1 ?_;refine .appendSl (z:=u8 0) (by':=1) (Aa F) J J J J J Y33.h Y33.h Sz5 Zr5 (by unfold By;kernel_rfl) J (fun w h=>A5 h J hW) hsn (A0 _) rM J J oM oM oM (by rw[Aa,La0];omega) ?_;intro q8 c8 hq8;refine .mkRow (z:=u8 0) [u8 (128)] (Aa [128]) J J J Y33.h Sz5 Zr5 J J (by intro v hv;rw[La1.1 hv];rfl) dE J ?_;intro q9;refine .appendSl (z:=u8 0) (by':=1) (Aa [128]) J J J J J Y33.h Y33.h Sz5 Zr5 (by unfold By;kernel_rfl) J (fun w h=>SeesP.of (An h Z0)) (fun e=>by cases e) (A0 _) rM J (by rw[Lah,Aa,La0];omega) oM oM oM (by rfl) ?_;intro q10 c10 hq10;refine G5 ?_;refine .loop (ι:=Nat×Sl×List Blk) (fun z=>⟨[(0,s.v),(3,z.2.1.v)],(z.2.2++[])⟩) (fun z=>z.1≤padZ F.length∧Acc z.2.1 z.2.2 (Aa (F++[128]++List.replicate z.1 0)) 5 (F.length+1+z.1) 1) (fun z=>padZ F.length-z.1) ((0,⟨some ⟨q10,0,none⟩,0+s.n+1,c10⟩,[⟨q10,[]++Aa F++Aa [128],5,c10*1⟩])) ?_ ?_ ?_
 ·exact⟨Lan _,by rw[show[]++Aa F++Aa [128]=Aa (F++[128]++List.replicate 0 0)from by simp[Aa],show 0+s.n+1=F.length+1+0 by omega];exact Acc.some oM (by simp[Aa])⟩
 ·exact Ag wN (pm_consE rM rfl rfl Ae)
 rintro⟨j,sz,blz⟩ ⟨hz1,haz⟩;simp only[]at hz1 haz;have hzn:=haz.num;have hpz:=padZ_at F.length j hz1;refine G5 ?_;refine .rem_i64 J J J J oM (G3 ?_);refine .condNP J (fun hc0=>?_) (fun hc0=>?_)
 ·
  simp only[]at hc0;have hz3:j<padZ F.length:=by omega
  refine G5 ?_;refine .mkRow (z:=u8 0) [u8 (0)] (Aa [0]) J J J Y33.h Sz5 Zr5 J J (by intro v hv;rw[La1.1 hv];rfl) dE J ?_;intro q16;refine .appendAcc (z:=u8 0) (by':=1) (Aa [0]) J J J J J Y33.h Y33.h Sz5 Zr5 (by unfold By;kernel_rfl) J haz sG (fun w h=>SeesP.of (An h Z0)) (fun e=>by cases e) (A0 _) oM oM (by rfl) ?_;intro s17 bl17 hac17;refine G4 ?_;refine⟨(j+1,s17,bl17),⟨by simp only[];omega,?_⟩,by simp only[];omega,Ag wN (Ac sG Ae)⟩;rw[Lfo,←La8];simpa[Aa,Lcd]using hac17
 simp only[]at hc0;have hz3:j=padZ F.length:=by omega
 rw[hz3]at haz;obtain⟨qz,cz,rfl,hcz,rfl⟩:=acc_pos haz oM;refine G8 ?_;refine .appendMade (n:=F.length+1+padZ F.length) (m:=8) (z:=u8 0) (by':=1) J J J J J J Y33.h Y3.h Sz5 Zr5 (by unfold By;kernel_rfl) J J rM (Lba _) (by rw[Aa,La0];simp;omega) hcz oM dE ?_;intro q19 c19 hq19;refine G8 ?_;rw[word_nat (n:=s.n) oM];refine .mul_u64 J J J (show Ai _ _=some (u64 8)from rfl) ?_;rw[hsl];refine G10 ?_;refine .loop (ι:=Nat×Sl×List Blk) (fun y=>⟨[(3,y.2.1.v),(4,u64 (UInt64.ofNat F.length*8)),(5,i64 (7-(y.1:Int)))],(y.2.2++[])⟩) (fun y=>y.1≤8∧Acc y.2.1 y.2.2 (Aa (F++[128]++List.replicate (padZ F.length) 0++beUp 0 8++beUp (UInt64.ofNat F.length*8) y.1)) 5 (F.length+1+padZ F.length+8+y.1) 1) (fun y=>8-y.1) ((0,⟨some ⟨q19,0,none⟩,F.length+1+padZ F.length+8,c19⟩,[⟨q19,Aa (F++[128]++List.replicate (padZ F.length) 0)++List.replicate 8 (u8 0),5,c19⟩])) ?_ ?_ ?_
 ·exact⟨Lan _,pad_acc F _ hq19⟩
 ·exact Ag wN (pm_consE rM rfl rfl Ae)
 rintro y ⟨hy,hay⟩;refine G7 ?_;refine .condP J (fun hc1=>?_) (fun hc1=>?_)
 ·
  have hy3:y.1≤7:=by omega
  refine G8 ?_;refine .mul_i64 J J J J oM (G1 ?_);refine .shr_u64 J J J J (56-8*y.1) (by rw[wordOf_id _ oM];omega) oM ?_;refine G1 ?_;refine .mkRow (z:=u8 0) [u8 ((Ax (UInt64.ofNat F.length*8) (56-8*y.1)).toUInt8)] (Aa [(Ax (UInt64.ofNat F.length*8) (56-8*y.1)).toUInt8]) J J J Y33.h Sz5 Zr5 J J (by intro v hv;rw[La1.1 hv];rfl) dE J ?_;intro q35;refine .appendAcc (z:=u8 0) (by':=1) (Aa [(Ax (UInt64.ofNat F.length*8) (56-8*y.1)).toUInt8]) J J J J J Y33.h Y33.h Sz5 Zr5 (by unfold By;kernel_rfl) J hay sG (fun w h=>SeesP.of (An h Z0)) (fun e=>by cases e) (A0 _) oM oM (by rfl) ?_;intro s36 bl36 hac36;refine G10 ?_;refine⟨(y.1+1,s36,bl36),⟨by simp only[];omega,?_⟩,by simp only[];omega,Ag (wk1 J (wk1 J (wk1 (congrArg (fun z=>some (i64 z)) oM) wk0))) (Ac sG Ae)⟩;rw[show beUp (UInt64.ofNat F.length*8) (y.1+1)=beUp (UInt64.ofNat F.length*8) y.1++[(Ax (UInt64.ofNat F.length*8) (56-8*y.1)).toUInt8]from rfl,←La8,bytesV_app];exact hac36
 have hy3:y.1=8:=by omega
 rw[hy3]at hay;refine G11 ?_;refine G2 ?_;refine As (out:=(y.2.2++[])) (Af J J) (Ac sG Ae) ?_;refine⟨y.2.1,rfl,?_⟩;have e8:UInt64.ofNat F.length*8=UInt64.ofNat (8*F.length):=by
  apply Lbn.1;rw[mul8_nat (by rw[ofNat_nat oM];omega),ofNat_nat oM,ofNat_nat oM];omega
 rw[e8]at hay;rw[padB_length,padB];simpa[Lcd,Le7,Nat.add_left_comm]using hay
theorem take_len2{xs:List UInt8}{i K:Nat}(h:xs.length=128*K)(hi:i<K):((xs.drop (128*i)).take 128).length=128:=by simp;omega
theorem sees_chunk{w:World}{l:List UInt8}(h:De w q 0 (Aa l)):De w q (128*i) (Aa ((l.drop (128*i)).take 128)):=fun j v hj=>by
  have e:(Aa l)[128*i+j]? =some v:=by
    rw[Aa,Lbe,Lej,Lby]at hj;split at hj
    ·rwa[Lb9]at hj
    ·cases hj
  have h1:=h _ v e;rwa[Lb2]at h1
theorem cut_chunk(q c i:Nat)(h:128*i<c):(.slice (some ⟨q,if c=128*i then 0 else 0+128*i*1,none⟩) (128*i+128-128*i) (c-128*i):Value)= .slice (some ⟨q,128*i,none⟩) 128 (c-128*i):=by
  rw[if_neg oM,show 128*i+128-128*i=128 by omega,show 0+128*i*1=128*i by omega]
theorem r2_run(st:List UInt64)(hst:st.length=8)(k:List UInt64)(hk:Hid (kW=k))(hk80:k.length=80)(s:Sl)(F:List UInt8)(hsl:s.n=F.length)(hsn:s.p=none→s.n=0)(htot:F.length≤90000):Mv 113 [agg (Al st),s.v] (fun W=>SeesP W s.p (Aa F)) (agg (Al (allW k st F))):=by
 intro W hW;have hpl:=padB_length F;have hpz:=padZ_lt F.length;have hpm:=padB_mod F;obtain⟨K,hK⟩:∃K,(padB F).length/128=K:=⟨_,rfl⟩;rw[hK]at hpm;obtain⟨U,hU⟩:∃U,Hid (allW k st F=U):=⟨_,⟨rfl⟩⟩;have hst2:U.length=8:=by rw[←hU.out,allW_length];exact hst
 rw[hU.out];have hrl:=hst2;refine Ad func113 J 23 ntmps113 J (G3 ?_);intro n2 hn2 hf2;refine .alloc (cs:=(Al (List.replicate 8 0))) J Zr152 J ?_;intro n4 hn4 hf4;refine G5 ?_;refine .call4 J J J J J Body154 (r2_Pad s F hsl hsn htot) (fun w h=>A5 h J hW) ?_;rintro v8 out8 ⟨s7,rfl,hac7⟩;obtain⟨q7,c7,rfl,hc7,rfl⟩:=acc_pos hac7 oM;refine G10 ?_;refine .loop (ι:=Nat) (fun i=>⟨[(2,ptr n2 0),(4,ptr n4 0),(5, .slice (some ⟨q7,0,none⟩) (padB F).length c7),(6,i64 ((128*i:Nat):Int))],[⟨q7,Aa (padB F),5,c7*1⟩,⟨n4,Al (List.replicate 8 0),152,8⟩,⟨n2,Al (runW k st (padB F) i),152,(Al st).length⟩]⟩) (fun i=>i≤K) (fun i=>K-i) (0) ?_ ?_ ?_
 ·exact Lan _
 ·exact Ag wN (Ab rM (Ab rM (Ab rM Ae)))
 rintro i hi;have hrl:(runW k st (padB F) i).length=8:=by rw[runW_length];exact hst
 refine G9 ?_;refine .condP J (fun hc0=>?_) (fun hc0=>?_)
 ·
  have hi3:i<K:=by omega
  obtain⟨A,hA⟩:∃A,Hid (schA ((padB F).drop (128*i)|>.take 128) 128=A):=⟨_,⟨rfl⟩⟩;obtain⟨w,hwp⟩:∃w,Hid (schB A 64=w):=⟨_,⟨rfl⟩⟩;obtain⟨R,hR⟩:∃R,Hid (rnds k w (W8.of (runW k st (padB F) i)) 80=R):=⟨_,⟨rfl⟩⟩;have e1:addUp (runW k st (padB F) i) R.l 8=runW k st (padB F) (i+1):=by rw[runW,pieceW,schW,hA.out,hwp.out,hR.out]
  have hrl2:(runW k st (padB F) (i+1)).length=8:=by rw[runW_length];exact hst
  refine G4 ?_;refine .draw (oPq [100,1,2,3,4,5,306,407]) Aq zK (.lA J J J Y152.h J Sz152 Z2 (by(simp[hrl];done)) ?_);refine G4 ?_;refine .sliceLoHiN (128*i) (128*i+128) J J J J J oM oM oM oM Y33.h Sz5 ?_;rw[cut_chunk q7 c7 i oM];refine .cV J J J J Body155 (r2_piece (runW k st (padB F) i) hrl ((padB F).drop (128*i)|>.take 128) (take_len2 hpm hi3) q7 (128*i) (c7-128*i) A w k R hA hwp hk hk80 hR) (fun w h=>sees_chunk (An h Z0)) ?_;rw[e1];refine .sA J J J J zB Sz152 (by(simp[hst,runW_length];done)) Z2 (by(simp[hrl];done)) (by exact upd2) ?_;refine G9 ?_;exact⟨i+1,by omega,by omega,Ag (wk1 rfl (wk1 rfl (wk1 rfl (wk1 (congrArg (fun z=>some (i64 z)) oM) wk0)))) (Ab rM (Ab rM (Ab rM Ae)))⟩
 rw[show(runW k st (padB F) i)=U from by rw[show i=K by omega,←hU.out,allW,hK]];refine G7 ?_;refine .lA J J J Y152.h J Sz152 Z2 (by(simp[hst2];done)) ?_;refine .sA J J J J zB Sz152 (by(simp[hst2];done)) Z1 sP zV ?_;refine G2 ?_;refine G2 ?_;refine⟨_,[],Aw J J Y152.h J Sz152 Z1 (by simp[hst2]),sP,sP,?_,rfl⟩;rfl
theorem r2_Sum512(p:Option Addr)(n c:Nat)(ss:List Sl)(ls:List (List UInt8))(hss:ss.length=n)(hls:ls.length=n)(hsl:∀j,j<n→(ss.getD j Sl.nil).n=(ls.getD j []).length∧((ss.getD j Sl.nil).p=none→(ss.getD j Sl.nil).n=0))(F:List UInt8)(hF:ls.flatten=F)(htot:F.length≤90000)(hn:n≤1000000)(s:List UInt8)(hs:Hid (sha512 F=s))  :Mv 193 [.slice p n c] (fun W=>SeesP W p (ss.map Sl.v)∧∀j,j<n→SeesP W (ss.getD j Sl.nil).p (Aa (ls.getD j []))) (agg (Aa s)):=by
 intro W hW;have hs64:s.length=64:=by rw[←hs.out];exact sha512_length F
 obtain⟨k,hk⟩:∃k,Hid (kW=k):=⟨_,⟨rfl⟩⟩;obtain⟨st,hst⟩:∃k,Hid (startW=k):=⟨_,⟨rfl⟩⟩;obtain⟨r,hr⟩:∃r,Hid (allW k st F=r):=⟨_,⟨rfl⟩⟩;have hk80:k.length=80:=by rw[←hk.out];rfl
 have hst8:st.length=8:=by rw[←hst.out];rfl
 have hr8:r.length=8:=by rw[←hr.out,allW_length];exact hst8
 have hsum:Hid (sumUp r 64=s):=⟨by rw[←hr.out,←hk.out,←hst.out];exact hs.out⟩;have hrun:=fun(x:Sl) (h1:x.n=F.length) (h2:x.p=none→x.n=0)=>r2_run st hst8 k hk hk80 x F h1 h2 htot;rw[hr.out]at hrun;refine Ad func193 J 8 ntmps193 J (G2 ?_);refine .alloc (cs:=(Aa (List.replicate 64 0))) J Zr34 J ?_;intro n2 hn2 hf2;refine G4 ?_;refine .cV J J J J Body156 (r2_Start st hst) tV (G1 ?_);refine .call4 J J J J J Body115 (r2_join p n c ss ls hss hls hsl F hF htot hn) (fun w h=>⟨A5 h J hW.1,fun j hj=>A5 h J (hW.2 j hj)⟩) ?_;rintro v5 out5 ⟨s5,rfl,hac5⟩;refine .cV J J J J Body113 (hrun s5 hac5.num hac5.nil) (fun w h=>hac5.see (Lies.of h (by repeat(exact Au)))) ?_;refine .cV J J J J Body112 (r2_bytes r hr8 s hsum) tV (.sA J J J J zE Sz34 (by(simp[hs64];done)) mR sP (by(repeat(first|exact upd0|apply Upd.seg))) ?_);refine G2 ?_;refine G2 ?_;refine⟨_,[],Aw J J Y34.h J Sz34 mR (by simp[hs64]),sP,sP,?_,rfl⟩;rfl
open Ed
variable{N i k m:Nat}{a b:List UInt8}{w x y:List Nat}
theorem bits_even(h:(i:Int).tmod 2=0):Bd i=26:=by
  unfold Bd;have e:(i:Int).tmod 2=((i%2:Nat):Int):=rfl;rw[if_pos oM]
theorem bits_odd(h:¬(i:Int).tmod 2=0):Bd i=25:=by
  unfold Bd;have e:(i:Int).tmod 2=((i%2:Nat):Int):=rfl;rw[if_neg oM]
theorem bits_w(i:Nat):((UInt64.ofNat (Bd i)).toNat:Int)=((Bd i:Nat):Int):=by
  have:=bits_26 i;rw[Lc4,Lai oM]
theorem bits_wn(i:Nat):(UInt64.ofNat (Bd i)).toNat=Bd i:=by
  have:=bits_26 i;rw[Lc4,Lai oM]
theorem carAt_nine(h:(k:Int)=9):Cy w (k+1)=((Cy w k).set k ((Cy w k).getD k 0%2^Bd k)).set 0 (((Cy w k).set k ((Cy w k).getD k 0%2^Bd k)).getD 0 0+19*((Cy w k).getD k 0/2^Bd k)):=stepC_nine oM
theorem carAt_low(h:¬(k:Int)=9):Cy w (k+1)=((Cy w k).set k ((Cy w k).getD k 0%2^Bd k)).set (k+1) (((Cy w k).set k ((Cy w k).getD k 0%2^Bd k)).getD (k+1) 0+(Cy w k).getD k 0/2^Bd k):=stepC_low oM
theorem opB_nine(h:(i:Int)=9):opB i=26:=if_pos oM
theorem opB_low(h:¬(i:Int)=9):opB i=Bd i:=if_neg oM
theorem natc{a b:Nat}(h:a=b):some (i64 (a:Int))=some (i64 (b:Int)):=by rw[h]
theorem r3_bits(i:Nat)(hi:i<10):Mv 269 [i64 (i:Int)] (fun _=>True) (u64 (UInt64.ofNat (Bd i))):=by
 intro W hW;refine Ad func269 J 6 ntmps269 J (G2 ?_);refine .a J J (show Ai _ _=some (u64 0)from rfl) (G6 ?_);refine .rem_i64 J J J J oM (G3 ?_);refine .condP J (fun hc0=>?_) (fun hc0=>?_)
 ·
  rw[bits_even hc0];refine G2 ?_;refine .a J J (show Ai _ _=some (u64 26)from rfl) (G2 ?_);refine G3 ?_;refine⟨_,[],Af J J,sP,sP,?_,rfl⟩;rfl
 rw[bits_odd hc0];refine G4 ?_;refine .a J J (show Ai _ _=some (u64 25)from rfl) (G2 ?_);refine G2 ?_;refine⟨_,[],Af J J,sP,sP,?_,rfl⟩;rfl
theorem r3_carry(w:List Nat)(h:Mid10 w):Mv 270 [agg (Bp w)] (fun _=>True) (agg (Bp (Cz w))):=by
 intro W hW;have hlw:=h.len;obtain⟨u,hu0⟩:∃u,Hid (Cz w=u):=⟨_,⟨rfl⟩⟩;have hul:u.length=10:=by rw[←hu0.out];exact car10_length w
 rw[hu0.out];refine Ad func270 J 43 ntmps270 J (G3 ?_);intro n1 hn1 hf1;refine .alloc (cs:=(Cc (List.replicate 10 0))) J Zr251 J ?_;intro n2 hn2 hf2;refine G9 ?_;refine .loop (ι:=Nat) (fun k=>⟨[(1,ptr n1 0),(2,ptr n2 0),(3,i64 (k:Int))],[⟨n2,(Cc (List.replicate 10 0)),251,10⟩,⟨n1,Bp (Cy w k),251,(Bp w).length⟩]⟩) (fun k=>k≤10) (fun k=>10-k) (0) ?_ ?_ ?_
 ·omega
 ·exact Ah wN (wh1 Z0 (wh1 Z1 wh0)) nD
 rintro k hi;have hlc:=carAt_length h.len k;refine G7 ?_;refine .condP J (fun hc0=>?_) (fun hc0=>?_)
 ·
  have hk2:k<10:=by omega
  have ck:=carK h hk2;have hb26:=bits_26 k;have hcut:=car_cut ((Cy w k).getD k 0) (Bd k);have hx:=ck.x;have hq:=ck.q;have hsl:((Cy w k).set k ((Cy w k).getD k 0%2^Bd k)).length=10:=by rw[Lbs];exact hlc
  refine G5 ?_;refine .draw (oPq [0,1,102,3,304,5,6]) Aq zK (G1 ?_);refine .i1 J J J J Cn Sz2 _ J oM (.load1 J J J Y2 J Z1 (by exact get_wds oM) ?_);refine G1 ?_;refine .cV J J J J Body269 (r3_bits k hk2) tV (.shrN ((Cy w k).getD k 0) (Bd k) J J J J (bits_w k) oM (G4 ?_));refine .draw (oPq [0,1,2,103,4,5,306,7,8,9,410]) Aq zK (G2 ?_);refine .i1 J J J J Cn Sz2 _ J oM (.load1 J J J Y2 J Z1 (by exact get_wds oM) ?_);refine G2 ?_;refine .cV J J J J Body269 (r3_bits k hk2) tV (.shlN ((Cy w k).getD k 0/2^Bd k) (Bd k) J J J J (bits_w k) oM oM (.subN ((Cy w k).getD k 0) ((Cy w k).getD k 0/2^Bd k*2^Bd k) J J J J oM (.i1 J J J J Cn Sz2 _ J oM ?_)));rw[hcut.2];refine .s1 J J J J J Sz2 Z1 (by(simp[Ap];omega)) (by exact set_wds _ _ _) zV ?_;refine G8 ?_;refine .condP J (fun hc1=>?_) (fun hc1=>?_)
  ·
   have hfs:=ck.fs oM;refine .region (.i1 J J J J Cn Sz2 0 J dE (.load1 J J J Y2 J Z1 (by exact get_wds oM) ?_));refine G1 ?_;refine .mulN (19) ((Cy w k).getD k 0/2^Bd k) J J J J oM (.addN (((Cy w k).set k ((Cy w k).getD k 0%2^Bd k)).getD 0 0) (19*((Cy w k).getD k 0/2^Bd k)) J J J J oM (.i1 J J J J Cn Sz2 0 J dE (.s1 J J J J J Sz2 Z1 (by(simp[Ap];omega)) (by exact set_wds _ _ _) zV ?_)));refine G9 ?_;exact⟨k+1,by omega,by omega,Ah wN (wh1 Z0 (wh1 (by(rw[carAt_nine hc1];exact mem1)) wh0)) nD⟩
  have hnx:=ck.nx oM;refine G2 ?_;refine .addN (k) (1) J J J J oM (G1 ?_);refine .addN (k) (1) J J J J oM (.i1 J J J J Cn Sz2 _ J oM (.load1 J J J Y2 J Z1 (by exact get_wds oM) ?_));refine G1 ?_;refine .addN (((Cy w k).set k ((Cy w k).getD k 0%2^Bd k)).getD (k+1) 0) ((Cy w k).getD k 0/2^Bd k) J J J J oM (.i1 J J J J Cn Sz2 _ J oM (.s1 J J J J J Sz2 Z1 (by(simp[Ap];omega)) (by exact set_wds _ _ _) zV ?_));refine G9 ?_;exact⟨k+1,by omega,by omega,Ah wN (wh1 Z0 (wh1 (by(rw[carAt_low hc1];exact mem1)) wh0)) nD⟩
 rw[show Cy w k=u from by rw[show k=10 by omega,carAt_eq h.len,hu0.out]];refine G7 ?_;refine .lA J J J Cn J Sz251 Z1 (by(simp[Ap,hul];done)) ?_;refine .sA J J J J (by exact Co _) Sz251 (by(simp[Ap,hul];done)) Z0 sP zU ?_;refine G2 ?_;refine G2 ?_;refine⟨_,[],Aw J J Cn J Sz251 Z0 (by simp[Ap,hul]),sP,sP,?_,rfl⟩;rfl
theorem op_on(hi:i<10)(hb:N.testBit (Bw i+k)=true):((opAt N i).set i (N/2^Bw i%2^k)).set i (((opAt N i).set i (N/2^Bw i%2^k)).getD i 0+1*2^k)=(opAt N i).set i (N/2^Bw i%2^(k+1)):=by
  have hl:=opAt_length N i oM;rw[getD_set' oM,if_pos rfl,List.set_set,op_bit,hb,if_pos rfl,Ldy]
theorem op_off(hb:N.testBit (Bw i+k)=false):(opAt N i).set i (N/2^Bw i%2^k)=(opAt N i).set i (N/2^Bw i%2^(k+1)):=by
  rw[op_bit,hb,if_neg dE,Lca]
theorem op_val(hi:i<10)(hk:k≤26):((opAt N i).set i (N/2^Bw i%2^k)).getD i 0≤67108864∧2^k≤67108864:=by
  have hl:=opAt_length N i oM;have h1:2^k≤2^26:=Lck dE hk;have h2:N/2^Bw i%2^k<2^k:=Lc3 _ (Lc5 dE);rw[getD_set' oM,if_pos rfl];omega
theorem bit_is(h:(((UInt8.ofNat ((shr8 (a.getD (m/8) 0) (m%8)).toNat%2)).toNat:Int)=1)):(le a).testBit m=true:=by rw[←bit_rem];exact decide_eq_true h
theorem bit_isn(h:¬(((UInt8.ofNat ((shr8 (a.getD (m/8) 0) (m%8)).toNat%2)).toNat:Int)=1)):(le a).testBit m=false:=by rw[←bit_rem];exact decide_eq_false h
theorem r3_Open(a:List UInt8)(ha:a.length=32):Mv 232 [agg (Aa a)] (fun _=>True) (agg (Bp (openT (le a)))):=by
 intro W hW;obtain⟨u,hu⟩:∃u,Hid (openT (le a)=u):=⟨_,⟨rfl⟩⟩;obtain⟨D,hD⟩:∃D,Hid (opD (le a)=D):=⟨_,⟨rfl⟩⟩;have hu10:u.length=10:=by rw[←hu.out];exact openT_length _
 have hd10:D.length=10:=by rw[←hD.out];exact opD_length _
 have hc:=r3_carry D (by rw[←hD.out];exact opD_mid _);rw[show Cz D=u from by rw[←hD.out];exact hu.out]at hc;rw[hu.out];have hsl:=hd10;refine Ad func232 J 58 ntmps232 J (G3 ?_);intro n1 hn1 hf1;refine .alloc (cs:=(Cc (List.replicate 10 0))) J Zr251 J ?_;intro n2 hn2 hf2;refine G4 ?_;refine .alloc (cs:=(Cc (List.replicate 10 0))) J Zr251 J ?_;intro n3 hn3 hf3;refine G14 ?_;refine .loop (ι:=Nat) (fun i=>⟨[(1,ptr n1 0),(2,ptr n2 0),(3,ptr n3 0),(4,i64 ((Bw i:Nat):Int)),(5,i64 (i:Int))],[⟨n3,Bp (opAt (le a) i),251,10⟩,⟨n2,(Cc (List.replicate 10 0)),251,10⟩,⟨n1,Aa a,187,(Aa a).length⟩]⟩) (fun i=>i≤10) (fun i=>10-i) (0) ?_ ?_ ?_
 ·omega
 ·exact Ah wN (wh1 (by rw[show Bp (opAt (le a) 0)=Cc (List.replicate 10 0)from rfl];exact Cb) (wh1 Z1 (wh1 Z2 wh0))) nD
 rintro i hi;refine G7 ?_;refine .condP J (fun hc0=>?_) (fun hc0=>?_)
 ·
  have hi2:i<10:=by omega
  have hb26:=bits_26 i;have hbw:=bits_wn i;have hop:=at_op hi2;have hopl:=op_le i;have hat:=at_le hi2;refine G7 ?_;refine .cV J J J J Body269 (r3_bits i hi2) tV (.conv J J J Y139.h Y3.h (cv_u64_i64 oM) ?_);rw[bits_wn];refine G3 ?_;refine .join (ι:=Unit) (fun _u=>⟨[(1,ptr n1 0),(2,ptr n2 0),(3,ptr n3 0),(4,i64 ((Bw i:Nat):Int)),(5,i64 (i:Int)),(6,i64 ((opB i:Nat):Int))],[⟨n3,Bp (opAt (le a) i),251,10⟩,⟨n2,(Cc (List.replicate 10 0)),251,10⟩,⟨n1,Aa a,187,(Aa a).length⟩]⟩) (fun _u=>True) ?_ ?_
  ·
   refine G6 ?_;refine .condP J (fun hc1=>?_) (fun hc1=>?_)
   ·
    refine G4 ?_
    (rw[opB_nine hc1];exact⟨(),trivial,Ah wN (wh1 Z0 (wh1 Z1 (wh1 Z2 wh0))) nD⟩)
   refine G2 ?_
   (rw[opB_low hc1];exact⟨(),trivial,Ah wN (wh1 Z0 (wh1 Z1 (wh1 Z2 wh0))) nD⟩)
  intro _u hj;skip;refine G7 ?_;refine .loop (ι:=Nat) (fun k=>⟨[(1,ptr n1 0),(2,ptr n2 0),(3,ptr n3 0),(4,i64 ((Bw i:Nat):Int)),(5,i64 (i:Int)),(6,i64 ((opB i:Nat):Int)),(7,i64 (k:Int))],[⟨n3,Bp ((opAt (le a) i).set i (le a/2^Bw i%2^k)),251,10⟩,⟨n2,(Cc (List.replicate 10 0)),251,10⟩,⟨n1,Aa a,187,(Aa a).length⟩]⟩) (fun k=>k≤opB i) (fun k=>opB i-k) (0) ?_ ?_ ?_
  ·exact Lan _
  ·exact Ah wN (wh1 (by rw[opAt_first _ hi2];exact Cb) (wh1 Z1 (wh1 Z2 wh0))) nD
  rintro k hk;have hsl:((opAt (le a) i).set i (le a/2^Bw i%2^k)).length=10:=by rw[Lbs];exact opAt_length _ i oM
  refine G5 ?_;refine two (fun r hr k=>Tr.lss J J J J hr k) (fun hs10_20=>?_) (fun hs10_20=>?_)
  ·
   have hs10_2:=of_decide_eq_true hs10_20;skip;refine G3 ?_;refine .addN (Bw i) (k) J J J J oM (.lss J J J J (decide_eq_true oM) (G3 ?_));refine .cond_t J J (G8 ?_);refine .addN (Bw i) (k) J J J J oM (.quoN (Bw i+k) (8) J J J J ⟨by decide,by omega⟩ ?_);refine .i1 J J J J Y187.h Sz5 _ J oM (G3 ?_);refine .addN (Bw i) (k) J J J J oM (.remN (Bw i+k) (8) J J J J dE (G1 ?_));refine .shr_u8 J J J J ((Bw i+k)%8) (by rw[wordOf_id _ oM]) oM ?_;refine .rem_u8 J J J J 2 J dE (G3 ?_);refine .condP J (fun hc3=>?_) (fun hc3=>?_)
   ·
    have hbt:=bit_is hc3;have hov:=op_val (N:=le a) hi2 (show k≤26 by omega);refine G3 ?_;refine .i1 J J J J Cn Sz2 _ J oM (.load1 J J J Y2 J Z0 (by exact get_wds oM) ?_);refine G2 ?_;refine .shlN 1 k J J J J (wordOf_id _ oM) oM oM (.addN (((opAt (le a) i).set i (le a/2^Bw i%2^k)).getD i 0) (1*2^k) J J J J oM (.i1 J J J J Cn Sz2 _ J oM (.s1 J J J J J Sz2 Z0 (by(simp[Ap,hsl];omega)) (by exact set_wds _ _ _) zU ?_)));refine G9 ?_;exact⟨k+1,by omega,by omega,Ah wN (wh1 (by(rw[←op_on hi2 hbt];exact Cb)) (wh1 Z1 (wh1 Z2 wh0))) nD⟩
   have hbf:=bit_isn hc3;refine G9 ?_;exact⟨k+1,by omega,by omega,Ah wN (wh1 (by(rw[←op_off hbf];exact Cb)) (wh1 Z1 (wh1 Z2 wh0))) nD⟩
  have hs10_2:=of_decide_eq_false hs10_20;skip;refine G8 ?_;refine .cond_f J J (G8 ?_);refine .cV J J J J Body269 (r3_bits i hi2) tV (.conv J J J Y139.h Y3.h (cv_u64_i64 oM) ?_);rw[bits_wn];refine .addN (Bw i) (Bd i) J J J J oM (G10 ?_);exact⟨i+1,by omega,by omega,Ah (wk1 rfl (wk1 rfl (wk1 rfl (wk1 (natc (at_succ hi2)) wN)))) (wh1 (by rw[←opAt_set (le a) hi2,show opB i=k by omega];exact Cb) (wh1 Z1 (wh1 Z2 wh0))) nD⟩
 rw[show opAt (le a) i=D from by rw[show i=10 by omega,opAt_ten];exact hD.out];refine G7 ?_;refine .lA J J J Cn J Sz251 Z0 (by(simp[Ap,hd10];done)) ?_;refine .cV J J J J Body270 (hc) tV (.sA J J J J (by exact Co _) Sz251 (by(simp[Ap,hu10];done)) Z1 sP zV ?_);refine G2 ?_;refine G2 ?_;refine⟨_,[],Aw J J Cn J Sz251 Z1 (by simp[Ap,hu10]),sP,sP,?_,rfl⟩;rfl
theorem close_first(X:Nat):leb 32 (X%2^Bw 0)=List.replicate 32 0:=by
  rw[show Bw 0=0 from rfl,Lds,Lfx,leb_zero32]
theorem r3_Close(w:List Nat)(hw:Fit10 w):Mv 274 [agg (Bp w)] (fun _=>True) (agg (Aa (fb (fe (v10 w))))):=by
 intro W hW;have hlw:=hw.len;obtain⟨X,hX⟩:∃X,Hid (low10 w=X):=⟨_,⟨rfl⟩⟩;have hX255:X<2^255:=by rw[←hX.out];exact low10_lt hw
 have h4:=car10_four hw;rw[hX.out]at h4;have hfx:fe (v10 w)=fe X:=by rw[←hX.out];exact(low10_fe w).symm
 rw[hfx];have f1:Fit10 (Cz w):=car10_fit (by have:=hw.v;omega);have f2:Fit10 (Cz (Cz w)):=car10_fit (by have:=f1.v;omega);have f3:Fit10 (Cz (Cz (Cz w))):=car10_fit (by have:=f2.v;omega);have c1:=r3_carry w hw.mid;have c2:=r3_carry _ f1.mid;have c3:=r3_carry _ f2.mid;have c4:=r3_carry _ f3.mid;rw[h4]at c4;have hl1:=f1.len;have hl2:=f2.len;have hl3:=f3.len;have hDl:(dg X b10).length=10:=by rw[dg_length];rfl
 have hDb:∀i k,i<10→k<Bd i→(((((dg X b10).getD i 0/2^k%2:Nat):Int)=1)↔X.testBit (Bw i+k)=true):=fun i k h1 h2=>dg_bit_dec X h1 h2;have ht:=fun h=>not_top hX255 h;have hm:=fun i h1 h2 h=>not_mid (i:=i) hX255 h1 h2 h;have htop:=fun h1 h2 h3=>is_top hX255 h1 h2 h3;obtain⟨O,hO⟩:∃O,Hid (leb 32 X=O):=⟨_,⟨rfl⟩⟩;have hOl:O.length=32:=by rw[←hO.out];exact Am _ _
 rw[hO.out]at ht hm htop;clear f1 f2 f3 h4;revert c1 c2 c3 c4 hl1 hl2 hl3 hDl hDb;generalize Cz (Cz (Cz w))=w3;generalize Cz (Cz w)=w2;generalize Cz w=w1;generalize dg X b10=D;intro c1 c2 c3 c4 hl1 hl2 hl3 hDl hDb;generalize hFB:fb (fe X)=FB at ht hm htop ⊢;refine Ad func274 J 77 ntmps274 J (G3 ?_);intro n1 hn1 hf1;refine .alloc (cs:=(Aa (List.replicate 32 0))) J A8 J ?_;intro n2 hn2 hf2;refine G4 ?_;refine .lA J J J Cn J Sz251 Z1 (by(simp[Ap,hlw];done)) ?_;refine .cV J J J J Body270 (c1) tV (.cV J J J J Body270 (c2) tV (.cV J J J J Body270 (c3) tV (.cV J J J J Body270 (c4) tV (.sA J J J J (by exact Co _) Sz251 (by(simp[Ap,hDl];done)) Z1 (by(simp[Ap,hlw];done)) zV ?_))));refine G4 ?_;refine .alloc (cs:=(Aa (List.replicate 32 0))) J A8 J ?_;intro n3 hn3 hf3;refine G14 ?_;refine .loop (ι:=Nat) (fun i=>⟨[(1,ptr n1 0),(2,ptr n2 0),(3,ptr n3 0),(4,i64 ((Bw i:Nat):Int)),(5,i64 (i:Int))],[⟨n3,Aa (leb 32 (X%2^Bw i)),187,32⟩,⟨n2,Aa (List.replicate 32 0),187,32⟩,⟨n1,Bp D,251,(Bp w).length⟩]⟩) (fun i=>i≤10) (fun i=>10-i) (0) ?_ ?_ ?_
 ·omega
 ·exact Ah wN (wh1 (by rw[close_first];exact Cb) (wh1 Z1 (wh1 Z2 wh0))) nD
 rintro i hi;refine G7 ?_;refine .condP J (fun hc0=>?_) (fun hc0=>?_)
 ·
  have hi2:i<10:=by omega
  have hb26:=bits_26 i;have hbw:=bits_wn i;have hat:=at_le hi2;have hat2:=at_succ hi2;have hat3:Bw (i+1)≤255:=by unfold Bw;omega
  refine G11 ?_;refine .loop (ι:=Nat) (fun k=>⟨[(1,ptr n1 0),(2,ptr n2 0),(3,ptr n3 0),(4,i64 ((Bw i:Nat):Int)),(5,i64 (i:Int)),(6,i64 (k:Int))],[⟨n3,Aa (leb 32 (X%2^(Bw i+k))),187,32⟩,⟨n2,Aa (List.replicate 32 0),187,32⟩,⟨n1,Bp D,251,(Bp w).length⟩]⟩) (fun k=>k≤Bd i) (fun k=>Bd i-k) (0) ?_ ?_ ?_
  ·exact Lan _
  ·exact Ah wN (wh1 (by rw[Lca];exact Cb) (wh1 Z1 (wh1 Z2 wh0))) nD
  rintro k hk;refine G5 ?_;refine .cV J J J J Body269 (r3_bits i hi2) tV (.conv J J J Y139.h Y3.h (cv_u64_i64 oM) ?_);rw[bits_wn];refine G3 ?_;refine .condP J (fun hc1=>?_) (fun hc1=>?_)
  ·
   refine G7 ?_;refine .i1 J J J J Cn Sz2 _ J oM (.load1 J J J Y2 J Z2 (by exact get_wds oM) ?_);refine G2 ?_;refine .shrN (D.getD i 0) (k) J J J J (wordOf_id _ oM) oM (.remN (D.getD i 0/2^k) (2) J J J J dE (G3 ?_));refine .condP J (fun hc2=>?_) (fun hc2=>?_)
   ·
    have hbt:=(hDb i k hi2 oM).1 hc2;have hbs:leb 32 (X%2^(Bw i+(k+1)))=_:=(bit_set X (m:=Bw i+k) oM hbt).symm;refine G3 ?_;refine .addN (Bw i) (k) J J J J oM (.quoN (Bw i+k) (8) J J J J ⟨by decide,by omega⟩ ?_);refine G2 ?_;refine .addN (Bw i) (k) J J J J oM (.quoN (Bw i+k) (8) J J J J ⟨by decide,by omega⟩ ?_);refine .i1 J J J J Y187.h Sz5 _ J oM (.load1 J J J Y5.h J Z0 (by exact get_bytes (by(simp[Am];omega))) ?_);refine G2 ?_;refine .addN (Bw i) (k) J J J J oM (.remN (Bw i+k) (8) J J J J dE (G1 ?_));refine .shl_u8 J J (show Ai _ _=some (u8 1)from rfl) J ((Bw i+k)%8) (by rw[wordOf_id _ oM]) oM ?_;refine .add_u8 J J J J (.i1 J J J J Y187.h Sz5 _ J oM (.s1 J J J J J Sz5 Z0 (by(simp[Am];omega)) (by exact Bl _ _ _) zU ?_));refine G9 ?_;exact⟨k+1,by omega,by omega,Ah wN (wh1 (by rw[hbs];exact Cb) (wh1 Z1 (wh1 Z2 wh0))) nD⟩
   have hbf:X.testBit (Bw i+k)=false:=Bool.eq_false_iff.2 (fun e=>hc2 ((hDb i k hi2 oM).2 e));have hbs:leb 32 (X%2^(Bw i+(k+1)))=leb 32 (X%2^(Bw i+k)):=(bit_off X (Bw i+k) hbf).symm;refine G9 ?_;exact⟨k+1,by omega,by omega,Ah wN (wh1 (by rw[hbs];exact Cb) (wh1 Z1 (wh1 Z2 wh0))) nD⟩
  refine G8 ?_;refine .cV J J J J Body269 (r3_bits i hi2) tV (.conv J J J Y139.h Y3.h (cv_u64_i64 oM) ?_);rw[bits_wn];refine .addN (Bw i) (Bd i) J J J J oM (G10 ?_);exact⟨i+1,by omega,by omega,Ah (wk1 rfl (wk1 rfl (wk1 rfl (wk1 (natc (at_succ hi2)) wN)))) (wh1 (by rw[←at_succ hi2,show Bd i=k by omega];exact Cb) (wh1 Z1 (wh1 Z2 wh0))) nD⟩
 rw[show leb 32 (X%2^Bw i)=O from by rw[show Bw i=255 from by rw[show i=10 by omega];rfl,Lai hX255];exact hO.out];refine G8 ?_;refine .i1 J J J J Y187.h Sz5 0 J dE (G1 ?_);refine two (fun r hr k=>Tr.lss J J J J hr k) (fun hs13_20=>?_) (fun hs13_20=>?_)
 ·
  have hs13_2:=of_decide_eq_true hs13_20;refine G7 ?_;refine .cond_t J J (G2 ?_);refine .lA J J J Y187.h J Sz187 Z0 (by(simp[hOl];done)) ?_;refine .sA J J J J zE Sz187 (by(simp[hOl];done)) Z1 sP zV ?_;refine G2 ?_;refine G3 ?_;refine⟨_,[],Aw J J Y187.h J Sz187 Z1 (by simp[hOl]),sP,sP,?_,rfl⟩;exact congrArg (fun l=>agg (Aa l)) (ht oM)
 have hs13_2:=of_decide_eq_false hs13_20;refine G1 ?_;refine .i1 J J J J Y187.h Sz5 31 J dE (G1 ?_);refine two (fun r hr k=>Tr.nei J J J J hr k) (fun hs13_60=>?_) (fun hs13_60=>?_)
 ·
  have hs13_6:=nd_t hs13_60;refine G3 ?_;refine .cond_t J J (G2 ?_);refine .lA J J J Y187.h J Sz187 Z0 (by(simp[hOl];done)) ?_;refine .sA J J J J zE Sz187 (by(simp[hOl];done)) Z1 sP zV ?_;refine G2 ?_;refine G3 ?_;refine⟨_,[],Aw J J Y187.h J Sz187 Z1 (by simp[hOl]),sP,sP,?_,rfl⟩;exact congrArg (fun l=>agg (Aa l)) (ht oM)
 have hs13_6:=nd_f hs13_60;refine G3 ?_;refine .cond_f J J (G9 ?_);refine .loop (ι:=Nat) (fun j=>⟨[(2,ptr n2 0),(3,ptr n3 0),(7,i64 (j:Int))],[⟨n3,Aa O,187,32⟩,⟨n2,Aa (List.replicate 32 0),187,32⟩]⟩) (fun j=>1≤j∧j≤31∧∀m,0<m→m<j→(O.getD m 0).toNat=255) (fun j=>31-j) (1) ?_ ?_ ?_
 ·exact⟨Lad _,by omega,fun m h1 h2=>by omega⟩
 ·exact Ah wN (wh1 Z0 (wh1 Z1 wh0)) nD
 rintro j ⟨hj1,hj2,hj3⟩;refine G7 ?_;refine .condP J (fun hc4=>?_) (fun hc4=>?_)
 ·
  refine G7 ?_;refine .i1 J J J J Y187.h Sz5 _ J oM (G4 ?_);refine .condNP J (fun hc5=>?_) (fun hc5=>?_)
  ·
   refine G2 ?_;refine .lA J J J Y187.h J Sz187 Z0 (by(simp[hOl];done)) ?_;refine .sA J J J J zE Sz187 (by(simp[hOl];done)) Z1 sP zV ?_;refine G2 ?_;refine G7 ?_;refine⟨_,[],Aw J J Y187.h J Sz187 Z1 (by simp[hOl]),sP,sP,?_,rfl⟩;exact congrArg (fun l=>agg (Aa l)) (hm j oM oM oM)
  refine G9 ?_;exact⟨j+1,⟨by omega,by omega,fun m h1 h2=>by
    by_cases e:m=j
    ·rw[e];omega
    ·exact hj3 m h1 oM⟩,by omega,Ah wN (wh1 Z0 (wh1 Z1 wh0)) nD⟩
 refine G7 ?_;refine .i1 J J J J Y187.h Sz5 0 J dE (G1 ?_);refine .sub_u8 J J J (show Ai _ _=some (u8 237)from rfl) (.build (cs:=Aa ((O.getD 0 0-237)::List.replicate 31 0)) J J J (fun w=>by kernel_rfl) ?_);refine .sA J J J J zE Sz187 (by(simp[hOl];done)) Z1 sP zV ?_;refine G2 ?_;refine G2 ?_;refine⟨_,[],Aw J J Y187.h J Sz187 Z1 (by simp[hOl]),sP,sP,?_,rfl⟩;exact congrArg (fun l=>agg (Aa l)) (htop oM oM (fun m h1 h2=>hj3 m h1 oM))
def p1(i:Nat):Nat:=2^Bd i-1-(if i=0 then 18 else 0)
theorem p1_z(h:(i:Int)=0):p1 i=1*2^Bd i-1-18:=by rw[p1,if_pos oM,Ldy]
theorem p1_n(h:¬(i:Int)=0):p1 i=1*2^Bd i-1:=by rw[p1,if_neg oM,Ldy,Lgj]
theorem p4_p1(i:Nat):p4 i=4*p1 i:=rfl
def cf2(i k:Nat):Nat:=if i%2=1∧k%2=1 then 2 else 1
theorem cf2_t(P:Nat)(h:((i%2:Nat):Int)=1)(h2:((k%2:Nat):Int)=1):cf2 i k*P=2*P:=by rw[cf2,if_pos ⟨by omega,by omega⟩]
theorem cf2_a(P:Nat)(h:¬((i%2:Nat):Int)=1):cf2 i k*P=P:=by rw[cf2,if_neg (fun e=>h oM),Ldy]
theorem cf2_b(P:Nat)(h:¬((k%2:Nat):Int)=1):cf2 i k*P=P:=by rw[cf2,if_neg (fun e=>h oM),Ldy]
theorem cf2_le(i k:Nat):cf2 i k≤2:=by unfold cf2;split<;>omega
theorem coef_hi(P:Nat)(h:(9:Int)<((i+k:Nat):Int)):coef i k*P=19*(cf2 i k*P):=by
  rw[coef,if_pos oM,Lc0];rfl
theorem coef_lo(P:Nat)(h:¬(9:Int)<((i+k:Nat):Int)):coef i k*P=cf2 i k*P:=by
  rw[coef,if_neg oM,Ldy];rfl
theorem tRow_bd(hx:Fit10 x)(hy:Fit10 y)(hi:i<10)(hk:k≤10)(hm:m<10):(tRow x y i (tAll x y i) k).getD m 0≤6845471433603153920:=by
  have h1:=tRow_le hi (fun k hk=>term_le hx hy i k hi hk) (tAll_length x y i) k hk m hm;have h2:=tAll_le (term_le hx hy) i oM m hm;have h3:(if(m+10-i)%10<k then 38*(2^27*2^27)else 0)≤38*(2^27*2^27):=by split<;>omega
  omega
theorem prod_le(hx:Fit10 x)(hy:Fit10 y)(hi:i<10)(hk:k<10):x.getD i 0*y.getD k 0≤18014398509481984:=
  Lbb (Lcs (Lfg (hx.all hi)) (Lfg (hy.all hk))) dE
theorem r3_Plus(x y:List Nat)(hx:Fit10 x)(hy:Fit10 y):Mv 273 [agg (Bp x),agg (Bp y)] (fun _=>True) (agg (Bp (plusT x y))):=by
 intro W hW;have hxl:=hx.len;have hyl:=hy.len;obtain⟨A,hA⟩:∃A,Hid (addAt x y 10=A):=⟨_,⟨rfl⟩⟩;obtain⟨U,hU⟩:∃U,Hid (plusT x y=U):=⟨_,⟨rfl⟩⟩;have hAl:A.length=10:=by rw[←hA.out];exact addAt_length y hx.len 10
 have hUl:U.length=10:=by rw[←hU.out];exact car10_length _
 have hc:=r3_carry A (by rw[←hA.out];exact addAt_mid hx hy);rw[show Cz A=U from by rw[←hA.out];exact hU.out]at hc;rw[hU.out];have hal:=hAl;refine Ad func273 J 21 ntmps273 J (G3 ?_);intro n2 hn2 hf2;refine G1 ?_;intro n3 hn3 hf3;refine .alloc (cs:=(Cc (List.replicate 10 0))) J Zr251 J ?_;intro n4 hn4 hf4;refine G9 ?_;refine .loop (ι:=Nat) (fun i=>⟨[(2,ptr n2 0),(3,ptr n3 0),(4,ptr n4 0),(5,i64 (i:Int))],[⟨n4,(Cc (List.replicate 10 0)),251,10⟩,⟨n3,Bp y,251,(Bp y).length⟩,⟨n2,Bp (addAt x y i),251,(Bp x).length⟩]⟩) (fun i=>i≤10) (fun i=>10-i) (0) ?_ ?_ ?_
 ·omega
 ·exact Ah wN (wh1 Z0 (wh1 Z1 (wh1 Z2 wh0))) nD
 rintro i hi;have hal:=addAt_length y hxl i;refine G7 ?_;refine .condP J (fun hc0=>?_) (fun hc0=>?_)
 ·
  have hi2:i<10:=by omega
  have hxi:(addAt x y i).getD i 0=x.getD i 0+0:=by rw[addAt_get hx.len i oM i hi2,if_neg oM]
  have hx2:=hx.all hi2;have hy2:=hy.all hi2;refine G4 ?_;refine .draw (oPq [0,1,2,103,4,5,106,7,8,409]) Aq zK (G2 ?_);refine .i1 J J J J Cn Sz2 _ J oM (.load1 J J J Y2 J Z2 (by exact get_wds oM) ?_);refine G1 ?_;refine .i1 J J J J Cn Sz2 _ J oM (.load1 J J J Y2 J Z1 (by exact get_wds oM) ?_);refine .addN ((addAt x y i).getD i 0) (y.getD i 0) J J J J oM (.i1 J J J J Cn Sz2 _ J oM (.s1 J J J J J Sz2 Z2 (by(simp[Ap,hal];omega)) (by exact set_wds _ _ _) (by exact upd2) ?_));refine G9 ?_;exact⟨i+1,by omega,by omega,Ah wN (wh1 Z0 (wh1 Z1 (wh1 Z2 wh0))) nD⟩
 rw[show addAt x y i=A from by rw[show i=10 by omega];exact hA.out];refine G7 ?_;refine .lA J J J Cn J Sz251 Z2 (by(simp[Ap,hAl];done)) ?_;refine .cV J J J J Body270 (hc) tV (.sA J J J J (by exact Co _) Sz251 (by(simp[Ap,hUl];done)) Z0 sP zU ?_);refine G2 ?_;refine G2 ?_;refine⟨_,[],Aw J J Cn J Sz251 Z0 (by simp[Ap,hUl]),sP,sP,?_,rfl⟩;rfl
theorem r3_Minus(x y:List Nat)(hx:Fit10 x)(hy:Fit10 y):Mv 272 [agg (Bp x),agg (Bp y)] (fun _=>True) (agg (Bp (minusT x y))):=by
 intro W hW;have hxl:=hx.len;have hyl:=hy.len;obtain⟨A,hA⟩:∃A,Hid (subAt x y 10=A):=⟨_,⟨rfl⟩⟩;obtain⟨U,hU⟩:∃U,Hid (minusT x y=U):=⟨_,⟨rfl⟩⟩;have hAl:A.length=10:=by rw[←hA.out];exact subAt_length y hx.len 10
 have hUl:U.length=10:=by rw[←hU.out];exact car10_length _
 have hc:=r3_carry A (by rw[←hA.out];exact subAt_mid hx);rw[show Cz A=U from by rw[←hA.out];exact hU.out]at hc;rw[hU.out];have hal:=hAl;refine Ad func272 J 33 ntmps272 J (G3 ?_);intro n2 hn2 hf2;refine G1 ?_;intro n3 hn3 hf3;refine .alloc (cs:=(Cc (List.replicate 10 0))) J Zr251 J ?_;intro n4 hn4 hf4;refine G9 ?_;refine .loop (ι:=Nat) (fun i=>⟨[(2,ptr n2 0),(3,ptr n3 0),(4,ptr n4 0),(5,i64 (i:Int))],[⟨n4,(Cc (List.replicate 10 0)),251,10⟩,⟨n3,Bp y,251,(Bp y).length⟩,⟨n2,Bp (subAt x y i),251,(Bp x).length⟩]⟩) (fun i=>i≤10) (fun i=>10-i) (0) ?_ ?_ ?_
 ·omega
 ·exact Ah wN (wh1 Z0 (wh1 Z1 (wh1 Z2 wh0))) nD
 rintro i hi;have hal:=subAt_length y hxl i;refine G7 ?_;refine .condP J (fun hc0=>?_) (fun hc0=>?_)
 ·
  have hi2:i<10:=by omega
  have hxi:(subAt x y i).getD i 0=x.getD i 0+0:=by rw[subAt_get hx.len i oM i hi2,if_neg oM]
  have hx2:=hx.all hi2;have hy2:=hy.all hi2;have hpg:=p4_ge hy hi2;have hpl:=p4_le i;rw[p4_p1]at hpg hpl;have hbg:=bits_ge i;have hbl:=bits_le i;have hb26:=bits_26 i;have hsub:(subAt x y i).getD i 0+4*p1 i-y.getD i 0=(subAt x y i).getD i 0+(p4 i-y.getD i 0):=by rw[p4_p1];omega
  refine G7 ?_;refine .cV J J J J Body269 (r3_bits i hi2) tV (.shlN (1) (Bd i) J J J J (bits_w i) oM oM (.subN (1*2^Bd i) (1) J J J J oM (G3 ?_)));refine .join (ι:=Unit) (fun _u=>⟨[(2,ptr n2 0),(3,ptr n3 0),(4,ptr n4 0),(5,i64 (i:Int)),(6,i64 ((p1 i:Nat):Int))],[⟨n4,(Cc (List.replicate 10 0)),251,10⟩,⟨n3,Bp y,251,(Bp y).length⟩,⟨n2,Bp (subAt x y i),251,(Bp x).length⟩]⟩) (fun _u=>True) ?_ ?_
  ·
   refine G6 ?_;refine .condP J (fun hc1=>?_) (fun hc1=>?_)
   ·
    refine G2 ?_;refine .subN (1*2^Bd i-1) (18) J J J J oM (G3 ?_)
    (rw[p1_z hc1];exact⟨(),trivial,Ah wN (wh1 Z0 (wh1 Z1 (wh1 Z2 wh0))) nD⟩)
   refine G2 ?_
   (rw[p1_n hc1];exact⟨(),trivial,Ah wN (wh1 Z0 (wh1 Z1 (wh1 Z2 wh0))) nD⟩)
  intro _u hj;skip;refine .draw (oPq [0,1,2,103,4,5,6,7,8,109,10,11,412]) Aq zK (G2 ?_);refine .i1 J J J J Cn Sz2 _ J oM (.load1 J J J Y2 J Z2 (by exact get_wds oM) ?_);refine G1 ?_;refine .mulN (4) (p1 i) J J J J oM (.addN ((subAt x y i).getD i 0) (4*p1 i) J J J J oM (G1 ?_));refine .i1 J J J J Cn Sz2 _ J oM (.load1 J J J Y2 J Z1 (by exact get_wds oM) ?_);refine .subN ((subAt x y i).getD i 0+4*p1 i) (y.getD i 0) J J J J oM (.i1 J J J J Cn Sz2 _ J oM ?_);rw[hsub];refine .s1 J J J J J Sz2 Z2 (by(simp[Ap,hal];omega)) (by exact set_wds _ _ _) (by exact upd2) ?_;refine G9 ?_;exact⟨i+1,by omega,by omega,Ah wN (wh1 Z0 (wh1 Z1 (wh1 Z2 wh0))) nD⟩
 rw[show subAt x y i=A from by rw[show i=10 by omega];exact hA.out];refine G7 ?_;refine .lA J J J Cn J Sz251 Z2 (by(simp[Ap,hAl];done)) ?_;refine .cV J J J J Body270 (hc) tV (.sA J J J J (by exact Co _) Sz251 (by(simp[Ap,hUl];done)) Z0 sP zU ?_);refine G2 ?_;refine G2 ?_;refine⟨_,[],Aw J J Cn J Sz251 Z0 (by simp[Ap,hUl]),sP,sP,?_,rfl⟩;rfl
theorem r3_Times(x y:List Nat)(hx:Fit10 x)(hy:Fit10 y):Mv 271 [agg (Bp x),agg (Bp y)] (fun _=>True) (agg (Bp (mulT x y))):=by
 intro W hW;have hxl:=hx.len;have hyl:=hy.len;obtain⟨A,hA⟩:∃A,Hid (tAll x y 10=A):=⟨_,⟨rfl⟩⟩;obtain⟨U,hU⟩:∃U,Hid (Cz (tAll x y 10)=U):=⟨_,⟨rfl⟩⟩;have hAl:A.length=10:=by rw[←hA.out];exact tAll_length x y 10
 have hUl:U.length=10:=by rw[←hU.out];exact car10_length _
 have hc:=r3_carry A (by rw[←hA.out];exact tAll_mid hx hy);rw[show Cz A=U from by rw[←hA.out];exact hU.out]at hc;have hcc:=r3_carry U (by rw[←hU.out];exact car10_mid (tAll_v10 hx hy));obtain⟨V,hV⟩:∃V,Hid (mulT x y=V):=⟨_,⟨rfl⟩⟩;have hVl:V.length=10:=by rw[←hV.out];exact car10_length _
 rw[show Cz U=V from by rw[←hU.out];exact hV.out]at hcc;rw[hV.out];have hal:=hAl;refine Ad func271 J 56 ntmps271 J (G3 ?_);intro n2 hn2 hf2;refine G1 ?_;intro n3 hn3 hf3;refine .alloc (cs:=(Cc (List.replicate 10 0))) J Zr251 J ?_;intro n4 hn4 hf4;refine G4 ?_;refine .alloc (cs:=(Cc (List.replicate 10 0))) J Zr251 J ?_;intro n5 hn5 hf5;refine G9 ?_;refine .loop (ι:=Nat) (fun i=>⟨[(2,ptr n2 0),(3,ptr n3 0),(4,ptr n4 0),(5,ptr n5 0),(6,i64 (i:Int))],[⟨n5,Bp (tAll x y i),251,10⟩,⟨n4,(Cc (List.replicate 10 0)),251,10⟩,⟨n3,Bp y,251,(Bp y).length⟩,⟨n2,Bp x,251,(Bp x).length⟩]⟩) (fun i=>i≤10) (fun i=>10-i) (0) ?_ ?_ ?_
 ·omega
 ·exact Ah wN (wh1 (by rw[show Bp (tAll x y 0)=Cc (List.replicate 10 0)from rfl];exact Cb) (wh1 Z1 (wh1 Z2 (wh1 Z3 wh0)))) nD
 rintro i hi;refine G7 ?_;refine .condP J (fun hc0=>?_) (fun hc0=>?_)
 ·
  have hi2:i<10:=by omega
  refine G10 ?_;refine .loop (ι:=Nat) (fun k=>⟨[(2,ptr n2 0),(3,ptr n3 0),(4,ptr n4 0),(5,ptr n5 0),(6,i64 (i:Int)),(7,i64 (k:Int))],[⟨n5,Bp (tRow x y i (tAll x y i) k),251,10⟩,⟨n4,(Cc (List.replicate 10 0)),251,10⟩,⟨n3,Bp y,251,(Bp y).length⟩,⟨n2,Bp x,251,(Bp x).length⟩]⟩) (fun k=>k≤10) (fun k=>10-k) (0) ?_ ?_ ?_
  ·omega
  ·exact Ah wN (wh1 Z0 (wh1 Z1 (wh1 Z2 (wh1 Z3 wh0)))) nD
  rintro k hk;have hal:=tRow_length x y i (tAll_length x y i) k;refine G7 ?_;refine .condP J (fun hc1=>?_) (fun hc1=>?_)
  ·
   have hk2:k<10:=by omega
   have hxy:=prod_le hx hy hi2 hk2;have hcf:cf2 i k*(x.getD i 0*y.getD k 0)≤2*18014398509481984:=Lcs (cf2_le i k) hxy;have hco:=term_le hx hy i k hi2 hk2;have hbd:=tRow_bd hx hy (m:=(i+k)%10) hi2 (show k≤10 by omega) (Lc3 _ dE);refine G5 ?_;refine .draw (oPq [0,1,102,3,4,105,6,7]) Aq zK (G1 ?_);refine .i1 J J J J Cn Sz2 _ J oM (.load1 J J J Y2 J Z3 (by exact get_wds oM) ?_);refine G1 ?_;refine .i1 J J J J Cn Sz2 _ J oM (.load1 J J J Y2 J Z2 (by exact get_wds oM) ?_);refine .mulN (x.getD i 0) (y.getD k 0) J J J J oM (G3 ?_);refine .join (ι:=Unit) (fun _u=>⟨[(2,ptr n2 0),(3,ptr n3 0),(4,ptr n4 0),(5,ptr n5 0),(6,i64 (i:Int)),(7,i64 (k:Int)),(8,i64 ((cf2 i k*(x.getD i 0*y.getD k 0):Nat):Int))],[⟨n5,Bp (tRow x y i (tAll x y i) k),251,10⟩,⟨n4,(Cc (List.replicate 10 0)),251,10⟩,⟨n3,Bp y,251,(Bp y).length⟩,⟨n2,Bp x,251,(Bp x).length⟩]⟩) (fun _u=>True) ?_ ?_
   ·
    refine G3 ?_;refine .remN (i) (2) J J J J dE (two (fun r hr k=>Tr.eqi J J J J hr k) (fun hs9_20=>?_) (fun hs9_20=>?_))
    ·
     have hs9_2:=of_decide_eq_true hs9_20;refine G2 ?_;refine .remN (k) (2) J J J J dE (two (fun r hr k=>Tr.eqi J J J J hr k) (fun hs9_60=>?_) (fun hs9_60=>?_))
     ·
      have hs9_6:=of_decide_eq_true hs9_60;refine G3 ?_;refine .cond_t J J (G2 ?_);refine .mulN (2) (x.getD i 0*y.getD k 0) J J J J oM (G3 ?_)
      (rw[cf2_t _ hs9_2 hs9_6];exact⟨(),trivial,Ah wN (wh1 Z0 (wh1 Z1 (wh1 Z2 (wh1 Z3 wh0)))) nD⟩)
     have hs9_6:=of_decide_eq_false hs9_60;refine G3 ?_;refine .cond_f J J (G2 ?_)
     (rw[cf2_b _ hs9_6];exact⟨(),trivial,Ah wN (wh1 Z0 (wh1 Z1 (wh1 Z2 (wh1 Z3 wh0)))) nD⟩)
    have hs9_2:=of_decide_eq_false hs9_20;refine G7 ?_;refine .cond_f J J (G2 ?_)
    (rw[cf2_a _ hs9_2];exact⟨(),trivial,Ah wN (wh1 Z0 (wh1 Z1 (wh1 Z2 (wh1 Z3 wh0)))) nD⟩)
   intro _u hj;skip;refine .join (ι:=Unit) (fun _u=>⟨[(2,ptr n2 0),(3,ptr n3 0),(4,ptr n4 0),(5,ptr n5 0),(6,i64 (i:Int)),(7,i64 (k:Int)),(8,i64 ((coef i k*(x.getD i 0*y.getD k 0):Nat):Int))],[⟨n5,Bp (tRow x y i (tAll x y i) k),251,10⟩,⟨n4,(Cc (List.replicate 10 0)),251,10⟩,⟨n3,Bp y,251,(Bp y).length⟩,⟨n2,Bp x,251,(Bp x).length⟩]⟩) (fun _u=>True) ?_ ?_
   ·
    refine G4 ?_;refine .addN (i) (k) J J J J oM (G3 ?_);refine .condP J (fun hc3=>?_) (fun hc3=>?_)
    ·
     refine G2 ?_;refine .mulN (19) (cf2 i k*(x.getD i 0*y.getD k 0)) J J J J oM (G3 ?_)
     (rw[coef_hi _ hc3];exact⟨(),trivial,Ah wN (wh1 Z0 (wh1 Z1 (wh1 Z2 (wh1 Z3 wh0)))) nD⟩)
    refine G2 ?_
    (rw[coef_lo _ hc3];exact⟨(),trivial,Ah wN (wh1 Z0 (wh1 Z1 (wh1 Z2 (wh1 Z3 wh0)))) nD⟩)
   intro _u hj;skip;refine G3 ?_;refine .addN (i) (k) J J J J oM (.remN (i+k) (10) J J J J dE (G2 ?_));refine .addN (i) (k) J J J J oM (.remN (i+k) (10) J J J J dE (.i1 J J J J Cn Sz2 _ J oM (.load1 J J J Y2 J Z0 (by exact get_wds oM) ?_)));refine G1 ?_;refine .addN ((tRow x y i (tAll x y i) k).getD ((i+k)%10) 0) (coef i k*(x.getD i 0*y.getD k 0)) J J J J oM (.i1 J J J J Cn Sz2 _ J oM (.s1 J J J J J Sz2 Z0 (by(simp[Ap,hal];omega)) (by exact set_wds _ _ _) zU ?_));refine G9 ?_;exact⟨k+1,by omega,by omega,Ah wN (wh1 Z0 (wh1 Z1 (wh1 Z2 (wh1 Z3 wh0)))) nD⟩
  refine G12 ?_;exact⟨i+1,by omega,by omega,Ah wN (wh1 (by rw[show tAll x y (i+1)=(tRow x y i (tAll x y i) k)from by rw[show k=10 by omega];rfl];exact Cb) (wh1 Z1 (wh1 Z2 (wh1 Z3 wh0)))) nD⟩
 rw[show tAll x y i=A from by rw[show i=10 by omega];exact hA.out];refine G7 ?_;refine .lA J J J Cn J Sz251 Z0 (by(simp[Ap,hAl];done)) ?_;refine .cV J J J J Body270 (hc) tV (.cV J J J J Body270 (hcc) tV (.sA J J J J (by exact Co _) Sz251 (by(simp[Ap,hVl];done)) Z1 sP zV ?_));refine G2 ?_;refine G2 ?_;refine⟨_,[],Aw J J Cn J Sz251 Z1 (by simp[Ap,hVl]),sP,sP,?_,rfl⟩;rfl
theorem o_fit(ha:a.length=32):Fit10 (openT (le a)):=openT_fit (le32 ha)
theorem o_v(ha:a.length=32):fe (v10 (openT (le a)))=fe (le a):=openT_v (le32 ha)
theorem r3_Close_v(w:List Nat)(hw:Fit10 w)(X:Fp)(h:fe (v10 w)=X):Mv 274 [agg (Bp w)] (fun _=>True) (agg (Aa (fb X))):=by
  rw[←h];exact r3_Close w hw
theorem r3_Rest(a:List UInt8)(ha:a.length=32):Mv 266 [agg (Aa a)] (fun _=>True) (agg (Aa (fb (fe (le a))))):=by
 intro W hW;refine Ad func266 J 6 ntmps266 J (G3 ?_);intro n1 hn1 hf1;refine .alloc (cs:=(Aa (List.replicate 32 0))) J A8 J ?_;intro n2 hn2 hf2;refine G4 ?_;refine .lA J J J Y187.h J Sz187 Z1 (by(simp[ha];done)) ?_;refine .cV J J J J Body232 (r3_Open (a) (ha)) tV (.cV J J J J Body274 (r3_Close_v (_) (o_fit ha) (_) (o_v ha)) tV (.sA J J J J zE Sz187 zF Z0 sP zU ?_));refine G2 ?_;refine G2 ?_;refine⟨_,[],Aw J J Y187.h J Sz187 Z0 (by simp[Ar]),sP,sP,?_,rfl⟩;rfl
theorem r3_Canon(a:List UInt8)(ha:a.length=32):Mv 225 [agg (Aa a)] (fun _=>True) (.bool (decide (fb (fe (le a))=a))):=by
 intro W hW;refine Ad func225 J 7 ntmps225 J (G3 ?_);intro n1 hn1 hf1;refine G4 ?_;refine .draw (oPq [100,102,301,3,4]) Aq zK (.lA J J J Y187.h J Sz187 Z0 (by(simp[ha];done)) ?_);refine .lA J J J Y187.h J Sz187 Z0 (by(simp[ha];done)) ?_;refine .cV J J J J Body266 (r3_Rest (a) (ha)) tV (.eql_bytes J J J J eqGuardType187 Y187.h Y5.h Sz5 zF (by(simp[ha];done)) J ?_);refine G3 ?_;refine G2 ?_;refine⟨_,[],Af J J,sP,sP,?_,rfl⟩;rfl
theorem r3_Same(a b:List UInt8)(ha:a.length=32)(hb:b.length=32):Mv 285 [agg (Aa a),agg (Aa b)] (fun _=>True) (.bool (decide (fe (le a)=fe (le b)))):=by
 intro W hW;refine Ad func285 J 10 ntmps285 J (G3 ?_);intro n2 hn2 hf2;refine G1 ?_;intro n3 hn3 hf3;refine G4 ?_;refine .draw (oPq [100,102,301,303,4,5]) Aq zK (.lA J J J Y187.h J Sz187 Z1 (by(simp[ha];done)) ?_);refine .lA J J J Y187.h J Sz187 Z0 (by(simp[hb];done)) ?_;refine .cV J J J J Body266 (r3_Rest (a) (ha)) tV (.cV J J J J Body266 (r3_Rest (b) (hb)) tV (.eql_bytes J J J J eqGuardType187 Y187.h Y5.h Sz5 zF zF J (G3 ?_)));refine G2 ?_;refine⟨_,[],Af J J,sP,sP,?_,rfl⟩;rw[fb_dec]
theorem odd_byte2(x:Fp):decide (((UInt8.ofNat (((fb x).getD 0 0).toNat%2)).toNat:Int)=1)=decide (x.val%2=1):=by
  have e:(UInt8.ofNat (((fb x).getD 0 0).toNat%2)).toNat=x.val%2:=by
    rw[fb_head,Lb8,Lb8];omega
  rw[e];congr 1;exact propext ⟨fun h=>by omega,fun h=>by omega⟩
theorem r3_Odd(a:List UInt8)(ha:a.length=32):Mv 242 [agg (Aa a)] (fun _=>True) (.bool (decide ((fe (le a)).val%2=1))):=by
 intro W hW;refine Ad func242 J 8 ntmps242 J (G3 ?_);intro n1 hn1 hf1;refine G5 ?_;refine .lA J J J Y187.h J Sz187 Z0 (by(simp[ha];done)) ?_;refine .cV J J J J Body266 (r3_Rest (a) (ha)) tV (.idxA1 J J J J Y187.h Sz5 Y5.h J 0 J oM (by rfl) ?_);refine .rem_u8 J J J J 2 J dE (G4 ?_);refine G2 ?_;refine⟨_,[],Af J J,sP,sP,?_,rfl⟩;exact congrArg Value.bool (odd_byte2 _)
theorem r3_Of(x:UInt64):Mv 239 [u64 x] (fun _=>True) (agg (Aa (fb (fe x.toNat)))):=by
 intro W hW;have hpl:True:=trivial;refine Ad func239 J 18 ntmps239 J (G2 ?_);refine .alloc (cs:=(Aa (List.replicate 32 0))) J A8 J ?_;intro n2 hn2 hf2;refine G4 ?_;refine .alloc (cs:=(Aa (List.replicate 32 0))) J A8 J ?_;intro n3 hn3 hf3;refine G9 ?_;refine .loop (ι:=Nat) (fun k=>⟨[(0,u64 x),(2,ptr n2 0),(3,ptr n3 0),(4,i64 (k:Int))],[⟨n3,Aa (padW 32 x.toNat k),187,32⟩,⟨n2,Aa (List.replicate 32 0),187,32⟩]⟩) (fun k=>k≤8) (fun k=>8-k) (0) ?_ ?_ ?_
 ·omega
 ·exact Ah wN (wh1 (by rw[padW_zero];exact Cb) (wh1 Z1 wh0)) nD
 rintro k hi;have hpl:=padW_length 32 x.toNat k oM;refine G7 ?_;refine .condP J (fun hc0=>?_) (fun hc0=>?_)
 ·
  refine G8 ?_;refine .mul_i64 J J J J oM (G1 ?_);refine .shr_u64 J J J J (8*k) (by rw[wordOf_id _ oM];omega) oM ?_;refine G1 ?_;refine .i1 J J J J Y187.h Sz5 _ J oM (.s1 J J J J J Sz5 Z0 (by(simp[hpl];omega)) (by exact Bl _ _ _) zU ?_);refine G9 ?_;exact⟨k+1,by omega,by omega,Ah wN (wh1 (by rw[←zero_set x k oM];exact Cb) (wh1 Z1 wh0)) nD⟩
 obtain rfl:k=8:=by omega
 rw[pad_small]at*;refine G7 ?_;refine .lA J J J Y187.h J Sz187 Z0 (by(simp[hpl];done)) ?_;refine .sA J J J J zE Sz187 (by(simp[hpl];done)) Z1 sP zV ?_;refine G2 ?_;refine G2 ?_;refine⟨_,[],Aw J J Y187.h J Sz187 Z1 (by simp[hpl]),sP,sP,?_,rfl⟩;rw[fe_small]
theorem mul_ab(ha:a.length=32)(hb:b.length=32):fe (v10 (mulT (openT (le a)) (openT (le b))))=fe (le a)*fe (le b):=by rw[mulT_v (o_fit ha).len (o_fit hb).len,o_v ha,o_v hb]
theorem sub_ab(ha:a.length=32)(hb:b.length=32):fe (v10 (minusT (openT (le a)) (openT (le b))))=fe (le a)-fe (le b):=by rw[minusT_v (o_fit ha).len (o_fit hb),o_v ha,o_v hb]
theorem r3_Mul(a b:List UInt8)(ha:a.length=32)(hb:b.length=32):Mv 238 [agg (Aa a),agg (Aa b)] (fun _=>True) (agg (Aa (fb (fe (le a)*fe (le b))))):=by
 intro W hW;refine Ad func238 J 11 ntmps238 J (G3 ?_);intro n2 hn2 hf2;refine G1 ?_;intro n3 hn3 hf3;refine .alloc (cs:=(Aa (List.replicate 32 0))) J A8 J ?_;intro n4 hn4 hf4;refine G3 ?_;refine .draw (oPq [100,102,301,303,304,305,406]) Aq zK (.lA J J J Y187.h J Sz187 Z2 (by(simp[ha];done)) ?_);refine .lA J J J Y187.h J Sz187 Z1 (by(simp[hb];done)) ?_;refine .cV J J J J Body232 (r3_Open (a) (ha)) tV (.cV J J J J Body232 (r3_Open (b) (hb)) tV (.cV J J J J Body271 (r3_Times (_) (_) (o_fit ha) (o_fit hb)) tV (.cV J J J J Body274 (r3_Close_v (_) (Bn (o_fit ha) (o_fit hb)) (_) (mul_ab ha hb)) tV (.sA J J J J zE Sz187 zF Z0 sP zU ?_))));refine G2 ?_;refine G2 ?_;refine⟨_,[],Aw J J Y187.h J Sz187 Z0 (by simp[Ar]),sP,sP,?_,rfl⟩;rfl
theorem r3_Sub(a b:List UInt8)(ha:a.length=32)(hb:b.length=32):Mv 267 [agg (Aa a),agg (Aa b)] (fun _=>True) (agg (Aa (fb (fe (le a)-fe (le b))))):=by
 intro W hW;refine Ad func267 J 11 ntmps267 J (G3 ?_);intro n2 hn2 hf2;refine G1 ?_;intro n3 hn3 hf3;refine .alloc (cs:=(Aa (List.replicate 32 0))) J A8 J ?_;intro n4 hn4 hf4;refine G3 ?_;refine .draw (oPq [100,102,301,303,304,305,406]) Aq zK (.lA J J J Y187.h J Sz187 Z2 (by(simp[ha];done)) ?_);refine .lA J J J Y187.h J Sz187 Z1 (by(simp[hb];done)) ?_;refine .cV J J J J Body232 (r3_Open (a) (ha)) tV (.cV J J J J Body232 (r3_Open (b) (hb)) tV (.cV J J J J Body272 (r3_Minus (_) (_) (o_fit ha) (o_fit hb)) tV (.cV J J J J Body274 (r3_Close_v (_) (minusT_fit (o_fit ha) (o_fit hb)) (_) (sub_ab ha hb)) tV (.sA J J J J zE Sz187 zF Z0 sP zU ?_))));refine G2 ?_;refine G2 ?_;refine⟨_,[],Aw J J Y187.h J Sz187 Z0 (by simp[Ar]),sP,sP,?_,rfl⟩;rfl
theorem r3_Neg(a:List UInt8)(ha:a.length=32):Mv 227 [agg (Aa a)] (fun _=>True) (agg (Aa (fb (-fe (le a))))):=by
 intro W hW;refine Ad func227 J 6 ntmps227 J (G3 ?_);intro n1 hn1 hf1;refine .alloc (cs:=(Aa (List.replicate 32 0))) J A8 J ?_;intro n2 hn2 hf2;refine G4 ?_;refine .build (cs:=Aa (List.replicate 32 0)) J J J (fun w=>by kernel_rfl) ?_;refine .lA J J J Y187.h J Sz187 Z1 (by(simp[ha];done)) ?_;refine .cV J J J J Body267 (r3_Sub (List.replicate 32 0) (a) (rfl) (ha)) tV (.sA J J J J zE Sz187 zF Z0 sP zU ?_);refine G2 ?_;refine G2 ?_;refine⟨_,[],Aw J J Y187.h J Sz187 Z0 (by simp[Ar]),sP,sP,?_,rfl⟩;rw[show fe (le (List.replicate 32 0))-fe (le a)= -fe (le a)from by rw[show fe (le (List.replicate 32 0))=0 by kernel_rfl];grind]
theorem oneT_l:oneT.length=10:=rfl
theorem r3_Power(x:List Nat)(e:List UInt8)(hx:Fit10 x)(he:e.length=32):Mv 286 [agg (Bp x),agg (Aa e)] (fun _=>True) (agg (Bp (powT x (le e) 256))):=by
 intro W hW;have hxl:=hx.len;have hE:=le32 he;obtain⟨U,hU⟩:∃U,Hid (powT x (le e) 256=U):=⟨_,⟨rfl⟩⟩;have hUl:U.length=10:=by rw[←hU.out];exact(powT_ok hx hE 256 (Lad _)).1.len
 rw[hU.out];have hpl:=hUl;refine Ad func286 J 29 ntmps286 J (G3 ?_);intro n2 hn2 hf2;refine G1 ?_;intro n3 hn3 hf3;refine .alloc (cs:=(Cc (List.replicate 10 0))) J Zr251 J ?_;intro n4 hn4 hf4;refine G4 ?_;refine .build (cs:=Bp oneT) J J J (fun w=>by kernel_rfl) ?_;refine .alloc (cs:=(Cc (List.replicate 10 0))) J Zr251 J ?_;intro n5 hn5 hf5;refine .sA J J J J (by exact Co _) Sz251 (by(simp[Ap,oneT_l];done)) Z0 sP zU ?_;refine G9 ?_;refine .loop (ι:=Nat) (fun j=>⟨[(2,ptr n2 0),(3,ptr n3 0),(4,ptr n4 0),(5,ptr n5 0),(6,i64 (255-(j:Int)))],[⟨n5,Bp (powT x (le e) j),251,10⟩,⟨n4,(Cc (List.replicate 10 0)),251,10⟩,⟨n3,Aa e,187,(Aa e).length⟩,⟨n2,Bp x,251,(Bp x).length⟩]⟩) (fun j=>j≤256) (fun j=>256-j) (0) ?_ ?_ ?_
 ·omega
 ·exact Ah wN (wh1 (by rw[show powT x (le e) 0=oneT from rfl];exact Cb) (wh1 Z1 (wh1 Z2 (wh1 Z3 wh0)))) nD
 rintro j hj;obtain⟨hfit,hfv⟩:=powT_ok hx hE j hj;have hpl:=hfit.len;have hml:(mulT (powT x (le e) j) (powT x (le e) j)).length=10:=mulT_length _ _;refine G7 ?_;refine .condP J (fun hc0=>?_) (fun hc0=>?_)
 ·
  have hj2:j<256:=by omega
  rw[show(255:Int)-(j:Int)=((255-j:Nat):Int) by omega];refine G6 ?_;refine .lA J J J Cn J Sz251 Z0 (by(simp[Ap,hpl];done)) ?_;refine .lA J J J Cn J Sz251 Z0 (by(simp[Ap,hpl];done)) ?_;refine .cV J J J J Body271 (r3_Times _ _ hfit hfit) tV (.sA J J J J (by exact Co _) Sz251 (by(simp[Ap,mulT_length];done)) Z0 (by(simp[Ap,hpl];done)) zU ?_);refine G5 ?_;refine .quoN (255-j) (8) J J J J ⟨by decide,by omega⟩ ?_;refine .i1 J J J J Y187.h Sz5 _ J oM (G2 ?_);refine .remN (255-j) (8) J J J J dE (G1 ?_);refine .shr_u8 J J J J ((255-j)%8) (by rw[wordOf_id _ oM]) oM ?_;refine .rem_u8 J J J J 2 J dE (G3 ?_);refine .condP J (fun hc1=>?_) (fun hc1=>?_)
  ·
   have hbt:=bit_is hc1;refine .region (.lA J J J Cn J Sz251 Z0 (by(simp[Ap,mulT_length];done)) ?_);refine .lA J J J Cn J Sz251 Z3 (by(simp[Ap,hxl];done)) ?_;refine .cV J J J J Body271 (r3_Times _ _ (Bn hfit hfit) hx) tV (.sA J J J J (by exact Co _) Sz251 (by(simp[Ap,mulT_length];done)) Z0 (by(simp[Ap,mulT_length];done)) zU ?_);refine G9 ?_;exact⟨j+1,by omega,by omega,Ah (wk1 rfl (wk1 rfl (wk1 rfl (wk1 rfl (wk1 (congrArg (fun z=>some (i64 z)) (show((255-j:Nat):Int)-1=255-((j+1:Nat):Int) by omega)) wk0))))) (wh1 (by(rw[powT_t hbt];exact Cb)) (wh1 Z1 (wh1 Z2 (wh1 Z3 wh0)))) nD⟩
  have hbf:=bit_isn hc1;refine G9 ?_;exact⟨j+1,by omega,by omega,Ah (wk1 rfl (wk1 rfl (wk1 rfl (wk1 rfl (wk1 (congrArg (fun z=>some (i64 z)) (show((255-j:Nat):Int)-1=255-((j+1:Nat):Int) by omega)) wk0))))) (wh1 (by(rw[powT_f hbf];exact Cb)) (wh1 Z1 (wh1 Z2 (wh1 Z3 wh0)))) nD⟩
 rw[show powT x (le e) j=U from by rw[show j=256 by omega];exact hU.out];refine G7 ?_;refine .lA J J J Cn J Sz251 Z0 (by(simp[Ap,hUl];done)) ?_;refine .sA J J J J (by exact Co _) Sz251 (by(simp[Ap,hUl];done)) Z1 sP zV ?_;refine G2 ?_;refine G2 ?_;refine⟨_,[],Aw J J Cn J Sz251 Z1 (by simp[Ap,hUl]),sP,sP,?_,rfl⟩;rfl
theorem pow_ab{a e:List UInt8}(ha:a.length=32)(he:e.length=32):fe (v10 (powT (openT (le a)) (le e) 256))=Ct (fe (le a)) (le e):=by rw[powT_all (o_fit ha) (le32 he),o_v ha]
theorem r3_Pow(a e:List UInt8)(ha:a.length=32)(he:e.length=32):Mv 275 [agg (Aa a),agg (Aa e)] (fun _=>True) (agg (Aa (fb (Ct (fe (le a)) (le e))))):=by
 intro W hW;refine Ad func275 J 10 ntmps275 J (G3 ?_);intro n2 hn2 hf2;refine G1 ?_;intro n3 hn3 hf3;refine .alloc (cs:=(Aa (List.replicate 32 0))) J A8 J ?_;intro n4 hn4 hf4;refine G3 ?_;refine .draw (oPq [100,102,301,303,304,405]) Aq zK (.lA J J J Y187.h J Sz187 Z2 (by(simp[ha];done)) ?_);refine .lA J J J Y187.h J Sz187 Z1 (by(simp[he];done)) ?_;refine .cV J J J J Body232 (r3_Open (a) (ha)) tV (.cV J J J J Body286 (r3_Power (_) (e) (o_fit ha) (he)) tV (.cV J J J J Body274 (r3_Close_v (_) ((powT_ok (o_fit ha) (le32 he) 256 (Lad _)).1) (_) (pow_ab ha he)) tV (.sA J J J J zE Sz187 zF Z0 sP zU ?_)));refine G2 ?_;refine G2 ?_;refine⟨_,[],Aw J J Y187.h J Sz187 Z0 (by simp[Ar]),sP,sP,?_,rfl⟩;rfl
theorem half_rem{p:UInt8}:((UInt8.ofNat (p.toNat%2)).toNat:Int)=1↔p.toNat%2=1:=by
  rw[Lb8];omega
theorem ones_three(n:Nat):((List.replicate 32 (255:UInt8)).set 0 (UInt8.ofNat (237-n))).set 31 127=leb 32 (le (onesB (UInt8.ofNat (237-n)) 127)/2^0):=by
  rw[Lds,Lf2,ones_leb];rfl
theorem half_pow(V j:Nat):leb 32 (V/2^(j+1))=Cl (V/2^j) 32:=by
  rw[halfAt_end,Lb3,←Lbd]
theorem r3_shifted(n k:Nat)(hn:n≤237)(hk:k≤9):Mv 276 [i64 (n:Int),i64 (k:Int)] (fun _=>True) (agg (Aa (expT n k))):=by
 intro W hW;obtain⟨V,hV⟩:∃V,Hid (le (onesB (UInt8.ofNat (237-n)) 127)=V):=⟨_,⟨rfl⟩⟩;have hV2:V<2^256:=by rw[←hV.out];exact le32 (onesB_length _ _)
 have hx:expT n k=leb 32 (V/2^k):=by rw[expT,hV.out]
 rw[hx];have hon:=ones_three n;rw[hV.out]at hon;have hhl:True:=trivial;have hsl:True:=trivial;refine Ad func276 J 50 ntmps276 J (G2 ?_);refine .alloc (cs:=(Aa (List.replicate 32 0))) J A8 J ?_;intro n4 hn4 hf4;refine G4 ?_;refine .alloc (cs:=(Aa (List.replicate 32 0))) J A8 J ?_;intro n5 hn5 hf5;refine G9 ?_;refine .loop (ι:=Nat) (fun i=>⟨[(0,i64 (n:Int)),(1,i64 (k:Int)),(4,ptr n4 0),(5,ptr n5 0),(6,i64 (i:Int))],[⟨n5,Aa (List.replicate i 255++List.replicate (32-i) 0),187,32⟩,⟨n4,Aa (List.replicate 32 0),187,32⟩]⟩) (fun i=>i≤32) (fun i=>32-i) (0) ?_ ?_ ?_
 ·omega
 ·exact Ah wN (wh1 Z0 (wh1 Z1 wh0)) nD
 rintro i hi;refine G7 ?_;refine .condP J (fun hc0=>?_) (fun hc0=>?_)
 ·
  have hi2:i<32:=by omega
  refine G6 ?_;refine .i1 J J J J Y187.h Sz5 _ J oM (.s1 J J J (show Ai _ _=some (u8 255)from rfl) J Sz5 Z0 (by(simp;omega)) (by exact Bl _ _ _) zU ?_);refine G9 ?_;exact⟨i+1,by omega,by omega,Ah wN (wh1 (by rw[←ones_step hi2];exact Cb) (wh1 Z1 wh0)) nD⟩
 obtain rfl:i=32:=by omega
 rw[show((List.replicate 32 255++List.replicate (32-32) 0):List UInt8)=List.replicate 32 255 from rfl];refine G8 ?_;refine .subN (237) (n) J J J J oM (G1 ?_);refine .i1 J J J J Y187.h Sz5 0 J dE ?_;rw[byteOf_nat];refine .s1 J J J J J Sz5 Z0 sP (by exact Bl _ _ _) zU ?_;refine .i1 J J J J Y187.h Sz5 31 J dE (.s1 J J J (show Ai _ _=some (u8 127)from rfl) J Sz5 Z0 sP (by exact Bl _ _ _) zU ?_);refine G4 ?_;refine .loop (ι:=Nat) (fun j=>⟨[(1,i64 ((k:Int)-(j:Int))),(4,ptr n4 0),(5,ptr n5 0)],[⟨n5,Aa (leb 32 (V/2^j)),187,32⟩,⟨n4,Aa (List.replicate 32 0),187,32⟩]⟩) (fun j=>j≤k) (fun j=>k-j) (0) ?_ ?_ ?_
 ·exact Lan _
 ·exact Ah (wk1 (congrArg (fun z=>some (i64 z)) (show(k:Int)=(k:Int)-((0:Nat):Int) by omega)) wN) (wh1 (by rw[←hon];exact Cb) (wh1 Z1 wh0)) nD
 rintro j hj;refine G7 ?_;refine .condP J (fun hc1=>?_) (fun hc1=>?_)
 ·
  have hVj:V/2^j<2^256:=Lfb (Ld8 _ _) hV2;refine G10 ?_;refine .loop (ι:=Nat) (fun i=>⟨[(1,i64 ((k:Int)-(j:Int))),(4,ptr n4 0),(5,ptr n5 0),(7,i64 (i:Int))],[⟨n5,Aa (Cl (V/2^j) i),187,32⟩,⟨n4,Aa (List.replicate 32 0),187,32⟩]⟩) (fun i=>i≤32) (fun i=>32-i) (0) ?_ ?_ ?_
  ·omega
  ·exact Ah wN (wh1 (by rw[halfAt_zero];exact Cb) (wh1 Z1 wh0)) nD
  rintro i hi;have hhl:=halfAt_length (V/2^j) i hi;have hsl:((Cl (V/2^j) i).set i (UInt8.ofNat (((Cl (V/2^j) i).getD i 0).toNat/2))).length=32:=by rw[Lbs];exact hhl
  refine G7 ?_;refine .condP J (fun hc2=>?_) (fun hc2=>?_)
  ·
   have hi2:i<32:=by omega
   refine G8 ?_;refine .i1 J J J J Y187.h Sz5 _ J oM (G1 ?_);refine .quo_u8 J J J J 2 J dE (.i1 J J J J Y187.h Sz5 _ J oM (.s1 J J J J J Sz5 Z0 (by(simp[hhl];omega)) (by exact Bl _ _ _) zU ?_));refine G5 ?_;refine two (fun r hr k=>Tr.lss J J J J hr k) (fun hs13_10=>?_) (fun hs13_10=>?_)
   ·
    have hs13_1:=of_decide_eq_true hs13_10;refine G2 ?_;refine .addN (i) (1) J J J J oM (.i1 J J J J Y187.h Sz5 _ J oM (G1 ?_));refine .rem_u8 J J J J 2 J dE (two (fun r hr k=>Tr.eqi J J J J hr k) (fun hs13_80=>?_) (fun hs13_80=>?_))
    ·
     have hs13_8:=of_decide_eq_true hs13_80;refine G3 ?_;refine .cond_t J J (G3 ?_);refine .i1 J J J J Y187.h Sz5 _ J oM (G1 ?_);refine .add_u8 J J J (show Ai _ _=some (u8 128)from rfl) (.i1 J J J J Y187.h Sz5 _ J oM (.s1 J J J J J Sz5 Z0 (by(simp[hhl];omega)) (by exact Bl _ _ _) zU ?_));refine G9 ?_;exact⟨i+1,by omega,by omega,Ah wN (wh1 (by(rw[←half_odd (V/2^j) oM (half_rem.1 hs13_8)];exact Cb)) (wh1 Z1 wh0)) nD⟩
    have hs13_8:=of_decide_eq_false hs13_80;refine G3 ?_;refine .cond_f J J (G9 ?_);exact⟨i+1,by omega,by omega,Ah wN (wh1 (by(rw[←half_even (V/2^j) oM (fun e=>hs13_8 (half_rem.2 e))];exact Cb)) (wh1 Z1 wh0)) nD⟩
   have hs13_1:=of_decide_eq_false hs13_10;refine G10 ?_;refine .cond_f J J (G9 ?_);exact⟨i+1,by omega,by omega,Ah wN (wh1 (by(rw[show i=31 by omega,←half_last _ hVj];exact Cb)) (wh1 Z1 wh0)) nD⟩
  refine G12 ?_;exact⟨j+1,by omega,by omega,Ah (wk1 (congrArg (fun z=>some (i64 z)) (show(k:Int)-(j:Int)-1=(k:Int)-((j+1:Nat):Int) by omega)) wN) (wh1 (by rw[half_pow,show(32:Nat)=i by omega];exact Cb) (wh1 Z1 wh0)) nD⟩
 obtain rfl:j=k:=by omega
 refine G7 ?_;refine .lA J J J Y187.h J Sz187 Z0 (by(simp[Am];done)) ?_;refine .sA J J J J zE Sz187 (by(simp[Am];done)) Z1 sP zV ?_;refine G2 ?_;refine G2 ?_;refine⟨_,[],Aw J J Y187.h J Sz187 Z1 (by simp[Am]),sP,sP,?_,rfl⟩;rfl
theorem r3_Pow_e(a e:List UInt8)(ha:a.length=32)(he:e.length=32)(N:Nat)(X:Fp)(hN:le e=N)(hX:fe (le a)=X):Mv 275 [agg (Aa a),agg (Aa e)] (fun _=>True) (agg (Aa (fb (Ct X N)))):=by
  rw[←hN,←hX];exact r3_Pow a e ha he
theorem r3_Inv(a:List UInt8)(ha:a.length=32):Mv 240 [agg (Aa a)] (fun _=>True) (agg (Aa (fb (finv (fe (le a)))))):=by
 intro W hW;obtain⟨E,hE⟩:∃E,Hid (expT 2 0=E):=⟨_,⟨rfl⟩⟩;have hEl:E.length=32:=by rw[←hE.out];exact expT_length _ _
 have hs:=r3_shifted 2 0 dE dE;rw[hE.out]at hs;have hp:=r3_Pow_e a E ha hEl (PF-2) _ (by rw[←hE.out];exact expT_inv) rfl;rw[show Ct (fe (le a)) (PF-2)=finv (fe (le a))from rfl]at hp;obtain⟨R,hR⟩:∃R,Hid (finv (fe (le a))=R):=⟨_,⟨rfl⟩⟩;rw[hR.out]at hp ⊢;refine Ad func240 J 6 ntmps240 J (G3 ?_);intro n1 hn1 hf1;refine .alloc (cs:=(Aa (List.replicate 32 0))) J A8 J ?_;intro n2 hn2 hf2;refine G3 ?_;refine .draw (oPq [100,301,302,403]) Aq zK (.lA J J J Y187.h J Sz187 Z1 (by(simp[ha];done)) ?_);refine .cV J J J J Body276 (hs) tV (.cV J J J J Body275 (hp) tV (.sA J J J J zE Sz187 zF Z0 sP zU ?_));refine G2 ?_;refine G2 ?_;refine⟨_,[],Aw J J Y187.h J Sz187 Z0 (by simp[Ar]),sP,sP,?_,rfl⟩;rfl
end Go.Proofs.YtgjnomgkddbhcaaGreat
namespace Go.Proofs.YtgjnomgkddbhcaaGreat
open Go Hw _root_.Go.Proofs.Tryz
theorem ref_L  :Mv 229 [] (fun _=>True) (agg (Aa (leb 32 L))):=by
 intro W hW;refine Ad func229 J 2 ntmps229 J (G2 ?_);refine .alloc (cs:=(Aa (List.replicate 32 0))) J A8 J ?_;intro n0 hn0 hf0;refine G4 ?_;refine .build (cs:=Aa (leb 32 L)) J J J (fun w=>by kernel_rfl) ?_;refine .sA J J J J zB Sz187 (by(simp[Am];done)) Z0 sP zU ?_;refine G2 ?_;refine G2 ?_;refine⟨_,[],Aw J J Y187.h J Sz187 Z0 (by simp[Am]),sP,sP,?_,rfl⟩;rfl
theorem ref_below(a b:List UInt8)(ha:a.length=32)(hb:b.length=32):Mv 228 [agg (Aa a),agg (Aa b)] (fun _=>True) (.bool (decide (le a<le b))):=by
  intro W hW;refine Ad func228 J 24 ntmps228 J (G3 ?_);intro n2 hn2 hf2;refine G1 ?_;intro n3 hn3 hf3;refine G10 ?_;refine .loop (ι:=Nat) (fun k=>⟨[(2,ptr n2 0),(3,ptr n3 0),(5,i64 (31-(k:Int)))],[⟨n3,Aa b,187,(Aa b).length⟩,⟨n2,Aa a,187,(Aa a).length⟩]⟩) (fun k=>k≤32∧a.drop (32-k)=b.drop (32-k)) (fun k=>32-k) (0) ?_ ?_ ?_
  ·exact⟨by omega,by rw[Lap oM,Lap oM]⟩
  ·exact Ah wN (wh1 Z0 (wh1 Z1 wh0)) nD
  rintro k ⟨hk,hd⟩;refine G7 ?_;refine .condP J (fun hc0=>?_) (fun hc0=>?_)
  ·
    have hk2:k<32:=by omega
    refine G5 ?_;refine .draw (oPq [0,1,102,3,4,105,6]) Aq zK (G1 ?_);refine .i1 J J J J Y187.h Sz5 (31-k) oM oM (G2 ?_);refine .i1 J J J J Y187.h Sz5 (31-k) oM oM (G4 ?_);refine .condNP J (fun hc1=>?_) (fun hc1=>?_)
    ·
      have hlt:=le_lt_at ha hb (i:=31-k) oM (by rw[show 31-k+1=32-k by omega];exact hd) oM;refine .seq (.draw (oPq [0,1,102,3,4,105,6,7]) Aq zK (G1 ?_));refine .i1 J J J J Y187.h Sz5 (31-k) oM oM (G2 ?_);refine .i1 J J J J Y187.h Sz5 (31-k) oM oM (G5 ?_);refine G7 ?_;refine⟨_,[],Af J J,sP,sP,?_,rfl⟩;first
        |(rw[show decide (le a<le b)=decide (((a.getD (31-k) 0).toNat:Int)<((b.getD (31-k) 0).toNat:Int))from decide_eq_decide.2 (hlt.symm.trans oM)])
        | (have he:a=b:=by simpa using hd
           rw[he,decide_eq_false (Nat.lt_irrefl _)])
    refine G9 ?_;exact⟨k+1,⟨by omega,drop_step ha hb oM (by rw[show 32-(k+1)+1=32-k by omega];exact hd) (by rw[show 32-(k+1)=31-k by omega];omega)⟩,by omega,Ah (wk1 rfl (wk1 rfl (wk1 (by rw[show(31-((k+1:Nat):Int))=31-(k:Int)-1 by omega];rfl) wk0))) (wh1 Z0 (wh1 Z1 wh0)) nD⟩
  obtain rfl:k=32:=by omega
  refine G10 ?_;refine G2 ?_;refine⟨_,[],Af J J,sP,sP,?_,rfl⟩;first
    |(rw[show decide (le a<le b)=decide (((a.getD (31-k) 0).toNat:Int)<((b.getD (31-k) 0).toNat:Int))from decide_eq_decide.2 (hlt.symm.trans oM)])
    | (have he:a=b:=by simpa using hd
       rw[he,decide_eq_false (Nat.lt_irrefl _)])
theorem ref_plus(a b:List UInt8)(ha:a.length=32)(hb:b.length=32)(hla:le a<L)(hlb:le b<L):Mv 244 [agg (Aa a),agg (Aa b)] (fun _=>True) (agg (Aa (leb 32 ((le a+le b)%L)))):=by
 intro W hW;have hL:L<2^253:=by decide
 refine Ad func244 J 61 ntmps244 J (G3 ?_);intro n2 hn2 hf2;refine G1 ?_;intro n3 hn3 hf3;refine .alloc (cs:=(Aa (List.replicate 32 0))) J A8 J ?_;intro n4 hn4 hf4;refine G4 ?_;refine .alloc (cs:=(Aa (List.replicate 32 0))) J A8 J ?_;intro n5 hn5 hf5;refine G7 ?_;refine .join (ι:=Unit) (fun _u=>⟨[(4,ptr n4 0),(5,ptr n5 0)],[⟨n5,Aa (leb 32 (le a+le b)),187,32⟩,⟨n4,Aa (List.replicate 32 0),187,32⟩]⟩) (fun _u=>True) ?_ ?_
 ·
  refine G6 ?_;refine .loop (ι:=Nat) (fun k=>⟨[(2,ptr n2 0),(3,ptr n3 0),(4,ptr n4 0),(5,ptr n5 0),(6,i64 (((le (a.take k)+le (b.take k))/256^k:Nat):Int)),(7,i64 (k:Int))],[⟨n5,Aa (padW 32 (le (a.take k)+le (b.take k)) k),187,32⟩,⟨n4,Aa (List.replicate 32 0),187,32⟩,⟨n3,Aa b,187,(Aa b).length⟩,⟨n2,Aa a,187,(Aa a).length⟩]⟩) (fun k=>k≤32) (fun k=>32-k) (0) ?_ ?_ ?_
  ·omega
  ·exact Ah (wk1 rfl (wk1 rfl (wk1 rfl (wk1 rfl (wk1 (by rw[Le8,Le8];rfl) wN))))) (wh1 (by rw[padW_zero];exact Cb) (wh1 Z1 (wh1 Z2 (wh1 Z3 wh0)))) nD
  rintro k hk;have hpl:=padW_length 32 (le (a.take k)+le (b.take k)) k hk;have hcb:(le (a.take k)+le (b.take k))/256^k≤1:=by
   have h1:=le_take_lt a k;have h2:=le_take_lt b k;rw[←Nat.lt_succ_iff,Ldt (Lc5 dE)];omega
  have hcn:(0:Int)≤(((le (a.take k)+le (b.take k))/256^k:Nat):Int):=Lem _;have hcb2:(((le (a.take k)+le (b.take k))/256^k:Nat):Int)≤1:=Int.ofNat_le.2 hcb;refine G7 ?_;refine .condP J (fun hc0=>?_) (fun hc0=>?_)
  ·
   have hk2:k<32:=by omega
   have ha8:=(a.getD k 0).toNat_lt;have hb8:=(b.getD k 0).toNat_lt;have hs:(((le (a.take k)+le (b.take k))/256^k:Nat):Int)+((a.getD k 0).toNat:Int)+((b.getD k 0).toNat:Int)=(((le (a.take k)+le (b.take k))/256^k+((a.getD k 0).toNat+(b.getD k 0).toNat):Nat):Int):=by rw[Lcn,Lcn,Int.add_assoc]
   refine G5 ?_;refine .draw (oPq [0,1,2,103,4,5,6,7,108,9,10,11]) Aq zK (G2 ?_);refine .i1 J J J J Y187.h Sz5 _ J oM (G4 ?_);refine .i1 J J J J Y187.h Sz5 _ J oM (G10 ?_);refine .rem_i64 J J J J oM (G1 ?_);refine .i1 J J J J Y187.h Sz5 _ J oM (.s1 J J J J J Sz5 Z0 (by(simp;omega)) (by exact Bl _ _ _) zU ?_);refine G4 ?_;refine .quo_i64 J J J J oM (G10 ?_);have hst:le (a.take (k+1))+le (b.take (k+1))=(le (a.take k)+le (b.take k))+256^k*((a.getD k 0).toNat+(b.getD k 0).toNat):=by
    rw[le_take_succ a k oM,le_take_succ b k oM,Lcj];omega
   exact⟨k+1,by omega,by omega,Ah (wk1 rfl (wk1 rfl (wk1 rfl (wk1 rfl (wk1 (by rw[hst,←carry_step _ _ _ _ hs];rfl) wN))))) (wh1 (by rw[hst,←padW_step 32 _ _ k oM _ hs,byteOf_mod];exact Cb) (wh1 Z1 (wh1 Z2 (wh1 Z3 wh0)))) nD⟩
  obtain rfl:k=32:=by omega
  have hta:le (a.take 32)=le a:=by rw[La5 oM]
  have htb:le (b.take 32)=le b:=by rw[La5 oM]
  refine G5 ?_;refine⟨(),trivial,Ah wN (wh1 (by rw[←padW_all,←hta,←htb];exact Cb) (wh1 Z1 wh0)) nD⟩
 intro _u hj;skip;refine G2 ?_;refine .draw (oPq [100,301,302]) Aq zK (.lA J J J Y187.h J Sz187 Z0 (by(simp[Am];done)) ?_);refine .cV J J J J Body229 (ref_L) tV (.cV J J J J Body228 (ref_below _ _ (by simp[Am]) (by simp[Am])) tV ?_);refine G2 ?_;refine .condP J (fun hc1=>?_) (fun hc1=>?_)
 ·
  have hS:le a+le b<L:=by rw[le_leb32 oM,le_leb32 L_lt]at hc1;exact hc1
  refine G2 ?_;refine .lA J J J Y187.h J Sz187 Z0 (by(simp[Am];done)) ?_;refine .sA J J J J zB Sz187 (by(simp[Am];done)) Z1 sP zV ?_;refine G2 ?_;refine G3 ?_;refine⟨_,[],Aw J J Y187.h J Sz187 Z1 (by simp[Am]),sP,sP,?_,rfl⟩
  (rw[Lai hS];done)
 have hge:L≤le a+le b:=by rw[le_leb32 oM,le_leb32 L_lt]at hc1;exact Nat.le_of_not_lt hc1
 refine G4 ?_;refine .cV J J J J Body229 (ref_L) tV (.alloc (cs:=(Aa (List.replicate 32 0))) J A8 J ?_);intro n8 hn8 hf8;refine .sA J J J J zB Sz187 (by(simp[Am];done)) Z0 sP zU ?_;refine G14 ?_;refine .loop (ι:=Nat) (fun k=>⟨[(4,ptr n4 0),(5,ptr n5 0),(8,ptr n8 0),(6,i64 (-((bor (le a+le b-L) L k:Nat):Int))),(9,i64 (k:Int))],[⟨n8,Aa (leb 32 L),187,32⟩,⟨n5,Aa (subB (le a+le b-L) L k),187,32⟩,⟨n4,Aa (List.replicate 32 0),187,32⟩]⟩) (fun k=>k≤32) (fun k=>32-k) (0) ?_ ?_ ?_
 ·omega
 ·exact Ah (wk1 rfl (wk1 rfl (wk1 rfl (wk1 (by rw[bor_zero];rfl) wN)))) (wh1 Z0 (wh1 (by rw[subB_zero,Nat.sub_add_cancel hge];exact mem1) (wh1 Z2 wh0))) nD
 rintro k hk;have hpl:=subB_length (le a+le b-L) L k hk;have hbl:=bor_le (le a+le b-L) L k;refine G7 ?_;refine .condP J (fun hc2=>?_) (fun hc2=>?_)
 ·
  have hk3:k<32:=by omega
  have hx8:=((subB (le a+le b-L) L k).getD k 0).toNat_lt;have hy8:=((leb 32 L).getD k 0).toNat_lt;have hJ:(((subB (le a+le b-L) L k).getD k 0).toNat:Int)-(((leb 32 L).getD k 0).toNat:Int)+ -((bor (le a+le b-L) L k:Nat):Int)=(((le a+le b-L+L)/256^k%256:Nat):Int)-((L/256^k%256:Nat):Int)+ -((bor (le a+le b-L) L k:Nat):Int):=by rw[subB_get _ _ k hk3,leb_getD 32 L k hk3,ofNat8_toNat,ofNat8_toNat]
  have hbn:=bor_next _ _ k _ hJ;refine G2 ?_;refine .join (ι:=Unit) (fun _u=>⟨[(4,ptr n4 0),(5,ptr n5 0),(8,ptr n8 0),(6,i64 (-((bor (le a+le b-L) L (k+1):Nat):Int))),(9,i64 (k:Int))],[⟨n8,Aa (leb 32 L),187,32⟩,⟨n5,Aa (subB (le a+le b-L) L (k+1)),187,32⟩,⟨n4,Aa (List.replicate 32 0),187,32⟩]⟩) (fun _u=>True) ?_ ?_
  ·
   refine G2 ?_;refine .draw (oPq [0,1,102,3,4,5,106,7,8,9,10,11]) Aq zK (G1 ?_);refine .i1 J J J J Y187.h Sz5 _ J oM (G3 ?_);refine .i1 J J J J Y187.h Sz5 _ J oM (.load1 J J J Y5.h J Z0 (by exact get_bytes (by(simp[Am];omega))) ?_);refine G12 ?_;refine .rem_i64 J J J J oM (G1 ?_);refine .i1 J J J J Y187.h Sz5 _ J oM (.s1 J J J J J Sz5 Z1 (by(simp;omega)) (by exact Bl _ _ _) zV ?_);refine G8 ?_;refine .condP J (fun hc3=>?_) (fun hc3=>?_)
   ·
    have hn3:=hbn.1 hc3;refine G5 ?_;refine⟨(),trivial,Ah (wk1 J (wk1 J (wk1 J (wk1 (by rw[hn3];rfl) wN)))) (wh1 Z0 (wh1 (by rw[←subB_step _ _ k hk3 _ hJ,byteOf_mod];exact mem1) (wh1 Z2 wh0))) nD⟩
   have hn3:=hbn.2 hc3;refine G5 ?_;refine⟨(),trivial,Ah (wk1 J (wk1 J (wk1 J (wk1 (by rw[hn3];rfl) wN)))) (wh1 Z0 (wh1 (by rw[←subB_step _ _ k hk3 _ hJ,byteOf_mod];exact mem1) (wh1 Z2 wh0))) nD⟩
  intro _u hj;skip;refine G6 ?_;exact⟨k+1,by omega,by omega,Ah wN (wh1 Z0 (wh1 Z1 (wh1 Z2 wh0))) nD⟩
 obtain rfl:k=32:=by omega
 refine G7 ?_;refine .lA J J J Y187.h J Sz187 Z1 (by(simp[Am,subB_all];done)) ?_;refine .sA J J J J zB Sz187 (by(simp[Am,subB_all];done)) Z2 sP (by exact upd2) ?_;refine G2 ?_;refine G2 ?_;refine⟨_,[],Aw J J Y187.h J Sz187 Z2 (by simp[Am,subB_all]),sP,sP,?_,rfl⟩
 (rw[subB_all,Nat.mod_eq_sub_mod hge,Lai (a:=le a+le b-L) oM])
theorem ref_plus_n(x y:Nat)(hx:x<L)(hy:y<L):Mv 244 [agg (Aa (leb 32 x)),agg (Aa (leb 32 y))] (fun _=>True) (agg (Aa (leb 32 ((x+y)%L)))):=by
  have e1:=le_leb32 (Ldn hx L_lt);have e2:=le_leb32 (Ldn hy L_lt);have:=ref_plus (leb 32 x) (leb 32 y) (Am 32 x) (Am 32 y) (by rw[e1];exact hx) (by rw[e2];exact hy);rw[e1,e2]at this;exact this
theorem ref_plus_one(x:Nat)(hx:x<L):Mv 244 [agg (Aa (leb 32 x)),agg (Aa ((List.replicate 32 0).set 0 1))] (fun _=>True) (agg (Aa (leb 32 ((x+1)%L)))):=by
  have e1:=le_leb32 (Ldn hx L_lt);have:=ref_plus (leb 32 x) ((List.replicate 32 0).set 0 1) (Am 32 x) sP (by rw[e1];exact hx) (by rw[le_one'];decide);rw[e1,le_one']at this;exact this
theorem ref_rest(b o c n:Nat)(xs:List UInt8)(hx:xs.length=n)(hn:n≤1000000):Mv 243 [.slice (some ⟨b,o,none⟩) n c] (fun W=>De W b o (Aa xs)) (agg (Aa (leb 32 (le xs%L)))):=by
 intro W hW;refine Ad func243 J 33 ntmps243 J (G2 ?_);refine .alloc (cs:=(Aa (List.replicate 32 0))) J A8 J ?_;intro n2 hn2 hf2;refine G4 ?_;refine .alloc (cs:=(Aa (List.replicate 32 0))) J A8 J ?_;intro n3 hn3 hf3;refine .alloc (cs:=(Aa (List.replicate 32 0))) J A8 J ?_;intro n4 hn4 hf4;refine G4 ?_;refine .i1 J J J J Y187.h Sz5 0 J dE (.s1 J J J (show Ai _ _=some (u8 1)from rfl) J Sz5 Z0 sP (by exact Bl _ _ _) zU ?_);refine G7 ?_;refine .mul_i64 J J J J oM (G5 ?_);refine .loop (ι:=Nat) (fun k=>⟨[(0, .slice (some ⟨b,o,none⟩) n c),(2,ptr n2 0),(3,ptr n3 0),(4,ptr n4 0),(5,i64 (8*(n:Int)-1-(k:Int)))],[⟨n4,Aa ((List.replicate 32 0).set 0 1),187,32⟩,⟨n3,Aa (leb 32 ((le xs/2^(8*n-k))%L)),187,32⟩,⟨n2,Aa (List.replicate 32 0),187,32⟩]⟩) (fun k=>k≤8*n) (fun k=>8*n-k) (0) ?_ ?_ ?_
 ·omega
 ·exact Ah (wk1 rfl (wk1 rfl (wk1 rfl (wk1 rfl (wk1 (by rw[show(8*(n:Int)-1-((0:Nat):Int))=8*(n:Int)-1 by omega];rfl) wk0))))) (wh1 Z0 (wh1 (by rw[Lgj,le_zero_div xs n hx,zero_modL,leb_zero32];exact mem1) (wh1 Z2 wh0))) nD
 rintro k hk;refine G7 ?_;refine .condP J (fun hc0=>?_) (fun hc0=>?_)
 ·
  have hk2:k<8*n:=by omega
  have hdv:=div_bit (le xs) (8*n-(k+1));rw[show 8*n-(k+1)+1=8*n-k by omega]at hdv;have hbr:=bit_rem xs (8*n-(k+1));rw[show 8*n-(k+1)=8*n-1-k by omega]at hbr hdv;refine G2 ?_;refine .join (ι:=Unit) (fun _u=>⟨[(0, .slice (some ⟨b,o,none⟩) n c),(2,ptr n2 0),(3,ptr n3 0),(4,ptr n4 0),(5,i64 (8*(n:Int)-1-(k:Int)))],[⟨n4,Aa ((List.replicate 32 0).set 0 1),187,32⟩,⟨n3,Aa (leb 32 ((le xs/2^(8*n-(k+1)))%L)),187,32⟩,⟨n2,Aa (List.replicate 32 0),187,32⟩]⟩) (fun _u=>True) ?_ ?_
  ·
   refine G3 ?_;refine .lA J J J Y187.h J Sz187 Z1 (by(simp[Am];done)) ?_;refine .lA J J J Y187.h J Sz187 Z1 (by(simp[Am];done)) ?_;refine .cV J J J J Body244 (ref_plus_n _ _ (Lc3 _ L_pos) (Lc3 _ L_pos)) tV (.sA J J J J zB Sz187 (by(simp[Am];done)) Z1 (by(simp[Am];done)) zV ?_);refine G6 ?_;refine .quo_i64 J J J J oM (.idxSlO J J J J Y33.h Sz5 ((8*n-1-k)/8) oM oM (.loadE J J J Y5.h J sP (hW _ _ (get_bytes oM)) (G1 ?_)));refine .rem_i64 J J J J oM (G1 ?_);refine .shr_u8 J J J J ((8*n-1-k)%8) (by rw[wordOf_id _ oM];omega) oM ?_;refine .rem_u8 J J J J 2 J dE (G3 ?_);refine .condP J (fun hc1=>?_) (fun hc1=>?_)
   ·
    have hdb:le xs/2^(8*n-(k+1))=2*(le xs/2^(8*n-k))+1:=by rw[show 8*n-(k+1)=8*n-1-k by omega,hdv,←hbr,if_pos (decide_eq_true hc1)]
    refine .region (.lA J J J Y187.h J Sz187 Z1 (by(simp[Am];done)) ?_);refine .lA J J J Y187.h J Sz187 Z0 sP ?_;refine .cV J J J J Body244 (ref_plus_one _ (Lc3 _ L_pos)) tV (.sA J J J J zB Sz187 (by(simp[Am];done)) Z1 (by(simp[Am];done)) zV ?_);refine G3 ?_;refine⟨(),trivial,Ah wN (wh1 Z0 (wh1 (by(rw[hdb,←dbl_mod1];exact mem1)) (wh1 Z2 wh0))) nD⟩
   have hdb:le xs/2^(8*n-(k+1))=2*(le xs/2^(8*n-k)):=by rw[show 8*n-(k+1)=8*n-1-k by omega,hdv,←hbr,if_neg (by simpa using hc1),Lca]
   refine G3 ?_;refine⟨(),trivial,Ah wN (wh1 Z0 (wh1 (by(rw[hdb,←dbl_mod];exact mem1)) (wh1 Z2 wh0))) nD⟩
  intro _u hj;skip;refine G6 ?_;exact⟨k+1,by omega,by omega,Ah (wk1 rfl (wk1 rfl (wk1 rfl (wk1 rfl (wk1 (by rw[show(8*(n:Int)-1-((k+1:Nat):Int))=8*(n:Int)-1-(k:Int)-1 by omega];rfl) wk0))))) (wh1 Z0 (wh1 Z1 (wh1 Z2 wh0))) nD⟩
 obtain rfl:k=8*n:=by omega
 refine G7 ?_;refine .lA J J J Y187.h J Sz187 Z1 (by(simp[Am];done)) ?_;refine .sA J J J J zB Sz187 (by(simp[Am];done)) Z2 sP (by exact upd2) ?_;refine G2 ?_;refine G2 ?_;refine⟨_,[],Aw J J Y187.h J Sz187 Z2 (by simp[Am]),sP,sP,?_,rfl⟩;rw[Lez,Lds,Lf2]
theorem ref_Rest(b o c n:Nat)(xs:List UInt8)(hx:xs.length=n)(hn:n≤64):Mv 194 [.slice (some ⟨b,o,none⟩) n c] (fun W=>De W b o (Aa xs)) (.tuple #[agg (Aa (leb 32 (le xs%L))),i64 0]):=by
 intro W hW;refine Ad func194 J 10 ntmps194 J (G2 ?_);refine .alloc (cs:=(Aa (List.replicate 32 0))) J A8 J ?_;intro n2 hn2 hf2;refine G8 ?_;refine .gtr J J J J (decide_eq_false oM) (G2 ?_);refine .cond_f J (rfl) (G5 ?_);refine .cV J J J J Body243 (ref_rest _ _ _ n xs hx oM) (fun W h=>sees_ext h sP hW) (.sA J J J J zB Sz187 (by(simp[Am];done)) Z0 sP zU ?_);refine G3 ?_;refine G2 ?_;refine⟨_,[],Bg J J J Y187.h J Sz187 Z0 (by simp[Am]),sP,sP,?_,rfl⟩;rfl
theorem ref_canon(a:List UInt8)(ha:a.length=32)  :Mv 178 [agg (Aa a)] (fun _=>True) (.bool (decide (le a<L))):=by
 intro W hW;refine Ad func178 J 6 ntmps178 J (.sr (.boxA J J ?_));intro n1 hn1 hf1;refine .a J J J (.na (.seq (.draw (oPq [100,301,302,3]) Aq zK (.lA J J J Y187.h J Sz187 Z0 (by(simp[ha];done)) ?_))));refine .cV J J J J Body229 (ref_L) tV (.cV J J J J Body228 (ref_below _ _ (by simp[ha]) (by simp[Am])) tV ?_);refine .a J J J (.na ?_);refine .ret (C6 ?_);refine⟨_,[],Af J J,sP,sP,?_,rfl⟩;rw[le_leb32 L_lt]
theorem ref_bit_at(a:List UInt8)(ha:a.length=32)(k:Nat)(hk:k<256):Mv 236 [agg (Aa a),i64 (k:Int)] (fun _=>True) (.bool ((le a).testBit k)):=by
 intro W hW;refine Ad func236 J 23 ntmps236 J (G3 ?_);intro n2 hn2 hf2;refine G6 ?_;refine .geq J J J J (decide_eq_true oM) (G2 ?_);refine .lss J J J J (decide_eq_true oM) (G3 ?_);refine .quo_i64 J J J J oM (.i1 J J J J Y187.h Sz5 (k/8) oM oM (G2 ?_));refine .rem_i64 J J J J oM (G1 ?_);refine .shr_u8 J J J J (k%8) (by rw[wordOf_id _ oM];omega) oM ?_;refine .rem_u8 J J J J 2 J dE (G5 ?_);refine G2 ?_;refine⟨_,[],Af J J,sP,sP,?_,rfl⟩;rw[←bit_rem a k];rfl
end Go.Proofs.YtgjnomgkddbhcaaGreat
end
