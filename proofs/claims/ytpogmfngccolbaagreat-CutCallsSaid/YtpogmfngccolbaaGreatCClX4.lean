/- Contracts of functions of the loaded program, and the lemmas that they need (part 4). It proves no statement by itself; it has no conditions. -/
import Derived.WalkKit
import Derived.Orders
import Derived.Deep.LoopGhost
import Derived.IntWalk
import Derived.Laws.StructEq
import Derived.ArgAppend
import Derived.Deep.AppendSrc
import Derived.Lib.Bytealg
import Derived.Lib.BytesEntry
import Derived.Laws.IdiomStrings
import Derived.WideKeyArr2
import Derived.ProofKit
import Derived.OpenShut
import Derived.Deep.Slices
import Derived.Laws.Pointers
import Derived.Laws.Cover3
import Derived.LaidEqlPtr
import Derived.LoopN
import Derived.RangeFuncLeaves
import Derived.RangeFuncSeq
import Derived.OrdersIn
import Derived.Maps.Keyed
import Derived.Maps.RangeRun
import Derived.DeepKeys4
import Derived.Below
import Derived.Test.YtpogmfngccolbaaGreatRows
import Derived.KernelRfl
import Derived.Laws.Externs
import Derived.Defers
import Derived.Laws.MathBits
import Derived.Shelf.SlSortCmp.WholeK
import Derived.Shelf.SlGeneric
import Derived.Test.YtpogmfngccolbaaGreatProg
import Derived.Shelf.SlSortCmp.NoneTotal
import Derived.Deep.QuietTactic
import Derived.BigQuiet
import Derived.ScopeJumps
import Derived.DeepKeys3
import Derived.ChangeOld
import Derived.JoinedOf
import Derived.Test.YtpogmfngccolbaaGreatCClX3
set_option maxRecDepth 100000
set_option maxHeartbeats 8000000
set_option linter.unusedVariables false
set_option linter.unusedSimpArgs false
set_option linter.unusedSectionVars false
set_option linter.unnecessarySimpa false
section
namespace Go.Proofs.YtpogmfngccolbaaGreat
open Go Hw _root_.Go.Proofs.Tryz
variable{D:DB}{j n:Nat}{x:UInt64}
theorem and_low(h:x.toNat<4294967296):x&&&4294967295=x:=by
  apply Lbg.1;rw[Lff];show x.toNat&&&(2^32-1)=x.toNat;rw[Lci,Lab oM]
theorem shr_small(h:x.toNat<2^n):Ar x n=0:=by
  apply Lbg.1;rw[shr64_nat,Lb0 h];rfl
theorem mul8_nat(h:x.toNat<536870912):(x*8).toNat=x.toNat*8:=by
  rw[Ld8];show x.toNat*8%18446744073709551616=_;omega
theorem bits_mul8(x:UInt64)(hx:x.toNat<536870912):Mv 277 [u64 x,u64 8] (fun _=>True) (.tuple #[u64 0,u64 (x*8)]):=by
 intro W hW;have h1:=and_low (x:=x) oM;have h2:=shr_small (x:=x) (n:=32) oM;have h3:=mul8_nat hx;have h4:=shr_small (x:=x*8) (n:=32) oM;refine Ac func277 J 51 ntmps277 J (G2 ?_);refine .a J J (show Ag _ _=some (u64 0)from rfl) (.a J J (show Ag _ _=some (u64 0)from rfl) (G5 ?_));refine .and_u64 J J J (show Ag _ _=some (u64 4294967295)from rfl) (G6 ?_);refine .shr_u64 J J J J 32 oM oM (G6 ?_);refine .and_u64 J J J (show Ag _ _=some (u64 4294967295)from rfl) (G6 ?_);refine .shr_u64 J J (show Ag _ _=some (u64 8)from rfl) J 32 oM oM (G17 ?_);refine .shr_u64 J J J J 32 J dE (G7 ?_);refine .and_u64 J J J (show Ag _ _=some (u64 4294967295)from rfl) (G6 ?_);refine .shr_u64 J J J J 32 J dE (G21 ?_);refine .shr_u64 J J J J 32 J dE (G12 ?_);refine G2 ?_;refine⟨_,[],Cj J J J,sP,sP,?_,rfl⟩;simp only[h1,h2,show Ar 8 32=0 from rfl,show(8:UInt64)&&&4294967295=8 from rfl];rw[h4,UInt64.mul_zero (a:=x)];rfl
theorem C5(a b:List UInt8):Aa (a++b)=Aa a++Aa b:=Lad
theorem sl_get{ss:List Sl}(h:j<ss.length):(ss.map Sl.v)[j]? =some (ss.getD j Sl.nil).v:=by simp[La3 h,List.getD]
theorem take_flat{ls:List (List UInt8)}(h:j<ls.length):(ls.take (j+1)).flatten=(ls.take j).flatten++ls.getD j []:=by
  rw[Lar h,Lc4];simp[List.getD,h]
theorem take_flat_le(ls:List (List UInt8))(j:Nat):(ls.take j).flatten.length≤ls.flatten.length:=by
  have:ls.flatten=(ls.take j).flatten++(ls.drop j).flatten:=by rw[←Lc4,Lcj]
  rw[this,La4];omega
theorem sha_padded(p:Option Addr)(n c:Nat)(ss:List Sl)(ls:List (List UInt8))(hss:ss.length=n)(hls:ls.length=n)(hsl:∀j,j<n→(ss.getD j Sl.nil).n=(ls.getD j []).length∧((ss.getD j Sl.nil).p=none→(ss.getD j Sl.nil).n=0))(F:List UInt8)(hF:ls.flatten=F)(htot:F.length≤90000)(hn:n≤1000000):Meets prog 212 [.slice p n c] [] (fun W=>SeesP W p (ss.map Sl.v)∧∀j,j<n→SeesP W (ss.getD j Sl.nil).p (Aa (ls.getD j []))) (fun v out=>∃s,v=s.v∧Acc s out (Aa (padB F)) 5 (padB F).length 1):=by
 intro W hW;have hz:=padZ_lt F.length;have hle:=take_flat_le ls;rw[hF]at hle;refine Ac func212 J 76 ntmps212 J (G19 ?_);refine .loop (ι:=Nat) (fun k=>⟨[(0, .slice p n c),(3,i64 ((ls.take k).flatten.length:Int)),(14, .slice p n c),(15,i64 (n:Int)),(16,i64 (k:Int))],[]⟩) (fun k=>k≤n) (fun k=>n-k) (0) ?_ ?_ ?_
 ·omega
 ·exact An wN Ai
 rintro k hi;refine G6 ?_;refine .condP J (fun hc0=>?_) (fun hc0=>?_)
 ·
  have hk3:k<n:=by omega
  obtain⟨b,o,hbp,hbs⟩:=hW.1.at (by rw[La1];omega);have hv:W.cell? ⟨b,o+k*1,none⟩=some (ss.getD k Sl.nil).v:=by rw[Lb4];exact hbs k _ (sl_get oM)
  have hstep:=hle (k+1);rw[take_flat oM,La4,←(hsl k oM).1]at hstep;refine G6 ?_;refine .idxSlP 1 J J J hbp J Y183.h Sz46 k J oM (.loadE J J J Y46.h J sP (hv) (G17 ?_));exact⟨k+1,by omega,by omega,An (wk1 rfl (wk1 (congrArg (fun z=>some (i64 z)) (by rw[take_flat oM,La4,(hsl k oM).1];simp)) wN)) Ai⟩
 have hk3:k=n:=by omega
 rw[hk3,La5 oM,hF];refine G9 ?_;refine .quo_i64 J J J J oM (.mul_i64 J J J J oM (G1 ?_));refine .mkRoom (z:=u8 0) (by':=1) ((F.length+16)/128*128+128) J J J J oM Y46.h Sz5 Zr5 (by unfold By;kernel_rfl) J oM oM ?_;intro q30;refine G12 ?_;refine .loop (ι:=Nat×Sl×List Blk) (fun x=>⟨[(3,i64 (F.length:Int)),(6,x.2.1.v),(31, .slice p n c),(32,i64 (n:Int)),(33,i64 (x.1:Int))],(x.2.2++[])⟩) (fun x=>x.1≤n∧Acc x.2.1 x.2.2 (Aa (ls.take x.1).flatten) 5 (ls.take x.1).flatten.length 1) (fun x=>n-x.1) ((0,⟨some ⟨q30,0,none⟩,0,(F.length+16)/128*128+128⟩,[⟨q30,[],5,((F.length+16)/128*128+128)*1⟩])) ?_ ?_ ?_
 ·exact⟨Laj _,Acc.some (Laj _) rfl⟩
 ·exact An wN (pm_consE rM rfl (Lb4 _).symm Ai)
 rintro x ⟨hx,hax⟩;refine G6 ?_;refine .condP J (fun hc1=>?_) (fun hc1=>?_)
 ·
  have hx3:x.1<n:=by omega
  obtain⟨b,o,hbp,hbs⟩:=hW.1.at (by rw[La1];omega);have hv:W.cell? ⟨b,o+x.1*1,none⟩=some (ss.getD x.1 Sl.nil).v:=by rw[Lb4];exact hbs x.1 _ (sl_get oM)
  have hstep:=hle (x.1+1);rw[take_flat oM,La4,←(hsl x.1 oM).1]at hstep;refine G6 ?_;refine .idxSlP 1 J J J hbp J Y183.h Sz46 x.1 J oM (.loadE J J J Y46.h J sP (hv) (G6 ?_));refine .appendAcc (z:=u8 0) (by':=1) (Aa (ls.getD x.1 [])) J J J J J Y46.h Y46.h Sz5 Zr5 (by unfold By;kernel_rfl) J hax sG (fun w h=>A2 h J (hW.2 x.1 oM)) (hsl x.1 oM).2 (Ay _) oM oM (by rw[Aa,La1,Lb4];exact(hsl x.1 oM).1.symm) ?_;intro s39 bl39 hac39;refine G9 ?_;refine⟨(x.1+1,s39,bl39),⟨by simp only[];omega,?_⟩,by simp only[];omega,An wN (Af sG Ai)⟩;rw[take_flat oM,La4,←(hsl x.1 oM).1];simpa[Aa]using hac39
 have hx3:x.1=n:=by omega
 rw[hx3,La5 oM,hF]at hax;refine G8 ?_;refine .mkRow (z:=u8 0) [u8 (128)] (Aa [128]) J J J Y46.h Sz5 Zr5 J J (by intro v hv;rw[La0.1 hv];rfl) dE J ?_;intro q42;refine .appendAcc (z:=u8 0) (by':=1) (Aa [128]) J J J J J Y46.h Y46.h Sz5 Zr5 (by unfold By;kernel_rfl) J hax sG (fun w h=>SeesP.of (Ap h Z0)) (fun e=>by cases e) (Ay _) oM oM (by rfl) ?_;intro s43 bl43 hac43;refine G5 ?_;refine .loop (ι:=Nat×Sl×List Blk) (fun z=>⟨[(3,i64 (F.length:Int)),(6,z.2.1.v)],(z.2.2++[])⟩) (fun z=>z.1≤padZ F.length∧Acc z.2.1 z.2.2 (Aa (F++[128]++List.replicate z.1 0)) 5 (F.length+1+z.1) 1) (fun z=>padZ F.length-z.1) ((0,s43,bl43)) ?_ ?_ ?_
 ·exact⟨Laj _,by simpa[Aa]using hac43⟩
 ·exact An wN (Af sG Ai)
 rintro z ⟨hz1,haz⟩;have hzn:=haz.num;have hpz:=padZ_at F.length z.1 hz1;refine G5 ?_;refine .rem_i64 J J J J oM (G3 ?_);refine .condNP J (fun hc2=>?_) (fun hc2=>?_)
 ·
  have hz3:z.1<padZ F.length:=by omega
  refine G5 ?_;refine .mkRow (z:=u8 0) [u8 (0)] (Aa [0]) J J J Y46.h Sz5 Zr5 J J (by intro v hv;rw[La0.1 hv];rfl) dE J ?_;intro q49;refine .appendAcc (z:=u8 0) (by':=1) (Aa [0]) J J J J J Y46.h Y46.h Sz5 Zr5 (by unfold By;kernel_rfl) J haz sG (fun w h=>SeesP.of (Ap h Z0)) (fun e=>by cases e) (Ay _) oM oM (by rfl) ?_;intro s50 bl50 hac50;refine G4 ?_;refine⟨(z.1+1,s50,bl50),⟨by simp only[];omega,?_⟩,by simp only[];omega,An wN (Af sG Ai)⟩;rw[Lfb,←La8];simpa[Aa,Lcc]using hac50
 have hz3:z.1=padZ F.length:=by omega
 rw[hz3]at haz;refine G9 ?_;rw[word_nat (n:=F.length) oM];refine .cV J J J J Body277 (bits_mul8 (UInt64.ofNat F.length) (by rw[ofNat_nat oM];omega)) tV ?_;refine G12 ?_;refine .build (cs:=[u64 0,u64 (UInt64.ofNat F.length*8)]) J J J (fun w=>by kernel_rfl) ?_;refine G4 ?_;refine .rounds 3 (SRounds.more (G6 ?_));refine .cond_t J (rfl) (G6 ?_);refine .idxA1 J J J J underlying282 Sz45 Y45.h J 0 J oM J (G9 ?_);refine .loop (ι:=Nat×Sl×List Blk) (fun y=>⟨[(3,i64 (F.length:Int)),(6,y.2.1.v),(12,u64 (0)),(13,i64 (56-8*(y.1:Int))),(59,agg [u64 0,u64 (UInt64.ofNat F.length*8)]),(60,i64 0)],(y.2.2++[])⟩) (fun y=>y.1≤8∧Acc y.2.1 y.2.2 (Aa (F++[128]++List.replicate (padZ F.length) 0++beUp (0) y.1)) 5 ((F.length+1+padZ F.length)+y.1) 1) (fun y=>8-y.1) ((0,z.2.1,z.2.2)) ?_ ?_ ?_
 ·exact⟨Laj _,by simpa[beUp]using haz⟩
 ·exact An wN (Af sG Ai)
 rintro y ⟨hy,hay⟩;refine G7 ?_;refine .condP J (fun hc4=>?_) (fun hc4=>?_)
 ·
  have hy3:y.1≤7:=by omega
  refine G8 ?_;refine .shr_u64 J J J J (56-8*y.1) oM oM (G1 ?_);refine .mkRow (z:=u8 0) [u8 ((Ar 0 (56-8*y.1)).toUInt8)] (Aa [(Ar 0 (56-8*y.1)).toUInt8]) J J J Y46.h Sz5 Zr5 J J (by intro v hv;rw[La0.1 hv];rfl) dE J ?_;intro q72;refine .appendAcc (z:=u8 0) (by':=1) (Aa [(Ar 0 (56-8*y.1)).toUInt8]) J J J J J Y46.h Y46.h Sz5 Zr5 (by unfold By;kernel_rfl) J hay sG (fun w h=>SeesP.of (Ap h Z0)) (fun e=>by cases e) (Ay _) oM oM (by rfl) ?_;intro s73 bl73 hac73;refine G10 ?_;refine⟨(y.1+1,s73,bl73),⟨by simp only[];omega,?_⟩,by simp only[];omega,An (wk1 J (wk1 J (wk1 J (wk1 (congrArg (fun z=>some (i64 z)) oM) wN)))) (Af sG Ai)⟩;rw[show beUp (0) (y.1+1)=beUp (0) y.1++[(Ar (0) (56-8*y.1)).toUInt8]from rfl,←La8,C5];exact hac73
 have hy3:y.1=8:=by omega
 rw[hy3]at hay;refine G10 ?_;refine Ct (SRounds.more (G6 ?_));refine .cond_t J (rfl) (G6 ?_);refine .idxA1 J J J J underlying282 Sz45 Y45.h J 1 J oM J (G9 ?_);refine .loop (ι:=Nat×Sl×List Blk) (fun y=>⟨[(3,i64 (F.length:Int)),(6,y.2.1.v),(12,u64 (UInt64.ofNat F.length*8)),(13,i64 (56-8*(y.1:Int))),(59,agg [u64 0,u64 (UInt64.ofNat F.length*8)]),(60,i64 (0+1))],(y.2.2++[])⟩) (fun y=>y.1≤8∧Acc y.2.1 y.2.2 (Aa (F++[128]++List.replicate (padZ F.length) 0++beUp 0 8++beUp (UInt64.ofNat F.length*8) y.1)) 5 ((F.length+1+padZ F.length+8)+y.1) 1) (fun y=>8-y.1) ((0,y.2.1,y.2.2)) ?_ ?_ ?_
 ·exact⟨Laj _,by simpa[beUp]using hay⟩
 ·exact An wN (Af sG Ai)
 rintro y ⟨hy,hay⟩;refine G7 ?_;refine .condP J (fun hc4=>?_) (fun hc4=>?_)
 ·
  have hy3:y.1≤7:=by omega
  refine G8 ?_;refine .shr_u64 J J J J (56-8*y.1) oM oM (G1 ?_);refine .mkRow (z:=u8 0) [u8 ((Ar (UInt64.ofNat F.length*8) (56-8*y.1)).toUInt8)] (Aa [(Ar (UInt64.ofNat F.length*8) (56-8*y.1)).toUInt8]) J J J Y46.h Sz5 Zr5 J J (by intro v hv;rw[La0.1 hv];rfl) dE J ?_;intro q72;refine .appendAcc (z:=u8 0) (by':=1) (Aa [(Ar (UInt64.ofNat F.length*8) (56-8*y.1)).toUInt8]) J J J J J Y46.h Y46.h Sz5 Zr5 (by unfold By;kernel_rfl) J hay sG (fun w h=>SeesP.of (Ap h Z0)) (fun e=>by cases e) (Ay _) oM oM (by rfl) ?_;intro s73 bl73 hac73;refine G10 ?_;refine⟨(y.1+1,s73,bl73),⟨by simp only[];omega,?_⟩,by simp only[];omega,An (wk1 J (wk1 J (wk1 J (wk1 (congrArg (fun z=>some (i64 z)) oM) wN)))) (Af sG Ai)⟩;rw[show beUp (UInt64.ofNat F.length*8) (y.1+1)=beUp (UInt64.ofNat F.length*8) y.1++[(Ar (UInt64.ofNat F.length*8) (56-8*y.1)).toUInt8]from rfl,←La8,C5];exact hac73
 have hy3:y.1=8:=by omega
 rw[hy3]at hay;refine G10 ?_;refine Ct (SRounds.more (G6 ?_));refine .cond_f J (rfl) (G11 ?_);refine G2 ?_;refine Aw (out:=(y.2.2++[])) (Ae J J) (Af sG Ai) ?_;refine⟨y.2.1,rfl,?_⟩;have e8:UInt64.ofNat F.length*8=UInt64.ofNat (8*F.length):=by
  apply Lbg.1;rw[mul8_nat (by rw[ofNat_nat oM];omega),ofNat_nat oM,ofNat_nat oM];omega
 rw[e8]at hay;rw[padB_length,padB];simpa[Lcc,Ldt,Nat.add_left_comm]using hay
theorem mk_chunk(p:Option Addr)(n c:Nat):Meets prog 211 [.slice p n c,i64 128] [] (fun _=>True) (fun v out=>∃b1 b2,v= .func (.func 276) #[] #[ptr b1 0,ptr b2 0]∧out=[⟨b1,[.slice p n c],46,1⟩,⟨b2,[i64 128],3,1⟩]):=by
 intro W hW;refine Ac func211 J 9 ntmps211 J (G2 ?_);refine .box1 J J J ?_;intro n2 hn2 hf2;refine .box1 J J J ?_;intro n3 hn3 hf3;refine G10 ?_;refine .cond_f J dE (G8 ?_);refine G2 ?_;refine Aw (out:=(⟨n2,[.slice p n c],46,1⟩::(⟨n3,[i64 128],3,1⟩::[]))) (Ae J J) (Ab rM (Ab rM Ai)) ?_;exact⟨n2,n3,rfl,by simp⟩
def encC(q i:Nat):Value:= .slice (some ⟨q,128*i,none⟩) 128 128
theorem encC_eq(q i:Nat):(.slice (some ⟨q,if 128*i+128=128*i then 0 else 0+128*i*1,none⟩) (128*i+128-128*i) (128*i+128-128*i):Value)=encC q i:=by
  have e1:128*i+128-128*i=128:=by omega
  have e2:0+128*i*1=128*i:=by omega
  rw[if_neg oM,e1,e2];rfl
theorem chunk_iter(l b1 b2 q n c K:Nat)(X:Nat→List Blk)(names:List Nat)(hnk:n=128*K)(hnc:n≤c)(hbig:n≤1000000):Meets prog 276 [.func (.yield l) #[] #[],ptr b1 0,ptr b2 0] names (fun W=>HRep ⟨prog,W,0,names,[],[]⟩ (⟨b1,[.slice (some ⟨q,0,none⟩) n c],46,1⟩::⟨b2,[i64 128],3,1⟩::X 0) W∧∀i,i<K→∀W2,HRep ⟨prog,W,0,names,[],[]⟩ (⟨b1,[.slice (some ⟨q,0,none⟩) n c],46,1⟩::⟨b2,[i64 128],3,1⟩::X i) W2→YieldAt Fence.wide 0 prog l #[encC q i] W2 fun e W3=>e= .returned (.bool true)∧HRep ⟨prog,W,0,names,[],[]⟩ (⟨b1,[.slice (some ⟨q,0,none⟩) n c],46,1⟩::⟨b2,[i64 128],3,1⟩::X (i+1)) W3) (fun v out=>v= .tuple #[]∧out=⟨b1,[.slice (some ⟨q,0,none⟩) n c],46,1⟩::⟨b2,[i64 128],3,1⟩::X K):=by
 intro W hW;refine Br (hp0:=⟨b1,[.slice (some ⟨q,0,none⟩) n c],46,1⟩::⟨b2,[i64 128],3,1⟩::X 0) func276 J 31 ntmps276 J (HRep.reN hW.1) (G6 ?_);refine .loop (ι:=Nat) (fun i=>⟨[(0, .func (.yield l) #[] #[]),(1,ptr b1 0),(2,ptr b2 0),(4,i64 (128*(i:Int)))],(⟨b1,[.slice (some ⟨q,0,none⟩) n c],46,1⟩::(⟨b2,[i64 128],3,1⟩::(X i++[])))⟩) (fun i=>i≤K) (fun i=>K-i) (0) ?_ ?_ ?_
 ·exact Laj _
 ·exact An wN (Ab rM (Ab rM (Af (by repeat(exact sg_end)) Ai)))
 rintro i hi;refine G9 ?_;refine .condP J (fun hc0=>?_) (fun hc0=>?_)
 ·
  have hi3:i<K:=by omega
  refine G5 ?_;refine .draw (oP [100,101,2,3,4,5,6]) Ao zK (G3 ?_);refine .sliceLoN (128*i) J J J J oM oM oM Y46.h Sz5 (G1 ?_);refine .min2 J J J J (show Value.int .i64 (if((n-128*i:Nat):Int)<(128:Int)then((n-128*i:Nat):Int)else(128:Int))=i64 128 from by rw[if_neg oM]) ?_;refine G4 ?_;refine .regionY 10 J zK (G9 ?_);refine .slice3 (128*i) (128*i+128) (128*i+128) J J J J J J oM oM oM oM oM oM Y46.h Sz5 (.nil (yop J J (congrArg some (encC_eq q i)) (fun w h=>hW.2 i hi3 w (by rw[Lat]at h;exact h)) ?_));refine G3 ?_;refine .cond_f J (rfl) (G10 ?_);exact⟨i+1,by omega,by omega,An (wk1 rfl (wk1 rfl (wk1 rfl (wk1 (congrArg (fun z=>some (i64 z)) oM) wk0)))) (Ab rM (Ab rM (Af (by repeat(exact sg_end)) Ai)))⟩
 have hi3:i=K:=by omega
 refine G5 ?_;refine Aw (out:=(⟨b1,[.slice (some ⟨q,0,none⟩) n c],46,1⟩::(⟨b2,[i64 128],3,1⟩::(X i++[])))) (res_none J) (Ab rM (Ab rM (Af sG Ai))) ?_;rw[hi3];exact⟨rfl,by simp⟩
theorem chunk_seq{l b1 b2 q n c K:Nat}{X:Nat→List Blk}{names:List Nat}(hnk:n=128*K)(hnc:n≤c)(hbig:n≤1000000)(hnm:∀i,(⟨b1,[.slice (some ⟨q,0,none⟩) n c],46,1⟩::⟨b2,[i64 128],3,1⟩::X i).map (·.n)=names)(w1:World)(hh:HRep ⟨prog,w1,0,names,[],[]⟩ (⟨b1,[.slice (some ⟨q,0,none⟩) n c],46,1⟩::⟨b2,[i64 128],3,1⟩::X 0) w1)
    (hy:∀i,i<K→∀W2,HRep ⟨prog,w1,0,names,[],[]⟩ (⟨b1,[.slice (some ⟨q,0,none⟩) n c],46,1⟩::⟨b2,[i64 128],3,1⟩::X i) W2→YieldAt Fence.wide 0 prog l #[encC q i] W2 fun e W3=>e= .returned (.bool true)∧HRep ⟨prog,w1,0,names,[],[]⟩ (⟨b1,[.slice (some ⟨q,0,none⟩) n c],46,1⟩::⟨b2,[i64 128],3,1⟩::X (i+1)) W3):
    CallsIn Fence.wide 0 prog 276 (#[.func (.yield l) #[] #[]]++ #[ptr b1 0,ptr b2 0]) w1 fun e W'=>(∃v,e= .returned v)∧HRep ⟨prog,w1,0,names,[],[]⟩ (⟨b1,[.slice (some ⟨q,0,none⟩) n c],46,1⟩::⟨b2,[i64 128],3,1⟩::X K) W':=
  callsIn_wide.2 ((chunk_iter l b1 b2 q n c K X names hnk hnc hbig w1 ⟨hh,hy⟩).mono fun e W' ⟨v,out,he,⟨_,ho⟩,hr⟩=>⟨⟨v,he⟩,by subst ho;exact HRep.ofRet hr (hnm K)⟩)
theorem take_len{xs:List UInt8}{i K:Nat}(h:xs.length=128*K)(hi:i<K):((xs.drop (128*i)).take 128).length=128:=by simp;omega
theorem sha_whole(st:List UInt64)(hst:st.length=8)(k:List UInt64)(hk:Hid (kW=k))(hk80:k.length=80)(p:Option Addr)(n c:Nat)(ss:List Sl)(ls:List (List UInt8))(hss:ss.length=n)(hls:ls.length=n)(hsl:∀j,j<n→(ss.getD j Sl.nil).n=(ls.getD j []).length∧((ss.getD j Sl.nil).p=none→(ss.getD j Sl.nil).n=0))(F:List UInt8)(hF:ls.flatten=F)(htot:F.length≤90000)(hn:n≤1000000)  :Mv 174 [agg (Ah st), .slice p n c] (fun W=>SeesP W p (ss.map Sl.v)∧∀j,j<n→SeesP W (ss.getD j Sl.nil).p (Aa (ls.getD j []))) (agg (Ah (allW k st F))):=by
  intro W hW;have hpl:=padB_length F;have hpz:=padZ_lt F.length;have hpm:=padB_mod F;have hst2:(runW k st (padB F) ((padB F).length/128)).length=8:=by rw[runW_length];exact hst
  refine calls_range func174 rfl 16 ntmps174 rfl ?_;refine G2 ?_;intro n2 hn2 hf2;refine Tr.alloc (cs:=(Ah (List.replicate 8 0))) rfl Zr185 rfl ?_;intro n4 hn4 hf4;refine G4 ?_;refine Tr.call4 rfl rfl rfl rfl rfl Body212 (sha_padded p n c ss ls hss hls hsl F hF htot hn) (fun w h=>⟨A2 h rfl hW.1,fun j hj=>A2 h rfl (hW.2 j hj)⟩) ?_;rintro v7 out7 ⟨s7,rfl,hac7⟩;obtain⟨q7,c7,rfl,hc7,rfl⟩:=acc_pos hac7 oM;refine Tr.call4 rfl rfl rfl rfl rfl Body211 (mk_chunk (some ⟨q7,0,none⟩) (padB F).length c7) tV ?_;rintro v8 out8 ⟨b1,b2,rfl,rfl⟩;refine G2 ?_;refine⟨_,_,fun i=>⟨b1,[.slice (some ⟨q7,0,none⟩) (padB F).length c7],46,1⟩::⟨b2,[i64 128],3,1⟩::[⟨q7,Aa (padB F),5,c7*1⟩,⟨n4,Ah (List.replicate 8 0),185,(Ah (List.replicate 8 0)).length⟩,⟨n2,Ah (runW k st (padB F) i),185,(Ah st).length⟩],[b1,b2,q7,n4,n2],encC q7,((padB F).length/128),fun sl i=>(5,encC q7 i)::(9,encC q7 i)::sl,rfl,rfl,Body276,dE,fun _=>rfl,?_,?_,?_,?_⟩
  ·
    intro l w1 hh hy;exact chunk_seq (X:=fun i=>[⟨q7,Aa (padB F),5,c7*1⟩,⟨n4,Ah (List.replicate 8 0),185,(Ah (List.replicate 8 0)).length⟩,⟨n2,Ah (runW k st (padB F) i),185,(Ah st).length⟩]) hpm hc7 oM (fun _=>rfl) w1 hh hy
  ·
    intro i hi l W2 hh;refine SatI.region zK ?_;refine G2 ?_;exact⟨rfl,rfl⟩
  ·
    intro i hi l W2 hh;obtain⟨A,hA⟩:∃A,Hid (schA ((padB F).drop (128*i)|>.take 128) 128=A):=⟨_,⟨rfl⟩⟩;obtain⟨w,hwp⟩:∃w,Hid (schB A 64=w):=⟨_,⟨rfl⟩⟩;obtain⟨R,hR⟩:∃R,Hid (rnds k w (W8.of (runW k st (padB F) i)) 80=R):=⟨_,⟨rfl⟩⟩;have hw:w.length=80:=by rw[←hwp.out,schB_length,←hA.out];exact schA_length _ 128
    have e1:addUp (runW k st (padB F) i) R.l 8=runW k st (padB F) (i+1):=by rw[runW,pieceW,schW,hA.out,hwp.out,hR.out]
    refine SatI.block ?_;refine SatI.draw (oP [100,1,2,103,304,405]) Ao zK zK ?_;refine Tr.lA rfl rfl rfl Y185.h rfl Sz185 Z4 (by rw[La1,runW_length];exact hst) ?_;refine G1 ?_;refine Tr.s2a rfl rfl rfl underlying226 oM ?_;refine Tr.lN (Aa ((padB F).drop (128*i)|>.take 128)) rfl rfl rfl underlying226 rfl Sz226 Z2 (by rw[←Le7,←Lcm]) (by rw[La1];exact take_len hpm hi) ?_;refine Tr.cV rfl rfl rfl rfl Body213 (sha_Piece (runW k st (padB F) i) (by rw[runW_length];exact hst) ((padB F).drop (128*i)|>.take 128) (take_len hpm hi) A w k R hA hwp hw hk hk80 hR) tV ?_;refine Tr.sA rfl rfl rfl rfl zB Sz185 (by(rw[La1,B8,runW_length];exact hst)) Z4 (by(rw[La1,runW_length];exact hst)) (by exact upd4) ?_;refine Tr.nil ?_;rw[e1];rfl
  intro D W2;refine G2 ?_;refine Tr.lA rfl rfl rfl Y185.h rfl Sz185 Z4 (by(simp[hst2];done)) ?_;refine Tr.sA rfl rfl rfl rfl zB Sz185 (by(simp[hst2];done)) Z3 sP (by exact upd3) ?_;refine G2 ?_;refine Sat.ret ?_;refine enA_r ?_;refine⟨_,[],fun W names=>Am rfl rfl Y185.h rfl Sz185 Z3 (by simp[hst2]),sP,sP,?_⟩;exact⟨rfl,rfl⟩
theorem startW_length:startW.length=8:=rfl
def xorUp:Nat→List UInt64
  |0=>startW
  |i+1=>(xorUp i).set i ((xorUp i).getD i 0^^^11936128518282651045)
theorem xorUp_length:∀i,(xorUp i).length=8
  |0=>rfl
  |i+1=>by rw[xorUp,Lc0,xorUp_length i]
def shaTag:List UInt8:=[83,72,65,45,53,49,50,47,50,53,54]
def shaI:List UInt64:=allW kW (xorUp 8) shaTag
theorem shaI_length:shaI.length=8:=by rw[shaI,allW_length,xorUp_length]
def sha256(l:List UInt8):List UInt8:=(sumUp (allW kW shaI l) 64).take 32
theorem sha256_length(l:List UInt8):(sha256 l).length=32:=by rw[sha256,Lag,Cb];rfl
theorem sha_StartShort(k s0 i0:List UInt64)(G:List UInt8)(hk:Hid (kW=k))(hk80:k.length=80)(hs0:Hid (xorUp 8=s0))(hs8:s0.length=8)(hG:Hid (shaTag=G))(hGl:G.length=11)(hi0:Hid (allW k s0 G=i0))(hi8:i0.length=8)  :Mv 175 [] (fun _=>True) (agg (Ah i0)):=by
 intro W hW;refine Ac func175 J 18 ntmps175 J (G2 ?_);refine .alloc (cs:=(Ah (List.replicate 8 0))) J Zr185 J ?_;intro n0 hn0 hf0;refine G4 ?_;refine .cV J J J J Body214 (sha_Start) tV (.alloc (cs:=(Ah (List.replicate 8 0))) J Zr185 J ?_);intro n1 hn1 hf1;refine .sA J J J J zB Sz185 (by(simp[startW_length];done)) Z0 sP zU ?_;refine G9 ?_;refine .loop (ι:=Nat) (fun j=>⟨[(0,ptr n0 0),(1,ptr n1 0),(4,i64 (j:Int))],[⟨n1,Ah (xorUp j),185,8⟩,⟨n0,Ah (List.replicate 8 0),185,8⟩]⟩) (fun j=>j≤8) (fun j=>8-j) (0) ?_ ?_ ?_
 ·omega
 ·exact An wN (Ab rM (Ab rM Ai))
 rintro j hi;have hlj:=xorUp_length j;refine G6 ?_;refine .condP J (fun hc0=>?_) (fun hc0=>?_)
 ·
  refine G12 ?_;refine .i1 J J J J Y185.h Sz45 _ J oM (G1 ?_);refine .xor_u64 J J J (show Ag _ _=some (u64 11936128518282651045)from rfl) (.i1 J J J J Y185.h Sz45 _ J oM (.s1 J J J J J Sz45 Z0 (by(simp[xorUp_length];omega)) (by exact Be _ _ _) zU ?_));refine G8 ?_;exact⟨j+1,by omega,by omega,An wN (Ab rM (Ab rM Ai))⟩
 obtain rfl:j=8:=by omega
 rw[hs0.out];clear hlj;refine G7 ?_;refine .lA J J J Y185.h J Sz185 Z0 (by(simp[hs8];done)) ?_;refine .mkRow (z:=u8 0) [u8 83,u8 72,u8 65,u8 45,u8 53,u8 49,u8 50,u8 47,u8 50,u8 53,u8 54] (Aa shaTag) J J J Y46.h Sz5 Zr5 J J (by intro v hv;simp only[Lal,Lcd,or_false]at hv;rcases hv with rfl|rfl|rfl|rfl|rfl|rfl|rfl|rfl|rfl|rfl|rfl<;>rfl) dE J ?_;intro q14;rw[hG.out];refine .constB J J J J Y46.h Y5.h Z0 ?_;refine .mkRow (z:= .slice none 0 0) [.slice (some ⟨q14,0,none⟩) 11 11] [.slice (some ⟨q14,0,none⟩) 11 11] rfl J J Y183.h Sz46 Zr46 J J (by intro v hv;rw[La0.1 hv];rfl) dE J ?_;intro q16;refine .cV J J J J Body174 (sha_whole s0 hs8 k hk hk80 (some ⟨q16,0,none⟩) 1 1 [⟨some ⟨q14,0,none⟩,11,11⟩] [G] rfl J (fun j hj=>(by obtain rfl:j=0:=oM;exact⟨by simp[hGl],fun e=>by cases e⟩)) G sP oM dE) (fun w h=>⟨SeesP.of (Ap h Z0),fun j hj=>(by obtain rfl:j=0:=oM;exact SeesP.of (Ap h Z1))⟩) ?_;rw[hi0.out];refine .sA J J J J zB Sz185 (by(simp[hi8];done)) Z3 sP (by exact upd3) ?_;refine G2 ?_;refine G2 ?_;refine⟨_,[],Am J J Y185.h J Sz185 Z3 (by simp[hi8]),sP,sP,?_,rfl⟩;rfl
theorem sha_Sum(k s0 i0:List UInt64)(G:List UInt8)(hk:Hid (kW=k))(hk80:k.length=80)(hs0:Hid (xorUp 8=s0))(hs8:s0.length=8)(hG:Hid (shaTag=G))(hGl:G.length=11)(hi0:Hid (allW k s0 G=i0))(hi8:i0.length=8)(p:Option Addr)(n c:Nat)(ss:List Sl)(ls:List (List UInt8))(hss:ss.length=n)(hls:ls.length=n)(hsl:∀j,j<n→(ss.getD j Sl.nil).n=(ls.getD j []).length∧((ss.getD j Sl.nil).p=none→(ss.getD j Sl.nil).n=0))(F:List UInt8)(hF:ls.flatten=F)(htot:F.length≤90000)(hn:n≤1000000)(r:List UInt64)(hr:Hid (allW k i0 F=r))(s:List UInt8)(hs:Hid (sumUp r 64=s))  :Mv 124 [.slice p n c] (fun W=>SeesP W p (ss.map Sl.v)∧∀j,j<n→SeesP W (ss.getD j Sl.nil).p (Aa (ls.getD j []))) (agg (Aa (s.take 32))):=by
 intro W hW;have hr8:r.length=8:=by rw[←hr.out,allW_length];exact hi8
 have hs64:s.length=64:=by rw[←hs.out];exact Cb r 64
 have hs32:(s.take 32).length=32:=by rw[Lag,hs64];rfl
 refine Ac func124 J 11 ntmps124 J (G2 ?_);refine .alloc (cs:=(Aa (List.replicate 32 0))) J Ck J ?_;intro n2 hn2 hf2;refine G4 ?_;refine .cV J J J J Body175 (sha_StartShort k s0 i0 G hk hk80 hs0 hs8 hG hGl hi0 hi8) tV (G1 ?_);refine .cV J J J J Body174 (sha_whole i0 hi8 k hk hk80 p n c ss ls hss hls hsl F hF htot hn) (fun w h=>⟨A2 h J hW.1,fun j hj=>A2 h J (hW.2 j hj)⟩) ?_;rw[hr.out];refine .cV J J J J Body173 (sha_sum r hr8 s hs) tV (.alloc (cs:=(Aa (List.replicate 64 0))) J Zr47 J ?_);intro n3 hn3 hf3;refine .sA J J J J zE Sz47 (by(simp[hs64];done)) Z0 sP zU ?_;refine G4 ?_;refine .sliceArrHi 32 J J J J J dE dE Y47.h Sz5 (.s2a J J J Y34.h oM (.lN (Aa (s.take 32)) J J J Y34.h J Sz34 Z0 (by rw[Lea,←Lcm]) (by rw[La1];exact hs32) ?_));refine .sA J J J J zE Sz34 (by(simp[hs64];done)) Z1 sP zV ?_;refine G2 ?_;refine G2 ?_;refine⟨_,[],Am J J Y34.h J Sz34 Z1 (by simp[hs64]),sP,sP,?_,rfl⟩;rfl
theorem DB.head_small(h:D.check=0):D.ls.length≤16∧D.ds.length≤512:=by
  unfold DB.check at h;by_cases h1:D.head=true
  ·rw[if_pos h1]at h;cases h
  · unfold DB.head at h1
    simp at h1;omega
theorem DB.bytes_small(h:D.check=0)(hd:D.ok):D.bytes.length≤5000:=by
  have hs:=D.head_small h;have hz1:=B1 D.seq.toNat;have hz2:=B1 (UInt64.ofNat D.ls.length).toNat;have hz3:=B1 (UInt64.ofNat D.ds.length).toNat;have hfl:=Ca hd.ls (Lae D.ls.length);rw[Ldm]at hfl;simp only[DB.bytes,DB.body,La4,Bj,hd.w,hd.prev,hd.sg,hfl];omega
def bytesR(D:DB):List UInt8:=if D.check=0 then D.bytes else[]
theorem db_check(B:Block)(D:DB):Mv 154 [agg B.cells] (fun W=>BlockIs W B D) (i64 D.check):=
  fun W hW=>by rw[←hW.check];exact block_check B hW.ok D.ls W hW.ls
theorem db_bytes(B:Block)(D:DB):Meets prog 157 [agg B.cells] [] (fun W=>BlockIs W B D) (fun v out=>∃s,v= .tuple #[s.v,i64 D.check]∧Acc s out (Aa (bytesR D)) 5 (bytesR D).length 1):=fun W hW=>by
  unfold bytesR;by_cases h:D.check=0
  · rw[if_pos h]
    refine(bytes_ok B hW.ok D.ls D.ds (by rw[hW.check];exact h) W ⟨hW.ls,hW.ds⟩).mono fun e W' ⟨v,out,h1,⟨q,c,N,h2,h3,h4,h5,h6⟩,h7⟩=>⟨v,out,h1,⟨⟨some ⟨q,0,none⟩,N,c⟩,?_,?_⟩,h7⟩
    ·rw[h];exact h4
    · rw[h6]
      rw[hW.bytes]at h2 ⊢;rw[←h2];exact Acc.some h5 (by rw[Aa,La1,←h2];omega)
  · rw[if_neg h]
    refine(bytes_bad B hW.ok D.ls D.ds (by rw[hW.check];exact h) W ⟨hW.ls,hW.ds⟩).mono fun e W' ⟨v,out,h1,⟨h2,h3⟩,h7⟩=>⟨v,out,h1,⟨Sl.nil,?_,?_⟩,h7⟩
    ·rw[h2,hW.check];rfl
    ·rw[h3];exact Acc.none
def Bm(D:DB):List UInt8:=if D.check=0 then sha256 D.bytes else List.replicate 32 0
theorem nameD_length(D:DB):(Bm D).length=32:=by
  unfold Bm;split
  ·exact sha256_length _
  ·rfl
theorem BlockIs.ext{C:Cx}{hp:List Blk}{w:World}{B:Block}(hh:HRep C hp w)(hl:C.lent=[])(h:BlockIs C.W0 B D):BlockIs w B D:=
  ⟨h.ok,h.w,h.seq,h.prev,rows_ext hh hl h.ls,bytes_ext hh hl h.ds,h.sg⟩
theorem db_name(B:Block)(D:DB):Mv 98 [agg B.cells] (fun W=>BlockIs W B D) (agg (Aa (Bm D))):=by
 intro W hW;have hok:=hW.ok;obtain⟨k,hk⟩:∃k,Hid (kW=k):=⟨_,⟨rfl⟩⟩;obtain⟨s0,hs0⟩:∃s0,Hid (xorUp 8=s0):=⟨_,⟨rfl⟩⟩;obtain⟨G,hG⟩:∃G,Hid (shaTag=G):=⟨_,⟨rfl⟩⟩;obtain⟨i0,hi0⟩:∃i0,Hid (allW k s0 G=i0):=⟨_,⟨rfl⟩⟩;have hk80:k.length=80:=by rw[←hk.out];rfl
 have hs8:s0.length=8:=by rw[←hs0.out];exact xorUp_length 8
 have hGl:G.length=11:=by rw[←hG.out];rfl
 have hi8:i0.length=8:=by rw[←hi0.out,allW_length];exact hs8
 obtain⟨r,hr⟩:∃r,Hid (allW k i0 (D.bytes)=r):=⟨_,⟨rfl⟩⟩;obtain⟨s,hs⟩:∃s,Hid (sumUp r 64=s):=⟨_,⟨rfl⟩⟩;have hsd:Hid (s.take 32=sha256 (D.bytes)):=⟨by rw[←hs.out,←hr.out,←hi0.out,←hG.out,←hs0.out,←hk.out];rfl⟩;have hs64:s.length=64:=by rw[←hs.out];exact Cb r 64
 have hs32:(s.take 32).length=32:=by rw[Lag,hs64];rfl
 refine Ac func98 J 16 ntmps98 J (G3 ?_);intro n1 hn1 hf1;refine .alloc (cs:=(Aa (List.replicate 32 0))) J Ck J ?_;intro n2 hn2 hf2;refine G5 ?_;refine .call4 J J J J J Body157 (db_bytes B D) (fun w h=>hW.ext h J) ?_;rintro v7 out7 ⟨s7,rfl,hac7⟩;refine G11 ?_;refine two (fun r hr k=>Tr.nei J J J J hr k) (fun hs2_10=>?_) (fun hs2_10=>?_)
 ·
  have hs2_1:=nd_t hs2_10;skip;refine G2 ?_;refine .cond_t J J (G2 ?_);refine .build (cs:=Aa (List.replicate 32 0)) J J J (fun w=>by kernel_rfl) ?_;refine .sA J J J J zE Sz34 sP mR sP (by(repeat(first|exact upd0|apply Upd.seg))) ?_;refine G2 ?_;refine G3 ?_;refine⟨_,[],Am J J Y34.h J Sz34 mR sP,sP,sP,?_,rfl⟩
  (rw[Bm,if_neg hs2_1];done)
 have hs2_1:=nd_f hs2_10;have h0:D.check=0:=by omega
 have hb7:bytesR D=D.bytes:=if_pos h0;refine G2 ?_;refine .cond_f J J (G5 ?_);refine .mkRow (z:= .slice none 0 0) [s7.v] [s7.v] rfl J J Y183.h Sz46 Zr46 J J (by intro v hv;rw[La0.1 hv];rfl) dE J ?_;intro q14;refine .cV J J J J Body124 (sha_Sum k s0 i0 G hk hk80 hs0 hs8 hG hGl hi0 hi8 (some ⟨q14,0,none⟩) 1 1 [s7] [D.bytes] rfl J (fun j hj=>(by obtain rfl:j=0:=oM;exact⟨by simp[hac7.num,hb7],fun e=>hac7.nil e⟩)) D.bytes sP (by have:=D.bytes_small h0 hW.dok;omega) dE r hr s hs) (fun w h=>⟨SeesP.of (Ap h Z0),fun j hj=>(by obtain rfl:j=0:=oM;exact(by have:=hac7.see (Lies.of h (by repeat(first|exact A4|refine Bl ?_)));rw[hb7]at this;exact this))⟩) ?_;refine .sA J J J J zE Sz34 (by(simp[hs64];done)) mR sP uU ?_;refine G2 ?_;refine G2 ?_;refine⟨_,[],Am J J Y34.h J Sz34 mR (by simp[hs64]),sP,sP,?_,rfl⟩
 (rw[Bm,if_pos h0,hsd.out];done)
section
variable{H:Type}{enc:TypeId×Value→H}{P:Program}{W:World}{base:Nat}{sp:Nat→Bool}{held:Bool}
end
section
variable{H:Type}{enc:TypeId×Value→H}{W:World}{base:Nat}{sp:Nat→Bool}{held:Bool}
end
section
variable{H:Type}{enc:TypeId×Value→H}{W:World}{base:Nat}{sp:Nat→Bool}{held:Bool}
end
def BlocksAt(W:World)(s:Sl)(ds:List DB):Prop:=∃rs,SeqIs Block.cells 131 BlockIs W s rs ds
section
variable{H:Type}{enc:TypeId×Value→H}{W:World}{base:Nat}{sp:Nat→Bool}{held:Bool}
end
structure DCut where
  dHeight:UInt64
  dPrev:List UInt8
  dHeads:List (List UInt8)
structure CutIs(W:World)(x:Cut)(d:DCut):Prop where
  ok:x.ok
  fHeight:x.fHeight=d.dHeight
  fPrev:x.fPrev=d.dPrev
  fHeads:RowsAt W x.fHeads 32 d.dHeads
theorem CutIs.ext{C:Cx}{hp:List Blk}{w:World}{x:Cut}{d:DCut}(h:CutIs C.W0 x d)(hh:HRep C hp w)(hl:C.lent=[]):CutIs w x d:=⟨h.ok,h.fHeight,h.fPrev,rows_ext hh hl h.fHeads⟩
section
variable{H:Type}{enc:TypeId×Value→H}{W:World}{base:Nat}{sp:Nat→Bool}{held:Bool}
theorem Cut.openD{fuel:Nat}{cs:List Value}{y:DataW H×List MemPlace}(h:DataW.trod enc prog W base sp held fuel 57 cs=some y):∃(x:Cut) (d:DCut),cs=x.cells∧CutIs W x d:=by
  obtain⟨xs,n,_,_,h4,h5,h6⟩:=DataW.trod_struct Y57.h h;rw[show prog.cellsOf 57=34 by kernel_rfl]at h4;have c0:prog.cellsOf 45=1:=by kernel_rfl
  have c1:prog.cellsOf 34=32:=by kernel_rfl
  have c2:prog.cellsOf 30=1:=by kernel_rfl
  have g0:DataW.trod enc prog W base sp held n 45 ((cs.drop 0).take (prog.cellsOf 45))=some (xs[0]'(by rw[h5];decide)):=by rw[←La3];exact h6 0 _ rfl
  rw[c0]at g0;obtain⟨a0,e0,_,w0⟩:=DataW.trod_int Y45.h g0;obtain⟨v0,rfl⟩:=Hw.u64_back w0;have g1:DataW.trod enc prog W base sp held n 34 ((cs.drop 1).take (prog.cellsOf 34))=some (xs[1]'(by rw[h5];decide)):=by rw[←La3];exact h6 1 _ rfl
  rw[c1]at g1;obtain⟨v1,e1,l1⟩:=Hw.open_bytesT Y34.h Y5.h zK zK g1;have g2:DataW.trod enc prog W base sp held n 30 ((cs.drop 33).take (prog.cellsOf 30))=some (xs[2]'(by rw[h5];decide)):=by rw[←La3];exact h6 2 _ rfl
  rw[c2]at g2;obtain⟨v2,b2,e2,q2⟩:=Hw.open_rowsS Y30.h Y34.h Y5.h zK zK dE g2;refine⟨⟨v0,v1,v2⟩,⟨v0,v1,b2⟩,?_,⟨⟨l1⟩,rfl,rfl,q2⟩⟩;rw[←Lea (l:=cs)];exact(Hw.cat 1 e0 rfl (Hw.cat 33 e1 rfl (Hw.cat_last e2 h4)))
end
section
variable{H:Type}{enc:TypeId×Value→H}{W:World}{base:Nat}{sp:Nat→Bool}{held:Bool}
theorem Cut.openW{r:Reach}{b0:Nat}{v:Value}{d:DataW H}{ps:List MemPlace}(hval:Value.okWide prog W r b0 57 v)(hd:DataW.Trod enc prog W base sp held 57 v d ps):∃(x:Cut) (D:DCut),v=agg x.cells∧CutIs W x D:=by
  simp only[Value.okWide,Y57.h]at hval;obtain⟨cs,rfl,_⟩:=hval;obtain⟨fuel,hf⟩:=hd;obtain⟨x,D,h2,h3⟩:=Cut.openD hf;refine⟨x,D,?_,h3⟩;simp only[Value.cells]at h2;rw[agg,←h2]
end
def CutsAt(W:World)(s:Sl)(ds:List DCut):Prop:=∃rs,SeqIs Cut.cells 34 CutIs W s rs ds
theorem Cuts_ext{C:Cx}{hp:List Blk}{w:World}{s:Sl}{ds:List DCut}(hh:HRep C hp w)(hl:C.lent=[])(h:CutsAt C.W0 s ds):CutsAt w s ds:=by
  obtain⟨rs,h⟩:=h;exact⟨rs,h.ext hh hl fun r d hd=>hd.ext hh hl⟩
section
variable{H:Type}{enc:TypeId×Value→H}{W:World}{base:Nat}{sp:Nat→Bool}{held:Bool}
theorem Cut.openS{t:TypeId}(hu:prog.underlying t=some (.slice 57))(hc:prog.cellsOf 57=34){fuel:Nat}{cs:List Value}{y:DataW H×List MemPlace}(h:DataW.trod enc prog W base sp held fuel t cs=some y):∃s ds,cs=[Sl.v s]∧CutsAt W s ds:=by
  obtain⟨s,rs,ds,e,hs⟩:=open_seqS (cells:=Cut.cells) (Is:=CutIs) hu hc dE (fun ht=>by
    obtain⟨r,d,e,hi⟩:=Cut.openD ht;exact⟨r,d,e,hi,Cut.length hi.ok⟩) h
  exact⟨s,ds,e,rs,hs⟩
end
def lastH(ls:List (List UInt8))(k:Nat):List UInt8:=if k=0 then List.replicate 32 0 else ls.getD (k-1) []
variable{C:Cut}{D:DCut}{W:World}{k:Nat}{ls:List (List UInt8)}{m:Int}{out:List Blk}{xs:List UInt8}
theorem lastH_length(h:∀l∈ls,l.length=32)(hk:k≤ls.length):(lastH ls k).length=32:=by
  unfold lastH;split
  ·simp
  ·exact Bf h oM
theorem lastH_succ(ls:List (List UInt8))(k:Nat):lastH ls (k+1)=ls.getD k []:=by simp[lastH]
def headBad(ls:List (List UInt8))(k:Nat):Bool:=decide ((0:Int)≤Cw (lastH ls k) (ls.getD k []))
def headsBad(ls:List (List UInt8)):Bool:=(List.range ls.length).any (headBad ls)
theorem headsBad_at(hk:k<ls.length)(h:headBad ls k=true):headsBad ls=true:=by
  rw[headsBad,Ldo];exact⟨k,Lcr.2 hk,h⟩
theorem headsBad_not(h:∀j,j<ls.length→headBad ls j=false):headsBad ls=false:=by
  rw[headsBad,Lg0];intro x hx;rw[h x (Lcr.1 hx)];simp
def cheadB(h:UInt64)(prev:List UInt8)(n:Nat):Bool:=decide ((h.toNat:Int)<1)||(decide ((4294967295:Int)<(h.toNat:Int))||(!decide (decide (prev=List.replicate 32 0)=decide ((h.toNat:Int)=1))||(decide ((n:Int)<1)||decide ((32:Int)<(n:Int)))))
def DCut.check(D:DCut):Int:=if cheadB D.dHeight D.dPrev D.dHeads.length=true then 2 else if headsBad D.dHeads=true then 2 else 0
theorem cut_bad1(h:cheadB D.dHeight D.dPrev D.dHeads.length=true):D.check=2:=if_pos h
theorem cut_bad2(h:¬cheadB D.dHeight D.dPrev D.dHeads.length=true)(hb:headsBad D.dHeads=true):D.check=2:=by unfold DCut.check;rw[if_neg h,if_pos hb]
theorem cut_good(h:¬cheadB D.dHeight D.dPrev D.dHeads.length=true)(hb:headsBad D.dHeads=false):D.check=0:=by unfold DCut.check;rw[if_neg h,if_neg (by rw[hb];simp)]
theorem cut_check(C:Cut)(D:DCut):Mv 57 [agg C.cells] (fun W=>CutIs W C D) (i64 D.check):=by
 intro W hW;have hB:=hW.ok;have hcx:C.fHeads.n≤maxLen:=hW.fHeads.max;simp only[maxLen]at hcx;have hcn:=hW.fHeads.cap;have hll:=hW.fHeads.len;have eH:=hW.fHeight;have eP:=hW.fPrev;have hlst:True:=trivial;refine Ac func57 J 52 ntmps57 J (G3 ?_);intro n1 hn1 hf1;refine G5 ?_;refine .build (cs:=Aa (List.replicate 32 0)) J J J (fun w=>by kernel_rfl) ?_;refine .alloc (cs:=(Aa (List.replicate 32 0))) J Ck J ?_;intro n3 hn3 hf3;refine .sA J J J J zE Sz34 sP Z0 sP zU ?_;refine G4 ?_;refine .draw (oP [0,101,2,3,4,105,6,7,8,9,110,111,12,13,114,15,16,17,18,19,120,21,22,23,24,25,126,27,28,29]) Ao zK (G2 ?_);refine two (fun r hr k=>Tr.lss J J J J hr k) (fun hs2_20=>?_) (fun hs2_20=>?_)
 ·
  have hs2_2:=of_decide_eq_true hs2_20;refine G29 ?_;refine .cond_t J J (G5 ?_);refine G3 ?_;refine⟨_,[],Ae J J,sP,sP,?_,rfl⟩;exact congrArg i64 (cut_bad1 (by unfold cheadB;simp_all)).symm
 have hs2_2:=of_decide_eq_false hs2_20;refine G3 ?_;refine two (fun r hr k=>Tr.gtr J J J J hr k) (fun hs2_60=>?_) (fun hs2_60=>?_)
 ·
  have hs2_6:=of_decide_eq_true hs2_60;refine G25 ?_;refine .cond_t J J (G5 ?_);refine G3 ?_;refine⟨_,[],Ae J J,sP,sP,?_,rfl⟩;exact congrArg i64 (cut_bad1 (by unfold cheadB;simp_all)).symm
 have hs2_6:=of_decide_eq_false hs2_60;refine G3 ?_;refine .lN (Aa _) J J J Y34.h J Sz34 Z1 (Cut.row_fPrev zA) (Cut.rl_fPrev zA) ?_;refine .lA J J J Y34.h J Sz34 Z0 sP ?_;refine .eql_bytes J J J J eqGuardType34 Y34.h Y5.h Sz5 (by(simp[hB.l_fPrev];done)) sP J ?_;refine G3 ?_;refine two (fun r hr k=>Tr.neb J J J J Y4 hr k) (fun hs2_160=>?_) (fun hs2_160=>?_)
 ·
  have hs2_16:=nd_t hs2_160;refine G15 ?_;refine .cond_t J J (G5 ?_);refine G3 ?_;refine⟨_,[],Ae J J,sP,sP,?_,rfl⟩;exact congrArg i64 (cut_bad1 (by unfold cheadB;simp_all)).symm
 have hs2_16:=nd_f hs2_160;refine G5 ?_;refine two (fun r hr k=>Tr.lss J J J J hr k) (fun hs2_220=>?_) (fun hs2_220=>?_)
 ·
  have hs2_22:=of_decide_eq_true hs2_220;refine G9 ?_;refine .cond_t J J (G5 ?_);refine G3 ?_;refine⟨_,[],Ae J J,sP,sP,?_,rfl⟩;exact congrArg i64 (cut_bad1 (by unfold cheadB;simp_all)).symm
 have hs2_22:=of_decide_eq_false hs2_220;refine G9 ?_;refine .condP J (fun hc0=>?_) (fun hc0=>?_)
 ·
  refine G5 ?_;refine G3 ?_;refine⟨_,[],Ae J J,sP,sP,?_,rfl⟩;exact congrArg i64 (cut_bad1 (by unfold cheadB;simp_all)).symm
 have hnb:¬cheadB D.dHeight D.dPrev D.dHeads.length=true:=by unfold cheadB;simp_all
 refine G4 ?_;refine .lA J J J Y34.h J Sz34 Z0 sP ?_;refine .alloc (cs:=(Aa (List.replicate 32 0))) J Ck J ?_;intro n4 hn4 hf4;refine .sA J J J J zE Sz34 sP Z0 sP zU ?_;refine G12 ?_;refine .loop (ι:=Nat×List UInt8) (fun p=>⟨[(1,ptr n1 0),(4,ptr n4 0),(40,C.fHeads.v),(41,i64 (C.fHeads.n:Int)),(42,i64 (p.1:Int))],[⟨n4,Aa p.2,34,32⟩,⟨n1,C.cells,57,C.cells.length⟩]⟩) (fun p=>p.1≤C.fHeads.n∧(∀j,j<p.1→headBad D.dHeads j=false)∧p.2=lastH D.dHeads p.1∧p.2.length=32) (fun p=>C.fHeads.n-p.1) ((0,List.replicate 32 0)) ?_ ?_ ?_
 ·exact⟨Laj _,fun j hj=>absurd hj (Lfn _),rfl,by simp⟩
 ·exact Ad wN (wh1 Z0 (wh1 Z2 wh0)) nD
 rintro p ⟨hk,hg,hle,hlst⟩;refine G6 ?_;refine .condP J (fun hc1=>?_) (fun hc1=>?_)
 ·
  have hk2:p.1<C.fHeads.n:=by omega
  obtain⟨b,o,hbp,hbs⟩:=hW.fHeads.see.at (by rw[Ax hW.fHeads.row];omega);have hr0:(D.dHeads.getD p.1 []).length=32:=Bf hW.fHeads.row oM;refine G6 ?_;refine .idxSlP 32 J J J hbp J Y30.h Sz34 p.1 J oM (.loadEN (Aa (D.dHeads.getD (p.1) [])) J J J Y34.h J Sz34 sP (by rw[Aa,La1];exact Bf hW.fHeads.row (by rw[hW.fHeads.len];omega)) (Bu hW.fHeads.row hbs (by rw[hW.fHeads.len];omega)) ?_);refine .alloc (cs:=(Aa (List.replicate 32 0))) J Ck J ?_;intro n6 hn6 hf6;refine .sA J J J J zE Sz34 (by(rw[Aa,La1];assumption)) Z0 sP zU ?_;refine G5 ?_;refine .lA J J J Y34.h J Sz34 Z1 (by(simp[hlst];done)) ?_;refine .lA J J J Y34.h J Sz34 Z0 (by(rw[Aa,La1];assumption)) ?_;refine .cV J J J J Body95 (block_cmp _ _ hlst hr0) tV (G3 ?_);refine .condP J (fun hc2=>?_) (fun hc2=>?_)
  ·
   refine G5 ?_;refine G8 ?_;refine⟨_,[],Ae J J,sP,sP,?_,rfl⟩;exact congrArg i64 (cut_bad2 hnb (headsBad_at (k:=p.1) oM (by unfold headBad;rw[←hle];exact decide_eq_true hc2))).symm
  have hgk:headBad D.dHeads p.1=false:=by unfold headBad;rw[←hle];exact decide_eq_false hc2
  refine G3 ?_;refine .lA J J J Y34.h J Sz34 Z0 (by(rw[Aa,La1];assumption)) ?_;refine .sA J J J J zE Sz34 (by(rw[Aa,La1];assumption)) Z1 (by(simp[hlst];done)) zV ?_;refine G8 ?_;exact⟨(p.1+1,D.dHeads.getD p.1 []),⟨by simp only[];omega,fun j hj=>by rcases Lcb.1 hj with h|rfl;exact hg j h;exact hgk,(lastH_succ _ _).symm,hr0⟩,by simp only[];omega,Ad wN (wh1 Z1 (wh1 Z2 wh0)) nD⟩
 have hpe:p.1=C.fHeads.n:=by omega
 rw[hpe]at hg;refine G10 ?_;refine G2 ?_;refine⟨_,[],Ae J J,sP,sP,?_,rfl⟩;exact congrArg i64 (cut_good hnb (headsBad_not (by rw[hll];exact hg))).symm
def fstBad{D:Type}(f:D→Bool)(ds:List D):Int:=if ds.any f=true then((ds.findIdx f:Nat):Int)else-1
theorem fstBad_none{D:Type}{f:D→Bool}{ds:List D}(h:∀j,j<ds.length→(ds.map f)[j]? =some false):fstBad f ds= -1:=by
  refine if_neg fun e=>?_;obtain⟨x,hx,hf⟩:=Ldo.1 e;obtain⟨j,hj,rfl⟩:=Ldb hx;have:=h j hj;rw[Lan,La3 hj]at this;simp[hf]at this
theorem fstBad_at{D:Type}{f:D→Bool}{ds:List D}(h:∀j,j<k→(ds.map f)[j]? =some false)(hk:(ds.map f)[k]? =some true):fstBad f ds=(k:Int):=by
  rw[Lan]at hk;obtain⟨x,hx,hf⟩:=Lfx.1 hk;obtain⟨hlt,rfl⟩:=Laf.1 hx;unfold fstBad;rw[if_pos (Ldo.2 ⟨_,Lcp hlt,hf⟩)];congr 1;rw[List.findIdx_eq hlt];refine⟨hf,fun j hj=>?_⟩;have:=h j hj;rw[Lan,La3 oM]at this;simpa using this
theorem fstBad_ge{D:Type}(f:D→Bool)(ds:List D):decide ((0:Int)≤fstBad f ds)=ds.any f:=by
  unfold fstBad;split
  · rename_i h
    rw[h];simp
  · rename_i h
    rw[Bool.not_eq_true]at h;rw[h];simp
def DCut.body(D:DCut)(k:Nat):List UInt8:=numB D.dHeight++D.dPrev++numB (UInt64.ofNat D.dHeads.length)++(D.dHeads.take k).flatten
def DCut.bytes(D:DCut):List UInt8:=D.body D.dHeads.length
def cutR(D:DCut):List UInt8:=if D.check=0 then D.bytes else[]
theorem DCut.small(h:D.check=0):D.dHeads.length≤32:=by
  unfold DCut.check at h;by_cases h1:cheadB D.dHeight D.dPrev D.dHeads.length=true
  ·rw[if_pos h1]at h;cases h
  · unfold cheadB at h1
    simp at h1;omega
theorem DCut.body_len(hp:D.dPrev.length=32)(hr:∀l∈D.dHeads,l.length=32)(hk:k≤D.dHeads.length):(D.body k).length=szN D.dHeight.toNat+32+szN (UInt64.ofNat D.dHeads.length).toNat+k*32:=by
  simp only[DCut.body,La4,Bj,hp,Ca hr hk]
theorem DCut.body_step(hk:k<D.dHeads.length):D.body (k+1)=D.body k++D.dHeads.getD k []:=by
  rw[DCut.body,flatten_take_step hk,←La8];rfl
theorem cutb_start{s:Sl}{bl:List Blk}{E:TypeId}(hW:CutIs W C D)(h:Acc s bl (Aa ([]++numB C.fHeight)++Aa C.fPrev++Aa ([]++numB (UInt64.ofNat C.fHeads.n))) E (0+szN C.fHeight.toNat+32+(0+szN (UInt64.ofNat C.fHeads.n).toNat)) 1):Acc s bl (Aa (D.body 0)) E (szN D.dHeight.toNat+32+szN (UInt64.ofNat D.dHeads.length).toNat+0*32) 1:=by
  have e:Aa (D.body 0)=Aa ([]++numB C.fHeight)++Aa C.fPrev++Aa ([]++numB (UInt64.ofNat C.fHeads.n)):=by simp[DCut.body,hW.fHeight,hW.fPrev,hW.fHeads.len,Aa]
  rw[e,←hW.fHeight,hW.fHeads.len,show szN C.fHeight.toNat+32+szN (UInt64.ofNat C.fHeads.n).toNat+0*32=0+szN C.fHeight.toNat+32+(0+szN (UInt64.ofNat C.fHeads.n).toNat) by omega];exact h
theorem DCut.bytes_small(h:D.check=0)(hp:D.dPrev.length=32)(hr:∀l∈D.dHeads,l.length=32):D.bytes.length≤2000:=by
  have:=D.small h;have hz1:=B1 D.dHeight.toNat;have hz2:=B1 (UInt64.ofNat D.dHeads.length).toNat;rw[DCut.bytes,DCut.body_len hp hr (Lae _)];omega
theorem cut_bytes(C:Cut)(D:DCut):Meets prog 55 [agg C.cells] [] (fun W=>CutIs W C D) (fun v out=>∃s,v= .tuple #[s.v,i64 D.check]∧Acc s out (Aa (cutR D)) 5 (cutR D).length 1):=by
 intro W hW;have hB:=hW.ok;have hll:=hW.fHeads.len;have hz1:=B1 C.fHeight.toNat;have hz2:=B1 (UInt64.ofNat C.fHeads.n).toNat;have hz3:=B1 D.dHeight.toNat;have hz4:=B1 (UInt64.ofNat D.dHeads.length).toNat;refine Ac func55 J 39 ntmps55 J (G3 ?_);intro n1 hn1 hf1;refine G8 ?_;refine .cV J J J J Body57 (cut_check C D) (fun w h=>hW.ext h J) (G9 ?_);refine .condNP J (fun hc0=>?_) (fun hc0=>?_)
 ·
  refine G7 ?_;refine G3 ?_;refine Aw (out:=[]) (Cj J J J) Ai ?_;exact⟨Sl.nil,rfl,by rw[show cutR D=[]from if_neg hc0];exact Acc.none⟩
 have hc:D.check=0:=by omega
 have hsm:=D.small hc;refine G6 ?_;refine .call4 J J J J J Body123 (oct_Number none 0 0 [] (C.fHeight) J (fun _=>rfl) oM) (fun _ _=>SeesP.nil) ?_;rintro v15 out15 ⟨q15,c15,rfl,hc15,rfl⟩;refine G8 ?_;refine .appendAcc (z:=u8 0) (by':=1) (Aa C.fPrev) J J J J J Y46.h Y46.h Sz5 Zr5 (by unfold By;kernel_rfl) J (Acc.some (cells:=Aa ([]++numB C.fHeight)) hc15 (by simp[Bj])) sG (fun W2 W2h=>SeesP.of (sees_part W2h Z1 (Cut.see_fPrev hB))) (fun e=>by cases e) (Ay _) oM oM (by simp[hB.l_fPrev]) ?_;intro s19 bl19 hac19;refine G10 ?_;rw[word_nat (n:=C.fHeads.n) oM];refine .call4 J J J J J Body123 (oct_Number none 0 0 [] (UInt64.ofNat C.fHeads.n) J (fun _=>rfl) oM) (fun _ _=>SeesP.nil) ?_;rintro v25 out25 ⟨q25,c25,rfl,hc25,rfl⟩;refine .appendAcc (z:=u8 0) (by':=1) (Aa ([]++numB (UInt64.ofNat C.fHeads.n))) J J J J J Y46.h Y46.h Sz5 Zr5 (by unfold By;kernel_rfl) J hac19 sG (fun w h=>SeesP.of (Ap h Z0)) (fun e=>by cases e) (Ay _) oM oM (by simp[Bj]) ?_;intro s26 bl26 hac26;refine G13 ?_;refine .loop (ι:=Nat×Sl×List Blk) (fun p=>⟨[(1,ptr n1 0),(5,p.2.1.v),(28,C.fHeads.v),(29,i64 (C.fHeads.n:Int)),(30,i64 (p.1:Int))],(p.2.2++(⟨n1,C.cells,57,C.cells.length⟩::[]))⟩) (fun p=>p.1≤C.fHeads.n∧Acc p.2.1 p.2.2 (Aa (D.body p.1)) 5 (szN D.dHeight.toNat+32+szN (UInt64.ofNat D.dHeads.length).toNat+p.1*32) 1) (fun p=>C.fHeads.n-p.1) ((0,s26,bl26)) ?_ ?_ ?_
 ·exact⟨Laj _,cutb_start hW hac26⟩
 ·exact An wN (Af sG (Ab rM Ai))
 rintro p ⟨hp1,hap⟩;refine G6 ?_;refine .condP J (fun hc1=>?_) (fun hc1=>?_)
 ·
  have hk2:p.1<C.fHeads.n:=by omega
  obtain⟨b,o,hbp,hbs⟩:=hW.fHeads.see.at (by rw[Ax hW.fHeads.row];omega);have hr0:(D.dHeads.getD p.1 []).length=32:=Bf hW.fHeads.row oM;refine G6 ?_;refine .idxSlP 32 J J J hbp J Y30.h Sz34 p.1 J oM (.loadEN (Aa (D.dHeads.getD (p.1) [])) J J J Y34.h J Sz34 sP (by rw[Aa,La1];exact Bf hW.fHeads.row (by rw[hW.fHeads.len];omega)) (Bu hW.fHeads.row hbs (by rw[hW.fHeads.len];omega)) ?_);refine .alloc (cs:=(Aa (List.replicate 32 0))) J Ck J ?_;intro n7 hn7 hf7;refine .sA J J J J zE Sz34 (by(rw[Aa,La1];assumption)) Z0 sP zU ?_;refine G5 ?_;refine .appendAcc (z:=u8 0) (by':=1) (Aa (D.dHeads.getD p.1 [])) J J J J J Y46.h Y46.h Sz5 Zr5 (by unfold By;kernel_rfl) J hap sG (fun w h=>SeesP.of (Ap h Z0)) (fun e=>by cases e) (Ay _) oM oM (by rw[Aa,La1,hr0]) ?_;intro s36 bl36 hac36;refine G9 ?_;refine⟨(p.1+1,s36,bl36),⟨by simp only[];omega,?_⟩,by simp only[];omega,An wN (Af sG (Ab rM Ai))⟩;rw[show(szN D.dHeight.toNat+32+szN (UInt64.ofNat D.dHeads.length).toNat+(p.1+1)*32)=(szN D.dHeight.toNat+32+szN (UInt64.ofNat D.dHeads.length).toNat+p.1*32)+32 by omega,DCut.body_step oM,C5];exact hac36
 have hpe:p.1=C.fHeads.n:=by omega
 refine G12 ?_;refine G2 ?_;refine Aw (out:=(p.2.2++[])) (Cj J J J) (Af sG Ai) ?_;refine⟨p.2.1,by rw[hc],?_⟩;rw[show cutR D=D.bytes from if_pos hc];rw[hpe,←hll]at hap;rw[show D.bytes.length=szN D.dHeight.toNat+32+szN (UInt64.ofNat D.dHeads.length).toNat+D.dHeads.length*32 from DCut.body_len (hW.fPrev▸hB.l_fPrev) hW.fHeads.row (Lae _),Lat];exact hap
def cnameD(D:DCut):List UInt8:=if D.check=0 then sha256 D.bytes else List.replicate 32 0
theorem cnameD_length(D:DCut):(cnameD D).length=32:=by
  unfold cnameD;split
  ·exact sha256_length _
  ·rfl
theorem cut_name(C:Cut)(D:DCut):Mv 56 [agg C.cells] (fun W=>CutIs W C D) (agg (Aa (cnameD D))):=by
 intro W hW;have hok:=hW.ok;obtain⟨k,hk⟩:∃k,Hid (kW=k):=⟨_,⟨rfl⟩⟩;obtain⟨s0,hs0⟩:∃s0,Hid (xorUp 8=s0):=⟨_,⟨rfl⟩⟩;obtain⟨G,hG⟩:∃G,Hid (shaTag=G):=⟨_,⟨rfl⟩⟩;obtain⟨i0,hi0⟩:∃i0,Hid (allW k s0 G=i0):=⟨_,⟨rfl⟩⟩;have hk80:k.length=80:=by rw[←hk.out];rfl
 have hs8:s0.length=8:=by rw[←hs0.out];exact xorUp_length 8
 have hGl:G.length=11:=by rw[←hG.out];rfl
 have hi8:i0.length=8:=by rw[←hi0.out,allW_length];exact hs8
 obtain⟨r,hr⟩:∃r,Hid (allW k i0 (D.bytes)=r):=⟨_,⟨rfl⟩⟩;obtain⟨s,hs⟩:∃s,Hid (sumUp r 64=s):=⟨_,⟨rfl⟩⟩;have hsd:Hid (s.take 32=sha256 (D.bytes)):=⟨by rw[←hs.out,←hr.out,←hi0.out,←hG.out,←hs0.out,←hk.out];rfl⟩;have hs64:s.length=64:=by rw[←hs.out];exact Cb r 64
 have hs32:(s.take 32).length=32:=by rw[Lag,hs64];rfl
 refine Ac func56 J 16 ntmps56 J (G3 ?_);intro n1 hn1 hf1;refine .alloc (cs:=(Aa (List.replicate 32 0))) J Ck J ?_;intro n2 hn2 hf2;refine G5 ?_;refine .call4 J J J J J Body55 (cut_bytes C D) (fun w h=>hW.ext h J) ?_;rintro v7 out7 ⟨s7,rfl,hac7⟩;refine G11 ?_;refine two (fun r hr k=>Tr.nei J J J J hr k) (fun hs2_10=>?_) (fun hs2_10=>?_)
 ·
  have hs2_1:=nd_t hs2_10;skip;refine G2 ?_;refine .cond_t J J (G2 ?_);refine .build (cs:=Aa (List.replicate 32 0)) J J J (fun w=>by kernel_rfl) ?_;refine .sA J J J J zE Sz34 sP mR sP (by(repeat(first|exact upd0|apply Upd.seg))) ?_;refine G2 ?_;refine G3 ?_;refine⟨_,[],Am J J Y34.h J Sz34 mR sP,sP,sP,?_,rfl⟩
  (rw[cnameD,if_neg hs2_1];done)
 have hs2_1:=nd_f hs2_10;have h0:D.check=0:=by omega
 have hb7:cutR D=D.bytes:=if_pos h0;refine G2 ?_;refine .cond_f J J (G5 ?_);refine .mkRow (z:= .slice none 0 0) [s7.v] [s7.v] rfl J J Y183.h Sz46 Zr46 J J (by intro v hv;rw[La0.1 hv];rfl) dE J ?_;intro q14;refine .cV J J J J Body124 (sha_Sum k s0 i0 G hk hk80 hs0 hs8 hG hGl hi0 hi8 (some ⟨q14,0,none⟩) 1 1 [s7] [D.bytes] rfl J (fun j hj=>(by obtain rfl:j=0:=oM;exact⟨by simp[hac7.num,hb7],fun e=>hac7.nil e⟩)) D.bytes sP (by have:=D.bytes_small h0 (hW.fPrev▸hW.ok.l_fPrev) hW.fHeads.row;omega) dE r hr s hs) (fun w h=>⟨SeesP.of (Ap h Z0),fun j hj=>(by obtain rfl:j=0:=oM;exact(by have:=hac7.see (Lies.of h (by repeat(first|exact A4|refine Bl ?_)));rw[hb7]at this;exact this))⟩) ?_;refine .sA J J J J zE Sz34 (by(simp[hs64];done)) mR sP uU ?_;refine G2 ?_;refine G2 ?_;refine⟨_,[],Am J J Y34.h J Sz34 mR (by simp[hs64]),sP,sP,?_,rfl⟩
 (rw[cnameD,if_pos h0,hsd.out];done)
def lightOf{D:Type}(f:D→Bool)(ds:List D)(m:Int):Bool:=(!decide (m<(ds.length:Int)))&&ds.all f
theorem light_all{D:Type}{f:D→Bool}{ds:List D}(h:∀j,j<ds.length→(ds.map f)[j]? =some true):ds.all f=true:=by
  rw[Lbk];intro x hx;obtain⟨j,hj,rfl⟩:=Ldb hx;have:=h j hj;rw[Lan,La3 hj]at this;simpa using this
theorem light_not{D:Type}{f:D→Bool}{ds:List D}(h:(ds.map f)[k]? =some false):ds.all f=false:=by
  rw[Lan]at h;obtain⟨x,hx,hf⟩:=Lfx.1 h;rw[Lgl];exact⟨x,Lbl hx,by rw[hf];simp⟩
theorem light_over{D:Type}{f:D→Bool}{ds:List D}(h:m<(ds.length:Int)):lightOf f ds m=false:=by simp[lightOf,h]
theorem light_in{D:Type}{f:D→Bool}{ds:List D}(h:¬m<(ds.length:Int)):lightOf f ds m=ds.all f:=by simp[lightOf,h]
def lightCf(d:DCut):Bool:=decide ((d.dHeads.length:Int)≤40)
theorem lightd_cuts(s:Sl)(ds:List DCut)(m:Int):Mv 29 [s.v,i64 m] (fun W=>CutsAt W s ds) (.bool (lightOf lightCf ds m)):=by
 intro W hW;obtain⟨rs,hs⟩:=hW;have hmax:=hs.max;simp only[maxLen]at hmax;have hnd:=hs.nd;refine Ac func29 J 23 ntmps29 J (G14 ?_);refine .condP J (fun hc0=>?_) (fun hc0=>?_)
 ·
  refine G5 ?_;refine G3 ?_;refine⟨_,[],Ae J J,sP,sP,?_,rfl⟩;exact congrArg Value.bool (light_over (by rw[hnd];omega)).symm
 refine G9 ?_;refine .loop (ι:=Nat) (fun k=>⟨[(0,s.v),(5,i64 (k:Int))],[]⟩) (fun k=>k≤s.n∧∀j,j<k→(ds.map lightCf)[j]? =some true) (fun k=>s.n-k) (0) ?_ ?_ ?_
 ·exact⟨by omega,fun j hj=>by omega⟩
 ·exact Ad wN wh0 nD
 rintro k ⟨hk,hg⟩;refine G9 ?_;refine .condP J (fun hc1=>?_) (fun hc1=>?_)
 ·
  have hk2:k<s.n:=by omega
  obtain⟨b,o,r,d,hsp,hr,hd,his,hlen,hsee⟩:=hs.at dE hk2;have e1:=his.fHeads.len;refine G8 ?_;refine .idxSlP 34 J J J hsp J Y55.h Sz57 k J oM (G1 ?_);refine .loadE J J J Y30.h J sP (hsee 33 _ (Cut.get_fHeads his.ok)) (G4 ?_);refine .condP J (fun hc2=>?_) (fun hc2=>?_)
  ·
   refine G5 ?_;refine G7 ?_;refine⟨_,[],Ae J J,sP,sP,?_,rfl⟩;exact congrArg Value.bool ((light_in (by rw[hnd];omega)).trans (light_not (k:=k) (by rw[Lan,hd];simp[lightCf];omega))).symm
  refine G9 ?_;exact⟨k+1,⟨by omega,fun j hj=>by rcases Lcb.1 hj with h|rfl;exact hg j h;exact(by rw[Lan,hd];simp[lightCf];omega)⟩,by omega,Ad wN wh0 nD⟩
 obtain rfl:k=s.n:=by omega
 refine G10 ?_;refine G2 ?_;refine⟨_,[],Ae J J,sP,sP,?_,rfl⟩;exact congrArg Value.bool ((light_in (by rw[hnd];omega)).trans (light_all (by rw[hnd];exact hg))).symm
theorem pm_in1{hp l R X:List Blk}{x:Blk}(h:hp.Perm ((x::(X++l))++R)):hp.Perm ((([x]++X)++l)++R):=h
theorem take_snoc{D:Type}{ds:List D}{d:D}(h:ds[k]? =some d):ds.take (k+1)=ds.take k++[d]:=by
  obtain⟨hk,rfl⟩:=Laf.1 h;rw[Lar hk]
def ownC(C:Cut)(q c:Nat):Cut:={ C with fHeads:=⟨some ⟨q,0,none⟩,C.fHeads.n,c⟩ }
theorem ownC_ok(h:C.ok)(q c:Nat):(ownC C q c).ok:=⟨h.l_fPrev⟩
theorem ownC_is{q c:Nat}(h:CutIs W C D)(h1:C.fHeads.n≤c)(n1:C.fHeads.n≤1000000):∀W2,Lies [⟨q,A3 D.dHeads,34,c*32⟩] W2→CutIs W2 (ownC C q c) D:=fun W2 hl=>by
  have a1:Acc ⟨some ⟨q,0,none⟩,C.fHeads.n,c⟩ [⟨q,A3 D.dHeads,34,c*32⟩] (A3 D.dHeads) 34 C.fHeads.n 32:=Acc.some h1 (by rw[Ax h.fHeads.row,h.fHeads.len]);exact⟨ownC_ok h.ok _ _,h.fHeight,h.fPrev,acc_rows a1 hl h.fHeads.row h.fHeads.len n1⟩
theorem kit_own_cuts(s:Sl)(ds:List DCut)(hn:s.n≤1000)(hsm:∀d∈ds,d.dHeads.length≤500000):Meets prog 33 [s.v] [] (fun W=>CutsAt W s ds) (fun v out=>∃sl bl bl2 rs,v=sl.v∧out=bl++bl2∧OwnSeq Cut.cells 34 CutIs 57 sl bl bl2 rs ds s.n):=by
 intro W hW;obtain⟨rs,hs⟩:=hW;have hnd:=hs.nd;refine Ac func33 J 25 ntmps33 J (G17 ?_);refine .loop (ι:=Nat×Sl×List Blk×List Blk×List Cut) (fun p=>⟨[(0,s.v),(3,p.2.1.v),(4,i64 (p.1:Int))],(p.2.2.1++(p.2.2.2.1++[]))⟩) (fun p=>p.1≤s.n∧OwnSeq Cut.cells 34 CutIs 57 p.2.1 p.2.2.1 p.2.2.2.1 p.2.2.2.2 (ds.take p.1) p.1) (fun p=>s.n-p.1) ((0,Sl.nil,[],[],[])) ?_ ?_ ?_
 ·exact⟨Laj _,OwnSeq.none⟩
 ·exact An wN (Af (by repeat(exact sg_end)) (Af (by repeat(exact sg_end)) Ai))
 rintro p ⟨hk,hos⟩;refine G9 ?_;refine .condP J (fun hc0=>?_) (fun hc0=>?_)
 ·
  have hk2:p.1<s.n:=by omega
  obtain⟨b,o,r,d,hsp,hr,hd,his,hlen,hsee⟩:=hs.at dE hk2;refine G8 ?_;refine .idxSlP 34 J J J hsp J Y55.h Sz57 p.1 J oM (.loadEN r.cells J J J Y57.h J Sz57 sP hlen hsee (.alloc (cs:=Cut.zero.cells) J Cut.zr J ?_));intro n5 hn5 hf5;refine .sA J J J J (Cut.isCell (by exact his.ok)) Sz57 (Cut.length (by exact his.ok)) Z0 (Cut.length (by exact Cut.zero_ok)) zU ?_;refine G5 ?_;refine .load1 J J J Y30.h J Z0 (by exact Cut.get_fHeads (by exact his.ok)) ?_;refine .call4 J J J J J Body22 (kit_names r.fHeads d.dHeads (by rw[←his.fHeads.len];exact hsm d (Lbl hd))) (fun w h=>rows_ext h J his.fHeads) ?_;rintro v18 out18 ⟨q1,c1,rfl,hq1,rfl⟩;have hoi:=ownC_is (q:=q1) his hq1 (by have:=hsm d (Lbl hd);rw[←his.fHeads.len];omega);have hok2:=ownC_ok his.ok q1 c1;refine G1 ?_;refine .s1 J J J J J Sz30 Z1 (by rw[Cut.length (by exact his.ok)];decide) (by exact Cut.setS_fHeads (by exact his.ok) _ _ _) zV ?_;refine G5 ?_;refine .mkRow (z:=agg Cut.zero.cells) [agg (ownC r q1 c1).cells] (ownC r q1 c1).cells J J J Y55.h Sz57 Cut.zr J J (by intro v hv;rw[La0.1 hv];exact Cut.length hok2) dE (by simp[Value.cells]) ?_;intro q17;refine .appendAcc (z:=agg Cut.zero.cells) (by':=64) ((ownC r q1 c1).cells) J J J J J Y55.h Y55.h Sz57 Zr57 (by unfold By;kernel_rfl) J hos.acc sG (fun w h=>SeesP.of (Ap h Z0)) (fun e=>by cases e) (Cut.isCell hok2) oM oM (by rw[Cut.length hok2]) ?_;intro s18 bl18 hac18;refine G10 ?_;exact⟨(p.1+1,s18,bl18,_,p.2.2.2.2++[ownC r q1 c1]),⟨by simp only[];omega,by simp only[take_snoc hd];exact hos.snoc hac18 (Cut.length hok2) hoi⟩,by simp only[];omega,An wN (Af sG (pm_in1 (Ab rM (Af sG Ai))))⟩
 have hpe:p.1=s.n:=by omega
 refine G11 ?_;refine G2 ?_;refine Aw (out:=(p.2.2.1++(p.2.2.2.1++[]))) (Ae J J) (Af sG (Af sG Ai)) ?_;refine⟨p.2.1,p.2.2.1,p.2.2.2.1,p.2.2.2.2,rfl,by simp,?_⟩;rw[hpe,La5 oM]at hos;exact hos
theorem rows_none{m:Nat}:RowsAt W Sl.nil m []:=⟨rfl,fun l h=>(by cases h),Lae _,SeesP.nil,by decide,fun _=>rfl⟩
def DCut.zero:DCut:=⟨0,List.replicate 32 0,[]⟩
def cutP(xs:List UInt8):DCut×Nat×Int:=
  let r1:=numR xs 0 0
  let r2:=digR xs r1.2.1 r1.2.2
  let r3:=numR xs r2.2.1 r2.2.2
  let r4:=A6 xs (min r3.1.toNat 33) r3.2.1 r3.2.2
  (⟨r1.1,r2.1,r4.1⟩,r4.2)
def cutRd(xs:List UInt8):DCut×Int:=
  if endR xs.length (cutP xs).2.1 (cutP xs).2.2=0∧(cutP xs).1.check=0 then((cutP xs).1,0)else(DCut.zero,4)
theorem cutz_is(W:World):CutIs W Cut.zero DCut.zero:=⟨Cut.zero_ok,rfl,rfl,rows_none⟩
def CutRead(xs:List UInt8)(v:Value)(out:List Blk):Prop:=∃C:Cut,C.ok∧v= .tuple #[agg C.cells,i64 (cutRd xs).2]∧∀W2,Lies out W2→CutIs W2 C (cutRd xs).1
theorem cut_bad(h:¬(endR xs.length (cutP xs).2.1 (cutP xs).2.2=0∧(cutP xs).1.check=0)):CutRead xs (.tuple #[agg Cut.zero.cells,i64 4]) out:=by
  refine⟨Cut.zero,Cut.zero_ok,?_,fun W2 _=>?_⟩<;>rw[show cutRd xs=(DCut.zero,4)from if_neg h];exact cutz_is W2
theorem cut_ok(h:endR xs.length (cutP xs).2.1 (cutP xs).2.2=0∧(cutP xs).1.check=0)(hok:C.ok)(hC:∀W2,Lies out W2→CutIs W2 C (cutP xs).1):CutRead xs (.tuple #[agg C.cells,i64 0]) out:=by
  refine⟨C,hok,?_,fun W2 h2=>?_⟩<;>rw[show cutRd xs=((cutP xs).1,0)from if_pos h];exact hC W2 h2
theorem cut_r1_ok(b c:Nat)(X:Cut)(hX:X.ok)(hbc:b≠c):MeetsD prog 129 [ptr b 0,ptr c 0] [b,c] (fun W=>BlkOk W ⟨b,[i64 0],36,1⟩∧BlkOk W ⟨c,(X).cells,57,34⟩) (fun v out=>v= .tuple #[]∧out=[⟨b,[i64 0],36,1⟩,⟨c,(X).cells,57,34⟩]):=by
 intro W hW;intro u;refine callsD_of (hp0:=[⟨b,[i64 0],36,1⟩,⟨c,(X).cells,57,34⟩]) func129 J 5 ntmps129 J (HRep.two hW.1 hW.2 hbc) (G3 ?_);refine .nei J J J J (show(!decide _)=false from congrArg not (decide_eq_true dE)) (G2 ?_);refine .cond_f J (rfl) (G2 ?_);refine Aw (out:=(⟨b,[i64 0],36,1⟩::(⟨c,(X).cells,57,34⟩::[]))) (res_none J) (Ab rM (Ab rM Ai)) ?_;exact⟨rfl,rfl⟩
theorem cut_r1_bad(b c:Nat)(X:Cut)(hX:X.ok)(hbc:b≠c):MeetsD prog 129 [ptr b 0,ptr c 0] [b,c] (fun W=>BlkOk W ⟨b,[i64 4],36,1⟩∧BlkOk W ⟨c,(X).cells,57,34⟩) (fun v out=>v= .tuple #[]∧out=[⟨b,[i64 4],36,1⟩,⟨c,(Cut.zero).cells,57,34⟩]):=by
 intro W hW;intro u;refine callsD_of (hp0:=[⟨b,[i64 4],36,1⟩,⟨c,(X).cells,57,34⟩]) func129 J 5 ntmps129 J (HRep.two hW.1 hW.2 hbc) (G3 ?_);refine .nei J J J J (show(!decide _)=true from congrArg not (decide_eq_false dE)) (G2 ?_);refine .cond_t J (rfl) (.region (.build (cs:=Cut.zero.cells) J J J (fun w=>by kernel_rfl) ?_));refine G3 ?_;refine Aw (out:=(⟨b,[i64 4],36,1⟩::(⟨c,(Cut.zero).cells,57,34⟩::[]))) (res_none J) (Ab rM (Ab rM Ai)) ?_;exact⟨rfl,rfl⟩
theorem cut_read(a:Option Addr)(n c:Nat)(xs:List UInt8)(hl:xs.length=n)(hp:a=none→n=0)(hn:n≤90000):Meets prog 67 [.slice a n c] [] (fun W=>SeesP W a (Aa xs)) (CutRead xs):=by
 intro W hW;obtain⟨x1,r1,h1⟩:∃l r,numR xs 0 0=(l,r):=⟨_,_,rfl⟩;obtain⟨a1,e1⟩:=r1;obtain⟨l2,r2,h2⟩:∃l r,digR xs a1 e1=(l,r):=⟨_,_,rfl⟩;obtain⟨a2,e2⟩:=r2;obtain⟨x3,r3,h3⟩:∃l r,numR xs a2 e2=(l,r):=⟨_,_,rfl⟩;obtain⟨a3,e3⟩:=r3;obtain⟨ls,r4,h4⟩:∃l r,A6 xs (min x3.toNat 33) a3 e3=(l,r):=⟨_,_,rfl⟩;obtain⟨a4,e4⟩:=r4;have hcp:cutP xs=(⟨x1,l2,ls⟩,a4,e4):=by simp only[cutP,h1,h2,h3,h4]
 have hd1:=numE_le h1 hl (Laj _);have hd2:=digE_le h2 hl hd1;have hd3:=numE_le h3 hl hd2.1;have hd4:=digsR_at (e:=e3) hl hd3 (min x3.toNat 33);rw[h4]at hd4;have ok1:({ Cut.zero with fHeight:=x1 }:Cut).ok:=⟨rfl⟩;have ok2:({ Cut.zero with fHeight:=x1,fPrev:=l2 }:Cut).ok:=⟨hd2.2⟩;have okX:∀s,({ Cut.zero with fHeight:=x1,fPrev:=l2,fHeads:=s }:Cut).ok:=fun s=>⟨hd2.2⟩;refine calls_defer func67 J 37 ntmps67 J (.region (.alloc (cs:=Cut.zero.cells) J Cut.zr J ?_));intro n2 hn2 hf2;refine .alloc (cs:=[i64 0]) J Zr36 J ?_;intro n3 hn3 hf3;refine G4 ?_;refine⟨_,_,rfl,Body129,?_⟩;refine G3 ?_;refine .call4 J J J J J Body130 (oct_Read a n c xs hl hp hn) (fun w h=>A2 h J hW) ?_;rintro v7 out7 ⟨n7,q7,cp7,rfl,hcp7,rfl⟩;refine .nd (fun hnd=>?_);have hne:q7≠n7:=by intro e;simp[RB,e]at hnd
 have hn32:n3≠n2:=by intro e;simp[RB,e]at hnd
 clear hnd;refine G6 ?_;refine .callL (L:=[RB n7 q7 n cp7 0 0]) J J J J J Body131 (rd_NumberE n7 q7 n cp7 0 0 xs hl (Laj _) hcp7 oM x1 a1 e1 h1) (Ab rM Ai) (Cf J) (fun w h=>⟨Bg h Z0,Ap h Z1,hne⟩) ?_;rintro v9 out9 ⟨rfl,rfl⟩;refine G1 ?_;refine .callL (L:=[RB n7 q7 n cp7 a1 e1]) J J J J J Body132 (rd_DigestE n7 q7 n cp7 a1 e1 xs hl hd1 hcp7 oM l2 a2 e2 h2) (Ab rM Ai) (Cf J) (fun w h=>⟨Bg h Z0,Ap h Z1,hne⟩) ?_;rintro v9 out9 ⟨rfl,rfl⟩;refine G3 ?_;refine .storeN (Aa _) J J J J J zE Sz34 (by simp[hd2.2]) Z3 (by rw[Cut.length zA];simp[hd2.2]) (Cut.upd_fPrev zA _ (by simp[hd2.2])) (by exact upd3) ?_;refine G6 ?_;refine .callL (L:=[RB n7 q7 n cp7 a2 e2]) J J J J J Body131 (rd_NumberE n7 q7 n cp7 a2 e2 xs hl hd2.1 hcp7 oM x3 a3 e3 h3) (Ab rM Ai) (Cf J) (fun w h=>⟨Bg h Z0,Ap h Z1,hne⟩) ?_;rintro v9 out9 ⟨rfl,rfl⟩;refine .min2 J J J J (show Value.int .u64 (if(33:Int)<(x3.toNat:Int)then 33 else(x3.toNat:Int))= .int .u64 ((min x3.toNat 33:Nat):Int)from by congr 1;split<;>omega) ?_;refine G4 ?_;refine .loop (ι:=Nat×Sl×List Blk) (fun p=>⟨[(2,ptr n2 0),(3,ptr n3 0),(4,ptr n7 0),(16, .int .u64 ((min x3.toNat 33:Nat):Int)),(17,u64 (UInt64.ofNat p.1))],(RB n7 q7 n cp7 (A6 xs p.1 a3 e3).2.1 (A6 xs p.1 a3 e3).2.2::(⟨q7,Aa xs,5,cp7*1⟩::(⟨n3,[i64 0],36,1⟩::(⟨n2,(({ Cut.zero with fHeight:=x1,fPrev:=l2,fHeads:=p.2.1 }:Cut)).cells,57,34⟩::(p.2.2++[])))))⟩) (fun p=>p.1≤min x3.toNat 33∧Acc p.2.1 p.2.2 (A3 (A6 xs p.1 a3 e3).1) 34 p.1 32) (fun p=>min x3.toNat 33-p.1) ((0,Sl.nil,[])) ?_ ?_ ?_
 ·exact⟨Laj _,Acc.none⟩
 ·exact An wN (Ab rM (Ab rM (Ab rM (Ab rM (pm_none Ai)))))
 rintro p ⟨hp1,hac⟩;have hD:=digsR_at (e:=e3) hl hd3 p.1;obtain⟨l5,r5,hd5⟩:∃l r,digR xs (A6 xs p.1 a3 e3).2.1 (A6 xs p.1 a3 e3).2.2=(l,r):=⟨_,_,rfl⟩;obtain⟨a5,e5⟩:=r5;have hdl:=digE_le hd5 hl hD.1;have hs:=digsR_succ hd5;have hj64:(UInt64.ofNat p.1).toNat=p.1:=ofNat_nat oM;refine G6 ?_;refine .condP J (fun hc0=>?_) (fun hc0=>?_)
 ·
  have hp3:p.1<min x3.toNat 33:=by omega
  refine G4 ?_;refine .drawK (sp_v (sp_v (sp_v (sp_k (sp_x sp_n))))) J (oP [0,1,2,403,204,405,6]) [(4,7)] Ao zK zK (G1 ?_);refine .kload1 J J J Y30.h J Z0 (by exact Cut.get_fHeads (by exact okX _)) ?_;refine G1 ?_;refine .callL (L:=[RB n7 q7 n cp7 (A6 xs p.1 a3 e3).2.1 (A6 xs p.1 a3 e3).2.2]) J J J J J Body132 (rd_DigestE n7 q7 n cp7 (A6 xs p.1 a3 e3).2.1 (A6 xs p.1 a3 e3).2.2 xs hl hD.1 hcp7 oM l5 a5 e5 hd5) (Ab rM Ai) (Cf J) (fun w h=>⟨Bg h Z0,Ap h Z1,hne⟩) ?_;rintro v9 out9 ⟨rfl,rfl⟩;refine .mkRow2 (z:=agg (Aa (List.replicate 32 0))) [agg (Aa l5)] (Aa l5) J J Y30.h Sz34 Ck J J (by intro v hv;rw[La0.1 hv];simp[Value.cells,hdl.2]) dE (by simp[Value.cells]) ?_;intro q23;refine .appendAcc (z:=agg (Aa (List.replicate 32 0))) (by':=32) (Aa l5) J J J J J Y30.h Y30.h Sz34 Ck (by unfold By;kernel_rfl) J hac sG (fun w h=>SeesP.of (Ap h Z0)) (fun e=>by cases e) (Ay _) oM oM (by simp[Aa,hdl.2]) ?_;intro s24 bl24 hac24;refine G2 ?_;refine .s1 J J J J J Sz30 Z0 (by rw[Cut.length (by exact okX _)];decide) (by exact Cut.set_fHeads (by exact okX _) _) zU ?_;refine G4 ?_;refine .add_u64 J J J (show Ag _ _=some (u64 1)from rfl) (G3 ?_);refine⟨(p.1+1,s24,bl24),⟨by simp only[];omega,?_⟩,by simp only[];omega,An (wk1 J (wk1 J (wk1 J (wk1 J (wk1 (congrArg (fun z=>some (u64 z)) (ofNat_step _)) wk0))))) (pm_consE rM (by simp only[hs]) J (Ab rM (Ab rM (Ab rM (Af sG Ai)))))⟩;simp only[hs];rw[flatB_append];simpa[A3]using hac24
 have hp3:p.1=min x3.toNat 33:=by omega
 rw[hp3,h4]at hac;rw[hp3,h4];refine G9 ?_;refine .cV J J J J Body133 (rd_End n7 q7 n cp7 a4 e4 hd4.1 oM) (fun w h=>Bg h Z0) ?_;refine two (fun r hr k=>Tr.nei J J J J hr k) (fun hs8_20=>?_) (fun hs8_20=>?_)
 ·
  have hs8_2:=nd_t hs8_20;refine G7 ?_;refine .cond_t J J (G4 ?_);refine .s1 J J J J J Sz36 Z2 sP (by rfl) (by exact upd2) ?_;refine G2 ?_;refine G2 ?_;refine enD_r ?_;refine⟨[n3,n2],[⟨n3,[i64 4],36,1⟩,⟨n2,(({ Cut.zero with fHeight:=x1,fPrev:=l2,fHeads:=p.2.1 }:Cut)).cells,57,34⟩],_,_,_,(Ab rM (Ab rM Ai)),Cf J,cut_r1_bad n3 n2 (({ Cut.zero with fHeight:=x1,fPrev:=l2,fHeads:=p.2.1 }:Cut)) (okX _) hn32,(fun w h=>⟨Bg h Z2,Bg h Z3⟩),fun v2 out2 h=>?_⟩;obtain⟨rfl,rfl⟩:=h;refine Aw (out:=[]) (res_cell_cell J J J Y57.h J Sz57 Z1 (Cut.length (by exact Cut.zero_ok)) Y36.h J Z0) Ai ?_;exact cut_bad (by rw[hcp,hl];exact fun h=>hs8_2 h.1)
 have hs8_2:=nd_f hs8_20;refine G2 ?_;refine .cV J J J J Body57 (cut_check ({ Cut.zero with fHeight:=x1,fPrev:=l2,fHeads:=p.2.1 }:Cut) ⟨x1,l2,ls⟩) (fun w h=>⟨okX _,rfl,rfl,acc_rows hac (Lies.of h (by repeat(first|exact A4|refine Bl ?_))) hd4.2.1 (by rw[hd4.2.2]) oM⟩) ?_;refine G4 ?_;refine .condNP J (fun hc1=>?_) (fun hc1=>?_)
 ·
  refine G4 ?_;refine .s1 J J J J J Sz36 Z2 sP (by rfl) (by exact upd2) ?_;refine G2 ?_;refine G2 ?_;refine enD_r ?_;refine⟨[n3,n2],[⟨n3,[i64 4],36,1⟩,⟨n2,(({ Cut.zero with fHeight:=x1,fPrev:=l2,fHeads:=p.2.1 }:Cut)).cells,57,34⟩],_,_,_,(Ab rM (Ab rM Ai)),Cf J,cut_r1_bad n3 n2 (({ Cut.zero with fHeight:=x1,fPrev:=l2,fHeads:=p.2.1 }:Cut)) (okX _) hn32,(fun w h=>⟨Bg h Z2,Bg h Z3⟩),fun v2 out2 h=>?_⟩;obtain⟨rfl,rfl⟩:=h;refine Aw (out:=[]) (res_cell_cell J J J Y57.h J Sz57 Z1 (Cut.length (by exact Cut.zero_ok)) Y36.h J Z0) Ai ?_;exact cut_bad (by rw[hcp,hl];exact fun h=>hc1 h.2)
 refine G6 ?_;refine .s1 J J J J J Sz36 Z2 sP (by rfl) (by exact upd2) ?_;refine G2 ?_;refine .ret (enD_r ?_);refine⟨[n3,n2],[⟨n3,[i64 0],36,1⟩,⟨n2,(({ Cut.zero with fHeight:=x1,fPrev:=l2,fHeads:=p.2.1 }:Cut)).cells,57,34⟩],_,_,_,(Ab rM (Ab rM Ai)),Cf J,cut_r1_ok n3 n2 (({ Cut.zero with fHeight:=x1,fPrev:=l2,fHeads:=p.2.1 }:Cut)) (okX _) hn32,(fun w h=>⟨Bg h Z2,Bg h Z3⟩),fun v2 out2 h=>?_⟩;obtain⟨rfl,rfl⟩:=h;refine Aw (out:=(p.2.2++[])) (res_cell_cell J J J Y57.h J Sz57 Z1 (Cut.length (by exact okX _)) Y36.h J Z0) (Af sG Ai) ?_;exact cut_ok (by rw[hcp,hl];exact⟨hs8_2,hc1⟩) (okX _) (fun W2 h2=>by
  rw[hcp];exact⟨okX _,rfl,rfl,acc_rows hac (h2.sub A4) hd4.2.1 (by rw[hd4.2.2]) oM⟩)
theorem sees_kok{w:World}{b o:Nat}{cs l:List Value}{T:TypeId}{m:Nat}(hb:BlkOk w ⟨b,cs,T,m⟩)(hs:∀(j:Nat) (v:Value),l[j]? =some v→cs[o+j]? =some v):Cd w b o l:=fun j v hj=>hb.cell (o:=o+j) (hs j v hj)
theorem scalar_modulus  :Mv 230 [] (fun _=>True) (agg (Ah modW)):=by
 intro W hW;refine Ac func230 J 2 ntmps230 J (G2 ?_);refine .alloc (cs:=(Ah (List.replicate 4 0))) J Zr238 J ?_;intro n0 hn0 hf0;refine G4 ?_;refine .build (cs:=Ah modW) J J J (fun w=>by kernel_rfl) ?_;refine .sA J J J J zB Sz238 (by(simp[modW_length];done)) Z0 sP zU ?_;refine G2 ?_;refine G2 ?_;refine⟨_,[],Am J J Y238.h J Sz238 Z0 (by simp[modW_length]),sP,sP,?_,rfl⟩;rfl
theorem scalar_doubled(w:List UInt64)(b:UInt64)(hw:w.length=4):Mv 322 [agg (Ah w),u64 b] (fun _=>True) (agg (Ah (dblW w b))):=by
 intro W hW;refine Ac func322 J 32 ntmps322 J (G3 ?_);intro n2 hn2 hf2;refine .alloc (cs:=(Ah (List.replicate 4 0))) J Zr238 J ?_;intro n4 hn4 hf4;refine G4 ?_;refine .i1 J J J J Y238.h Sz45 0 J dE (G1 ?_);refine .shl_u64 J J J J 1 J dE (.i1 J J J J Y238.h Sz45 1 J dE (G1 ?_));refine .shr_u64 J J J J 63 J dE (G1 ?_);refine .i1 J J J J Y238.h Sz45 1 J dE (G1 ?_);refine .shl_u64 J J J J 1 J dE (.i1 J J J J Y238.h Sz45 2 J dE (G1 ?_));refine .shr_u64 J J J J 63 J dE (G1 ?_);refine .i1 J J J J Y238.h Sz45 2 J dE (G1 ?_);refine .shl_u64 J J J J 1 J dE (.i1 J J J J Y238.h Sz45 3 J dE (G1 ?_));refine .shr_u64 J J J J 63 J dE (G1 ?_);refine .i1 J J J J Y238.h Sz45 3 J dE (G1 ?_);refine .shl_u64 J J J J 1 J dE (G2 ?_);refine .build (cs:=Ah (dblW w b)) J J J (fun w=>by kernel_rfl) ?_;refine .sA J J J J zB Sz238 (by(simp[dblW_length];done)) Z0 sP zU ?_;refine G2 ?_;refine G2 ?_;refine⟨_,[],Am J J Y238.h J Sz238 Z0 (by simp[dblW_length]),sP,sP,?_,rfl⟩;rfl
theorem scalar_load(a:List UInt8)(ha:a.length=32):Mv 228 [agg (Aa a)] (fun _=>True) (agg (Ah (ldW a 32))):=by
 intro W hW;refine Ac func228 J 24 ntmps228 J (G3 ?_);intro n1 hn1 hf1;refine .alloc (cs:=(Ah (List.replicate 4 0))) J Zr238 J ?_;intro n2 hn2 hf2;refine G4 ?_;refine .alloc (cs:=(Ah (List.replicate 4 0))) J Zr238 J ?_;intro n3 hn3 hf3;refine G9 ?_;refine .loop (ι:=Nat) (fun k=>⟨[(1,ptr n1 0),(2,ptr n2 0),(3,ptr n3 0),(5,i64 (k:Int))],[⟨n3,Ah (ldW a k),238,4⟩,⟨n2,Ah (List.replicate 4 0),238,4⟩,⟨n1,Aa a,207,(Aa a).length⟩]⟩) (fun k=>k≤32) (fun k=>32-k) (0) ?_ ?_ ?_
 ·omega
 ·exact Ad wN (wh1 Z0 (wh1 Z1 (wh1 Z2 wh0))) nD
 rintro k hi;have hlk:=ldW_length a k;refine G6 ?_;refine .condP J (fun hc0=>?_) (fun hc0=>?_)
 ·
  refine G10 ?_;refine .draw (oP [0,1,2,3,4,105,6,7,8,9,110,11,12,13,414]) Ao zK (G1 ?_);refine .quo_i64 J J J J oM (G1 ?_);refine .quo_i64 J J J J oM (.i1 J J J J Y238.h Sz45 (k/8) oM oM (G1 ?_));refine .shl_u64 J J J J 8 J dE (G2 ?_);refine .i1 J J J J Y207.h Sz5 (31-k) oM oM (G3 ?_);refine .i1 J J J J Y238.h Sz45 (k/8) oM oM (.s1 J J J J J Sz45 Z0 (by(simp[ldW_length];omega)) (by exact Be _ _ _) zU ?_);refine G8 ?_;exact⟨k+1,by omega,by omega,Ad wN (wh1 Z0 (wh1 Z1 (wh1 Z2 wh0))) nD⟩
 obtain rfl:k=32:=by omega
 refine G7 ?_;refine .lA J J J Y238.h J Sz238 Z0 (by(simp[ldW_length];done)) ?_;refine .sA J J J J zB Sz238 (by(simp[ldW_length];done)) Z1 sP zV ?_;refine G2 ?_;refine G2 ?_;refine⟨_,[],Am J J Y238.h J Sz238 Z1 (by simp[ldW_length]),sP,sP,?_,rfl⟩;rfl
theorem scalar_store(w:List UInt64)(hw:w.length=4):Mv 324 [agg (Ah w)] (fun _=>True) (agg (Aa (stB w 32))):=by
 intro W hW;refine Ac func324 J 23 ntmps324 J (G3 ?_);intro n1 hn1 hf1;refine .alloc (cs:=(Aa (List.replicate 32 0))) J A8 J ?_;intro n2 hn2 hf2;refine G4 ?_;refine .alloc (cs:=(Aa (List.replicate 32 0))) J A8 J ?_;intro n3 hn3 hf3;refine G9 ?_;refine .loop (ι:=Nat) (fun k=>⟨[(1,ptr n1 0),(2,ptr n2 0),(3,ptr n3 0),(5,i64 (k:Int))],[⟨n3,Aa (stB w k),207,32⟩,⟨n2,Aa (List.replicate 32 0),207,32⟩,⟨n1,Ah w,238,(Ah w).length⟩]⟩) (fun k=>k≤32) (fun k=>32-k) (0) ?_ ?_ ?_
 ·omega
 ·exact Ad wN (wh1 Z0 (wh1 Z1 (wh1 Z2 wh0))) nD
 rintro k hi;have hlk:=stB_length w k;refine G6 ?_;refine .condP J (fun hc0=>?_) (fun hc0=>?_)
 ·
  refine G14 ?_;refine .quo_i64 J J J J oM (.i1 J J J J Y238.h Sz45 (k/8) oM oM (G2 ?_));refine .rem_i64 J J J J oM (.mul_i64 J J J J oM (G1 ?_));refine .shr_u64 J J J J (56-8*(k%8)) oM oM (G1 ?_);refine .i1 J J J J Y207.h Sz5 (31-k) oM oM (.s1 J J J J J Sz5 Z0 (by(simp[stB_length];omega)) (by exact Bi _ _ _) zU ?_);refine G8 ?_;exact⟨k+1,by omega,by omega,Ad wN (wh1 Z0 (wh1 Z1 (wh1 Z2 wh0))) nD⟩
 obtain rfl:k=32:=by omega
 refine G7 ?_;refine .lA J J J Y207.h J Sz207 Z0 (by(simp[stB_length];done)) ?_;refine .sA J J J J zB Sz207 (by(simp[stB_length];done)) Z1 sP zV ?_;refine G2 ?_;refine G2 ?_;refine⟨_,[],Am J J Y207.h J Sz207 Z1 (by simp[stB_length]),sP,sP,?_,rfl⟩;rfl
theorem sub64_run(x y b:UInt64)(hb:b.toNat≤1)(w:World):(callFunc 328 [u64 x,u64 y,u64 b].toArray).run prog w= .ok (.value (.tuple #[u64 (w64 (x.toNat+2^64-y.toNat-b.toNat)),u64 (if x.toNat<y.toNat+b.toNat then 1 else 0)])) w:=by
  rw[run_callFunc_extern func328 zK zK zK (e:=sub64E) zK];have h:(sub64E [u64 x,u64 y,u64 b].toArray).run prog w= .ok (.tuple #[.int .u64 (((x.toNat+18446744073709551616-y.toNat-b.toNat)%18446744073709551616:Nat):Int), .int .u64 ((if x.toNat<y.toNat+b.toNat then 1 else 0:Nat):Int)]) w:=by
    have:b.toNat=0∨b.toNat=1:=by omega
    rcases this with h|h<;>simp only[u64,h]<;>rfl
  rw[h];simp only[Result.andThen,u64,Bt];congr 5;split<;>rfl
theorem add64_run(x y b:UInt64)(hb:b.toNat≤1)(w:World):(callFunc 327 [u64 x,u64 y,u64 b].toArray).run prog w= .ok (.value (.tuple #[u64 (w64 (x.toNat+y.toNat+b.toNat)),u64 (w64 ((x.toNat+y.toNat+b.toNat)/2^64))])) w:=by
  rw[run_callFunc_extern func327 zK zK zK (e:=add64Entry) zK];have hx:=x.toNat_lt;have hy:=y.toNat_lt;have h:=run_add64 (P:=prog) (x.toNat:Int) y.toNat b.toNat oM oM oM oM w;have e:[u64 x,u64 y,u64 b].toArray= #[.int .u64 x.toNat, .int .u64 y.toNat, .int .u64 b.toNat]:=rfl;have e1:((x.toNat:Int)+y.toNat+b.toNat)%18446744073709551616=((w64 (x.toNat+y.toNat+b.toNat)).toNat:Int):=by rw[Bt];omega
  have e2:((x.toNat:Int)+y.toNat+b.toNat)/18446744073709551616=((w64 ((x.toNat+y.toNat+b.toNat)/2^64)).toNat:Int):=by rw[Bt];omega
  rw[e,h,e1,e2];rfl
theorem isNaN_u64(x:UInt64):Mv 316 [u64 x] (fun _=>True) (.bool false):=by
 intro W hW;refine Ac func316 J 6 ntmps316 J (G9 ?_);refine .nei J J J J (show(!decide _)=false from congrArg not (decide_eq_true (rfl))) (G3 ?_);refine G2 ?_;refine⟨_,[],Ae J J,sP,sP,?_,rfl⟩;rfl
theorem cmp_u64(x y:UInt64):Mv 288 [u64 x,u64 y] (fun _=>True) (i64 (cmp1 x y)):=by
 intro W hW;refine Ac func288 J 20 ntmps288 J (G8 ?_);refine .cV J J J J Body316 (isNaN_u64 _) tV (G6 ?_);refine .cV J J J J Body316 (isNaN_u64 _) tV (G9 ?_);refine .cond_f J (rfl) (G8 ?_);refine .cond_f J (rfl) (G10 ?_);refine .condP J (fun hc3=>?_) (fun hc3=>?_)
 ·
  refine G5 ?_;refine G3 ?_;refine⟨_,[],Ae J J,sP,sP,?_,rfl⟩;unfold cmp1;rw[if_pos oM]
 refine G10 ?_;refine .condP J (fun hc4=>?_) (fun hc4=>?_)
 ·
  refine G5 ?_;refine G3 ?_;refine⟨_,[],Ae J J,sP,sP,?_,rfl⟩;unfold cmp1;rw[if_neg oM,if_pos oM]
 refine G7 ?_;refine G2 ?_;refine⟨_,[],Ae J J,sP,sP,?_,rfl⟩;unfold cmp1;rw[if_neg oM,if_neg oM]
theorem cmpFunc_u64(b1 o1 c1 b2 o2 c2 n:Nat)(xs ys:List UInt64)(hx:xs.length=n)(hy:ys.length=n)(hn:n≤1000000):Mv 287 [.slice (some ⟨b1,o1,none⟩) n c1, .slice (some ⟨b2,o2,none⟩) n c2, .func (.func 288) #[] #[]] (fun W=>Cd W b1 o1 (Ah xs)∧Cd W b2 o2 (Ah ys)) (i64 (cmpW xs ys)):=by
 intro W hW;refine Ac func287 J 39 ntmps287 J (G14 ?_);refine .loop (ι:=Nat) (fun k=>⟨[(0, .slice (some ⟨b1,o1,none⟩) n c1),(1, .slice (some ⟨b2,o2,none⟩) n c2),(2, .func (.func 288) #[] #[]),(11, .slice (some ⟨b1,o1,none⟩) n c1),(12,i64 (n:Int)),(13,i64 (k:Int))],[]⟩) (fun k=>k≤n∧∀j,j<k→xs.getD j 0=ys.getD j 0) (fun k=>n-k) (0) ?_ ?_ ?_
 ·exact⟨by omega,fun j hj=>by omega⟩
 ·exact Ad wN wh0 nD
 rintro k ⟨hk,hi⟩;refine G6 ?_;refine .condP J (fun hc0=>?_) (fun hc0=>?_)
 ·
  refine G7 ?_;refine .idxSlO J J J J Y291.h Sz45 _ J oM (.loadE J J J Y45.h J sP (hW.1 _ _ (get_words oM)) (G13 ?_));refine .cond_f J (by simp;omega) ?_;refine G6 ?_;refine .idxSlO J J J J Y291.h Sz45 _ J oM (.loadE J J J Y45.h J sP (hW.2 _ _ (get_words oM)) (G8 ?_));refine .cV J J J J Body288 (cmp_u64 _ _) tV (G9 ?_);refine .condNP J (fun hc2=>?_) (fun hc2=>?_)
  ·
   refine G6 ?_;refine G7 ?_;refine⟨_,[],Ae J J,sP,sP,?_,rfl⟩;exact congrArg i64 (cmpW_at _ _ _ hi oM oM hc2).symm
  refine G8 ?_;exact⟨k+1,⟨by omega,fun j hj=>if h:j<k then hi j h else(show j=k by omega)▸cmp1_eq hc2⟩,by omega,Ad wN wh0 nD⟩
 obtain rfl:k=n:=by omega
 refine G15 ?_;refine .cond_f J sP (G7 ?_);refine G2 ?_;refine⟨_,[],Ae J J,sP,sP,?_,rfl⟩;exact congrArg i64 (cmpW_all _ _ oM (by rw[hx];exact hi)).symm
theorem scalar_below(w m:List UInt64)(hw:w.length=4)(hm:m.length=4):Mv 229 [agg (Ah w),agg (Ah m)] (fun _=>True) (.bool (decide (wv w<wv m))):=by
 intro W hW;refine Ac func229 J 9 ntmps229 J (G3 ?_);intro n2 hn2 hf2;refine G1 ?_;intro n3 hn3 hf3;refine G4 ?_;refine .draw (oP [0,1,302,3,4]) Ao zK (G2 ?_);refine .cV J J J J Body287 (cmpFunc_u64 _ _ _ _ _ _ 4 w m hw hm oM) (fun W h=>⟨Ap h Z1,Ap h Z0⟩) ?_;refine G4 ?_;refine G2 ?_;refine⟨_,[],Ae J J,sP,sP,?_,rfl⟩;exact congrArg Value.bool (by simp only[cmpW_lt hw hm])
theorem scalar_minus(w m:List UInt64)(hw:w.length=4)(hm:m.length=4):Mv 323 [agg (Ah w),agg (Ah m)] (fun _=>True) (agg (Ah (mnsW w m 4).1)):=by
 intro W hW;refine Ac func323 J 25 ntmps323 J (G3 ?_);intro n2 hn2 hf2;refine G1 ?_;intro n3 hn3 hf3;refine .alloc (cs:=(Ah (List.replicate 4 0))) J Zr238 J ?_;intro n4 hn4 hf4;refine G4 ?_;refine .a J J (show Ag _ _=some (u64 0)from rfl) (G9 ?_);refine .loop (ι:=Nat) (fun k=>⟨[(2,ptr n2 0),(3,ptr n3 0),(4,ptr n4 0),(5,u64 (mnsW w m k).2),(6,i64 (3-(k:Int)))],[⟨n4,Ah (List.replicate 4 0),238,4⟩,⟨n3,Ah m,238,(Ah m).length⟩,⟨n2,Ah (mnsW w m k).1,238,(Ah w).length⟩]⟩) (fun k=>k≤4) (fun k=>4-k) (0) ?_ ?_ ?_
 ·omega
 ·exact Ad wN (wh1 Z0 (wh1 Z1 (wh1 Z2 wh0))) nD
 rintro k hi;have hl:=mnsW_length w m k;refine G7 ?_;refine .condP J (fun hc0=>?_) (fun hc0=>?_)
 ·
  have hk4:k<4:=by omega
  refine G4 ?_;refine .draw (oP [0,1,2,103,4,5,106,7,8,9,10,11,12,413,14]) Ao zK (G2 ?_);refine .i1 J J J J Y238.h Sz45 (3-k) oM oM (G2 ?_);refine .i1 J J J J Y238.h Sz45 (3-k) oM oM (G2 ?_);refine .ext J J J J (sub64_run _ _ _ (mnsW_borrow w m k)) (G3 ?_);refine .i1 J J J J Y238.h Sz45 (3-k) oM oM (.s1 J J J J J Sz45 Z2 (by(simp[mnsW_length,hw];omega)) (by exact Be _ _ _) (by exact upd2) ?_);refine G10 ?_;exact⟨k+1,by omega,by omega,Ad (wk1 rfl (wk1 rfl (wk1 rfl (wk1 rfl (wk1 (by rw[show(3-((k+1:Nat):Int))=3-(k:Int)-1 by omega];rfl) wk0))))) (wh1 Z0 (wh1 Z1 (wh1 Z2 wh0))) nD⟩
 obtain rfl:k=4:=by omega
 refine G7 ?_;refine .lA J J J Y238.h J Sz238 Z2 (by(simp[mnsW_length,hw];done)) ?_;refine .sA J J J J zB Sz238 (by(simp[mnsW_length,hw];done)) Z0 sP zU ?_;refine G2 ?_;refine G2 ?_;refine⟨_,[],Am J J Y238.h J Sz238 Z0 (by simp[mnsW_length,hw]),sP,sP,?_,rfl⟩;rfl
theorem mul64_ok(x y:UInt64):Mv 277 [u64 x,u64 y] (fun _=>True) (.tuple #[u64 (mulHi x y),u64 (x*y)]):=by
 intro W hW;refine Ac func277 J 51 ntmps277 J (G2 ?_);refine .a J J (show Ag _ _=some (u64 0)from rfl) (.a J J (show Ag _ _=some (u64 0)from rfl) (G5 ?_));refine .and_u64 J J J (show Ag _ _=some (u64 4294967295)from rfl) (G6 ?_);refine .shr_u64 J J J J 32 J dE (G6 ?_);refine .and_u64 J J J (show Ag _ _=some (u64 4294967295)from rfl) (G6 ?_);refine .shr_u64 J J J J 32 J dE (G17 ?_);refine .shr_u64 J J J J 32 J dE (G7 ?_);refine .and_u64 J J J (show Ag _ _=some (u64 4294967295)from rfl) (G6 ?_);refine .shr_u64 J J J J 32 J dE (G21 ?_);refine .shr_u64 J J J J 32 J dE (G12 ?_);refine G2 ?_;refine⟨_,[],Cj J J J,sP,sP,?_,rfl⟩;rfl
theorem scalar_load_n(a:List UInt8)(ha:a.length=32):Mv 228 [agg (Aa a)] (fun _=>True) (agg (Ah (B3 (le a)))):=by
  rw[←ldW_eq ha];exact scalar_load a ha
theorem scalar_store_n(n:Nat):Mv 324 [agg (Ah (B3 n))] (fun _=>True) (agg (Aa (leb 32 n))):=by
  rw[←stB_eq n];exact scalar_store (B3 n) rfl
theorem scalar_modulus_n:Mv 230 [] (fun _=>True) (agg (Ah (B3 L))):=by
  rw[←modW_eq];exact scalar_modulus
theorem scalar_doubled_n(n:Nat)(b:UInt64)(hb:b.toNat≤1):Mv 322 [agg (Ah (B3 n)),u64 b] (fun _=>True) (agg (Ah (B3 (2*n+b.toNat)))):=by
  rw[←dblW_eq n b hb];exact scalar_doubled (B3 n) b rfl
theorem scalar_below_n(n m:Nat)(hn:n<2^256)(hm:m<2^256):Mv 229 [agg (Ah (B3 n)),agg (Ah (B3 m))] (fun _=>True) (.bool (decide (n<m))):=by
  have:=scalar_below (B3 n) (B3 m) rfl rfl;rw[wv_words4,wv_words4,Lab hn,Lab hm]at this;exact this
theorem scalar_minus_n(n m:Nat)(hn:n<2^256)(hm:m≤n):Mv 323 [agg (Ah (B3 n)),agg (Ah (B3 m))] (fun _=>True) (agg (Ah (B3 (n-m)))):=by
  have:=scalar_minus (B3 n) (B3 m) rfl rfl;rw[mnsW_eq rfl rfl,wv_words4,wv_words4,Lab hn,Lab (Le4 hm hn)]at this;have e:B3 (n+2^256-m)=B3 (n-m):=by rw[←words4_mod,show(n+2^256-m)%2^256=(n-m)%2^256 by omega,words4_mod]
  rw[←e,←words4_mod n,Lab hn];exact this
theorem bit_le(x:UInt64)(n:Nat):(Ar x n&&&1).toNat=x.toNat/2^n%2:=by
  rw[Lff,A7];exact Lci _ 1
theorem words4_start(xs:List UInt64):B3 (wv (List.take 0 xs)%L)=List.replicate 4 0:=by
  rw[Ldu];decide
theorem res_bd(m:Nat)(x:UInt64)(n:Nat)(h:m<L):2*m+(Ar x n&&&1).toNat<2^256:=by
  have hL:L<2^254:=by decide
  rw[bit_le];omega
theorem scalar_residue(b o c n:Nat)(xs:List UInt64)(hx:xs.length=n)(hn:n≤1000000):Mv 299 [.slice (some ⟨b,o,none⟩) n c] (fun W=>Cd W b o (Ah xs)) (agg (Aa (leb 32 (wv xs%L)))):=by
 intro W hW;have hL:L<2^256:=by decide
 refine Ac func299 J 35 ntmps299 J (G2 ?_);refine .alloc (cs:=(Aa (List.replicate 32 0))) J A8 J ?_;intro n2 hn2 hf2;refine G4 ?_;refine .alloc (cs:=(Ah (List.replicate 4 0))) J Zr238 J ?_;intro n3 hn3 hf3;refine G4 ?_;refine .cV J J J J Body230 (scalar_modulus_n) tV (.alloc (cs:=(Ah (List.replicate 4 0))) J Zr238 J ?_);intro n4 hn4 hf4;refine .sA J J J J zB Sz238 (by(simp[C3];done)) Z0 sP zU ?_;refine G11 ?_;refine .loop (ι:=Nat) (fun k=>⟨[(2,ptr n2 0),(3,ptr n3 0),(4,ptr n4 0),(9, .slice (some ⟨b,o,none⟩) n c),(10,i64 (n:Int)),(11,i64 (k:Int))],[⟨n4,Ah (B3 L),238,4⟩,⟨n3,Ah (B3 (wv (xs.take k)%L)),238,4⟩,⟨n2,Aa (List.replicate 32 0),207,32⟩]⟩) (fun k=>k≤n) (fun k=>n-k) (0) ?_ ?_ ?_
 ·omega
 ·exact Ad wN (wh1 Z0 (wh1 (by rw[words4_start];exact mem1) (wh1 Z2 wh0))) nD
 rintro k hi;refine G6 ?_;refine .condP J (fun hc0=>?_) (fun hc0=>?_)
 ·
  refine G6 ?_;refine .idxSlO J J J J Y291.h Sz45 _ J oM (.loadE J J J Y45.h J sP (hW _ _ (get_words oM)) (G9 ?_));refine .loop (ι:=Nat) (fun t=>⟨[(2,ptr n2 0),(3,ptr n3 0),(4,ptr n4 0),(6,u64 (xs.getD k 0)),(7,i64 (63-(t:Int))),(9, .slice (some ⟨b,o,none⟩) n c),(10,i64 (n:Int)),(11,i64 (k:Int))],[⟨n4,Ah (B3 L),238,4⟩,⟨n3,Ah (B3 ((wv (xs.take k)*2^(t)+(xs.getD k 0).toNat/2^(64-(t)))%L)),238,4⟩,⟨n2,Aa (List.replicate 32 0),207,32⟩]⟩) (fun t=>t≤64) (fun t=>64-t) (0) ?_ ?_ ?_
  ·omega
  ·exact Ad wN (wh1 Z0 (wh1 (by rw[Lde,Lb4,Lb0 (Lev _),Lbt];exact mem1) (wh1 Z2 wh0))) nD
  rintro t hi;refine G7 ?_;refine .condP J (fun hc1=>?_) (fun hc1=>?_)
  ·
   have ht:t<64:=by omega
   have hmL:(wv (xs.take k)*2^t+(xs.getD k 0).toNat/2^(64-t))%L<L:=Lbs _ dE;refine G2 ?_;refine .join (ι:=Unit) (fun _u=>⟨[(2,ptr n2 0),(3,ptr n3 0),(4,ptr n4 0),(6,u64 (xs.getD k 0)),(7,i64 (63-(t:Int))),(9, .slice (some ⟨b,o,none⟩) n c),(10,i64 (n:Int)),(11,i64 (k:Int))],[⟨n4,Ah (B3 L),238,4⟩,⟨n3,Ah (B3 ((wv (xs.take k)*2^(t+1)+(xs.getD k 0).toNat/2^(64-(t+1)))%L)),238,4⟩,⟨n2,Aa (List.replicate 32 0),207,32⟩]⟩) (fun _u=>True) ?_ ?_
   ·
    refine G2 ?_;refine .draw (oP [100,1,2,3,4,305,406]) Ao zK (.lA J J J Y238.h J Sz238 Z1 (by(simp[C3];done)) ?_);refine G2 ?_;refine .shr_u64 J J J J (63-t) oM oM (.and_u64 J J J (show Ag _ _=some (u64 1)from rfl) (.cV J J J J Body322 (scalar_doubled_n _ _ (by rw[bit_le];omega)) tV ?_));refine .sA J J J J zB Sz238 (by(simp[C3];done)) Z1 (by(simp[C3];done)) zV ?_;refine G4 ?_;refine .lA J J J Y238.h J Sz238 Z1 (by(simp[C3];done)) ?_;refine .lA J J J Y238.h J Sz238 Z0 (by(simp[C3];done)) ?_;refine .cV J J J J Body229 (scalar_below_n _ _ (res_bd _ _ _ hmL) hL) tV (G3 ?_);refine .condNP J (fun hc2=>?_) (fun hc2=>?_)
    ·
     refine .region (.lA J J J Y238.h J Sz238 Z1 (by(simp[C3];done)) ?_);refine .lA J J J Y238.h J Sz238 Z0 (by(simp[C3];done)) ?_;refine .cV J J J J Body323 (scalar_minus_n _ _ (res_bd _ _ _ hmL) (Nat.le_of_not_lt hc2)) tV (.sA J J J J zB Sz238 (by(simp[C3];done)) Z1 (by(simp[C3];done)) zV ?_);refine G3 ?_;have hst:=res_step (wv (xs.take k)) (xs.getD k 0).toNat t (Lev _) ht;simp only[]at hst;refine⟨(),trivial,Ad wN (wh1 Z0 (wh1 (by rw[show 64-(t+1)=63-t by omega,←hst,←bit_le];simp only[hc2,if_true,if_false];exact mem1) (wh1 Z2 wh0))) nD⟩
    refine G3 ?_;have hst:=res_step (wv (xs.take k)) (xs.getD k 0).toNat t (Lev _) ht;simp only[]at hst;refine⟨(),trivial,Ad wN (wh1 Z0 (wh1 (by rw[show 64-(t+1)=63-t by omega,←hst,←bit_le];simp only[hc2,if_true,if_false];exact mem1) (wh1 Z2 wh0))) nD⟩
   intro _u hj;skip;refine G6 ?_;exact⟨t+1,by omega,by omega,Ad (wk1 rfl (wk1 rfl (wk1 rfl (wk1 rfl (wk1 (by rw[show(63-((t+1:Nat):Int))=63-(t:Int)-1 by omega];rfl) wN))))) (wh1 Z0 (wh1 Z1 (wh1 Z2 wh0))) nD⟩
  obtain rfl:t=64:=by omega
  refine G11 ?_;exact⟨k+1,by omega,by omega,Ad wN (wh1 Z0 (wh1 (by rw[wv_take_succ xs k oM,show(64-64:Nat)=0 from rfl,Lde,Lej];exact mem1) (wh1 Z2 wh0))) nD⟩
 obtain rfl:k=n:=by omega
 refine G7 ?_;refine .lA J J J Y238.h J Sz238 Z1 (by(simp[C3];done)) ?_;refine .cV J J J J Body324 (scalar_store_n _) tV (.sA J J J J zB Sz207 (by(simp[Ak];done)) Z2 sP (by exact upd2) ?_);refine G2 ?_;refine G2 ?_;refine⟨_,[],Am J J Y207.h J Sz207 Z2 (by simp[Ak]),sP,sP,?_,rfl⟩;rw[La5 oM]
open Ed
theorem field_put(q o n c m:Nat)(l:List UInt8)(x:UInt64)(BT:TypeId)(hn:8≤n)(hl:o+8≤l.length):Meets prog 293 [.slice (some ⟨q,o,none⟩) n c,u64 x] [q] (fun W=>BlkOk W ⟨q,Aa l,BT,m⟩) (fun v out=>out=[⟨q,Aa (set8 l o x),BT,m⟩]):=by
 intro W hW;refine Br (hp0:=[⟨q,Aa l,BT,m⟩]) func293 J 46 ntmps293 J (HRep.one hW) (G3 ?_);refine .idxSlO J J J J Y46.h Sz5 7 J oM (.load1 J J J Y5.h J Z0 (B0 oM) ?_);refine G11 ?_;refine .shr_u64 J J J J 8 J dE (G2 ?_);refine .shr_u64 J J J J 16 J dE (G2 ?_);refine .shr_u64 J J J J 24 J dE (G1 ?_);refine .idxSlO J J J J Y46.h Sz5 0 J oM (.s1 J J J J J Sz5 Z0 (by simp;omega) (Bi _ _ _) zU ?_);refine .idxSlO J J J J Y46.h Sz5 1 J oM (.s1 J J J J J Sz5 Z0 (by simp;omega) (Bi _ _ _) zU ?_);refine .idxSlO J J J J Y46.h Sz5 2 J oM (.s1 J J J J J Sz5 Z0 (by simp;omega) (Bi _ _ _) zU ?_);refine .idxSlO J J J J Y46.h Sz5 3 J oM (.s1 J J J J J Sz5 Z0 (by simp;omega) (Bi _ _ _) zU ?_);refine G8 ?_;refine .shr_u64 J J J J 32 J dE (G2 ?_);refine .shr_u64 J J J J 40 J dE (G2 ?_);refine .shr_u64 J J J J 48 J dE (G2 ?_);refine .shr_u64 J J J J 56 J dE (G1 ?_);refine .idxSlO J J J J Y46.h Sz5 4 J oM (.s1 J J J J J Sz5 Z0 (by simp;omega) (Bi _ _ _) zU ?_);refine .idxSlO J J J J Y46.h Sz5 5 J oM (.s1 J J J J J Sz5 Z0 (by simp;omega) (Bi _ _ _) zU ?_);refine .idxSlO J J J J Y46.h Sz5 6 J oM (.s1 J J J J J Sz5 Z0 (by simp;omega) (Bi _ _ _) zU ?_);refine .idxSlO J J J J Y46.h Sz5 7 J oM (.s1 J J J J J Sz5 Z0 (by simp;omega) (Bi _ _ _) zU ?_);refine G2 ?_;exact⟨_,_,res_none rfl,(fun b hb=>by rw[La0.1 hb];exact Bp),Cn,rfl⟩
theorem field_quarters(a:List UInt8)(ha:a.length=32):Mv 317 [agg (Aa a)] (fun _=>True) (agg (Ah [qw a 0,qw a 1,qw a 2,qw a 3])):=by
 intro W hW;refine Ac func317 J 65 ntmps317 J (G3 ?_);intro n1 hn1 hf1;refine .alloc (cs:=(Ah (List.replicate 4 0))) J Zr237 J ?_;intro n2 hn2 hf2;refine G4 ?_;refine .alloc (cs:=(Ah (List.replicate 4 0))) J Zr237 J ?_;intro n3 hn3 hf3;refine G9 ?_;refine .loop (ι:=Nat) (fun k=>⟨[(1,ptr n1 0),(2,ptr n2 0),(3,ptr n3 0),(6,i64 (k:Int))],[⟨n3,Ah (qtA a k),237,4⟩,⟨n2,Ah (List.replicate 4 0),237,4⟩,⟨n1,Aa a,207,(Aa a).length⟩]⟩) (fun k=>k≤4) (fun k=>4-k) (0) ?_ ?_ ?_
 ·omega
 ·exact Ad wN (wh1 Z0 (wh1 Z1 (wh1 Z2 wh0))) nD
 rintro k hi;have hlk:=qtA_length a k;refine G6 ?_;refine .condP J (fun hc0=>?_) (fun hc0=>?_)
 ·
  refine G13 ?_;refine .mul_i64 J J J J oM (G1 ?_);refine .mul_i64 J J J J oM (G1 ?_);refine .sliceArrLH (8*k) (8*k+8) J J J J J oM oM oM oM oM Y207.h Sz5 (G3 ?_);refine .draw (oP [0,1,2,103,4,5,6,107,8,9,10,11,12,113,14,15,16,17,18,119,20,21,22,23,24,125,26,27,28,29,30,131,32,33,34,35,36,137,38,39,40,41,42,143,44,45,46,47,448]) Ao zK (G2 ?_);refine .idxSlO J J J J Y46.h Sz5 0 J oM (G3 ?_);refine .idxSlO J J J J Y46.h Sz5 1 J oM (G2 ?_);refine .shl_u64 J J J J 8 J dE (G2 ?_);refine .idxSlO J J J J Y46.h Sz5 2 J oM (G2 ?_);refine .shl_u64 J J J J 16 J dE (G2 ?_);refine .idxSlO J J J J Y46.h Sz5 3 J oM (G2 ?_);refine .shl_u64 J J J J 24 J dE (G2 ?_);refine .idxSlO J J J J Y46.h Sz5 4 J oM (G2 ?_);refine .shl_u64 J J J J 32 J dE (G2 ?_);refine .idxSlO J J J J Y46.h Sz5 5 J oM (G2 ?_);refine .shl_u64 J J J J 40 J dE (G2 ?_);refine .idxSlO J J J J Y46.h Sz5 6 J oM (G2 ?_);refine .shl_u64 J J J J 48 J dE (G2 ?_);refine .idxSlO J J J J Y46.h Sz5 7 J oM (G2 ?_);refine .shl_u64 J J J J 56 J dE (G1 ?_);refine .i1 J J J J Y237 Sz45 _ J oM (.s1 J J J J J Sz45 Z0 (by(simp[qtA_length];omega)) (by exact Be _ _ _) zU ?_);refine G8 ?_;exact⟨k+1,by omega,by omega,Ad wN (wh1 Z0 (wh1 Z1 (wh1 Z2 wh0))) nD⟩
 obtain rfl:k=4:=by omega
 refine G7 ?_;refine .lA J J J Y237 J Sz237 Z0 (by(simp[qtA_length];done)) ?_;refine .sA J J J J zB Sz237 (by(simp[qtA_length];done)) Z1 sP zV ?_;refine G2 ?_;refine G2 ?_;refine⟨_,[],Am J J Y237 J Sz237 Z1 (by simp[qtA_length]),sP,sP,?_,rfl⟩;rfl
theorem field_load(a:List UInt8)(ha:a.length=32):Mv 290 [agg (Aa a)] (fun _=>True) (agg (Ah (ldN a).l)):=by
 intro W hW;refine Ac func290 J 37 ntmps290 J (G3 ?_);intro n1 hn1 hf1;refine .alloc (cs:=(Ah (List.replicate 5 0))) J Zr294 J ?_;intro n2 hn2 hf2;refine G4 ?_;refine .lA J J J Y207.h J Sz207 Z1 (by(simp[ha];done)) ?_;refine .cV J J J J Body317 (field_quarters a ha) tV (.alloc (cs:=(Ah (List.replicate 4 0))) J Zr237 J ?_);intro n3 hn3 hf3;refine .sA J J J J zB Sz237 sP Z0 sP zU ?_;refine G4 ?_;refine .i1 J J J J Y237 Sz45 0 J dE (G1 ?_);refine .and_u64 J J J (show Ag _ _=some (u64 2251799813685247)from rfl) (.i1 J J J J Y237 Sz45 0 J dE (G1 ?_));refine .shr_u64 J J J J 51 J dE (.i1 J J J J Y237 Sz45 1 J dE (G1 ?_));refine .shl_u64 J J J J 13 J dE (G1 ?_);refine .and_u64 J J J (show Ag _ _=some (u64 2251799813685247)from rfl) (.i1 J J J J Y237 Sz45 1 J dE (G1 ?_));refine .shr_u64 J J J J 38 J dE (.i1 J J J J Y237 Sz45 2 J dE (G1 ?_));refine .shl_u64 J J J J 26 J dE (G1 ?_);refine .and_u64 J J J (show Ag _ _=some (u64 2251799813685247)from rfl) (.i1 J J J J Y237 Sz45 2 J dE (G1 ?_));refine .shr_u64 J J J J 25 J dE (.i1 J J J J Y237 Sz45 3 J dE (G1 ?_));refine .shl_u64 J J J J 39 J dE (G1 ?_);refine .and_u64 J J J (show Ag _ _=some (u64 2251799813685247)from rfl) (.i1 J J J J Y237 Sz45 3 J dE (G1 ?_));refine .shr_u64 J J J J 12 J dE (.build (cs:=Ah (ldN a).l) J J J (fun w=>by kernel_rfl) ?_);refine .sA J J J J zB Sz294 zW Z1 sP zV ?_;refine G2 ?_;refine G2 ?_;refine⟨_,[],Am J J Y294.h J Sz294 Z1 (by simp[W5.l_length]),sP,sP,?_,rfl⟩;rfl
theorem field_carried(w:W5):Mv 320 [agg (Ah w.l)] (fun _=>True) (agg (Ah (carF w).l)):=by
 intro W hW;refine Ac func320 J 40 ntmps320 J (G3 ?_);intro n1 hn1 hf1;refine .alloc (cs:=(Ah (List.replicate 5 0))) J Zr294 J ?_;intro n2 hn2 hf2;refine G4 ?_;refine .i1 J J J J Y294.h Sz45 0 J dE (G1 ?_);refine .and_u64 J J J (show Ag _ _=some (u64 2251799813685247)from rfl) (.i1 J J J J Y294.h Sz45 4 J dE (G1 ?_));refine .shr_u64 J J J J 51 J dE (.mul_u64 J J (show Ag _ _=some (u64 19)from rfl) J (G1 ?_));refine .i1 J J J J Y294.h Sz45 1 J dE (G1 ?_);refine .and_u64 J J J (show Ag _ _=some (u64 2251799813685247)from rfl) (.i1 J J J J Y294.h Sz45 0 J dE (G1 ?_));refine .shr_u64 J J J J 51 J dE (G1 ?_);refine .i1 J J J J Y294.h Sz45 2 J dE (G1 ?_);refine .and_u64 J J J (show Ag _ _=some (u64 2251799813685247)from rfl) (.i1 J J J J Y294.h Sz45 1 J dE (G1 ?_));refine .shr_u64 J J J J 51 J dE (G1 ?_);refine .i1 J J J J Y294.h Sz45 3 J dE (G1 ?_);refine .and_u64 J J J (show Ag _ _=some (u64 2251799813685247)from rfl) (.i1 J J J J Y294.h Sz45 2 J dE (G1 ?_));refine .shr_u64 J J J J 51 J dE (G1 ?_);refine .i1 J J J J Y294.h Sz45 4 J dE (G1 ?_);refine .and_u64 J J J (show Ag _ _=some (u64 2251799813685247)from rfl) (.i1 J J J J Y294.h Sz45 3 J dE (G1 ?_));refine .shr_u64 J J J J 51 J dE (G1 ?_);refine .build (cs:=Ah (carF w).l) J J J (fun w=>by kernel_rfl) ?_;refine .sA J J J J zB Sz294 zW Z0 sP zU ?_;refine G2 ?_;refine G2 ?_;refine⟨_,[],Am J J Y294.h J Sz294 Z0 (by simp[W5.l_length]),sP,sP,?_,rfl⟩;rfl
theorem B4(s:UInt64×UInt64)(a b:UInt64):Mv 318 [agg [u64 s.1,u64 s.2],u64 a,u64 b] (fun _=>True) (agg [u64 (plF s a b).1,u64 (plF s a b).2]):=by
 intro W hW;refine Ac func318 J 34 ntmps318 J (G3 ?_);intro n3 hn3 hf3;refine .alloc (cs:=([u64 0]++[u64 0])) J Zr313 J ?_;intro n6 hn6 hf6;refine G6 ?_;refine .cV J J J J Body277 (mul64_ok _ _) tV (G12 ?_);refine .ext J J J J (add64_run _ _ 0 dE) (G13 ?_);refine .ext J J J J (add64_run _ _ _ (by rw[Bt];have:=s.2.toNat_lt;have:=(a*b).toNat_lt;simp only[show(0:UInt64).toNat=0 from rfl];omega)) ?_;refine G10 ?_;refine .build (cs:=[u64 (plF s a b).1,u64 (plF s a b).2]) J J J (fun w=>by kernel_rfl) ?_;refine .sA J J J J zB Sz313 sP Z0 sP zU ?_;refine G2 ?_;refine G2 ?_;refine⟨_,[],Am J J Y313.h J Sz313 Z0 sP,sP,sP,?_,rfl⟩;rfl
theorem wide_upper(s:UInt64×UInt64):Mv 319 [agg [u64 s.1,u64 s.2]] (fun _=>True) (u64 (upF s)):=by
 intro W hW;refine Ac func319 J 10 ntmps319 J (G3 ?_);intro n1 hn1 hf1;refine .a J J (show Ag _ _=some (u64 0)from rfl) (G6 ?_);refine .shl_u64 J J J J 13 J dE (G2 ?_);refine .shr_u64 J J J J 51 J dE (G4 ?_);refine G2 ?_;refine⟨_,[],Ae J J,sP,sP,?_,rfl⟩;rfl
theorem field_product(na nb:Nat)(a b:W5):Mv 291 [ptr na 0,ptr nb 0] (fun W=>Cd W na 0 (Ah a.l)∧Cd W nb 0 (Ah b.l)) (agg (Ah (mulF a b).l)):=by
 intro W hW;refine Ac func291 J 267 ntmps291 J (G2 ?_);refine .alloc (cs:=(Ah (List.replicate 5 0))) J Zr294 J ?_;intro n4 hn4 hf4;refine G3 ?_;refine .draw (oP [0,1,2,103,4,5,6,7,108,9,10,11,12,113,14,15,16,17,118,19,20,21,22,23]) Ao zK (G2 ?_);refine .i1 J J J J Y294.h Sz45 1 J dE (.loadE J J J Y45.h J sP (hW.1 1 _ J) (.mul_u64 J J (show Ag _ _=some (u64 19)from rfl) J (G2 ?_)));refine .i1 J J J J Y294.h Sz45 2 J dE (.loadE J J J Y45.h J sP (hW.1 2 _ J) (.mul_u64 J J (show Ag _ _=some (u64 19)from rfl) J (G2 ?_)));refine .i1 J J J J Y294.h Sz45 3 J dE (.loadE J J J Y45.h J sP (hW.1 3 _ J) (.mul_u64 J J (show Ag _ _=some (u64 19)from rfl) J (G2 ?_)));refine .i1 J J J J Y294.h Sz45 4 J dE (.loadE J J J Y45.h J sP (hW.1 4 _ J) (.mul_u64 J J (show Ag _ _=some (u64 19)from rfl) J (G7 ?_)));refine .draw (oP [0,1,2,3,104,5,6,7,108,10,11,12,13,114,16,17,18,19,120,22,23,24,25,126,28,29,30,31,132,309,315,321,327,333,234,435]) Ao zK (.build (cs:=[u64 0,u64 0]) J J J (fun w=>by kernel_rfl) ?_);refine G2 ?_;refine .i1 J J J J Y294.h Sz45 0 J dE (.loadE J J J Y45.h J sP (hW.1 0 _ J) (G2 ?_));refine .i1 J J J J Y294.h Sz45 0 J dE (.loadE J J J Y45.h J sP (hW.2 0 _ J) (G3 ?_));refine .i1 J J J J Y294.h Sz45 4 J dE (.loadE J J J Y45.h J sP (hW.2 4 _ J) (G3 ?_));refine .i1 J J J J Y294.h Sz45 3 J dE (.loadE J J J Y45.h J sP (hW.2 3 _ J) (G3 ?_));refine .i1 J J J J Y294.h Sz45 2 J dE (.loadE J J J Y45.h J sP (hW.2 2 _ J) (G3 ?_));refine .i1 J J J J Y294.h Sz45 1 J dE (.loadE J J J Y45.h J sP (hW.2 1 _ J) (.cV J J J J C4 (B4 (0,0) a.a b.a) tV (.cV J J J J C4 (B4 (plF (0,0) a.a b.a) (19*a.b) b.e) tV (.cV J J J J C4 (B4 (plF (plF (0,0) a.a b.a) (19*a.b) b.e) (19*a.c) b.d) tV (.cV J J J J C4 (B4 (plF (plF (plF (0,0) a.a b.a) (19*a.b) b.e) (19*a.c) b.d) (19*a.d) b.c) tV (.cV J J J J C4 (B4 (plF (plF (plF (plF (0,0) a.a b.a) (19*a.b) b.e) (19*a.c) b.d) (19*a.d) b.c) (19*a.e) b.b) tV (.alloc (cs:=([u64 0]++[u64 0])) J Zr313 J ?_)))))));intro n9 hn9 hf9;refine .sA J J J J zB Sz313 sP Z0 sP zU ?_;refine G3 ?_;refine .draw (oP [0,1,2,3,104,5,6,7,108,10,11,12,113,14,15,16,117,19,20,21,22,123,25,26,27,28,129,31,32,33,34,135,309,318,324,330,336,237,438]) Ao zK (.build (cs:=[u64 0,u64 0]) J J J (fun w=>by kernel_rfl) ?_);refine G2 ?_;refine .i1 J J J J Y294.h Sz45 0 J dE (.loadE J J J Y45.h J sP (hW.1 0 _ J) (G2 ?_));refine .i1 J J J J Y294.h Sz45 1 J dE (.loadE J J J Y45.h J sP (hW.2 1 _ J) (G2 ?_));refine .i1 J J J J Y294.h Sz45 1 J dE (.loadE J J J Y45.h J sP (hW.1 1 _ J) (G2 ?_));refine .i1 J J J J Y294.h Sz45 0 J dE (.loadE J J J Y45.h J sP (hW.2 0 _ J) (G3 ?_));refine .i1 J J J J Y294.h Sz45 4 J dE (.loadE J J J Y45.h J sP (hW.2 4 _ J) (G3 ?_));refine .i1 J J J J Y294.h Sz45 3 J dE (.loadE J J J Y45.h J sP (hW.2 3 _ J) (G3 ?_))
 refine .i1 J J J J Y294.h Sz45 2 J dE (.loadE J J J Y45.h J sP (hW.2 2 _ J) (.cV J J J J C4 (B4 (0,0) a.a b.b) tV (.cV J J J J C4 (B4 (plF (0,0) a.a b.b) a.b b.a) tV (.cV J J J J C4 (B4 (plF (plF (0,0) a.a b.b) a.b b.a) (19*a.c) b.e) tV (.cV J J J J C4 (B4 (plF (plF (plF (0,0) a.a b.b) a.b b.a) (19*a.c) b.e) (19*a.d) b.d) tV (.cV J J J J C4 (B4 (plF (plF (plF (plF (0,0) a.a b.b) a.b b.a) (19*a.c) b.e) (19*a.d) b.d) (19*a.e) b.c) tV (.alloc (cs:=([u64 0]++[u64 0])) J Zr313 J ?_)))))));intro n10 hn10 hf10;refine .sA J J J J zB Sz313 sP Z0 sP zU ?_;refine G3 ?_;refine .draw (oP [0,1,2,3,104,5,6,7,108,10,11,12,113,14,15,16,117,19,20,21,122,23,24,25,126,28,29,30,31,132,34,35,36,37,138,309,318,327,333,339,240,441]) Ao zK (.build (cs:=[u64 0,u64 0]) J J J (fun w=>by kernel_rfl) ?_);refine G2 ?_;refine .i1 J J J J Y294.h Sz45 0 J dE (.loadE J J J Y45.h J sP (hW.1 0 _ J) (G2 ?_));refine .i1 J J J J Y294.h Sz45 2 J dE (.loadE J J J Y45.h J sP (hW.2 2 _ J) (G2 ?_));refine .i1 J J J J Y294.h Sz45 1 J dE (.loadE J J J Y45.h J sP (hW.1 1 _ J) (G2 ?_));refine .i1 J J J J Y294.h Sz45 1 J dE (.loadE J J J Y45.h J sP (hW.2 1 _ J) (G2 ?_));refine .i1 J J J J Y294.h Sz45 2 J dE (.loadE J J J Y45.h J sP (hW.1 2 _ J) (G2 ?_));refine .i1 J J J J Y294.h Sz45 0 J dE (.loadE J J J Y45.h J sP (hW.2 0 _ J) (G3 ?_));refine .i1 J J J J Y294.h Sz45 4 J dE (.loadE J J J Y45.h J sP (hW.2 4 _ J) (G3 ?_));refine .i1 J J J J Y294.h Sz45 3 J dE (.loadE J J J Y45.h J sP (hW.2 3 _ J) (.cV J J J J C4 (B4 (0,0) a.a b.c) tV (.cV J J J J C4 (B4 (plF (0,0) a.a b.c) a.b b.b) tV (.cV J J J J C4 (B4 (plF (plF (0,0) a.a b.c) a.b b.b) a.c b.a) tV (.cV J J J J C4 (B4 (plF (plF (plF (0,0) a.a b.c) a.b b.b) a.c b.a) (19*a.d) b.e) tV (.cV J J J J C4 (B4 (plF (plF (plF (plF (0,0) a.a b.c) a.b b.b) a.c b.a) (19*a.d) b.e) (19*a.e) b.d) tV (.alloc (cs:=([u64 0]++[u64 0])) J Zr313 J ?_)))))));intro n11 hn11 hf11;refine .sA J J J J zB Sz313 sP Z0 sP zU ?_;refine G3 ?_;refine .draw (oP [0,1,2,3,104,5,6,7,108,10,11,12,113,14,15,16,117,19,20,21,122,23,24,25,126,28,29,30,131,32,33,34,135,37,38,39,40,141,309,318,327,336,342,243,444]) Ao zK (.build (cs:=[u64 0,u64 0]) J J J (fun w=>by kernel_rfl) ?_);refine G2 ?_;refine .i1 J J J J Y294.h Sz45 0 J dE (.loadE J J J Y45.h J sP (hW.1 0 _ J) (G2 ?_));refine .i1 J J J J Y294.h Sz45 3 J dE (.loadE J J J Y45.h J sP (hW.2 3 _ J) (G2 ?_));refine .i1 J J J J Y294.h Sz45 1 J dE (.loadE J J J Y45.h J sP (hW.1 1 _ J) (G2 ?_));refine .i1 J J J J Y294.h Sz45 2 J dE (.loadE J J J Y45.h J sP (hW.2 2 _ J) (G2 ?_));refine .i1 J J J J Y294.h Sz45 2 J dE (.loadE J J J Y45.h J sP (hW.1 2 _ J) (G2 ?_));refine .i1 J J J J Y294.h Sz45 1 J dE (.loadE J J J Y45.h J sP (hW.2 1 _ J) (G2 ?_));refine .i1 J J J J Y294.h Sz45 3 J dE (.loadE J J J Y45.h J sP (hW.1 3 _ J) (G2 ?_));refine .i1 J J J J Y294.h Sz45 0 J dE (.loadE J J J Y45.h J sP (hW.2 0 _ J) (G3 ?_))
 refine .i1 J J J J Y294.h Sz45 4 J dE (.loadE J J J Y45.h J sP (hW.2 4 _ J) (.cV J J J J C4 (B4 (0,0) a.a b.d) tV (.cV J J J J C4 (B4 (plF (0,0) a.a b.d) a.b b.c) tV (.cV J J J J C4 (B4 (plF (plF (0,0) a.a b.d) a.b b.c) a.c b.b) tV (.cV J J J J C4 (B4 (plF (plF (plF (0,0) a.a b.d) a.b b.c) a.c b.b) a.d b.a) tV (.cV J J J J C4 (B4 (plF (plF (plF (plF (0,0) a.a b.d) a.b b.c) a.c b.b) a.d b.a) (19*a.e) b.e) tV (.alloc (cs:=([u64 0]++[u64 0])) J Zr313 J ?_)))))));intro n12 hn12 hf12;refine .sA J J J J zB Sz313 sP Z0 sP zU ?_;refine G3 ?_;refine .draw (oP [0,1,2,3,104,5,6,7,108,10,11,12,113,14,15,16,117,19,20,21,122,23,24,25,126,28,29,30,131,32,33,34,135,37,38,39,140,41,42,43,144,309,318,327,336,345,246,447]) Ao zK (.build (cs:=[u64 0,u64 0]) J J J (fun w=>by kernel_rfl) ?_);refine G2 ?_;refine .i1 J J J J Y294.h Sz45 0 J dE (.loadE J J J Y45.h J sP (hW.1 0 _ J) (G2 ?_));refine .i1 J J J J Y294.h Sz45 4 J dE (.loadE J J J Y45.h J sP (hW.2 4 _ J) (G2 ?_));refine .i1 J J J J Y294.h Sz45 1 J dE (.loadE J J J Y45.h J sP (hW.1 1 _ J) (G2 ?_));refine .i1 J J J J Y294.h Sz45 3 J dE (.loadE J J J Y45.h J sP (hW.2 3 _ J) (G2 ?_));refine .i1 J J J J Y294.h Sz45 2 J dE (.loadE J J J Y45.h J sP (hW.1 2 _ J) (G2 ?_));refine .i1 J J J J Y294.h Sz45 2 J dE (.loadE J J J Y45.h J sP (hW.2 2 _ J) (G2 ?_));refine .i1 J J J J Y294.h Sz45 3 J dE (.loadE J J J Y45.h J sP (hW.1 3 _ J) (G2 ?_));refine .i1 J J J J Y294.h Sz45 1 J dE (.loadE J J J Y45.h J sP (hW.2 1 _ J) (G2 ?_));refine .i1 J J J J Y294.h Sz45 4 J dE (.loadE J J J Y45.h J sP (hW.1 4 _ J) (G2 ?_));refine .i1 J J J J Y294.h Sz45 0 J dE (.loadE J J J Y45.h J sP (hW.2 0 _ J) (.cV J J J J C4 (B4 (0,0) a.a b.e) tV (.cV J J J J C4 (B4 (plF (0,0) a.a b.e) a.b b.d) tV (.cV J J J J C4 (B4 (plF (plF (0,0) a.a b.e) a.b b.d) a.c b.c) tV (.cV J J J J C4 (B4 (plF (plF (plF (0,0) a.a b.e) a.b b.d) a.c b.c) a.d b.b) tV (.cV J J J J C4 (B4 (plF (plF (plF (plF (0,0) a.a b.e) a.b b.d) a.c b.c) a.d b.b) a.e b.a) tV (.alloc (cs:=([u64 0]++[u64 0])) J Zr313 J ?_)))))));intro n13 hn13 hf13;refine .sA J J J J zB Sz313 sP Z0 sP zU ?_;refine G3 ?_;refine .draw (oP [0,101,2,103,7,108,9,110,13,114,15,116,19,120,21,122,25,126,27,128,304,5,6,311,12,317,18,323,24,329,30,31,332,433]) Ao zK (G2 ?_);refine .and_u64 J J J (show Ag _ _=some (u64 2251799813685247)from rfl) (.lA J J J Y313.h J Sz313 Z0 sP ?_);refine G2 ?_;refine .and_u64 J J J (show Ag _ _=some (u64 2251799813685247)from rfl) (.lA J J J Y313.h J Sz313 Z4 sP ?_);refine G2 ?_;refine .and_u64 J J J (show Ag _ _=some (u64 2251799813685247)from rfl) (.lA J J J Y313.h J Sz313 Z3 sP ?_);refine G2 ?_;refine .and_u64 J J J (show Ag _ _=some (u64 2251799813685247)from rfl) (.lA J J J Y313.h J Sz313 Z2 sP ?_);refine G2 ?_;refine .and_u64 J J J (show Ag _ _=some (u64 2251799813685247)from rfl) (.lA J J J Y313.h J Sz313 Z1 sP ?_);refine .cV J J J J Body319 (wide_upper (s4F a b)) tV (.mul_u64 J J (show Ag _ _=some (u64 19)from rfl) J (G1 ?_))
 refine .cV J J J J Body319 (wide_upper (s0F a b)) tV (G1 ?_);refine .cV J J J J Body319 (wide_upper (s1F a b)) tV (G1 ?_);refine .cV J J J J Body319 (wide_upper (s2F a b)) tV (G1 ?_);refine .cV J J J J Body319 (wide_upper (s3F a b)) tV (G1 ?_);refine .build (cs:=Ah (⟨((s0F a b).2&&&LOW)+19*upF (s4F a b),((s1F a b).2&&&LOW)+upF (s0F a b),((s2F a b).2&&&LOW)+upF (s1F a b),((s3F a b).2&&&LOW)+upF (s2F a b),((s4F a b).2&&&LOW)+upF (s3F a b)⟩:W5).l) J J J (fun w=>by kernel_rfl) ?_;refine .cV J J J J Body320 (field_carried ⟨((s0F a b).2&&&LOW)+19*upF (s4F a b),((s1F a b).2&&&LOW)+upF (s0F a b),((s2F a b).2&&&LOW)+upF (s1F a b),((s3F a b).2&&&LOW)+upF (s2F a b),((s4F a b).2&&&LOW)+upF (s3F a b)⟩) tV (.sA J J J J zB Sz294 zW (by exact mem5) sP (by exact upd5) ?_);refine G2 ?_;refine G2 ?_;refine⟨_,[],Am J J Y294.h J Sz294 (by exact mem5) (by simp[W5.l_length]),sP,sP,?_,rfl⟩;rfl
theorem field_store(w:W5):Mv 292 [agg (Ah w.l)] (fun _=>True) (agg (Aa (fb (fe w.v)))):=by
 intro W hW;refine Ac func292 J 88 ntmps292 J (G3 ?_);intro n1 hn1 hf1;refine .alloc (cs:=(Aa (List.replicate 32 0))) J A8 J ?_;intro n2 hn2 hf2;refine G5 ?_;refine .cV J J J J Body320 (field_carried w) tV (G5 ?_);refine .i1 J J J J Y294.h Sz45 0 J dE (G1 ?_);refine .add_u64 J J J (show Ag _ _=some (u64 19)from rfl) (.shr_u64 J J J J 51 J dE (G10 ?_));refine .rounds 5 (SRounds.more (G7 ?_));refine .cond_t J (rfl) (G6 ?_);refine .i1 J J J J Y294.h Sz45 1 J oM (G3 ?_);refine .shr_u64 J J J J 51 J dE (G9 ?_);refine Ct (SRounds.more (G7 ?_));refine .cond_t J (rfl) (G6 ?_);refine .i1 J J J J Y294.h Sz45 2 J oM (G3 ?_);refine .shr_u64 J J J J 51 J dE (G9 ?_);refine Ct (SRounds.more (G7 ?_));refine .cond_t J (rfl) (G6 ?_);refine .i1 J J J J Y294.h Sz45 3 J oM (G3 ?_);refine .shr_u64 J J J J 51 J dE (G9 ?_);refine Ct (SRounds.more (G7 ?_));refine .cond_t J (rfl) (G6 ?_);refine .i1 J J J J Y294.h Sz45 4 J oM (G3 ?_);refine .shr_u64 J J J J 51 J dE (G9 ?_);refine Ct (SRounds.more (G7 ?_));refine .cond_f J (rfl) (G7 ?_);refine .i1 J J J J Y294.h Sz45 0 J dE (G2 ?_);refine .mul_u64 J J (show Ag _ _=some (u64 19)from rfl) J (G1 ?_);refine .i1 J J J J Y294.h Sz45 0 J dE (.s1 J J J J J Sz45 Z1 zW (by exact Be _ _ _) zV ?_);refine G9 ?_;refine .rounds 5 (SRounds.more (G6 ?_));refine .cond_t J (rfl) (G11 ?_);refine .draw (oP [0,1,2,103,4,5,106,7,8,9,410]) Ao zK (G2 ?_);refine .i1 J J J J Y294.h Sz45 1 J oM (G2 ?_);refine .i1 J J J J Y294.h Sz45 0 J oM (G1 ?_);refine .shr_u64 J J J J 51 J dE (G1 ?_);refine .i1 J J J J Y294.h Sz45 1 J oM (.s1 J J J J J Sz45 Z1 zW (by exact Be _ _ _) zV ?_);refine G4 ?_;refine .i1 J J J J Y294.h Sz45 0 J oM (G1 ?_);refine .and_u64 J J J (show Ag _ _=some (u64 2251799813685247)from rfl) (.i1 J J J J Y294.h Sz45 0 J oM (.s1 J J J J J Sz45 Z1 zW (by exact Be _ _ _) zV ?_));refine G7 ?_;refine Ct (SRounds.more (G6 ?_));refine .cond_t J (rfl) (G11 ?_);refine .draw (oP [0,1,2,103,4,5,106,7,8,9,410]) Ao zK (G2 ?_);refine .i1 J J J J Y294.h Sz45 2 J oM (G2 ?_);refine .i1 J J J J Y294.h Sz45 1 J oM (G1 ?_);refine .shr_u64 J J J J 51 J dE (G1 ?_);refine .i1 J J J J Y294.h Sz45 2 J oM (.s1 J J J J J Sz45 Z1 zW (by exact Be _ _ _) zV ?_);refine G4 ?_;refine .i1 J J J J Y294.h Sz45 1 J oM (G1 ?_);refine .and_u64 J J J (show Ag _ _=some (u64 2251799813685247)from rfl) (.i1 J J J J Y294.h Sz45 1 J oM (.s1 J J J J J Sz45 Z1 zW (by exact Be _ _ _) zV ?_));refine G7 ?_;refine Ct (SRounds.more (G6 ?_));refine .cond_t J (rfl) (G11 ?_);refine .draw (oP [0,1,2,103,4,5,106,7,8,9,410]) Ao zK (G2 ?_);refine .i1 J J J J Y294.h Sz45 3 J oM (G2 ?_);refine .i1 J J J J Y294.h Sz45 2 J oM (G1 ?_);refine .shr_u64 J J J J 51 J dE (G1 ?_);refine .i1 J J J J Y294.h Sz45 3 J oM (.s1 J J J J J Sz45 Z1 zW (by exact Be _ _ _) zV ?_);refine G4 ?_;refine .i1 J J J J Y294.h Sz45 2 J oM (G1 ?_)
 refine .and_u64 J J J (show Ag _ _=some (u64 2251799813685247)from rfl) (.i1 J J J J Y294.h Sz45 2 J oM (.s1 J J J J J Sz45 Z1 zW (by exact Be _ _ _) zV ?_));refine G7 ?_;refine Ct (SRounds.more (G6 ?_));refine .cond_t J (rfl) (G11 ?_);refine .draw (oP [0,1,2,103,4,5,106,7,8,9,410]) Ao zK (G2 ?_);refine .i1 J J J J Y294.h Sz45 4 J oM (G2 ?_);refine .i1 J J J J Y294.h Sz45 3 J oM (G1 ?_);refine .shr_u64 J J J J 51 J dE (G1 ?_);refine .i1 J J J J Y294.h Sz45 4 J oM (.s1 J J J J J Sz45 Z1 zW (by exact Be _ _ _) zV ?_);refine G4 ?_;refine .i1 J J J J Y294.h Sz45 3 J oM (G1 ?_);refine .and_u64 J J J (show Ag _ _=some (u64 2251799813685247)from rfl) (.i1 J J J J Y294.h Sz45 3 J oM (.s1 J J J J J Sz45 Z1 zW (by exact Be _ _ _) zV ?_));refine G7 ?_;refine Ct (SRounds.more (G6 ?_));refine .cond_f J (rfl) (G7 ?_);refine .i1 J J J J Y294.h Sz45 4 J dE (G1 ?_);refine .and_u64 J J J (show Ag _ _=some (u64 2251799813685247)from rfl) (.i1 J J J J Y294.h Sz45 4 J dE (.s1 J J J J J Sz45 Z1 zW (by exact Be _ _ _) zV ?_));refine G4 ?_;refine .alloc (cs:=(Aa (List.replicate 32 0))) J A8 J ?_;intro n6 hn6 hf6;refine G3 ?_;refine .draw (oP [0,1,102,3,104,5,6,407]) Ao zK (.sliceArrLH 0 8 J J J J J J J dE dE dE Y207.h Sz5 (.i1 J J J J Y294.h Sz45 0 J dE (G1 ?_)));refine .i1 J J J J Y294.h Sz45 1 J dE (G1 ?_);refine .shl_u64 J J J J 51 J dE (G1 ?_);refine .callL (L:=[⟨n6,Aa (List.replicate 32 0),207,32⟩]) J J J J J Body293 (field_put n6 0 8 32 32 (List.replicate 32 0) ((stF w).a|||A1 (stF w).b 51) _ dE sP) (Ab rM Ai) (Cf J) (fun w h=>Bg h Z0) ?_;rintro v59 out59 rfl;rw[set8_1];refine G3 ?_;refine .draw (oP [0,1,102,3,4,105,6,7,408]) Ao zK (.sliceArrLH 8 16 J J J J J J J dE dE dE Y207.h Sz5 (.i1 J J J J Y294.h Sz45 1 J dE (G1 ?_)));refine .shr_u64 J J J J 13 J dE (.i1 J J J J Y294.h Sz45 2 J dE (G1 ?_));refine .shl_u64 J J J J 38 J dE (G1 ?_);refine .callL (L:=[⟨n6,Aa (by8 ((stF w).a|||A1 (stF w).b 51)++List.replicate 24 0),207,32⟩]) J J J J J Body293 (field_put n6 8 8 24 32 (by8 ((stF w).a|||A1 (stF w).b 51)++List.replicate 24 0) (Ar (stF w).b 13|||A1 (stF w).c 38) _ dE (by simp[by8_length])) (Ab rM Ai) (Cf J) (fun w h=>Bg h Z0) ?_;rintro v68 out68 rfl;rw[set8_2];refine G3 ?_;refine .draw (oP [0,1,102,3,4,105,6,7,408]) Ao zK (.sliceArrLH 16 24 J J J J J J J dE dE dE Y207.h Sz5 (.i1 J J J J Y294.h Sz45 2 J dE (G1 ?_)));refine .shr_u64 J J J J 26 J dE (.i1 J J J J Y294.h Sz45 3 J dE (G1 ?_));refine .shl_u64 J J J J 25 J dE (G1 ?_);refine .callL (L:=[⟨n6,Aa (by8 ((stF w).a|||A1 (stF w).b 51)++by8 (Ar (stF w).b 13|||A1 (stF w).c 38)++List.replicate 16 0),207,32⟩]) J J J J J Body293 (field_put n6 16 8 16 32 (by8 ((stF w).a|||A1 (stF w).b 51)++by8 (Ar (stF w).b 13|||A1 (stF w).c 38)++List.replicate 16 0) (Ar (stF w).c 26|||A1 (stF w).d 25) _ dE (by simp[by8_length])) (Ab rM Ai) (Cf J) (fun w h=>Bg h Z0) ?_;rintro v77 out77 rfl;rw[set8_3];refine G3 ?_
 refine .draw (oP [0,1,102,3,4,105,6,7,408]) Ao zK (.sliceArrLH 24 32 J J J J J J J dE dE dE Y207.h Sz5 (.i1 J J J J Y294.h Sz45 3 J dE (G1 ?_)));refine .shr_u64 J J J J 39 J dE (.i1 J J J J Y294.h Sz45 4 J dE (G1 ?_));refine .shl_u64 J J J J 12 J dE (G1 ?_);refine .callL (L:=[⟨n6,Aa (by8 ((stF w).a|||A1 (stF w).b 51)++by8 (Ar (stF w).b 13|||A1 (stF w).c 38)++by8 (Ar (stF w).c 26|||A1 (stF w).d 25)++List.replicate 8 0),207,32⟩]) J J J J J Body293 (field_put n6 24 8 8 32 (by8 ((stF w).a|||A1 (stF w).b 51)++by8 (Ar (stF w).b 13|||A1 (stF w).c 38)++by8 (Ar (stF w).c 26|||A1 (stF w).d 25)++List.replicate 8 0) (Ar (stF w).d 39|||A1 (stF w).e 12) _ dE (by simp[by8_length])) (Ab rM Ai) (Cf J) (fun w h=>Bg h Z0) ?_;rintro v86 out86 rfl;rw[set8_4];refine G4 ?_;refine .lA J J J Y207.h J Sz207 Z0 (by(simp[by8_length];done)) ?_;refine .sA J J J J zE Sz207 (by(simp[by8_length];done)) Z1 sP zV ?_;refine G2 ?_;refine G2 ?_;refine⟨_,[],Am J J Y207.h J Sz207 Z1 (by simp[by8_length]),sP,sP,?_,rfl⟩;rw[fb_fe,←store_eq,←by8_store]
theorem field_Rest(a:List UInt8)(ha:a.length=32):Mv 289 [agg (Aa a)] (fun _=>True) (agg (Aa (fb (fe (le a))))):=by
 intro W hW;refine Ac func289 J 6 ntmps289 J (G3 ?_);intro n1 hn1 hf1;refine .alloc (cs:=(Aa (List.replicate 32 0))) J A8 J ?_;intro n2 hn2 hf2;refine G4 ?_;refine .lA J J J Y207.h J Sz207 Z1 (by(simp[ha];done)) ?_;refine .cV J J J J Body290 (field_load a ha) tV (.cV J J J J Body292 (field_store (ldN a)) tV (.sA J J J J zE Sz207 zF Z0 sP zU ?_));refine G2 ?_;refine G2 ?_;refine⟨_,[],Am J J Y207.h J Sz207 Z0 (by simp[Aq]),sP,sP,?_,rfl⟩;rw[ldN_v ha]
theorem field_Canon(a:List UInt8)(ha:a.length=32):Mv 231 [agg (Aa a)] (fun _=>True) (.bool (decide (fb (fe (le a))=a))):=by
 intro W hW;refine Ac func231 J 7 ntmps231 J (G3 ?_);intro n1 hn1 hf1;refine G4 ?_;refine .draw (oP [100,102,301,3,4]) Ao zK (.lA J J J Y207.h J Sz207 Z0 (by(simp[ha];done)) ?_);refine .lA J J J Y207.h J Sz207 Z0 (by(simp[ha];done)) ?_;refine .cV J J J J Body289 (field_Rest a ha) tV (.eql_bytes J J J J eqGuardType207 Y207.h Y5.h Sz5 zF (by(simp[ha];done)) J ?_);refine G3 ?_;refine G2 ?_;refine⟨_,[],Ae J J,sP,sP,?_,rfl⟩;rfl
theorem field_Same(a b:List UInt8)(ha:a.length=32)(hb:b.length=32):Mv 296 [agg (Aa a),agg (Aa b)] (fun _=>True) (.bool (decide (fe (le a)=fe (le b)))):=by
 intro W hW;refine Ac func296 J 10 ntmps296 J (G3 ?_);intro n2 hn2 hf2;refine G1 ?_;intro n3 hn3 hf3;refine G4 ?_;refine .draw (oP [100,102,301,303,4,5]) Ao zK (.lA J J J Y207.h J Sz207 Z1 (by(simp[ha];done)) ?_);refine .lA J J J Y207.h J Sz207 Z0 (by(simp[hb];done)) ?_;refine .cV J J J J Body289 (field_Rest a ha) tV (.cV J J J J Body289 (field_Rest b hb) tV (.eql_bytes J J J J eqGuardType207 Y207.h Y5.h Sz5 zF zF J (G3 ?_)));refine G2 ?_;refine⟨_,[],Ae J J,sP,sP,?_,rfl⟩;rw[fb_dec]
theorem field_Odd(a:List UInt8)(ha:a.length=32):Mv 297 [agg (Aa a)] (fun _=>True) (.bool (decide ((fe (le a)).val%2=1))):=by
 intro W hW;refine Ac func297 J 8 ntmps297 J (G3 ?_);intro n1 hn1 hf1;refine G5 ?_;refine .lA J J J Y207.h J Sz207 Z0 (by(simp[ha];done)) ?_;refine .cV J J J J Body289 (field_Rest a ha) tV (.idxA1 J J J J Y207.h Sz5 Y5.h J 0 J oM (by rfl) ?_);refine .and_u8 J J J (show Ag _ _=some (u8 1)from rfl) (G4 ?_);refine G2 ?_;refine⟨_,[],Ae J J,sP,sP,?_,rfl⟩;exact congrArg Value.bool (odd_byte _)
structure PowS where
  k:Nat
  p:W5
  a:UInt64
  b:UInt64
  c:UInt64
  d:UInt64
theorem leb_small(x:UInt64):leb 8 x.toNat++List.replicate 24 0=leb 32 x.toNat:=by
  have h:=leb_split 24 8 x.toNat;rw[show x.toNat/256^8=0 from Lb0 x.toNat_lt]at h;rw[show leb 24 0=List.replicate 24 0 from by decide]at h;exact h.symm
theorem field_Of(x:UInt64):Mv 234 [u64 x] (fun _=>True) (agg (Aa (fb (fe x.toNat)))):=by
 intro W hW;refine Ac func234 J 8 ntmps234 J (G2 ?_);refine .alloc (cs:=(Aa (List.replicate 32 0))) J A8 J ?_;intro n2 hn2 hf2;refine G4 ?_;refine .alloc (cs:=(Aa (List.replicate 32 0))) J A8 J ?_;intro n3 hn3 hf3;refine G4 ?_;refine .sliceArrHi 8 J J J J J dE dE Y207.h Sz5 (G1 ?_);refine .callL (L:=[⟨n3,Aa (List.replicate 32 0),207,32⟩]) J J J J J Body293 (field_put n3 0 8 32 32 (List.replicate 32 0) (x) _ dE sP) (Ab rM Ai) (Cf J) (fun w h=>Bg h Z0) ?_;rintro v6 out6 rfl;rw[set8_1];refine G4 ?_;refine .lA J J J Y207.h J Sz207 Z0 (by(simp[by8_length];done)) ?_;refine .sA J J J J zE Sz207 (by(simp[by8_length];done)) Z1 sP zV ?_;refine G2 ?_;refine G2 ?_;refine⟨_,[],Am J J Y207.h J Sz207 Z1 (by simp[by8_length]),sP,sP,?_,rfl⟩;rw[fe_small,by8_eq];exact congrArg (fun l=>agg (Aa l)) (leb_small x)
theorem field_Add(a b:List UInt8)(ha:a.length=32)(hb:b.length=32):Mv 235 [agg (Aa a),agg (Aa b)] (fun _=>True) (agg (Aa (fb (fe (le a)+fe (le b))))):=by
 intro W hW;refine Ac func235 J 26 ntmps235 J (G3 ?_);intro n2 hn2 hf2;refine G1 ?_;intro n3 hn3 hf3;refine .alloc (cs:=(Aa (List.replicate 32 0))) J A8 J ?_;intro n4 hn4 hf4;refine G3 ?_;refine .draw (oP [100,102,301,303,204,205,406,407]) Ao zK (.lA J J J Y207.h J Sz207 Z2 (by(simp[ha];done)) ?_);refine .lA J J J Y207.h J Sz207 Z1 (by(simp[hb];done)) ?_;refine .cV J J J J Body290 (field_load a ha) tV (.cV J J J J Body290 (field_load b hb) tV (.alloc (cs:=(Ah (List.replicate 5 0))) J Zr294 J ?_));intro n5 hn5 hf5;refine .alloc (cs:=(Ah (List.replicate 5 0))) J Zr294 J ?_;intro n6 hn6 hf6;refine .sA J J J J zB Sz294 zW Z1 sP zV ?_;refine .sA J J J J zB Sz294 zW Z0 sP zU ?_;refine G9 ?_;refine .rounds 6 (SRounds.more (G6 ?_));refine .cond_t J (rfl) (G10 ?_);refine .draw (oP [0,1,102,3,4,105,6,7,408]) Ao zK (G1 ?_);refine .i1 J J J J Y294.h Sz45 0 J oM (G2 ?_);refine .i1 J J J J Y294.h Sz45 0 J oM (G2 ?_);refine .i1 J J J J Y294.h Sz45 0 J oM (.s1 J J J J J Sz45 Z1 zW (by exact Be _ _ _) zV ?_);refine G7 ?_;refine Ct (SRounds.more (G6 ?_));refine .cond_t J (rfl) (G10 ?_);refine .draw (oP [0,1,102,3,4,105,6,7,408]) Ao zK (G1 ?_);refine .i1 J J J J Y294.h Sz45 1 J oM (G2 ?_);refine .i1 J J J J Y294.h Sz45 1 J oM (G2 ?_);refine .i1 J J J J Y294.h Sz45 1 J oM (.s1 J J J J J Sz45 Z1 zW (by exact Be _ _ _) zV ?_);refine G7 ?_;refine Ct (SRounds.more (G6 ?_));refine .cond_t J (rfl) (G10 ?_);refine .draw (oP [0,1,102,3,4,105,6,7,408]) Ao zK (G1 ?_);refine .i1 J J J J Y294.h Sz45 2 J oM (G2 ?_);refine .i1 J J J J Y294.h Sz45 2 J oM (G2 ?_);refine .i1 J J J J Y294.h Sz45 2 J oM (.s1 J J J J J Sz45 Z1 zW (by exact Be _ _ _) zV ?_);refine G7 ?_;refine Ct (SRounds.more (G6 ?_));refine .cond_t J (rfl) (G10 ?_);refine .draw (oP [0,1,102,3,4,105,6,7,408]) Ao zK (G1 ?_);refine .i1 J J J J Y294.h Sz45 3 J oM (G2 ?_);refine .i1 J J J J Y294.h Sz45 3 J oM (G2 ?_);refine .i1 J J J J Y294.h Sz45 3 J oM (.s1 J J J J J Sz45 Z1 zW (by exact Be _ _ _) zV ?_);refine G7 ?_;refine Ct (SRounds.more (G6 ?_));refine .cond_t J (rfl) (G10 ?_);refine .draw (oP [0,1,102,3,4,105,6,7,408]) Ao zK (G1 ?_);refine .i1 J J J J Y294.h Sz45 4 J oM (G2 ?_);refine .i1 J J J J Y294.h Sz45 4 J oM (G2 ?_);refine .i1 J J J J Y294.h Sz45 4 J oM (.s1 J J J J J Sz45 Z1 zW (by exact Be _ _ _) zV ?_);refine G7 ?_;refine Ct (SRounds.more (G6 ?_));refine .cond_f J (rfl) (G8 ?_);refine .cV J J J J Body292 (field_store (addF (ldN a) (ldN b))) tV (.sA J J J J zE Sz207 zF Z2 sP (by exact upd2) ?_);refine G2 ?_;refine G2 ?_;refine⟨_,[],Am J J Y207.h J Sz207 Z2 (by simp[Aq]),sP,sP,?_,rfl⟩;rw[addF_fe ha hb]
theorem field_Sub(a b:List UInt8)(ha:a.length=32)(hb:b.length=32):Mv 233 [agg (Aa a),agg (Aa b)] (fun _=>True) (agg (Aa (fb (fe (le a)-fe (le b))))):=by
 intro W hW;refine Ac func233 J 34 ntmps233 J (.sr (.boxA J J ?_));intro n2 hn2 hf2;refine .boxA J J ?_;intro n3 hn3 hf3;refine .alloc (cs:=(Aa (List.replicate 32 0))) J A8 J ?_;intro n4 hn4 hf4;refine .na (.seq (.draw (oP [100,102,301,303,204,205,406,407]) Ao zK (.lA J J J Y207.h J Sz207 Z2 (by(simp[ha];done)) ?_)));refine .lA J J J Y207.h J Sz207 Z1 (by(simp[hb];done)) ?_;refine .cV J J J J Body290 (field_load a ha) tV (.cV J J J J Body290 (field_load b hb) tV (.alloc (cs:=(Ah (List.replicate 5 0))) J Zr294 J ?_));intro n5 hn5 hf5;refine .alloc (cs:=(Ah (List.replicate 5 0))) J Zr294 J ?_;intro n6 hn6 hf6;refine .sA J J J J zB Sz294 zW Z1 sP zV ?_;refine .sA J J J J zB Sz294 zW Z0 sP zU ?_;refine .nsr (.i1 J J J J Y294.h Sz45 0 J dE (.load1 J J J Y45.h J Z1 (by rfl) ?_));refine .i1 J J J J Y294.h Sz45 0 J dE (.load1 J J J Y45.h J Z0 (by rfl) ?_);refine .sub_u64 J J (show Ag _ _=some (u64 9007199254740916)from rfl) J (.add_u64 J J J J (.i1 J J J J Y294.h Sz45 0 J dE (.s1 J J J J J Sz45 Z1 zW (by exact Be _ _ _) zV ?_)));refine .na (.seq (.sr (.a J J J (.na (.block (.rounds 5 (SRounds.more (.seq (.sr (.m J J J (.lss J J J J J (.na (.cond_t J (rfl) (.skip (Ct (.seq (.block (.draw (oP [0,1,102,3,4,105,6,7,8,409]) Ao zK (.m J J J (.i1 J J J J Y294.h Sz45 1 J oM (.load1 J J J Y45.h J Z1 (by rfl) ?_)))))))))))))))))))));refine .m J J J (.i1 J J J J Y294.h Sz45 1 J oM (.load1 J J J Y45.h J Z0 (by rfl) ?_));refine .sub_u64 J J (show Ag _ _=some (u64 9007199254740988)from rfl) J (.add_u64 J J J J (.i1 J J J J Y294.h Sz45 1 J oM (.s1 J J J J J Sz45 Z1 zW (by exact Be _ _ _) zV ?_)));refine .nil (bl_n (Ct (.region (.m J J J (.aI J J J J oM (.a J J J (.na (SRounds.more (.seq (.sr (.m J J J (.lss J J J J J (.na (.cond_t J (rfl) (.skip (Ct (.seq (.block (.draw (oP [0,1,102,3,4,105,6,7,8,409]) Ao zK (.m J J J (.i1 J J J J Y294.h Sz45 2 J oM (.load1 J J J Y45.h J Z1 (by rfl) ?_))))))))))))))))))))));refine .m J J J (.i1 J J J J Y294.h Sz45 2 J oM (.load1 J J J Y45.h J Z0 (by rfl) ?_));refine .sub_u64 J J (show Ag _ _=some (u64 9007199254740988)from rfl) J (.add_u64 J J J J (.i1 J J J J Y294.h Sz45 2 J oM (.s1 J J J J J Sz45 Z1 zW (by exact Be _ _ _) zV ?_)));refine .nil (bl_n (Ct (.region (.m J J J (.aI J J J J oM (.a J J J (.na (SRounds.more (.seq (.sr (.m J J J (.lss J J J J J (.na (.cond_t J (rfl) (.skip (Ct (.seq (.block (.draw (oP [0,1,102,3,4,105,6,7,8,409]) Ao zK (.m J J J (.i1 J J J J Y294.h Sz45 3 J oM (.load1 J J J Y45.h J Z1 (by rfl) ?_))))))))))))))))))))));refine .m J J J (.i1 J J J J Y294.h Sz45 3 J oM (.load1 J J J Y45.h J Z0 (by rfl) ?_));refine .sub_u64 J J (show Ag _ _=some (u64 9007199254740988)from rfl) J (.add_u64 J J J J (.i1 J J J J Y294.h Sz45 3 J oM (.s1 J J J J J Sz45 Z1 zW (by exact Be _ _ _) zV ?_)))
 refine .nil (bl_n (Ct (.region (.m J J J (.aI J J J J oM (.a J J J (.na (SRounds.more (.seq (.sr (.m J J J (.lss J J J J J (.na (.cond_t J (rfl) (.skip (Ct (.seq (.block (.draw (oP [0,1,102,3,4,105,6,7,8,409]) Ao zK (.m J J J (.i1 J J J J Y294.h Sz45 4 J oM (.load1 J J J Y45.h J Z1 (by rfl) ?_))))))))))))))))))))));refine .m J J J (.i1 J J J J Y294.h Sz45 4 J oM (.load1 J J J Y45.h J Z0 (by rfl) ?_));refine .sub_u64 J J (show Ag _ _=some (u64 9007199254740988)from rfl) J (.add_u64 J J J J (.i1 J J J J Y294.h Sz45 4 J oM (.s1 J J J J J Sz45 Z1 zW (by exact Be _ _ _) zV ?_)));refine .nil (bl_n (Ct (.region (.m J J J (.aI J J J J oM (.a J J J (.na (SRounds.more (.seq (.sr (.m J J J (.lss J J J J J (.na (.cond_f J (rfl) (.exit (at_x (at_x (bl_h (Ct (.sr (.lA J J J Y294.h J Sz294 Z1 zW ?_)))))))))))))))))))));refine .cV J J J J Body292 (field_store (subF (ldN a) (ldN b))) tV (.sA J J J J zE Sz207 zF Z2 sP (by exact upd2) ?_);refine .na ?_;refine .ret (en_r ?_);refine⟨_,[],Am J J Y207.h J Sz207 Z2 (by simp[Aq]),sP,sP,?_,rfl⟩;rw[subL_fe ha hb]
theorem field_Neg(a:List UInt8)(ha:a.length=32):Mv 239 [agg (Aa a)] (fun _=>True) (agg (Aa (fb (-fe (le a))))):=by
 intro W hW;refine Ac func239 J 6 ntmps239 J (G3 ?_);intro n1 hn1 hf1;refine .alloc (cs:=(Aa (List.replicate 32 0))) J A8 J ?_;intro n2 hn2 hf2;refine G4 ?_;refine .build (cs:=Aa (List.replicate 32 0)) J J J (fun w=>by kernel_rfl) ?_;refine .lA J J J Y207.h J Sz207 Z1 (by(simp[ha];done)) ?_;refine .cV J J J J Body233 (field_Sub (List.replicate 32 0) a J ha) tV (.sA J J J J zE Sz207 zF Z0 sP zU ?_);refine G2 ?_;refine G2 ?_;refine⟨_,[],Am J J Y207.h J Sz207 Z0 (by simp[Aq]),sP,sP,?_,rfl⟩;rw[show fe (le (List.replicate 32 0))-fe (le a)= -fe (le a)from by rw[show fe (le (List.replicate 32 0))=0 by kernel_rfl];grind]
theorem field_Mul(a b:List UInt8)(ha:a.length=32)(hb:b.length=32):Mv 232 [agg (Aa a),agg (Aa b)] (fun _=>True) (agg (Aa (fb (fe (le a)*fe (le b))))):=by
 intro W hW;refine Ac func232 J 13 ntmps232 J (G3 ?_);intro n2 hn2 hf2;refine G1 ?_;intro n3 hn3 hf3;refine .alloc (cs:=(Aa (List.replicate 32 0))) J A8 J ?_;intro n4 hn4 hf4;refine G3 ?_;refine .draw (oP [100,102,301,303,204,205,406,407]) Ao zK (.lA J J J Y207.h J Sz207 Z2 (by(simp[ha];done)) ?_);refine .lA J J J Y207.h J Sz207 Z1 (by(simp[hb];done)) ?_;refine .cV J J J J Body290 (field_load a ha) tV (.cV J J J J Body290 (field_load b hb) tV (.alloc (cs:=(Ah (List.replicate 5 0))) J Zr294 J ?_));intro n5 hn5 hf5;refine .alloc (cs:=(Ah (List.replicate 5 0))) J Zr294 J ?_;intro n6 hn6 hf6;refine .sA J J J J zB Sz294 zW Z1 sP zV ?_;refine .sA J J J J zB Sz294 zW Z0 sP zU ?_;refine G4 ?_;refine .cV J J J J Body291 (field_product n5 n6 (ldN a) (ldN b)) (fun w h=>⟨Ap h Z1,Ap h Z0⟩) ?_;refine .cV J J J J Body292 (field_store (mulF (ldN a) (ldN b))) tV (.sA J J J J zE Sz207 zF Z2 sP (by exact upd2) ?_);refine G2 ?_;refine G2 ?_;refine⟨_,[],Am J J Y207.h J Sz207 Z2 (by simp[Aq]),sP,sP,?_,rfl⟩;rw[mulL_fe ha hb]
theorem field_shifted(a b c d:UInt64):Mv 321 [agg (Ah [a,b,c,d])] (fun _=>True) (agg (Ah [A1 a 1,A1 b 1|||Ar a 63,A1 c 1|||Ar b 63,A1 d 1|||Ar c 63])):=by
 intro W hW;refine Ac func321 J 25 ntmps321 J (G3 ?_);intro n1 hn1 hf1;refine .alloc (cs:=(Ah (List.replicate 4 0))) J Zr237 J ?_;intro n2 hn2 hf2;refine G9 ?_;refine .rounds 4 (SRounds.more (G7 ?_));refine .cond_t J (rfl) (G4 ?_);refine .draw (oP [0,1,2,103,4,5,6,7,108,9,10,11,412]) Ao zK (G2 ?_);refine .i1 J J J J Y237 Sz45 3 J oM (G1 ?_);refine .shl_u64 J J J J 1 J dE (G2 ?_);refine .i1 J J J J Y237 Sz45 2 J oM (G1 ?_);refine .shr_u64 J J J J 63 J dE (G1 ?_);refine .i1 J J J J Y237 Sz45 3 J oM (.s1 J J J J J Sz45 Z1 sP (by exact Be _ _ _) zV ?_);refine G8 ?_;refine Ct (SRounds.more (G7 ?_));refine .cond_t J (rfl) (G4 ?_);refine .draw (oP [0,1,2,103,4,5,6,7,108,9,10,11,412]) Ao zK (G2 ?_);refine .i1 J J J J Y237 Sz45 2 J oM (G1 ?_);refine .shl_u64 J J J J 1 J dE (G2 ?_);refine .i1 J J J J Y237 Sz45 1 J oM (G1 ?_);refine .shr_u64 J J J J 63 J dE (G1 ?_);refine .i1 J J J J Y237 Sz45 2 J oM (.s1 J J J J J Sz45 Z1 sP (by exact Be _ _ _) zV ?_);refine G8 ?_;refine Ct (SRounds.more (G7 ?_));refine .cond_t J (rfl) (G4 ?_);refine .draw (oP [0,1,2,103,4,5,6,7,108,9,10,11,412]) Ao zK (G2 ?_);refine .i1 J J J J Y237 Sz45 1 J oM (G1 ?_);refine .shl_u64 J J J J 1 J dE (G2 ?_);refine .i1 J J J J Y237 Sz45 0 J oM (G1 ?_);refine .shr_u64 J J J J 63 J dE (G1 ?_);refine .i1 J J J J Y237 Sz45 1 J oM (.s1 J J J J J Sz45 Z1 sP (by exact Be _ _ _) zV ?_);refine G8 ?_;refine Ct (SRounds.more (G7 ?_));refine .cond_f J (rfl) (G7 ?_);refine .i1 J J J J Y237 Sz45 0 J dE (G1 ?_);refine .shl_u64 J J J J 1 J dE (.i1 J J J J Y237 Sz45 0 J dE (.s1 J J J J J Sz45 Z1 sP (by exact Be _ _ _) zV ?_));refine G4 ?_;refine .lA J J J Y237 J Sz237 Z1 sP ?_;refine .sA J J J J zB Sz237 sP Z0 sP zU ?_;refine G2 ?_;refine G2 ?_;refine⟨_,[],Am J J Y237 J Sz237 Z0 sP,sP,sP,?_,rfl⟩;rfl
theorem field_ones(f l:UInt8):Mv 295 [u8 f,u8 l] (fun _=>True) (agg (Aa (onesB f l))):=by
 intro W hW;refine Ac func295 J 18 ntmps295 J (G2 ?_);refine .alloc (cs:=(Aa (List.replicate 32 0))) J A8 J ?_;intro n4 hn4 hf4;refine G4 ?_;refine .alloc (cs:=(Aa (List.replicate 32 0))) J A8 J ?_;intro n5 hn5 hf5;refine G9 ?_;refine .loop (ι:=Nat) (fun k=>⟨[(0,u8 f),(1,u8 l),(4,ptr n4 0),(5,ptr n5 0),(7,i64 (k:Int))],[⟨n5,Aa (List.replicate k 255++List.replicate (32-k) 0),207,32⟩,⟨n4,Aa (List.replicate 32 0),207,32⟩]⟩) (fun k=>k≤32) (fun k=>32-k) (0) ?_ ?_ ?_
 ·omega
 ·exact Ad wN (wh1 Z0 (wh1 Z1 wh0)) nD
 rintro k hi;refine G6 ?_;refine .condP J (fun hc0=>?_) (fun hc0=>?_)
 ·
  have hk2:k<32:=by omega
  refine G12 ?_;refine .i1 J J J J Y207.h Sz5 _ J oM (.s1 J J J (show Ag _ _=some (u8 255)from rfl) J Sz5 Z0 (by(simp;omega)) (by exact Bi _ _ _) zU ?_);refine G8 ?_;exact⟨k+1,by omega,by omega,Ad wN (wh1 (by rw[←ones_step hk2];exact Bp) (wh1 Z1 wh0)) nD⟩
 obtain rfl:k=32:=by omega
 rw[show((List.replicate 32 255++List.replicate (32-32) 0):List UInt8)=List.replicate 32 255 from rfl];refine G9 ?_;refine .i1 J J J J Y207.h Sz5 0 J dE (.s1 J J J J J Sz5 Z0 sP (by exact Bi _ _ _) zU ?_);refine .i1 J J J J Y207.h Sz5 31 J dE (.s1 J J J J J Sz5 Z0 sP (by exact Bi _ _ _) zU ?_);refine G4 ?_;refine .lA J J J Y207.h J Sz207 Z0 sP ?_;refine .sA J J J J zE Sz207 sP Z1 sP zV ?_;refine G2 ?_;refine G2 ?_;refine⟨_,[],Am J J Y207.h J Sz207 Z1 sP,sP,sP,?_,rfl⟩;rfl
theorem field_Pow(a e:List UInt8)(ha:a.length=32)(he:e.length=32):Mv 294 [agg (Aa a),agg (Aa e)] (fun _=>True) (agg (Aa (fb (Cy (fe (le a)) (le e))))):=by
 intro W hW;have hE:le e<2^256:=le32 he;have hXf:(ldN a).fit:=(ldN_lt a).fit;have hXv:fe (ldN a).v=fe (le a):=by rw[ldN_v ha]
 refine Ac func294 J 26 ntmps294 J (G3 ?_);intro n2 hn2 hf2;refine G1 ?_;intro n3 hn3 hf3;refine .alloc (cs:=(Aa (List.replicate 32 0))) J A8 J ?_;intro n4 hn4 hf4;refine G3 ?_;refine .draw (oP [100,102,4,301,303,205,206,207,408,409,410]) Ao zK (.lA J J J Y207.h J Sz207 Z2 (by(simp[ha];done)) ?_);refine .lA J J J Y207.h J Sz207 Z1 (by(simp[he];done)) ?_;refine .build (cs:=Ah (⟨1,0,0,0,0⟩:W5).l) J J J (fun w=>by kernel_rfl) ?_;refine .cV J J J J Body290 (field_load a ha) tV (.cV J J J J Body317 (field_quarters e he) tV (.alloc (cs:=(Ah (List.replicate 5 0))) J Zr294 J ?_));intro n5 hn5 hf5;refine .alloc (cs:=(Ah (List.replicate 4 0))) J Zr237 J ?_;intro n6 hn6 hf6;refine .alloc (cs:=(Ah (List.replicate 5 0))) J Zr294 J ?_;intro n7 hn7 hf7;refine .sA J J J J zB Sz294 zW Z2 sP (by exact upd2) ?_;refine .sA J J J J zB Sz237 sP Z1 sP zV ?_;refine .sA J J J J zB Sz294 zW Z0 sP zU ?_;refine G9 ?_;refine .loop (ι:=PowS) (fun s=>⟨[(4,ptr n4 0),(5,ptr n5 0),(6,ptr n6 0),(7,ptr n7 0),(13,i64 (s.k:Int))],[⟨n7,Ah s.p.l,294,5⟩,⟨n6,Ah [s.a,s.b,s.c,s.d],237,4⟩,⟨n5,Ah (ldN a).l,294,5⟩,⟨n4,Aa (List.replicate 32 0),207,32⟩]⟩) (fun s=>PowI (le e) (fe (le a)) s.k s.p s.a s.b s.c s.d) (fun s=>256-s.k) (⟨0,⟨1,0,0,0,0⟩,qw e 0,qw e 1,qw e 2,qw e 3⟩) ?_ ?_ ?_
 ·exact PowI.first he _
 ·exact Ad wN (wh1 Z0 (wh1 Z1 (wh1 Z2 (wh1 Z3 wh0)))) nD
 rintro s hs;have hsl:=hs.le;refine G6 ?_;refine .condP J (fun hc0=>?_) (fun hc0=>?_)
 ·
  have hk2:s.k<256:=by omega
  refine G6 ?_;refine .cV J J J J Body291 (field_product n7 n7 s.p s.p) (fun w h=>⟨Ap h Z0,Ap h Z0⟩) ?_;refine G3 ?_;refine .join (ι:=W5) (fun u=>⟨[(4,ptr n4 0),(5,ptr n5 0),(6,ptr n6 0),(7,ptr n7 0),(13,i64 (s.k:Int))],[⟨n7,Ah u.l,294,5⟩,⟨n6,Ah [s.a,s.b,s.c,s.d],237,4⟩,⟨n5,Ah (ldN a).l,294,5⟩,⟨n4,Aa (List.replicate 32 0),207,32⟩]⟩) (fun u=>PowI (le e) (fe (le a)) (s.k+1) u (A1 s.a 1) (A1 s.b 1|||Ar s.a 63) (A1 s.c 1|||Ar s.b 63) (A1 s.d 1|||Ar s.c 63)) ?_ ?_
  ·
   refine G2 ?_;refine .i1 J J J J Y237 Sz45 3 J dE (G1 ?_);refine .shr_u64 J J J J 63 J dE (G3 ?_);refine .condP J (fun hc1=>?_) (fun hc1=>?_)
   ·
    have hb1:(Ar s.d 63).toNat=1:=by omega
    refine .region (.cV J J J J Body291 (field_product n7 n5 (mulF s.p s.p) (ldN a)) (fun w h=>⟨Ap h Z0,Ap h Z2⟩) ?_);refine G3 ?_;exact⟨mulF (mulF s.p s.p) (ldN a),hs.odd hE hk2 hXf hXv hb1,Ad wN (wh1 Z0 (wh1 Z1 (wh1 Z2 (wh1 Z3 wh0)))) nD⟩
   have hb1:¬(Ar s.d 63).toNat=1:=by omega
   refine G2 ?_;exact⟨mulF s.p s.p,hs.even hE hk2 hb1,Ad wN (wh1 Z0 (wh1 Z1 (wh1 Z2 (wh1 Z3 wh0)))) nD⟩
  intro u hj;have hu:=hj;refine .region (.lA J J J Y237 J Sz237 Z1 sP ?_);refine .cV J J J J Body321 (field_shifted s.a s.b s.c s.d) tV (.sA J J J J zB Sz237 sP Z1 sP zV ?_);refine G8 ?_;exact⟨⟨s.k+1,u,_,_,_,_⟩,hu,by simp only[];omega,Ad wN (wh1 Z0 (wh1 Z1 (wh1 Z2 (wh1 Z3 wh0)))) nD⟩
 have hke:s.k=256:=by omega
 have hfin:fe s.p.v=Cy (fe (le a)) (le e):=by rw[hke]at hs;exact hs.last
 refine G8 ?_;refine .cV J J J J Body292 (field_store s.p) tV (.sA J J J J zE Sz207 zF Z3 sP (by exact upd3) ?_);refine G2 ?_;refine G2 ?_;refine⟨_,[],Am J J Y207.h J Sz207 Z3 (by simp[Aq]),sP,sP,?_,rfl⟩;rw[hfin]
theorem field_Inv(a:List UInt8)(ha:a.length=32):Mv 238 [agg (Aa a)] (fun _=>True) (agg (Aa (fb (finv (fe (le a)))))):=by
 intro W hW;refine Ac func238 J 6 ntmps238 J (G3 ?_);intro n1 hn1 hf1;refine .alloc (cs:=(Aa (List.replicate 32 0))) J A8 J ?_;intro n2 hn2 hf2;refine G3 ?_;refine .draw (oP [100,301,302,403]) Ao zK (.lA J J J Y207.h J Sz207 Z1 (by(simp[ha];done)) ?_);refine .cV J J J J Body295 (field_ones 235 127) tV (.cV J J J J Body294 (field_Pow a (onesB 235 127) ha (onesB_length _ _)) tV (.sA J J J J zE Sz207 zF Z0 sP zU ?_));refine G2 ?_;refine G2 ?_;refine⟨_,[],Am J J Y207.h J Sz207 Z0 (by simp[Aq]),sP,sP,?_,rfl⟩;rw[ones_inv];rfl
theorem f_mul(x y:Fp):Mv 232 [agg (Aa (fb x)),agg (Aa (fb y))] (fun _=>True) (agg (Aa (fb (x*y)))):=by
  have h:=field_Mul (fb x) (fb y) (Aq x) (Aq y);rwa[fe_fb x,fe_fb y]at h
theorem f_add(x y:Fp):Mv 235 [agg (Aa (fb x)),agg (Aa (fb y))] (fun _=>True) (agg (Aa (fb (x+y)))):=by
  have h:=field_Add (fb x) (fb y) (Aq x) (Aq y);rwa[fe_fb x,fe_fb y]at h
theorem f_sub(x y:Fp):Mv 233 [agg (Aa (fb x)),agg (Aa (fb y))] (fun _=>True) (agg (Aa (fb (x-y)))):=by
  have h:=field_Sub (fb x) (fb y) (Aq x) (Aq y);rwa[fe_fb x,fe_fb y]at h
theorem f_neg(x:Fp):Mv 239 [agg (Aa (fb x))] (fun _=>True) (agg (Aa (fb (-x)))):=by
  have h:=field_Neg (fb x) (Aq x);rwa[fe_fb x]at h
theorem f_inv(x:Fp):Mv 238 [agg (Aa (fb x))] (fun _=>True) (agg (Aa (fb (finv x)))):=by
  have h:=field_Inv (fb x) (Aq x);rwa[fe_fb x]at h
theorem f_odd(x:Fp):Mv 297 [agg (Aa (fb x))] (fun _=>True) (.bool (decide (x.val%2=1))):=by
  have h:=field_Odd (fb x) (Aq x);rwa[fe_fb x]at h
theorem f_same_raw(x:Fp)(a:List UInt8)(ha:a.length=32):Mv 296 [agg (Aa (fb x)),agg (Aa a)] (fun _=>True) (.bool (decide (x=fe (le a)))):=by
  have h:=field_Same (fb x) a (Aq x) ha;rwa[fe_fb x]at h
theorem f_pow_root(a:List UInt8)(ha:a.length=32):Mv 294 [agg (Aa a),agg (Aa (onesB 254 15))] (fun _=>True) (agg (Aa (fb (Cy (fe (le a)) ((PF+3)/8))))):=by
  have h:=field_Pow a (onesB 254 15) ha (onesB_length _ _);rwa[ones_root]at h
theorem f_pow_unit:Mv 294 [agg (Aa (fb (fe (2:UInt64).toNat))),agg (Aa (onesB 251 31))] (fun _=>True) (agg (Aa (fb (Cy (fe 2) ((PF-1)/4))))):=by
  have h:=field_Pow (fb (fe (2:UInt64).toNat)) (onesB 251 31) (Aq _) (onesB_length _ _);rwa[ones_unit,fe_fb]at h
theorem f_one:Mv 234 [u64 1] (fun _=>True) (agg (Aa (fb 1))):=by
  have h:=field_Of 1;rwa[show fe (1:UInt64).toNat=1 from rfl]at h
theorem field_Root(a:List UInt8)(X:Fp)(ha:a.length=32)(hX:fe (le a)=X):Mv 237 [agg (Aa a)] (fun _=>True) (.tuple #[agg (Aa (fb (fRoot X).1)), .bool (fRoot X).2]):=by
 intro W hW;obtain⟨r0,hr0⟩:∃r,Cy X ((PF+3)/8)=r:=⟨_,rfl⟩;obtain⟨un,hun⟩:∃r,Cy (fe 2) ((PF-1)/4)=r:=⟨_,rfl⟩;obtain⟨r1,hr1⟩:∃r,fRoot1 X=r:=⟨_,rfl⟩;have hp0:=f_pow_root a ha;have hpu:=f_pow_unit;rw[hX,hr0]at hp0;rw[hun]at hpu;have hm:=fun y=>f_same_raw y a ha;rw[hX]at hm;have hr1':r1=if r0*r0=X then r0 else r0*un:=by rw[←hr1,fRoot1,hr0,hun]
 have hR:fRoot X=if r1*r1=X then((if r1.val%2=1 then-r1 else r1),true)else(0,false):=by rw[fRoot,hr1]
 clear hr1;refine Ac func237 J 31 ntmps237 J (G3 ?_);intro n1 hn1 hf1;refine .alloc (cs:=(Aa (List.replicate 32 0))) J A8 J ?_;intro n2 hn2 hf2;refine G4 ?_;refine .draw (oP [100,301,302,203,404]) Ao zK (.lA J J J Y207.h J Sz207 Z1 (by(simp[ha];done)) ?_);refine .cV J J J J Body295 (field_ones 254 15) tV (.cV J J J J Body294 (hp0) tV (.alloc (cs:=(Aa (List.replicate 32 0))) J A8 J ?_));intro n4 hn4 hf4;refine .sA J J J J zE Sz207 zF Z0 sP zU ?_;refine G2 ?_;refine .join (ι:=Unit) (fun _u=>⟨[(1,ptr n1 0),(2,ptr n2 0),(4,ptr n4 0)],[⟨n4,Aa (fb r1),207,32⟩,⟨n2,Aa (List.replicate 32 0),207,32⟩,⟨n1,Aa a,207,(Aa a).length⟩]⟩) (fun _u=>True) ?_ ?_
 ·
  refine .seq (.draw (oP [100,101,103,302,304,5]) Ao zK (G2 ?_));refine .lA J J J Y207.h J Sz207 Z2 (by(simp[ha];done)) ?_;refine .cV J J J J Cl (f_mul r0 r0) tV (.cV J J J J Body296 (hm (r0*r0)) tV (G3 ?_));refine .condNP J (fun hc0=>?_) (fun hc0=>?_)
  ·
   refine .draw (oP [100,301,302,303,304,405]) Ao zK (G1 ?_);refine .cV J J J J Body234 (field_Of 2) tV (.cV J J J J Body295 (field_ones 251 31) tV (.cV J J J J Body294 (hpu) tV (.cV J J J J Cl (f_mul r0 un) tV (G3 ?_))))
   (rw[hr1',if_neg hc0];exact⟨(),trivial,Ad wN (wh1 Z0 (wh1 Z1 (wh1 Z2 wh0))) nD⟩)
  refine G2 ?_
  (rw[hr1',if_pos hc0];exact⟨(),trivial,Ad wN (wh1 Z0 (wh1 Z1 (wh1 Z2 wh0))) nD⟩)
 intro _u hj;skip;refine G2 ?_;refine .draw (oP [100,101,103,302,304,5]) Ao zK (G2 ?_);refine .lA J J J Y207.h J Sz207 Z2 (by(simp[ha];done)) ?_;refine .cV J J J J Cl (f_mul r1 r1) tV (.cV J J J J Body296 (hm (r1*r1)) tV (G3 ?_));refine .condNP J (fun hc1=>?_) (fun hc1=>?_)
 ·
  refine G2 ?_;refine .build (cs:=Aa (List.replicate 32 0)) J J J (fun w=>by kernel_rfl) ?_;refine .sA J J J J zE Sz207 sP Z1 sP zV ?_;refine G3 ?_;refine G3 ?_;refine⟨_,[],Bd J J J Y207.h J Sz207 Z1 sP,sP,sP,?_,rfl⟩
  (rw[hR,if_neg hc1,fb_zero];done)
 refine G2 ?_;refine .join (ι:=Unit) (fun _u=>⟨[(2,ptr n2 0),(4,ptr n4 0)],[⟨n4,Aa (fb (if r1.val%2=1 then-r1 else r1)),207,32⟩,⟨n2,Aa (List.replicate 32 0),207,32⟩]⟩) (fun _u=>True) ?_ ?_
 ·
  refine G3 ?_;refine .cV J J J J Body297 (f_odd r1) tV (G2 ?_);refine .condP J (fun hc2=>?_) (fun hc2=>?_)
  ·
   refine G2 ?_;refine .cV J J J J Body239 (f_neg r1) tV (G3 ?_)
   (rw[if_pos hc2];exact⟨(),trivial,Ad wN (wh1 Z0 (wh1 Z1 wh0)) nD⟩)
  refine G2 ?_
  (rw[if_neg hc2];exact⟨(),trivial,Ad wN (wh1 Z0 (wh1 Z1 wh0)) nD⟩)
 intro _u hj;skip;refine G3 ?_;refine .sA J J J J zE Sz207 zF Z1 sP zV ?_;refine G3 ?_;refine G2 ?_;refine⟨_,[],Bd J J J Y207.h J Sz207 Z1 (by simp[Aq]),sP,sP,?_,rfl⟩
 (rw[hR,if_pos hc1];done)
end Go.Proofs.YtpogmfngccolbaaGreat
namespace Go.Proofs.YtpogmfngccolbaaGreat
open Go Hw _root_.Go.Proofs.Tryz
theorem scalar_canon(a:List UInt8)(ha:a.length=32):Mv 189 [agg (Aa a)] (fun _=>True) (.bool (decide (le a<L))):=by
 intro W hW;refine Ac func189 J 7 ntmps189 J (G3 ?_);intro n1 hn1 hf1;refine G5 ?_;refine .lA J J J Y207.h J Sz207 Z0 (by(simp[ha];done)) ?_;refine .cV J J J J Body228 (scalar_load_n _ (by simp[ha])) tV ?_;refine .cV J J J J Body230 (scalar_modulus_n) tV (.cV J J J J Body229 (scalar_below_n _ _ (le32 ha) L_lt) tV (G3 ?_));refine G2 ?_;refine⟨_,[],Ae J J,sP,sP,?_,rfl⟩;rfl
theorem scalar_rest(b o c n:Nat)(xs:List UInt8)(hx:xs.length=n)(hn:n≤64):Mv 248 [.slice (some ⟨b,o,none⟩) n c] (fun W=>Cd W b o (Aa xs)) (.tuple #[agg (Aa (leb 32 (le xs%L))),i64 0]):=by
 intro W hW;refine Ac func248 J 34 ntmps248 J (G2 ?_);refine .alloc (cs:=(Aa (List.replicate 32 0))) J A8 J ?_;intro n2 hn2 hf2;refine G8 ?_;refine .gtr J J J J (decide_eq_false oM) (G2 ?_);refine .cond_f J (rfl) (G4 ?_);refine .alloc (cs:=(Ah (List.replicate 8 0))) J Zr185 J ?_;intro n4 hn4 hf4;refine G11 ?_;refine .loop (ι:=Nat) (fun k=>⟨[(2,ptr n2 0),(4,ptr n4 0),(11, .slice (some ⟨b,o,none⟩) n c),(12,i64 (n:Int)),(13,i64 (k:Int))],[⟨n4,Ah (words8 (le (xs.take k))),185,8⟩,⟨n2,Aa (List.replicate 32 0),207,32⟩]⟩) (fun k=>k≤n) (fun k=>n-k) (0) ?_ ?_ ?_
 ·omega
 ·exact Ad wN (wh1 (by rw[Ldu,show le []=0 from rfl,words8_zero];exact Bp) (wh1 Z1 wh0)) nD
 rintro k hi;refine G6 ?_;refine .condP J (fun hc1=>?_) (fun hc1=>?_)
 ·
  refine G7 ?_;refine .idxSlO J J J J Y46.h Sz5 _ J oM (.loadE J J J Y5.h J sP (hW _ _ (B0 oM)) (G4 ?_));refine .draw (oP [0,1,2,3,104,5,6,7,8,9,10,11,12,413]) Ao zK (G1 ?_);refine .quo_i64 J J J J oM (G1 ?_);refine .i1 J J J J Y185.h Sz45 (7-k/8) oM oM (.load1 J J J Y45.h J Z0 (by exact get_words (by(simp[words8_length];omega))) ?_);refine G3 ?_;refine .rem_i64 J J J J oM (.mul_i64 J J J J oM (.shl_u64 J J J J (8*(k%8)) oM oM (G1 ?_)));refine .i1 J J J J Y185.h Sz45 (7-k/8) oM oM (.s1 J J J J J Sz45 Z0 (by(simp[words8_length];omega)) (by exact Be _ _ _) zU ?_);refine G8 ?_;exact⟨k+1,by omega,by omega,Ad wN (wh1 (by rw[le_take_succ xs k oM,words8_step _ _ _ (le_take_lt xs k) oM];exact Bp) (wh1 Z1 wh0)) nD⟩
 obtain rfl:k=n:=by omega
 refine G8 ?_;refine .cV J J J J Body299 (scalar_residue _ _ _ 8 (words8 (le (xs.take k))) J oM) (fun W h=>Ap h Z0) ?_;refine .sA J J J J zB Sz207 (by(simp[Ak];done)) Z1 sP zV ?_;refine G3 ?_;refine G2 ?_;refine⟨_,[],Bd J J J Y207.h J Sz207 Z1 (by simp[Ak]),sP,sP,?_,rfl⟩;rw[wv_words8 (take_512 xs k oM),La5 oM]
theorem scalar_bit_at(a:List UInt8)(ha:a.length=32)(k:Nat)(hk:k<256):Mv 245 [agg (Aa a),i64 (k:Int)] (fun _=>True) (.bool ((le a).testBit k)):=by
 intro W hW;refine Ac func245 J 22 ntmps245 J (G3 ?_);intro n2 hn2 hf2;refine G6 ?_;refine .geq J J J J (decide_eq_true oM) (G2 ?_);refine .lss J J J J (decide_eq_true oM) (G3 ?_);refine .quo_i64 J J J J oM (.i1 J J J J Y207.h Sz5 (k/8) oM oM (G2 ?_));refine .rem_i64 J J J J oM (.shr_u8 J J J J (k%8) oM oM (.and_u8 J J J (show Ag _ _=some (u8 1)from rfl) (G5 ?_)));refine G2 ?_;refine⟨_,[],Ae J J,sP,sP,?_,rfl⟩;rw[←bit_and a k];rfl
open Ed
def ptc(P:Pt Fp):Point:=⟨fb P.x,fb P.y⟩
def wdc(w:Wd Fp):wide:=⟨fb w.x,fb w.y,fb w.z,fb w.t⟩
variable{P:Pt Fp}{b f l:List UInt8}{k:Nat}{r:Fp×Bool}{w:World}
theorem ptc_ok(P:Pt Fp):(ptc P).ok:=⟨fb32 _,fb32 _⟩
theorem Bq(w:Wd Fp):(wdc w).ok:=⟨fb32 _,fb32 _,fb32 _,fb32 _⟩
theorem sees_subC{b o off:Nat}{cs l:List Value}(hs:Cd w b o cs)(h:∀(j:Nat) (v:Value),l[j]? =some v→cs[off+j]? =some v):Cd w b (o+off) l:=fun j v hj=>by
  have:=hs _ v (h j v hj);rwa[←Lcc]at this
theorem ptc_inj{P Q:Pt Fp}:ptc P=ptc Q↔P=Q:=⟨fun h=>by
  obtain⟨x,y⟩:=P;obtain⟨z,w⟩:=Q;simp only[ptc,Point.mk.injEq,fb_inj]at h;rw[h.1,h.2],fun h=>by rw[h]⟩
theorem curve_D  :Mv 236 [] (fun _=>True) (agg (Aa (fb fD))):=by
 intro W hW;refine Ac func236 J 2 ntmps236 J (G2 ?_);refine .alloc (cs:=(Aa (List.replicate 32 0))) J A8 J ?_;intro n0 hn0 hf0;refine G4 ?_;refine .build (cs:=Aa (fb fD)) J J J (fun w=>by kernel_rfl) ?_;refine .sA J J J J zE Sz207 zF Z0 sP zU ?_;refine G2 ?_;refine G2 ?_;refine⟨_,[],Am J J Y207.h J Sz207 Z0 (by simp[Aq]),sP,sP,?_,rfl⟩;rfl
theorem curve_Zero  :Mv 241 [] (fun _=>True) (agg (ptc (zero:Pt Fp)).cells):=by
 intro W hW;refine Ac func241 J 3 ntmps241 J (G2 ?_);refine .alloc (cs:=Point.zero.cells) J Point.zr J ?_;intro n0 hn0 hf0;refine G4 ?_;refine .cV J J J J Body234 (f_one) tV (.build (cs:=(⟨fb 0,fb 1⟩:Point).cells) J J J (fun w=>by kernel_rfl) ?_);refine .sA J J J J (Point.isCell (by exact⟨fb32 _,fb32 _⟩)) Sz210 (Point.length (by exact⟨fb32 _,fb32 _⟩)) Z0 (Point.length zZ) zU ?_;refine G2 ?_;refine G2 ?_;refine⟨_,[],Am J J Y210.h J Sz210 Z0 (by exact Point.length (by exact⟨fb32 _,fb32 _⟩)),sP,sP,?_,rfl⟩;rfl
theorem base_len(h:k≤32):(Aa (bX++(List.replicate k 102++List.replicate (32-k) 0))).length=64:=by
  rw[Aa,La1,La4,La4,Ld5,Ld5,show bX.length=32 from rfl];omega
theorem base_step(h:k<32):(bX++(List.replicate k (102:UInt8)++List.replicate (32-k) 0)).set (32+k) 102=bX++(List.replicate (k+1) 102++List.replicate (32-(k+1)) 0):=by
  rw[Ldf _ _ (by rw[show bX.length=32 from rfl];omega),show bX.length=32 from rfl,show 32+k-32=k by omega,show 32-k=(32-(k+1))+1 by omega,Le1,Ldf _ _ sP];simp[Lfb]
theorem base_end:Aa ((bX++(List.replicate 32 (102:UInt8)++List.replicate (32-32) 0)).set 32 88)=(ptc bP).cells:=by
  show _=Aa (fb bP.x)++Aa (fb bP.y);rw[bP_x,bP_y];kernel_rfl
theorem curve_Base  :Mv 192 [] (fun _=>True) (agg (ptc bP).cells):=by
 intro W hW;refine Ac func192 J 15 ntmps192 J (G2 ?_);refine .alloc (cs:=Point.zero.cells) J Point.zr J ?_;intro n0 hn0 hf0;refine G4 ?_;refine .build (cs:=Aa bX) J J J (fun w=>by kernel_rfl) ?_;refine .build (cs:=(⟨bX,List.replicate 32 0⟩:Point).cells) J J J (fun w=>by kernel_rfl) ?_;refine .alloc (cs:=Point.zero.cells) J Point.zr J ?_;intro n1 hn1 hf1;refine .sA J J J J (Point.isCell (by exact⟨rfl,rfl⟩)) Sz210 (Point.length (by exact⟨rfl,rfl⟩)) Z0 (Point.length (by exact⟨rfl,rfl⟩)) zU ?_;refine G9 ?_;refine .loop (ι:=Nat) (fun k=>⟨[(0,ptr n0 0),(1,ptr n1 0),(5,i64 (k:Int))],[⟨n1,Aa (bX++(List.replicate k 102++List.replicate (32-k) 0)),210,64⟩,⟨n0,Point.zero.cells,210,64⟩]⟩) (fun k=>k≤32) (fun k=>32-k) (0) ?_ ?_ ?_
 ·omega
 ·exact Ad wN (wh1 (by rw[show Aa (bX++(List.replicate 0 102++List.replicate (32-0) 0))=(⟨bX,List.replicate 32 0⟩:Point).cells from by kernel_rfl];exact Bp) (wh1 Z1 wh0)) nD
 rintro k hi;refine G6 ?_;refine .condP J (fun hc0=>?_) (fun hc0=>?_)
 ·
  have hk2:k<32:=by omega
  refine G13 ?_;refine .idxArrO J J J J Y207.h Sz5 k J oM (.s1 J J J J J Sz5 Z0 (by rw[base_len oM];exact(show 32+k<64 by omega)) (by exact Bi _ (32+k) 102) zU ?_);refine G8 ?_;exact⟨k+1,by omega,by omega,Ad wN (wh1 (by rw[←base_step hk2];exact Bp) (wh1 Z1 wh0)) nD⟩
 obtain rfl:k=32:=by omega
 refine G8 ?_;refine .idxArrO J J J J Y207.h Sz5 0 J dE (.s1 J J J J J Sz5 Z0 (by rw[base_len oM];exact(show 32+0<64 by decide)) (by exact Bi _ (32+0) 88) zU ?_);rw[base_end];refine G5 ?_;refine .sA J J J J (Point.isCell zP) Sz210 (Point.length zP) Z1 (Point.length (by exact⟨rfl,rfl⟩)) zV ?_;refine G2 ?_;refine G2 ?_;refine⟨_,[],Am J J Y210.h J Sz210 Z1 (by exact Point.length zP),sP,sP,?_,rfl⟩;rfl
theorem curve_Check(p:Point)(hp:p.ok):Mv 240 [agg p.cells] (fun _=>True) (i64 (pchk p.fX p.fY)):=by
 intro W hW;refine Ac func240 J 38 ntmps240 J (G3 ?_);intro n1 hn1 hf1;refine G7 ?_;refine .lN (Aa _) J J J Y207.h J Sz207 Z0 (Point.row_fX (by exact hp)) (Point.rl_fX (by exact hp)) ?_;refine .callB J J J J Body231 (field_Canon p.fX hp.l_fX) tV (fun hs1_20=>?_) (fun hs1_20=>?_)
 ·
  have hs1_2:=of_decide_eq_true hs1_20;refine G3 ?_;refine .lN (Aa _) J J J Y207.h J Sz207 Z0 (Point.row_fY (by exact hp)) (Point.rl_fY (by exact hp)) ?_;refine .callB J J J J Body231 (field_Canon p.fY hp.l_fY) tV (fun hs1_70=>?_) (fun hs1_70=>?_)
  ·
   have hs1_7:=of_decide_eq_true hs1_70;refine G4 ?_;refine .cond_f J J (G3 ?_);refine .draw (oP [0,101,2,103,5,106,7,108,304,309,210,211,412,413]) Ao zK (G1 ?_);refine .lN (Aa _) J J J Y207.h J Sz207 Z0 (Point.row_fX (by exact hp)) (Point.rl_fX (by exact hp)) ?_;refine G1 ?_;refine .lN (Aa _) J J J Y207.h J Sz207 Z0 (Point.row_fX (by exact hp)) (Point.rl_fX (by exact hp)) ?_;refine G1 ?_;refine .lN (Aa _) J J J Y207.h J Sz207 Z0 (Point.row_fY (by exact hp)) (Point.rl_fY (by exact hp)) ?_;refine G1 ?_;refine .lN (Aa _) J J J Y207.h J Sz207 Z0 (Point.row_fY (by exact hp)) (Point.rl_fY (by exact hp)) ?_;refine .cV J J J J Cl (field_Mul p.fX p.fX hp.l_fX hp.l_fX) tV (.cV J J J J Cl (field_Mul p.fY p.fY hp.l_fY hp.l_fY) tV (.alloc (cs:=(Aa (List.replicate 32 0))) J A8 J ?_));intro n3 hn3 hf3;refine .alloc (cs:=(Aa (List.replicate 32 0))) J A8 J ?_;intro n4 hn4 hf4;refine .sA J J J J zE Sz207 zF Z1 sP zV ?_;refine .sA J J J J zE Sz207 zF Z0 sP zU ?_;refine G3 ?_;refine .draw (oP [102,103,300,301,304,305,306,207,408]) Ao zK (G2 ?_);refine .cV J J J J Body234 (f_one) tV (.cV J J J J Body236 (curve_D) tV (.cV J J J J Cl (f_mul _ _) tV (.cV J J J J Cl (f_mul _ _) tV (.cV J J J J Body235 (f_add _ _) tV (.alloc (cs:=(Aa (List.replicate 32 0))) J A8 J ?_)))));intro n5 hn5 hf5;refine .sA J J J J zE Sz207 zF Z0 sP zU ?_;refine G4 ?_;refine .draw (oP [100,101,103,302,4]) Ao zK (G3 ?_);refine .cV J J J J Body233 (f_sub _ _) tV (.neq_bytes J J J J eqGuardType207 Y207.h Y5.h Sz5 zF zF J (G2 ?_));refine .condNP J (fun hc1=>?_) (fun hc1=>?_)
   ·
    refine G5 ?_;refine G3 ?_;refine⟨_,[],Ae J J,sP,sP,?_,rfl⟩;unfold pchk;exact congrArg i64 (if_neg (fun h=>by exact hc1 (fb_inj.2 h.2.2))).symm
   refine G7 ?_;refine G2 ?_;refine⟨_,[],Ae J J,sP,sP,?_,rfl⟩;unfold pchk;exact congrArg i64 (if_pos ⟨hs1_2,hs1_7,fb_inj.1 hc1⟩).symm
  have hs1_7:=of_decide_eq_false hs1_70;refine G4 ?_;refine .cond_t J J (G5 ?_);refine G3 ?_;refine⟨_,[],Ae J J,sP,sP,?_,rfl⟩;unfold pchk;exact congrArg i64 (if_neg (fun h=>by exact hs1_7 h.2.1)).symm
 have hs1_2:=of_decide_eq_false hs1_20;refine G9 ?_;refine .cond_t J J (G5 ?_);refine G3 ?_;refine⟨_,[],Ae J J,sP,sP,?_,rfl⟩;unfold pchk;exact congrArg i64 (if_neg (fun h=>by exact hs1_2 h.1)).symm
theorem curve_Check_on(P:Pt Fp)(h:cv.on P):Mv 240 [agg (ptc P).cells] (fun _=>True) (i64 0):=by
  have h1:=curve_Check (ptc P) (ptc_ok P);rwa[show pchk (ptc P).fX (ptc P).fY=0 from pchk_on h]at h1
theorem curve_widen(P:Pt Fp):Mv 242 [agg (ptc P).cells] (fun _=>True) (agg (wdc (Wd.of P)).cells):=by
 intro W hW;refine Ac func242 J 14 ntmps242 J (G3 ?_);intro n1 hn1 hf1;refine .alloc (cs:=wide.zero.cells) J wide.zr J ?_;intro n2 hn2 hf2;refine G3 ?_;refine .draw (oP [0,101,2,103,5,106,7,108,304,309,10,411]) Ao zK (G1 ?_);refine .lN (Aa _) J J J Y207.h J Sz207 Z1 (Point.row_fX zP) (Point.rl_fX zP) ?_;refine G1 ?_;refine .lN (Aa _) J J J Y207.h J Sz207 Z1 (Point.row_fY zP) (Point.rl_fY zP) ?_;refine G1 ?_;refine .lN (Aa _) J J J Y207.h J Sz207 Z1 (Point.row_fX zP) (Point.rl_fX zP) ?_;refine G1 ?_;refine .lN (Aa _) J J J Y207.h J Sz207 Z1 (Point.row_fY zP) (Point.rl_fY zP) ?_;refine .cV J J J J Body234 (f_one) tV (.cV J J J J Cl (f_mul P.x P.y) tV (.build (cs:=(wdc (Wd.of P)).cells) J J J (fun w=>by kernel_rfl) ?_));refine .sA J J J J (wide.isCell (by exact Bq _)) Sz250 (wide.length (by exact Bq _)) Z0 (wide.length (by exact wide.zero_ok)) zU ?_;refine G2 ?_;refine G2 ?_;refine⟨_,[],Am J J Y250.h J Sz250 Z0 (by exact wide.length (by exact Bq _)),sP,sP,?_,rfl⟩;rfl
theorem wide_point(n:Nat)(w:Wd Fp):Mv 246 [ptr n 0] (fun W=>Cd W n 0 (wdc w).cells) (agg (ptc (⟨w.x*finv w.z,w.y*finv w.z⟩:Pt Fp)).cells):=by
 intro W hW;have hinv:=f_inv w.z;revert hinv;generalize finv w.z=iz;intro hinv;refine Ac func246 J 22 ntmps246 J (.sr (.alloc (cs:=Point.zero.cells) J Point.zr J ?_));intro n2 hn2 hf2;refine .nsr (.m J J J (.nC J J J (.fld J J J Y250.h J Sz207 dE _ J (.loadEN (Aa (fb w.z)) J J J Y207.h J Sz207 sP (by rw[Aa,La1,Aq]) (sees_subC hW (wide.see_fZ (Bq w))) ?_))));refine .cV J J J J Body238 (hinv) tV (.alloc (cs:=(Aa (List.replicate 32 0))) J A8 J ?_);intro n3 hn3 hf3;refine .sA J J J J zE Sz207 zF Z0 sP zU ?_;refine .na (.seq (.draw (oP [0,1,2,103,104,6,7,8,109,110,305,311,12,413]) Ao zK (.m J J J (.nC J J J (.fld J J J Y250.h J Sz207 dE _ J (.loadEN (Aa (fb w.x)) J J J Y207.h J Sz207 sP (by rw[Aa,La1,Aq]) (sees_subC hW (wide.see_fX (Bq w))) ?_))))));refine .lA J J J Y207.h J Sz207 Z0 zF ?_;refine .m J J J (.nC J J J (.fld J J J Y250.h J Sz207 dE _ J (.loadEN (Aa (fb w.y)) J J J Y207.h J Sz207 sP (by rw[Aa,La1,Aq]) (sees_subC hW (wide.see_fY (Bq w))) ?_)));refine .lA J J J Y207.h J Sz207 Z0 zF ?_;refine .cV J J J J Cl (f_mul _ _) tV (.cV J J J J Cl (f_mul _ _) tV (.build (cs:=(ptc (⟨w.x*iz,w.y*iz⟩:Pt Fp)).cells) J J J (fun w=>by kernel_rfl) ?_));refine .sA J J J J (Point.isCell zP) Sz210 (Point.length zP) Z1 (Point.length zZ) zV ?_;refine .na ?_;refine .ret (en_r ?_);refine⟨_,[],Am J J Y210.h J Sz210 Z1 (by exact Point.length zP),sP,sP,?_,rfl⟩;rfl
theorem wide_finish(n:Nat)(w:Wd Fp)(e f g h:Fp):Meets prog 298 [ptr n 0,agg (Aa (fb e)),agg (Aa (fb f)),agg (Aa (fb g)),agg (Aa (fb h))] [n] (fun W=>BlkOk W ⟨n,(wdc w).cells,250,128⟩) (fun v out=>out=[⟨n,(wdc (Wd.fin e f g h)).cells,250,128⟩]):=by
 intro W hW;refine Br (hp0:=[⟨n,(wdc w).cells,250,128⟩]) func298 J 34 ntmps298 J (HRep.one hW) (G3 ?_);intro n6 hn6 hf6;refine G1 ?_;intro n7 hn7 hf7;refine G1 ?_;intro n8 hn8 hf8;refine G1 ?_;intro n9 hn9 hf9;refine G3 ?_;refine .draw (oP [0,1,102,103,105,106,304,307,8,9,410,11,12,413]) Ao zK (G6 ?_);refine .cV J J J J Cl (f_mul _ _) tV (.cV J J J J Cl (f_mul _ _) tV (G2 ?_));refine .storeN (Aa _) J J J J J zE Sz207 (by simp[Aq]) Z4 (by rw[wide.length (by exact Bq _)];simp[Aq]) (wide.upd_fX (by exact Bq _) _ (by simp[Aq])) (by exact upd4) ?_;refine G2 ?_;refine .storeN (Aa _) J J J J J zE Sz207 (by simp[Aq]) Z4 (by rw[wide.length (by exact⟨fb32 _,fb32 _,fb32 _,fb32 _⟩)];simp[Aq]) (wide.upd_fY (by exact⟨fb32 _,fb32 _,fb32 _,fb32 _⟩) _ (by simp[Aq])) (by exact upd4) ?_;refine G2 ?_;refine .draw (oP [0,1,102,103,105,106,304,307,8,9,410,11,12,413]) Ao zK (G6 ?_);refine .cV J J J J Cl (f_mul _ _) tV (.cV J J J J Cl (f_mul _ _) tV (G2 ?_));refine .storeN (Aa _) J J J J J zE Sz207 (by simp[Aq]) Z4 (by rw[wide.length (by exact⟨fb32 _,fb32 _,fb32 _,fb32 _⟩)];simp[Aq]) (wide.upd_fZ (by exact⟨fb32 _,fb32 _,fb32 _,fb32 _⟩) _ (by simp[Aq])) (by exact upd4) ?_;refine G2 ?_;refine .storeN (Aa _) J J J J J zE Sz207 (by simp[Aq]) Z4 (by rw[wide.length (by exact⟨fb32 _,fb32 _,fb32 _,fb32 _⟩)];simp[Aq]) (wide.upd_fT (by exact⟨fb32 _,fb32 _,fb32 _,fb32 _⟩) _ (by simp[Aq])) (by exact upd4) ?_;refine G2 ?_;exact⟨_,[⟨n,(wdc (Wd.fin e f g h)).cells,250,128⟩],res_none rfl,(fun b hb=>by rw[La0.1 hb];exact Z4),Cn,rfl⟩
theorem wide_add(n q:Nat)(w p:Wd Fp)(tw:Fp):Meets prog 243 [ptr n 0,ptr q 0,agg (Aa (fb tw))] [n] (fun W=>BlkOk W ⟨n,(wdc w).cells,250,128⟩∧Cd W q 0 (wdc p).cells∧q≠n) (fun v out=>out=[⟨n,(wdc (Wd.fin ((w.y+w.x)*(p.y+p.x)-(w.y-w.x)*(p.y-p.x)) (w.z*p.z+w.z*p.z-w.t*tw*p.t) (w.z*p.z+w.z*p.z+w.t*tw*p.t) ((w.y+w.x)*(p.y+p.x)+(w.y-w.x)*(p.y-p.x)))).cells,250,128⟩]):=by
 intro W hW;refine Br (hp0:=[⟨n,(wdc w).cells,250,128⟩]) func243 J 85 ntmps243 J (HRep.one hW.1) (G3 ?_);intro n5 hn5 hf5;refine G3 ?_;refine .draw (oP [0,1,2,103,4,5,6,107,9,10,11,112,13,14,15,116,308,317,318,219,420]) Ao zK (G3 ?_);refine .lN (Aa _) J J J Y207.h J Sz207 Z1 (wide.row_fY (by exact Bq _)) (wide.rl_fY (by exact Bq _)) ?_;refine G3 ?_;refine .lN (Aa _) J J J Y207.h J Sz207 Z1 (wide.row_fX (by exact Bq _)) (wide.rl_fX (by exact Bq _)) ?_;refine G3 ?_;refine .loadEN (Aa (fb p.y)) J J J Y207.h J Sz207 (by simp;exact hW.2.2) (by rw[Aa,La1,Aq]) (sees_subC hW.2.1 (wide.see_fY (Bq p))) ?_;refine G3 ?_;refine .loadEN (Aa (fb p.x)) J J J Y207.h J Sz207 (by simp;exact hW.2.2) (by rw[Aa,La1,Aq]) (sees_subC hW.2.1 (wide.see_fX (Bq p))) ?_;refine .cV J J J J Body233 (f_sub _ _) tV (.cV J J J J Body233 (f_sub _ _) tV (.cV J J J J Cl (f_mul _ _) tV (.alloc (cs:=(Aa (List.replicate 32 0))) J A8 J ?_)));intro n6 hn6 hf6;refine .sA J J J J zE Sz207 zF Z0 sP zU ?_;refine G3 ?_;refine .draw (oP [0,1,2,103,4,5,6,107,9,10,11,112,13,14,15,116,308,317,318,219,420]) Ao zK (G3 ?_);refine .lN (Aa _) J J J Y207.h J Sz207 Z2 (wide.row_fY (by exact Bq _)) (wide.rl_fY (by exact Bq _)) ?_;refine G3 ?_;refine .lN (Aa _) J J J Y207.h J Sz207 Z2 (wide.row_fX (by exact Bq _)) (wide.rl_fX (by exact Bq _)) ?_;refine G3 ?_;refine .loadEN (Aa (fb p.y)) J J J Y207.h J Sz207 (by simp;exact hW.2.2) (by rw[Aa,La1,Aq]) (sees_subC hW.2.1 (wide.see_fY (Bq p))) ?_;refine G3 ?_;refine .loadEN (Aa (fb p.x)) J J J Y207.h J Sz207 (by simp;exact hW.2.2) (by rw[Aa,La1,Aq]) (sees_subC hW.2.1 (wide.see_fX (Bq p))) ?_;refine .cV J J J J Body235 (f_add _ _) tV (.cV J J J J Body235 (f_add _ _) tV (.cV J J J J Cl (f_mul _ _) tV (.alloc (cs:=(Aa (List.replicate 32 0))) J A8 J ?_)));intro n7 hn7 hf7;refine .sA J J J J zE Sz207 zF Z0 sP zU ?_;refine G3 ?_;refine .draw (oP [0,1,2,103,104,6,7,8,109,305,310,211,412]) Ao zK (G3 ?_);refine .lN (Aa _) J J J Y207.h J Sz207 Z3 (wide.row_fT (by exact Bq _)) (wide.rl_fT (by exact Bq _)) ?_;refine G4 ?_;refine .loadEN (Aa (fb p.t)) J J J Y207.h J Sz207 (by simp;exact hW.2.2) (by rw[Aa,La1,Aq]) (sees_subC hW.2.1 (wide.see_fT (Bq p))) ?_;refine .cV J J J J Cl (f_mul _ _) tV (.cV J J J J Cl (f_mul _ _) tV (.alloc (cs:=(Aa (List.replicate 32 0))) J A8 J ?_));intro n8 hn8 hf8;refine .sA J J J J zE Sz207 zF Z0 sP zU ?_;refine G3 ?_;refine .draw (oP [0,1,2,103,4,5,6,107,308,209,410]) Ao zK (G3 ?_);refine .lN (Aa _) J J J Y207.h J Sz207 Z4 (wide.row_fZ (by exact Bq _)) (wide.rl_fZ (by exact Bq _)) ?_;refine G3 ?_;refine .loadEN (Aa (fb p.z)) J J J Y207.h J Sz207 (by simp;exact hW.2.2) (by rw[Aa,La1,Aq]) (sees_subC hW.2.1 (wide.see_fZ (Bq p))) ?_;refine .cV J J J J Cl (f_mul _ _) tV (.alloc (cs:=(Aa (List.replicate 32 0))) J A8 J ?_);intro n9 hn9 hf9;refine .sA J J J J zE Sz207 zF Z0 sP zU ?_;refine G6 ?_
 refine .cV J J J J Body235 (f_add _ _) tV (G3 ?_);refine .draw (oP [0,101,102,104,105,107,108,110,111,303,306,309,312,413]) Ao zK (G9 ?_);refine .cV J J J J Body233 (f_sub _ _) tV (.cV J J J J Body233 (f_sub _ _) tV (.cV J J J J Body235 (f_add _ _) tV (.cV J J J J Body235 (f_add _ _) tV (.callL (L:=[⟨n,(wdc w).cells,250,128⟩]) J J J J J Body298 (wide_finish n w ((w.y+w.x)*(p.y+p.x)-(w.y-w.x)*(p.y-p.x)) (w.z*p.z+w.z*p.z-w.t*tw*p.t) (w.z*p.z+w.z*p.z+w.t*tw*p.t) ((w.y+w.x)*(p.y+p.x)+(w.y-w.x)*(p.y-p.x))) (Ab rM Ai) (Cf J) (fun w h=>Bg h (by exact mem5)) ?_))));rintro v84 out84 rfl;refine G2 ?_;exact⟨_,[⟨n,(wdc (Wd.fin ((w.y+w.x)*(p.y+p.x)-(w.y-w.x)*(p.y-p.x)) (w.z*p.z+w.z*p.z-w.t*tw*p.t) (w.z*p.z+w.z*p.z+w.t*tw*p.t) ((w.y+w.x)*(p.y+p.x)+(w.y-w.x)*(p.y-p.x)))).cells,250,128⟩],res_none rfl,(fun b hb=>by rw[La0.1 hb];exact Z0),Cn,rfl⟩
theorem wide_double(n:Nat)(w:Wd Fp):Meets prog 244 [ptr n 0] [n] (fun W=>BlkOk W ⟨n,(wdc w).cells,250,128⟩) (fun v out=>out=[⟨n,(wdc (Wd.dbl w)).cells,250,128⟩]):=by
 intro W hW;refine Br (hp0:=[⟨n,(wdc w).cells,250,128⟩]) func244 J 66 ntmps244 J (HRep.one hW) (.seq (.draw (oP [0,1,2,103,4,5,6,107,9,10,11,112,13,14,15,116,18,19,20,121,22,23,24,125,308,317,326,227,228,229,430,431,432]) Ao zK (G3 ?_)));refine .lN (Aa _) J J J Y207.h J Sz207 Z0 (wide.row_fX (by exact Bq _)) (wide.rl_fX (by exact Bq _)) ?_;refine G3 ?_;refine .lN (Aa _) J J J Y207.h J Sz207 Z0 (wide.row_fX (by exact Bq _)) (wide.rl_fX (by exact Bq _)) ?_;refine G3 ?_;refine .lN (Aa _) J J J Y207.h J Sz207 Z0 (wide.row_fY (by exact Bq _)) (wide.rl_fY (by exact Bq _)) ?_;refine G3 ?_;refine .lN (Aa _) J J J Y207.h J Sz207 Z0 (wide.row_fY (by exact Bq _)) (wide.rl_fY (by exact Bq _)) ?_;refine G3 ?_;refine .lN (Aa _) J J J Y207.h J Sz207 Z0 (wide.row_fZ (by exact Bq _)) (wide.rl_fZ (by exact Bq _)) ?_;refine G3 ?_;refine .lN (Aa _) J J J Y207.h J Sz207 Z0 (wide.row_fZ (by exact Bq _)) (wide.rl_fZ (by exact Bq _)) ?_;refine .cV J J J J Cl (f_mul _ _) tV (.cV J J J J Cl (f_mul _ _) tV (.cV J J J J Cl (f_mul _ _) tV (.alloc (cs:=(Aa (List.replicate 32 0))) J A8 J ?_)));intro n2 hn2 hf2;refine .alloc (cs:=(Aa (List.replicate 32 0))) J A8 J ?_;intro n3 hn3 hf3;refine .alloc (cs:=(Aa (List.replicate 32 0))) J A8 J ?_;intro n4 hn4 hf4;refine .sA J J J J zE Sz207 zF Z2 sP (by exact upd2) ?_;refine .sA J J J J zE Sz207 zF Z1 sP zV ?_;refine .sA J J J J zE Sz207 zF Z0 sP zU ?_;refine G3 ?_;refine .draw (oP [0,1,2,103,4,5,6,107,308,209,410]) Ao zK (G3 ?_);refine .lN (Aa _) J J J Y207.h J Sz207 Z3 (wide.row_fX (by exact Bq _)) (wide.rl_fX (by exact Bq _)) ?_;refine G3 ?_;refine .lN (Aa _) J J J Y207.h J Sz207 Z3 (wide.row_fY (by exact Bq _)) (wide.rl_fY (by exact Bq _)) ?_;refine .cV J J J J Body235 (f_add _ _) tV (.alloc (cs:=(Aa (List.replicate 32 0))) J A8 J ?_);intro n5 hn5 hf5;refine .sA J J J J zE Sz207 zF Z0 sP zU ?_;refine G6 ?_;refine .cV J J J J Body235 (f_add _ _) tV (.alloc (cs:=(Aa (List.replicate 32 0))) J A8 J ?_);intro n6 hn6 hf6;refine .sA J J J J zE Sz207 zF Z0 sP zU ?_;refine G3 ?_;refine .draw (oP [100,101,102,303,304,205,406]) Ao zK (G3 ?_);refine .cV J J J J Cl (f_mul _ _) tV (.cV J J J J Body233 (f_sub _ _) tV (.alloc (cs:=(Aa (List.replicate 32 0))) J A8 J ?_));intro n7 hn7 hf7;refine .sA J J J J zE Sz207 zF Z0 sP zU ?_;refine G6 ?_;refine .cV J J J J Body233 (f_sub _ _) tV (.alloc (cs:=(Aa (List.replicate 32 0))) J A8 J ?_);intro n8 hn8 hf8;refine .sA J J J J zE Sz207 zF Z0 sP zU ?_;refine G2 ?_;refine .draw (oP [0,101,102,103,105,107,108,304,306,409]) Ao zK (G7 ?_);refine .cV J J J J Body235 (f_add _ _) tV (.cV J J J J Body235 (f_add _ _) tV (.callL (L:=[⟨n,(wdc w).cells,250,128⟩]) J J J J J Body298 (wide_finish n w (w.x*w.x+w.y*w.y-(w.x+w.y)*(w.x+w.y)) (w.z*w.z+w.z*w.z+(w.x*w.x-w.y*w.y)) (w.x*w.x-w.y*w.y) (w.x*w.x+w.y*w.y)) (Ab rM Ai) (Cf J) (fun w h=>Bg h (by exact mem7)) ?_));rintro v65 out65 rfl;refine G2 ?_
 exact⟨_,[⟨n,(wdc (Wd.dbl w)).cells,250,128⟩],res_none rfl,(fun b hb=>by rw[La0.1 hb];exact Z0),Cn,rfl⟩
theorem own_ne{C:Cx}{hp R:List Blk}{b1 b2:Blk}(h:HRep C hp w)(p:hp.Perm ((b1::b2::[])++R)):b2.n≠b1.n:=fun e=>by
  have:=(p.map (·.n)).nodup_iff.1 h.nodup;simp[e]at this
theorem wide_addD(n q:Nat)(w p:Wd Fp):Meets prog 243 [ptr n 0,ptr q 0,agg (Aa (fb (fD+fD)))] [n] (fun W=>BlkOk W ⟨n,(wdc w).cells,250,128⟩∧Cd W q 0 (wdc p).cells∧q≠n) (fun v out=>out=[⟨n,(wdc (Wd.add fD w p)).cells,250,128⟩]):=wide_add n q w p (fD+fD)
theorem wide_pointR(n:Nat)(w:Wd Fp)(R:Pt Fp)(hw:w.rep R):Mv 246 [ptr n 0] (fun W=>Cd W n 0 (wdc w).cells) (agg (ptc R).cells):=by
  have h:=wide_point n w;have e:(⟨w.x*finv w.z,w.y*finv w.z⟩:Pt Fp)=R:=cv.rep_pt hw;rwa[e]at h
theorem pair_eg:prog.eqGuardType prog.depth 256=false:=by kernel_rfl
theorem pair_eq(a b c d:Bool)(w:World):(Op.equalIn 10000 256 (agg [.bool a, .bool b]) (agg [.bool c, .bool d])).run prog w= .ok (a==c&&b==d) w:=by
  cases a<;>cases b<;>cases c<;>cases d<;>kernel_rfl
theorem curve_Mul2(a b:List UInt8)(P Q:Pt Fp)(ha:a.length=32)(hb:b.length=32)(hP:cv.on P)(hQ:cv.on Q):Mv 191 [agg (Aa a),agg (ptc P).cells,agg (Aa b),agg (ptc Q).cells] (fun _=>True) (agg (ptc (cv.lin (le a) (le b) P Q)).cells):=by
 intro W hW;refine Ac func191 J 65 ntmps191 J (.sr (.boxA J J ?_));intro n4 hn4 hf4;refine .boxA J J ?_;intro n5 hn5 hf5;refine .boxA J J ?_;intro n6 hn6 hf6;refine .boxA J J ?_;intro n7 hn7 hf7;refine .alloc (cs:=Point.zero.cells) J Point.zr J ?_;intro n8 hn8 hf8;refine .na (.seq (.sr (.lA J J J Y210.h J Sz210 Z3 (Point.length zP) ?_)));refine .cV J J J J Body240 (curve_Check_on P hP) tV (.nei J J J J (show(!decide _)=false from congrArg not (decide_eq_true (rfl))) (.m J J J (.lA J J J Y210.h J Sz210 Z1 (Point.length zP) ?_)));refine .cV J J J J Body240 (curve_Check_on Q hQ) tV (.nei J J J J (show(!decide _)=false from congrArg not (decide_eq_true (rfl))) (.pick J J J J J J (.na (.cond_f J J (.skip (Ct (.sr (.cV J J J J Body236 (curve_D) tV (.cV J J J J Body236 (curve_D) tV (.cV J J J J Body235 (f_add _ _) tV (.alloc (cs:=(Aa (List.replicate 32 0))) J A8 J ?_)))))))))));intro n9 hn9 hf9;refine .sA J J J J zE Sz207 zF Z0 sP zU ?_;refine .na (.seq (.draw (oP [100,102,104,301,303,305,306,307,208,209,210,211,412,413,414,415]) Ao zK (.lA J J J Y210.h J Sz210 Z4 (Point.length zP) ?_)));refine .lA J J J Y210.h J Sz210 Z2 (Point.length zP) ?_;refine .lA J J J Y210.h J Sz210 Z4 (Point.length zP) ?_;refine .cV J J J J Body242 (curve_widen P) tV (.cV J J J J Body242 (curve_widen Q) tV (.cV J J J J Body242 (curve_widen P) tV (.cV J J J J Body241 (curve_Zero) tV (.cV J J J J Body242 (curve_widen (zero:Pt Fp)) tV (.alloc (cs:=wide.zero.cells) J wide.zr J ?_)))));intro n10 hn10 hf10;refine .alloc (cs:=wide.zero.cells) J wide.zr J ?_;intro n11 hn11 hf11;refine .alloc (cs:=wide.zero.cells) J wide.zr J ?_;intro n12 hn12 hf12;refine .alloc (cs:=wide.zero.cells) J wide.zr J ?_;intro n13 hn13 hf13;refine .sA J J J J (wide.isCell (by exact Bq _)) Sz250 (wide.length (by exact Bq _)) Z3 (wide.length (by exact wide.zero_ok)) (by exact upd3) ?_;refine .sA J J J J (wide.isCell (by exact Bq _)) Sz250 (wide.length (by exact Bq _)) Z2 (wide.length (by exact wide.zero_ok)) (by exact upd2) ?_;refine .sA J J J J (wide.isCell (by exact Bq _)) Sz250 (wide.length (by exact Bq _)) Z1 (wide.length (by exact wide.zero_ok)) zV ?_;refine .sA J J J J (wide.isCell (by exact Bq _)) Sz250 (wide.length (by exact Bq _)) Z0 (wide.length (by exact wide.zero_ok)) zU ?_;refine .nsr (.lA J J J Y207.h J Sz207 Z4 zF ?_);refine .callL (L:=[⟨n12,(wdc (Wd.of P)).cells,250,128⟩]) J J J J J Body243 (wide_addD n12 n11 (Wd.of P) (Wd.of Q)) (Ab rM Ai) (Cf J) (fun w h=>⟨Bg h Z1,Ap h Z2,own_ne (b1:=⟨n12,(wdc (Wd.of P)).cells,250,128⟩) (b2:=⟨n11,(wdc (Wd.of Q)).cells,250,128⟩) h (Ab rM (Ab rM Ai))⟩) ?_;rintro v36 out36 rfl;simp only[Lam,Lak]
 refine .na (.seq (.sr (.a J J J (.na (.block (.loop (ι:=Nat×Wd Fp) (fun p=>⟨[(4,ptr n4 0),(6,ptr n6 0),(8,ptr n8 0),(9,ptr n9 0),(10,ptr n10 0),(11,ptr n11 0),(12,ptr n12 0),(13,ptr n13 0),(14,i64 (255-(p.1:Int)))],[⟨n13,(wdc p.2).cells,250,128⟩,⟨n12,(wdc (Wd.add fD (Wd.of P) (Wd.of Q))).cells,250,128⟩,⟨n11,(wdc (Wd.of Q)).cells,250,128⟩,⟨n10,(wdc (Wd.of P)).cells,250,128⟩,⟨n9,Aa (fb (fD+fD)),207,32⟩,⟨n8,Point.zero.cells,210,64⟩,⟨n6,Aa b,207,(Aa b).length⟩,⟨n4,Aa a,207,(Aa a).length⟩]⟩) (fun p=>p.1≤256∧p.2.rep (cv.lin (le a/2^(256-p.1)) (le b/2^(256-p.1)) P Q)) (fun p=>256-p.1) ((0,Wd.of zero)) ?_ ?_ ?_))))))
 ·exact⟨Laj _,lin_first a b ha hb P Q⟩
 ·exact An wN (Ab rM (Ab rM (Ab rM (Ab rM (Ab rM (Ab rM (Ab rM (Ab rM Ai))))))))
 rintro p ⟨hj1,hw⟩;refine .seq (.sr (.m J J J (.geq J J J J J (.na (.condP J (fun hc1=>?_) (fun hc1=>?_))))))
 ·
  have hj:p.1<256:=by omega
  refine .skip (Ct (.join (ι:=Wd Fp) (fun u=>⟨[(4,ptr n4 0),(6,ptr n6 0),(8,ptr n8 0),(9,ptr n9 0),(10,ptr n10 0),(11,ptr n11 0),(12,ptr n12 0),(13,ptr n13 0),(14,i64 (((255-p.1:Nat):Int)))],[⟨n13,(wdc u).cells,250,128⟩,⟨n12,(wdc (Wd.add fD (Wd.of P) (Wd.of Q))).cells,250,128⟩,⟨n11,(wdc (Wd.of Q)).cells,250,128⟩,⟨n10,(wdc (Wd.of P)).cells,250,128⟩,⟨n9,Aa (fb (fD+fD)),207,32⟩,⟨n8,Point.zero.cells,210,64⟩,⟨n6,Aa b,207,(Aa b).length⟩,⟨n4,Aa a,207,(Aa a).length⟩]⟩) (fun u=>u.rep (cv.lin (le a/2^(256-(p.1+1))) (le b/2^(256-(p.1+1))) P Q)) ?_ ?_))
  ·
   refine .block (.sr (.callL (L:=[⟨n13,(wdc p.2).cells,250,128⟩]) J J J J J Body244 (wide_double n13 p.2) (Ab rM Ai) (Cf J) (fun w h=>Bg h Z0) ?_));rintro v41 out41 rfl;simp only[Lam,Lak];rw[show(255:Int)-(p.1:Int)=((255-p.1:Nat):Int) by omega];refine .na (.seq (.draw (oP [100,1,103,4,302,305,6]) Ao zK (.lA J J J Y207.h J Sz207 (by exact mem7) (by(simp[ha];done)) ?_)));refine .m J J J (.lA J J J Y207.h J Sz207 (by exact mem6) (by(simp[hb];done)) ?_);refine .m J J J (.callB J J J J Body245 (scalar_bit_at a ha (255-p.1) oM) tV (fun hs10_20=>?_) (fun hs10_20=>?_))
   ·
    have hs10_2:=nd_t hs10_20;have hs10_2:=hs10_20;refine .callB J J J J Body245 (scalar_bit_at b hb (255-p.1) oM) tV (fun hs10_50=>?_) (fun hs10_50=>?_)
    ·
     have hs10_5:=nd_t hs10_50;have hs10_5:=hs10_50;refine .build (cs:=[.bool true, .bool true]) J J J (fun w=>by kernel_rfl) ?_;refine .na (.block (.sr (.build (cs:=[.bool true, .bool true]) J J J (fun w=>by kernel_rfl) ?_)));refine .eql_rec (q:=(true==true&&true==true)) (r:=true) J J J J pair_eg (fun w=>pair_eq true true true true w) J (.a J J J (.na (.cond_t J J (.region (.lA J J J Y207.h J Sz207 Z4 zF ?_)))));refine .callL (L:=[⟨n13,(wdc (Wd.dbl p.2)).cells,250,128⟩]) J J J J J Body243 (wide_addD n13 n12 (Wd.dbl p.2) (Wd.add fD (Wd.of P) (Wd.of Q))) (Ab rM Ai) (Cf J) (fun w h=>⟨Bg h Z0,Ap h Z1,own_ne (b1:=⟨n13,(wdc (Wd.dbl p.2)).cells,250,128⟩) (b2:=⟨n12,(wdc (Wd.add fD (Wd.of P) (Wd.of Q))).cells,250,128⟩) h (Ab rM (Ab rM Ai))⟩) ?_;rintro v53 out53 rfl;simp only[Lam,Lak];refine .nil (bl_n (bl_n (Ct ?_)))
     (exact⟨Wd.add fD (Wd.dbl p.2) (Wd.add fD (Wd.of P) (Wd.of Q)),(by rw[lin_tt hj hP hQ hs10_2 hs10_5];exact cv.rep_add (cv.rep_dbl hw (cv.on_lin hP hQ _ _)) (cv.rep_add (cv.rep_of P) (cv.rep_of Q) hP hQ) (cv.on_add (cv.on_lin hP hQ _ _) (cv.on_lin hP hQ _ _)) (cv.on_add hP hQ)),An wN (Ab rM (Ab rM (Ab rM (Ab rM (Ab rM (Ab rM (Ab rM (Ab rM Ai))))))))⟩)
    have hs10_5:=nd_f hs10_50;have hs10_5:=hs10_50;refine .build (cs:=[.bool true, .bool false]) J J J (fun w=>by kernel_rfl) ?_;refine .na (.block (.sr (.build (cs:=[.bool true, .bool true]) J J J (fun w=>by kernel_rfl) ?_)));refine .eql_rec (q:=(true==true&&false==true)) (r:=false) J J J J pair_eg (fun w=>pair_eq true false true true w) J (.a J J J (.na (.cond_f J J (.sr (.build (cs:=[.bool true, .bool false]) J J J (fun w=>by kernel_rfl) ?_)))));refine .eql_rec (q:=(true==true&&false==false)) (r:=true) J J J J pair_eg (fun w=>pair_eq true false true false w) J (.a J J J (.na (.cond_t J J (.region (.lA J J J Y207.h J Sz207 Z4 zF ?_)))));refine .callL (L:=[⟨n13,(wdc (Wd.dbl p.2)).cells,250,128⟩]) J J J J J Body243 (wide_addD n13 n10 (Wd.dbl p.2) (Wd.of P)) (Ab rM Ai) (Cf J) (fun w h=>⟨Bg h Z0,Ap h Z3,own_ne (b1:=⟨n13,(wdc (Wd.dbl p.2)).cells,250,128⟩) (b2:=⟨n10,(wdc (Wd.of P)).cells,250,128⟩) h (Ab rM (Ab rM Ai))⟩) ?_;rintro v58 out58 rfl;simp only[Lam,Lak];refine .nil (bl_n (bl_n (Ct ?_)))
    (exact⟨Wd.add fD (Wd.dbl p.2) (Wd.of P),(by rw[lin_tf hj hP hQ hs10_2 hs10_5];exact cv.rep_add (cv.rep_dbl hw (cv.on_lin hP hQ _ _)) (cv.rep_of P) (cv.on_add (cv.on_lin hP hQ _ _) (cv.on_lin hP hQ _ _)) hP),An wN (Ab rM (Ab rM (Ab rM (Ab rM (Ab rM (Ab rM (Ab rM (Ab rM Ai))))))))⟩)
   have hs10_2:=nd_f hs10_20;have hs10_2:=hs10_20;refine .callB J J J J Body245 (scalar_bit_at b hb (255-p.1) oM) tV (fun hs10_50=>?_) (fun hs10_50=>?_)
   ·
    have hs10_5:=nd_t hs10_50;have hs10_5:=hs10_50;refine .build (cs:=[.bool false, .bool true]) J J J (fun w=>by kernel_rfl) ?_;refine .na (.block (.sr (.build (cs:=[.bool true, .bool true]) J J J (fun w=>by kernel_rfl) ?_)));refine .eql_rec (q:=(false==true&&true==true)) (r:=false) J J J J pair_eg (fun w=>pair_eq false true true true w) J (.a J J J (.na (.cond_f J J (.sr (.build (cs:=[.bool true, .bool false]) J J J (fun w=>by kernel_rfl) ?_)))));refine .eql_rec (q:=(false==true&&true==false)) (r:=false) J J J J pair_eg (fun w=>pair_eq false true true false w) J (.a J J J (.na (.cond_f J J (.sr (.build (cs:=[.bool false, .bool true]) J J J (fun w=>by kernel_rfl) ?_)))));refine .eql_rec (q:=(false==false&&true==true)) (r:=true) J J J J pair_eg (fun w=>pair_eq false true false true w) J (.a J J J (.na (.cond_t J J (.region (.lA J J J Y207.h J Sz207 Z4 zF ?_)))));refine .callL (L:=[⟨n13,(wdc (Wd.dbl p.2)).cells,250,128⟩]) J J J J J Body243 (wide_addD n13 n11 (Wd.dbl p.2) (Wd.of Q)) (Ab rM Ai) (Cf J) (fun w h=>⟨Bg h Z0,Ap h Z2,own_ne (b1:=⟨n13,(wdc (Wd.dbl p.2)).cells,250,128⟩) (b2:=⟨n11,(wdc (Wd.of Q)).cells,250,128⟩) h (Ab rM (Ab rM Ai))⟩) ?_;rintro v63 out63 rfl;simp only[Lam,Lak];refine .nil (bl_n (bl_n (Ct ?_)))
    (exact⟨Wd.add fD (Wd.dbl p.2) (Wd.of Q),(by rw[lin_ft hj hP hQ hs10_2 hs10_5];exact cv.rep_add (cv.rep_dbl hw (cv.on_lin hP hQ _ _)) (cv.rep_of Q) (cv.on_add (cv.on_lin hP hQ _ _) (cv.on_lin hP hQ _ _)) hQ),An wN (Ab rM (Ab rM (Ab rM (Ab rM (Ab rM (Ab rM (Ab rM (Ab rM Ai))))))))⟩)
   have hs10_5:=nd_f hs10_50;have hs10_5:=hs10_50;refine .build (cs:=[.bool false, .bool false]) J J J (fun w=>by kernel_rfl) ?_;refine .na (.block (.sr (.build (cs:=[.bool true, .bool true]) J J J (fun w=>by kernel_rfl) ?_)));refine .eql_rec (q:=(false==true&&false==true)) (r:=false) J J J J pair_eg (fun w=>pair_eq false false true true w) J (.a J J J (.na (.cond_f J J (.sr (.build (cs:=[.bool true, .bool false]) J J J (fun w=>by kernel_rfl) ?_)))));refine .eql_rec (q:=(false==true&&false==false)) (r:=false) J J J J pair_eg (fun w=>pair_eq false false true false w) J (.a J J J (.na (.cond_f J J (.sr (.build (cs:=[.bool false, .bool true]) J J J (fun w=>by kernel_rfl) ?_)))));refine .eql_rec (q:=(false==false&&false==true)) (r:=false) J J J J pair_eg (fun w=>pair_eq false false false true w) J (.a J J J (.na (.cond_f J J (.skip (bl_n (bl_n (Ct ?_)))))))
   (exact⟨Wd.dbl p.2,(by rw[lin_ff hj hP hQ hs10_2 hs10_5];exact(cv.rep_dbl hw (cv.on_lin hP hQ _ _))),An wN (Ab rM (Ab rM (Ab rM (Ab rM (Ab rM (Ab rM (Ab rM (Ab rM Ai))))))))⟩)
  intro u hj;have hu:=hj;refine .region (.m J J J (.sub_i64 J J J J oM (.a J J J (.na ?_))));exact⟨(p.1+1,u),⟨by simp only[];omega,hu⟩,by simp only[];omega,An (wk1 rfl (wk1 rfl (wk1 rfl (wk1 rfl (wk1 rfl (wk1 rfl (wk1 rfl (wk1 rfl (wk1 (congrArg (fun z=>some (i64 z)) (show((255-p.1:Nat):Int)-1=255-((p.1+1:Nat):Int) by omega)) wk0))))))))) (Ab rM (Ab rM (Ab rM (Ab rM (Ab rM (Ab rM (Ab rM (Ab rM Ai))))))))⟩
 have hje:p.1=256:=by omega
 have hfin:p.2.rep (cv.lin (le a) (le b) P Q):=by rw[hje,lin_last]at hw;exact hw
 refine .exit (at_x (at_x (bl_h (Ct (.sr (.cV J J J J Body246 (wide_pointR n13 p.2 _ hfin) (fun w h=>Ap h Z0) ?_))))));refine .sA J J J J (Point.isCell zP) Sz210 (Point.length zP) (by exact mem5) (Point.length zZ) (by exact upd5) ?_;refine .na ?_;refine .ret (en_r ?_);refine⟨_,[],Am J J Y210.h J Sz210 (by exact mem5) (by exact Point.length zP),sP,sP,?_,rfl⟩;rfl
theorem ptc_y(P:Pt Fp):(ptc P).fY=fb P.y:=rfl
theorem le_zero32:le (List.replicate 32 0)=0:=by kernel_rfl
theorem curve_Neg(P:Pt Fp)(hP:cv.on P):Mv 194 [agg (ptc P).cells] (fun _=>True) (agg (ptc (neg P)).cells):=by
 intro W hW;refine Ac func194 J 13 ntmps194 J (.sr (.boxA J J ?_));intro n1 hn1 hf1;refine .alloc (cs:=Point.zero.cells) J Point.zr J ?_;intro n2 hn2 hf2;refine .na (.seq (.sr (.lA J J J Y210.h J Sz210 Z1 (Point.length zP) ?_)));refine .cV J J J J Body240 (curve_Check_on P hP) tV (.nei J J J J (show(!decide _)=false from congrArg not (decide_eq_true (rfl))) (.na (.cond_f J (rfl) (.skip (Ct (.seq (.draw (oP [0,101,3,104,302,5,406]) Ao zK (.fld J J J Y210.h J Sz207 dE _ J (.lN (Aa _) J J J Y207.h J Sz207 Z1 (Point.row_fX zP) (Point.rl_fX zP) ?_)))))))));refine .fld J J J Y210.h J Sz207 dE _ J (.lN (Aa _) J J J Y207.h J Sz207 Z1 (Point.row_fY zP) (Point.rl_fY zP) ?_);refine .cV J J J J Body239 (f_neg _) tV (.build (cs:=(ptc (neg P)).cells) J J J (fun w=>by kernel_rfl) ?_);refine .sA J J J J (Point.isCell zP) Sz210 (Point.length zP) Z0 (Point.length zZ) zU ?_;refine .na ?_;refine .ret (en_r ?_);refine⟨_,[],Am J J Y210.h J Sz210 Z0 (by exact Point.length zP),sP,sP,?_,rfl⟩;rfl
def rdV(b:List UInt8):Value:=match rdP b with
  |some P=> .tuple #[agg (ptc P).cells,i64 0]
  |none=> .tuple #[agg Point.zero.cells,i64 4]
theorem rdV_none(h:rdP b=none):rdV b= .tuple #[agg Point.zero.cells,i64 4]:=by rw[rdV,h]
theorem rdV_some(h:rdP b=some P):rdV b= .tuple #[agg (ptc P).cells,i64 0]:=by rw[rdV,h]
theorem rd_n1(h:¬fb (fe (le (lowB b)))=lowB b):rdP b=none:=by rw[rdP,if_neg h]
theorem rd_n2(hx:xOf (fe (le (lowB b)))=r)(h:r.2=false):rdP b=none:=by
  rw[rdP];split
  ·rw[hx,if_neg (by rw[h];simp)]
  ·rfl
theorem rd_n3(hx:xOf (fe (le (lowB b)))=r)(h1:topB b=true)(h:fb r.1=List.replicate 32 0):rdP b=none:=by
  have h2:r.1=0:=fb_inj.1 (h.trans fb_zero.symm);rw[rdP];split
  ·rw[hx,if_neg (fun e=>e.2 ⟨h1,h2⟩)]
  ·rfl
theorem rd_s1(hc:fb (fe (le (lowB b)))=lowB b)(hx:xOf (fe (le (lowB b)))=r)(h2:r.2=true)(h1:topB b=true)(h:¬fb r.1=List.replicate 32 0):rdP b=some ⟨-r.1,fe (le (lowB b))⟩:=by
  rw[rdP,if_pos hc,hx,if_pos ⟨h2,fun e=>h (by rw[e.2,fb_zero])⟩,if_pos h1]
theorem rd_s2(hc:fb (fe (le (lowB b)))=lowB b)(hx:xOf (fe (le (lowB b)))=r)(h2:r.2=true)(h1:topB b=false):rdP b=some ⟨r.1,fe (le (lowB b))⟩:=by
  rw[rdP,if_pos hc,hx,if_pos ⟨h2,fun e=>by rw[h1]at e;cases e.1⟩,if_neg (by rw[h1];decide)]
theorem topB_t(h:¬((b.getD 31 0&&&128).toNat:Int)=0):topB b=true:=by rw[topB,decide_eq_false h];rfl
theorem topB_f(h:((b.getD 31 0&&&128).toNat:Int)=0):topB b=false:=by rw[topB,decide_eq_true h];rfl
theorem curve_Read(b:List UInt8)(hb:b.length=32):Mv 190 [agg (Aa b)] (fun _=>True) (rdV b):=by
 intro W hW;have hll:=lowB_length hb;obtain⟨Y,hY⟩:∃Y,fe (le (lowB b))=Y:=⟨_,rfl⟩;have hcan:=field_Canon (lowB b) hll;have hmul:=field_Mul (lowB b) (lowB b) hll hll;have hinv:=f_inv (fD*(Y*Y)+1);have hxo:xOf Y=fRoot ((Y*Y-1)*finv (fD*(Y*Y)+1)):=rfl;revert hinv hxo;generalize finv (fD*(Y*Y)+1)=iz;intro hinv hxo;have hroot:=field_Root (fb ((Y*Y-1)*iz)) ((Y*Y-1)*iz) (Aq _) (fe_fb _);revert hroot hxo;generalize fRoot ((Y*Y-1)*iz)=xr;intro hxo hroot;rw[←hY]at hxo;rw[hY]at hcan hmul;refine Ac func190 J 60 ntmps190 J (G3 ?_);intro n1 hn1 hf1;refine .alloc (cs:=Point.zero.cells) J Point.zr J ?_;intro n2 hn2 hf2;refine G5 ?_;refine .i1 J J J J Y33.h Sz5 31 J dE (G1 ?_);refine .and_u8 J J J (show Ag _ _=some (u8 128)from rfl) (two (fun r hr k=>Tr.nei J J J J hr k) (fun hs1_30=>?_) (fun hs1_30=>?_))
 ·
  have hs1_3:=nd_t hs1_30;refine G5 ?_;refine .lA J J J Y33.h J Sz33 Z1 (by(simp[hb];done)) ?_;refine .alloc (cs:=(Aa (List.replicate 32 0))) J A8 J ?_;intro n5 hn5 hf5;refine .sA J J J J zE Sz207 (by(simp[hb];done)) Z0 sP zU ?_;refine G4 ?_;refine .i1 J J J J Y207.h Sz5 31 J dE (G1 ?_);refine .and_u8 J J J (show Ag _ _=some (u8 127)from rfl) (.i1 J J J J Y207.h Sz5 31 J dE (.s1 J J J J J Sz5 Z0 (by(simp[hb];done)) (by exact Bi _ _ _) zU ?_));refine G5 ?_;refine .lA J J J Y207.h J Sz207 Z0 (by(simp[hb];done)) ?_;refine .cV J J J J Body231 (hcan) tV (G3 ?_);refine .cond J (fun hc0=>?_) (fun hc0=>?_)
  ·
   have hcn:¬fb Y=lowB b:=of_decide_eq_false (by simpa using hc0);refine G2 ?_;refine .build (cs:=Point.zero.cells) J J J (fun w=>by kernel_rfl) ?_;refine G4 ?_;refine G3 ?_;refine⟨_,[],Bd J J J Y210.h J Sz210 Z1 (by exact Point.length zZ),sP,sP,?_,rfl⟩;exact(rdV_none (rd_n1 (by rw[hY];exact hcn))).symm
  have hcy:fb Y=lowB b:=of_decide_eq_true (by simpa using hc0);refine G4 ?_;refine .lA J J J Y207.h J Sz207 Z0 (by(simp[hb];done)) ?_;refine .lA J J J Y207.h J Sz207 Z0 (by(simp[hb];done)) ?_;refine .cV J J J J Cl (hmul) tV (.alloc (cs:=(Aa (List.replicate 32 0))) J A8 J ?_);intro n6 hn6 hf6;refine .sA J J J J zE Sz207 zF Z0 sP zU ?_;refine G3 ?_;refine .draw (oP [100,301,302,203,404]) Ao zK (G1 ?_);refine .cV J J J J Body234 (f_one) tV (.cV J J J J Body233 (f_sub _ _) tV (.alloc (cs:=(Aa (List.replicate 32 0))) J A8 J ?_));intro n7 hn7 hf7;refine .sA J J J J zE Sz207 zF Z0 sP zU ?_;refine G3 ?_;refine .draw (oP [101,300,302,303,304,205,406]) Ao zK (G1 ?_);refine .cV J J J J Body236 (curve_D) tV (.cV J J J J Cl (f_mul _ _) tV (.cV J J J J Body234 (f_one) tV (.cV J J J J Body235 (f_add _ _) tV (.alloc (cs:=(Aa (List.replicate 32 0))) J A8 J ?_))));intro n8 hn8 hf8;refine .sA J J J J zE Sz207 zF Z0 sP zU ?_;refine G3 ?_;refine .draw (oP [100,101,302,303,304,5,6,7,208,409,10]) Ao zK (G2 ?_);refine .cV J J J J Body238 (hinv) tV (.cV J J J J Cl (f_mul _ _) tV (.cV J J J J Body237 (hroot) tV (G2 ?_)));refine .extractB J J J J (fun hs9_70=>?_) (fun hs9_70=>?_)
  ·
   have hs9_7:=hs9_70;refine .alloc (cs:=(Aa (List.replicate 32 0))) J A8 J ?_;intro n9 hn9 hf9;refine .sA J J J J zE Sz207 zF Z0 sP zU ?_;refine G12 ?_;refine .build (cs:=Aa (List.replicate 32 0)) J J J (fun w=>by kernel_rfl) ?_;refine two (fun r hr k=>Tr.eql_bytes J J J J eqGuardType207 Y207.h Y5.h Sz5 zF sP hr k) (fun hs10_70=>?_) (fun hs10_70=>?_)
   ·
    have hs10_7:=of_decide_eq_true hs10_70;refine G4 ?_;refine .cond_t J J (G2 ?_);refine .build (cs:=Point.zero.cells) J J J (fun w=>by kernel_rfl) ?_;refine G4 ?_;refine G3 ?_;refine⟨_,[],Bd J J J Y210.h J Sz210 (by exact mem5) (by exact Point.length zZ),sP,sP,?_,rfl⟩;exact(rdV_none (rd_n3 hxo (topB_t hs1_3) hs10_7)).symm
   have hs10_7:=of_decide_eq_false hs10_70;refine G4 ?_;refine .cond_f J J (G8 ?_);refine .cond_t J J (G2 ?_);refine .cV J J J J Body239 (f_neg _) tV (G5 ?_);rw[show b.set 31 (b.getD 31 0&&&127)=fb Y from hcy.symm];refine G2 ?_;refine .build (cs:=(⟨fb (-xr.1),fb Y⟩:Point).cells) J J J (fun w=>by kernel_rfl) ?_;refine .sA J J J J (Point.isCell (by exact⟨fb32 _,fb32 _⟩)) Sz210 (Point.length (by exact⟨fb32 _,fb32 _⟩)) (by exact mem5) (Point.length zZ) (by exact upd5) ?_;refine G3 ?_;refine G2 ?_;refine⟨_,[],Bd J J J Y210.h J Sz210 (by exact mem5) (by exact Point.length (by exact⟨fb32 _,fb32 _⟩)),sP,sP,?_,rfl⟩
   (rw[rdV_some (rd_s1 (by rw[hY];exact hcy) hxo hs9_7 (topB_t hs1_3) hs10_7),hY];rfl)
  have hs9_7:=hs9_70;refine .alloc (cs:=(Aa (List.replicate 32 0))) J A8 J ?_;intro n9 hn9 hf9;refine .sA J J J J zE Sz207 zF Z0 sP zU ?_;refine G18 ?_;refine .cond_t J J (G2 ?_);refine .build (cs:=Point.zero.cells) J J J (fun w=>by kernel_rfl) ?_;refine G4 ?_;refine G3 ?_;refine⟨_,[],Bd J J J Y210.h J Sz210 (by exact mem5) (by exact Point.length zZ),sP,sP,?_,rfl⟩;exact(rdV_none (rd_n2 hxo hs9_7)).symm
 have hs1_3:=nd_f hs1_30;refine G5 ?_;refine .lA J J J Y33.h J Sz33 Z1 (by(simp[hb];done)) ?_;refine .alloc (cs:=(Aa (List.replicate 32 0))) J A8 J ?_;intro n5 hn5 hf5;refine .sA J J J J zE Sz207 (by(simp[hb];done)) Z0 sP zU ?_;refine G4 ?_;refine .i1 J J J J Y207.h Sz5 31 J dE (G1 ?_);refine .and_u8 J J J (show Ag _ _=some (u8 127)from rfl) (.i1 J J J J Y207.h Sz5 31 J dE (.s1 J J J J J Sz5 Z0 (by(simp[hb];done)) (by exact Bi _ _ _) zU ?_));refine G5 ?_;refine .lA J J J Y207.h J Sz207 Z0 (by(simp[hb];done)) ?_;refine .cV J J J J Body231 (hcan) tV (G3 ?_);refine .cond J (fun hc0=>?_) (fun hc0=>?_)
 ·
  have hcn:¬fb Y=lowB b:=of_decide_eq_false (by simpa using hc0);refine G2 ?_;refine .build (cs:=Point.zero.cells) J J J (fun w=>by kernel_rfl) ?_;refine G4 ?_;refine G3 ?_;refine⟨_,[],Bd J J J Y210.h J Sz210 Z1 (by exact Point.length zZ),sP,sP,?_,rfl⟩;exact(rdV_none (rd_n1 (by rw[hY];exact hcn))).symm
 have hcy:fb Y=lowB b:=of_decide_eq_true (by simpa using hc0);refine G4 ?_;refine .lA J J J Y207.h J Sz207 Z0 (by(simp[hb];done)) ?_;refine .lA J J J Y207.h J Sz207 Z0 (by(simp[hb];done)) ?_;refine .cV J J J J Cl (hmul) tV (.alloc (cs:=(Aa (List.replicate 32 0))) J A8 J ?_);intro n6 hn6 hf6;refine .sA J J J J zE Sz207 zF Z0 sP zU ?_;refine G3 ?_;refine .draw (oP [100,301,302,203,404]) Ao zK (G1 ?_);refine .cV J J J J Body234 (f_one) tV (.cV J J J J Body233 (f_sub _ _) tV (.alloc (cs:=(Aa (List.replicate 32 0))) J A8 J ?_));intro n7 hn7 hf7;refine .sA J J J J zE Sz207 zF Z0 sP zU ?_;refine G3 ?_;refine .draw (oP [101,300,302,303,304,205,406]) Ao zK (G1 ?_);refine .cV J J J J Body236 (curve_D) tV (.cV J J J J Cl (f_mul _ _) tV (.cV J J J J Body234 (f_one) tV (.cV J J J J Body235 (f_add _ _) tV (.alloc (cs:=(Aa (List.replicate 32 0))) J A8 J ?_))));intro n8 hn8 hf8;refine .sA J J J J zE Sz207 zF Z0 sP zU ?_;refine G3 ?_;refine .draw (oP [100,101,302,303,304,5,6,7,208,409,10]) Ao zK (G2 ?_);refine .cV J J J J Body238 (hinv) tV (.cV J J J J Cl (f_mul _ _) tV (.cV J J J J Body237 (hroot) tV (G2 ?_)));refine .extractB J J J J (fun hs9_70=>?_) (fun hs9_70=>?_)
 ·
  have hs9_7:=hs9_70;refine .alloc (cs:=(Aa (List.replicate 32 0))) J A8 J ?_;intro n9 hn9 hf9;refine .sA J J J J zE Sz207 zF Z0 sP zU ?_;refine G18 ?_;refine .cond_f J J (G8 ?_);refine .cond_f J J (G4 ?_);rw[show b.set 31 (b.getD 31 0&&&127)=fb Y from hcy.symm];refine G2 ?_;refine .build (cs:=(⟨fb xr.1,fb Y⟩:Point).cells) J J J (fun w=>by kernel_rfl) ?_;refine .sA J J J J (Point.isCell (by exact⟨fb32 _,fb32 _⟩)) Sz210 (Point.length (by exact⟨fb32 _,fb32 _⟩)) (by exact mem5) (Point.length zZ) (by exact upd5) ?_;refine G3 ?_;refine G2 ?_;refine⟨_,[],Bd J J J Y210.h J Sz210 (by exact mem5) (by exact Point.length (by exact⟨fb32 _,fb32 _⟩)),sP,sP,?_,rfl⟩
  (rw[rdV_some (rd_s2 (by rw[hY];exact hcy) hxo hs9_7 (topB_f hs1_3)),hY];rfl)
 have hs9_7:=hs9_70;refine .alloc (cs:=(Aa (List.replicate 32 0))) J A8 J ?_;intro n9 hn9 hf9;refine .sA J J J J zE Sz207 zF Z0 sP zU ?_;refine G18 ?_;refine .cond_t J J (G2 ?_);refine .build (cs:=Point.zero.cells) J J J (fun w=>by kernel_rfl) ?_;refine G4 ?_;refine G3 ?_;refine⟨_,[],Bd J J J Y210.h J Sz210 (by exact mem5) (by exact Point.length zZ),sP,sP,?_,rfl⟩;exact(rdV_none (rd_n2 hxo hs9_7)).symm
def sha512(l:List UInt8):List UInt8:=sumUp (allW kW startW l) 64
theorem sha512_length(l:List UInt8):(sha512 l).length=64:=Cb _ _
theorem sha_StartS(s:List UInt64)(h:Hid (startW=s)):Mv 214 [] (fun _=>True) (agg (Ah s)):=by
  rw[←h.out];exact sha_Start
theorem sha_Sum512(p:Option Addr)(n c:Nat)(ss:List Sl)(ls:List (List UInt8))(hss:ss.length=n)(hls:ls.length=n)(hsl:∀j,j<n→(ss.getD j Sl.nil).n=(ls.getD j []).length∧((ss.getD j Sl.nil).p=none→(ss.getD j Sl.nil).n=0))(F:List UInt8)(hF:ls.flatten=F)(htot:F.length≤90000)(hn:n≤1000000)(s:List UInt8)(hs:Hid (sha512 F=s))  :Mv 247 [.slice p n c] (fun W=>SeesP W p (ss.map Sl.v)∧∀j,j<n→SeesP W (ss.getD j Sl.nil).p (Aa (ls.getD j []))) (agg (Aa s)):=by
 intro W hW;have hs64:s.length=64:=by rw[←hs.out];exact sha512_length F
 obtain⟨k,hk⟩:∃k,Hid (kW=k):=⟨_,⟨rfl⟩⟩;obtain⟨st,hst⟩:∃k,Hid (startW=k):=⟨_,⟨rfl⟩⟩;obtain⟨r,hr⟩:∃r,Hid (allW k st F=r):=⟨_,⟨rfl⟩⟩;have hk80:k.length=80:=by rw[←hk.out];rfl
 have hst8:st.length=8:=by rw[←hst.out];rfl
 have hr8:r.length=8:=by rw[←hr.out,allW_length];exact hst8
 have hs2:Hid (sumUp r 64=s):=⟨by rw[←hs.out,sha512,hk.out,hst.out,hr.out]⟩;refine Ac func247 J 7 ntmps247 J (G2 ?_);refine .alloc (cs:=(Aa (List.replicate 64 0))) J Zr47 J ?_;intro n2 hn2 hf2;refine G4 ?_;refine .cV J J J J Body214 (sha_StartS st hst) tV (G1 ?_);refine .cV J J J J Body174 (sha_whole st hst8 k hk hk80 p n c ss ls hss hls hsl F hF htot hn) (fun w h=>⟨A2 h J hW.1,fun j hj=>A2 h J (hW.2 j hj)⟩) ?_;rw[hr.out];refine .cV J J J J Body173 (sha_sum r hr8 s hs2) tV (.sA J J J J zE Sz47 (by(simp[hs64];done)) Z0 sP zU ?_);refine G2 ?_;refine G2 ?_;refine⟨_,[],Am J J Y47.h J Sz47 Z0 (by simp[hs64]),sP,sP,?_,rfl⟩;rfl
theorem sign_residue(p:Option Addr)(n c:Nat)(ss:List Sl)(ls:List (List UInt8))(hss:ss.length=n)(hls:ls.length=n)(hsl:∀j,j<n→(ss.getD j Sl.nil).n=(ls.getD j []).length∧((ss.getD j Sl.nil).p=none→(ss.getD j Sl.nil).n=0))(F:List UInt8)(hF:ls.flatten=F)(htot:F.length≤90000)(hn:n≤1000000)(s:List UInt8)(hs:Hid (sha512 F=s))  :Mv 193 [.slice p n c] (fun W=>SeesP W p (ss.map Sl.v)∧∀j,j<n→SeesP W (ss.getD j Sl.nil).p (Aa (ls.getD j []))) (agg (Aa (leb 32 (le s%L)))):=by
 intro W hW;have hs64:s.length=64:=by rw[←hs.out];exact sha512_length F
 refine Ac func193 J 14 ntmps193 J (G2 ?_);refine .alloc (cs:=(Aa (List.replicate 32 0))) J A8 J ?_;intro n2 hn2 hf2;refine G5 ?_;refine .cV J J J J Body247 (sha_Sum512 p n c ss ls hss hls hsl F hF htot hn s hs) (fun w h=>⟨A2 h J hW.1,fun j hj=>A2 h J (hW.2 j hj)⟩) (.alloc (cs:=(Aa (List.replicate 64 0))) J Zr47 J ?_);intro n3 hn3 hf3;refine .sA J J J J zE Sz47 (by(simp[hs64];done)) Z0 sP zU ?_;refine G5 ?_;refine .cV J J J J Body248 (scalar_rest n3 0 64 64 s hs64 dE) (fun w h=>Ap h Z0) ?_;refine G3 ?_;refine .alloc (cs:=(Aa (List.replicate 32 0))) J A8 J ?_;intro n4 hn4 hf4;refine .sA J J J J zE Sz207 (by(simp[Ak];done)) Z0 sP zU ?_;refine G5 ?_;refine .lA J J J Y207.h J Sz207 Z0 (by(simp[Ak];done)) ?_;refine .sA J J J J zE Sz207 (by(simp[Ak];done)) Z2 sP (by exact upd2) ?_;refine G2 ?_;refine G2 ?_;refine⟨_,[],Am J J Y207.h J Sz207 Z2 (by simp[Ak]),sP,sP,?_,rfl⟩;rfl
def clampB(l:List UInt8):List UInt8:=(l.set 0 (l.getD 0 0&&&248)).set 31 (((l.getD 31 0)&&&127)|||64)
theorem clampB_length(h:l.length=32):(clampB l).length=32:=by simp[clampB,h]
theorem d64{s:List UInt8}(h:s.length=64):(s.drop 32).take 32=s.drop 32:=La5 (by rw[Lc3,h];decide)
def sgR(s:List UInt8):List UInt8:=leb 32 (le s%L)
theorem sgR_length(s:List UInt8):(sgR s).length=32:=Ak _ _
def sgF(s1:List UInt8):List UInt8:=pb (cv.mul (le (sgR s1)) bP)
def sgK(s:List UInt8):List UInt8:=pb (cv.mul (le (clampB (s.take 32))) bP)
theorem sgF_length(s:List UInt8):(sgF s).length=32:=Cq _
theorem sgK_length(s:List UInt8):(sgK s).length=32:=Cq _
def sgS(s s1 s2:List UInt8):List UInt8:=leb 32 ((le (sgR s2)*le (clampB (s.take 32))+le (sgR s1))%L)
theorem sgS_length(s s1 s2:List UInt8):(sgS s s1 s2).length=32:=Ak _ _
theorem upd_first(h:f.length=32):upd (Aa (List.replicate 64 0)) 0 (Aa f)=Aa (f++List.replicate 32 0):=by
  simp[upd,Aa,h]
theorem upd_last{f g:List UInt8}(h:f.length=32)(hg:g.length=32):upd (Aa (f++List.replicate 32 0)) 32 (Aa g)=Aa (f++g):=by
  simp[upd,Aa,h,hg]
theorem sign_residueR(p:Option Addr)(n c:Nat)(ss:List Sl)(ls:List (List UInt8))(hss:ss.length=n)(hls:ls.length=n)(hsl:∀j,j<n→(ss.getD j Sl.nil).n=(ls.getD j []).length∧((ss.getD j Sl.nil).p=none→(ss.getD j Sl.nil).n=0))(F:List UInt8)(hF:ls.flatten=F)(htot:F.length≤90000)(hn:n≤1000000)(s:List UInt8)(hs:Hid (sha512 F=s))(r:List UInt8)(hr:Hid (sgR s=r))  :Mv 193 [.slice p n c] (fun W=>SeesP W p (ss.map Sl.v)∧∀j,j<n→SeesP W (ss.getD j Sl.nil).p (Aa (ls.getD j []))) (agg (Aa r)):=by
  have h:=sign_residue p n c ss ls hss hls hsl F hF htot hn s hs;rwa[show leb 32 (le s%L)=r from hr.out]at h
theorem take_sees{n i:Nat}{v:Value}(h:(Aa (l.take n))[i]? =some v):(Aa l)[i]? =some v:=by
  rw[Aa,Lcm,Lb9]at h;split at h
  ·exact h
  ·cases h
theorem curve_Read_none(b:List UInt8)(hb:b.length=32)(h:rdP b=none):Mv 190 [agg (Aa b)] (fun _=>True) (.tuple #[agg Point.zero.cells,i64 4]):=by
  have:=curve_Read b hb;rwa[rdV_none h]at this
theorem curve_Read_some(b:List UInt8)(P:Pt Fp)(hb:b.length=32)(h:rdP b=some P):Mv 190 [agg (Aa b)] (fun _=>True) (.tuple #[agg (ptc P).cells,i64 0]):=by
  have:=curve_Read b hb;rwa[rdV_some h]at this
open Classical in
noncomputable def goodB(k bb sg:List UInt8):Bool:=decide (le (sg.drop 32)<L∧∃A R,rdP k=some A∧rdP (sg.take 32)=some R∧cv.lin (le (sg.drop 32)) (le (sgR (sha512 (sg.take 32++(k++bb))))) bP (neg A)=R)
variable{bb k sg:List UInt8}
theorem good_dec{A R Q:Pt Fp}(h1:le (sg.drop 32)<L)(h2:rdP k=some A)(h3:rdP (sg.take 32)=some R)(h4:cv.lin (le (sg.drop 32)) (le (sgR (sha512 (sg.take 32++(k++bb))))) bP (neg A)=Q): @decide (ptc Q=ptc R) (Classical.propDecidable _)=goodB k bb sg:=by
  rw[goodB,Lf3];simp only[decide_eq_true_eq,ptc_inj];constructor
  · intro h
    exact⟨h1,A,R,h2,h3,h4.trans h⟩
  · rintro⟨_,A',R',e1,e2,e3⟩
    rw[h2]at e1;rw[h3]at e2;cases e1;cases e2;exact h4.symm.trans e3
theorem good_no(h:¬(le (sg.drop 32)<L∧(∃A,rdP k=some A)∧∃R,rdP (sg.take 32)=some R)):goodB k bb sg=false:=by
  rw[goodB,decide_eq_false_iff_not];intro e;refine h ?_;obtain⟨h1,A,R,h2,h3,_⟩:=e;exact⟨h1,⟨A,h2⟩,⟨R,h3⟩⟩
theorem sign_Good_c(k:List UInt8)(hk:k.length=32)(sb:Sl)(bb:List UInt8)(hbn:bb.length≤80000)(sg:List UInt8)(hsg:sg.length=64)(hc:¬le (sg.drop 32)<L):Mv 155 [agg (Aa k),sb.v,agg (Aa sg)] (fun W=>BytesAt W sb bb) (.bool false):=by
 intro W hW;have hd32:(sg.drop 32).length=32:=by rw[Lc3,hsg]
 have ht32:(sg.take 32).length=32:=by rw[Lag,hsg];rfl
 refine Ac func155 J 45 ntmps155 J (G3 ?_);intro n3 hn3 hf3;refine G1 ?_;intro n5 hn5 hf5;refine G5 ?_;refine .sliceArrLo 32 J J J J J dE Y48.h Sz5 (.s2a J J J Y207.h oM (.lN (Aa (sg.drop 32)) J J J Y207.h J Sz207 Z0 (by show((sg.map u8).drop 32).take 32=_;rw[←Le7,←Lcm,d64 hsg]) (by rw[La1];exact hd32) ?_));refine .alloc (cs:=(Aa (List.replicate 32 0))) J A8 J ?_;intro n7 hn7 hf7;refine .sA J J J J zE Sz207 (by(simp[hsg];done)) Z0 sP zU ?_;refine G5 ?_;refine .lA J J J Y207.h J Sz207 Z0 (by(simp[hsg];done)) ?_;refine .cV J J J J Body189 (scalar_canon (sg.drop 32) hd32) tV (G3 ?_);refine .cond_t J (by rw[decide_eq_false hc];rfl) ?_;refine G5 ?_;refine G3 ?_;refine⟨_,[],Ae J J,sP,sP,?_,rfl⟩;rfl
theorem sign_Good_k(k:List UInt8)(hk:k.length=32)(sb:Sl)(bb:List UInt8)(hbn:bb.length≤80000)(sg:List UInt8)(hsg:sg.length=64)(hc:le (sg.drop 32)<L)(h1:rdP k=none):Mv 155 [agg (Aa k),sb.v,agg (Aa sg)] (fun W=>BytesAt W sb bb) (.bool false):=by
 intro W hW;have hd32:(sg.drop 32).length=32:=by rw[Lc3,hsg]
 have ht32:(sg.take 32).length=32:=by rw[Lag,hsg];rfl
 refine Ac func155 J 45 ntmps155 J (G3 ?_);intro n3 hn3 hf3;refine G1 ?_;intro n5 hn5 hf5;refine G5 ?_;refine .sliceArrLo 32 J J J J J dE Y48.h Sz5 (.s2a J J J Y207.h oM (.lN (Aa (sg.drop 32)) J J J Y207.h J Sz207 Z0 (by show((sg.map u8).drop 32).take 32=_;rw[←Le7,←Lcm,d64 hsg]) (by rw[La1];exact hd32) ?_));refine .alloc (cs:=(Aa (List.replicate 32 0))) J A8 J ?_;intro n7 hn7 hf7;refine .sA J J J J zE Sz207 (by(simp[hsg];done)) Z0 sP zU ?_;refine G5 ?_;refine .lA J J J Y207.h J Sz207 Z0 (by(simp[hsg];done)) ?_;refine .cV J J J J Body189 (scalar_canon (sg.drop 32) hd32) tV (G3 ?_);refine .cond_f J (by rw[decide_eq_true hc];rfl) ?_;refine G4 ?_;refine .lA J J J Y44.h J Sz44 Z2 (by(simp[hk];done)) ?_;refine .cV J J J J Body190 (curve_Read_none k hk h1) tV (G3 ?_);refine .alloc (cs:=Point.zero.cells) J Point.zr J ?_;intro n8 hn8 hf8;refine G8 ?_;refine .nei J J J J (show(!decide _)=true from congrArg not (decide_eq_false dE)) (G2 ?_);refine .cond_t J (rfl) (G5 ?_);refine G3 ?_;refine⟨_,[],Ae J J,sP,sP,?_,rfl⟩;rfl
theorem sign_Good_r(k:List UInt8)(hk:k.length=32)(sb:Sl)(bb:List UInt8)(hbn:bb.length≤80000)(sg:List UInt8)(hsg:sg.length=64)(hc:le (sg.drop 32)<L)(A:Pt Fp)(h1:rdP k=some A)(h2:rdP (sg.take 32)=none):Mv 155 [agg (Aa k),sb.v,agg (Aa sg)] (fun W=>BytesAt W sb bb) (.bool false):=by
 intro W hW;have hd32:(sg.drop 32).length=32:=by rw[Lc3,hsg]
 have ht32:(sg.take 32).length=32:=by rw[Lag,hsg];rfl
 refine Ac func155 J 45 ntmps155 J (.sr (.boxA J J ?_));intro n3 hn3 hf3;refine .boxA J J ?_;intro n5 hn5 hf5;refine .a J J J (.nsr (.sliceArrLo 32 J J J J J dE Y48.h Sz5 (.s2a J J J Y207.h oM (.lN (Aa (sg.drop 32)) J J J Y207.h J Sz207 Z0 (by show((sg.map u8).drop 32).take 32=_;rw[←Le7,←Lcm,d64 hsg]) (by rw[La1];exact hd32) ?_))));refine .alloc (cs:=(Aa (List.replicate 32 0))) J A8 J ?_;intro n7 hn7 hf7;refine .sA J J J J zE Sz207 (by(simp[hsg];done)) Z0 sP zU ?_;refine .na (.seq (.sr (.lA J J J Y207.h J Sz207 Z0 (by(simp[hsg];done)) ?_)));refine .cV J J J J Body189 (scalar_canon (sg.drop 32) hd32) tV (.not J J J (.na (.cond_f J (by rw[decide_eq_true hc];rfl) ?_)));refine .skip (Ct (.sr (.lA J J J Y44.h J Sz44 Z2 (by(simp[hk];done)) ?_)));refine .cV J J J J Body190 (curve_Read_some k A hk h1) tV (.m J J J (.eX J J J J (.eX J J J J (.alloc (cs:=Point.zero.cells) J Point.zr J ?_))));intro n8 hn8 hf8;refine .sA J J J J (Point.isCell zP) Sz210 (Point.length zP) Z0 (Point.length zZ) zU ?_;refine .a J J J (.na (.seq (.sr (.m J J J (.nei J J J J (show(!decide _)=false from congrArg not (decide_eq_true (rfl))) (.na (.cond_f J (rfl) (.skip (Ct (.sr (.sliceArrHi 32 J J J J J dE dE Y48.h Sz5 (.s2a J J J Y33.h oM (.lN (Aa (sg.take 32)) J J J Y33.h J Sz33 Z2 (by rw[Lea,←Lcm]) (by rw[La1];exact ht32) ?_)))))))))))));refine .cV J J J J Body190 (curve_Read_none (sg.take 32) ht32 h2) tV (.m J J J (.eX J J J J (.eX J J J J (.alloc (cs:=Point.zero.cells) J Point.zr J ?_))));intro n10 hn10 hf10;refine .sA J J J J (Point.isCell zZ) Sz210 (Point.length zZ) Z0 (Point.length zZ) zU ?_;refine .a J J J (.na (.seq (.sr (.m J J J (.nei J J J J (show(!decide _)=true from congrArg not (decide_eq_false dE)) (.na (.cond_t J (rfl) (.sr (.a J J J (.na ?_))))))))));refine .ret (at_r (en_r ?_));refine⟨_,[],Ae J J,sP,sP,?_,rfl⟩;rfl
theorem sign_Good_ok(k:List UInt8)(hk:k.length=32)(sb:Sl)(bb:List UInt8)(hbn:bb.length≤80000)(sg:List UInt8)(hsg:sg.length=64)(hc:le (sg.drop 32)<L)(A R:Pt Fp)(h1:rdP k=some A)(h2:rdP (sg.take 32)=some R)(s r:List UInt8)(hs:Hid (sha512 (sg.take 32++(k++bb))=s))(hr:Hid (sgR s=r))(hrl:r.length=32):Mv 155 [agg (Aa k),sb.v,agg (Aa sg)] (fun W=>BytesAt W sb bb) (.bool (goodB k bb sg)):=by
 intro W hW;have hd32:(sg.drop 32).length=32:=by rw[Lc3,hsg]
 have ht32:(sg.take 32).length=32:=by rw[Lag,hsg];rfl
 have hA:=rdP_on h1;obtain⟨Q,hQ⟩:∃Q,cv.lin (le (sg.drop 32)) (le (sgR (sha512 (sg.take 32++(k++bb))))) bP (neg A)=Q:=⟨_,rfl⟩;have hmul:=curve_Mul2 (sg.drop 32) r bP (neg A) hd32 hrl bP_on (cv.on_neg hA);rw[show cv.lin (le (sg.drop 32)) (le r) bP (neg A)=Q from by rw[←hr.out,←hs.out];exact hQ]at hmul;refine Ac func155 J 45 ntmps155 J (.sr (.boxA J J ?_));intro n3 hn3 hf3;refine .boxA J J ?_;intro n5 hn5 hf5;refine .a J J J (.nsr (.sliceArrLo 32 J J J J J dE Y48.h Sz5 (.s2a J J J Y207.h oM (.lN (Aa (sg.drop 32)) J J J Y207.h J Sz207 Z0 (by show((sg.map u8).drop 32).take 32=_;rw[←Le7,←Lcm,d64 hsg]) (by rw[La1];exact hd32) ?_))));refine .alloc (cs:=(Aa (List.replicate 32 0))) J A8 J ?_;intro n7 hn7 hf7;refine .sA J J J J zE Sz207 (by(simp[hsg];done)) Z0 sP zU ?_;refine .na (.seq (.sr (.lA J J J Y207.h J Sz207 Z0 (by(simp[hsg];done)) ?_)));refine .cV J J J J Body189 (scalar_canon (sg.drop 32) hd32) tV (.not J J J (.na (.cond_f J (by rw[decide_eq_true hc];rfl) ?_)));refine .skip (Ct (.sr (.lA J J J Y44.h J Sz44 Z2 (by(simp[hk];done)) ?_)));refine .cV J J J J Body190 (curve_Read_some k A hk h1) tV (.m J J J (.eX J J J J (.eX J J J J (.alloc (cs:=Point.zero.cells) J Point.zr J ?_))));intro n8 hn8 hf8;refine .sA J J J J (Point.isCell zP) Sz210 (Point.length zP) Z0 (Point.length zZ) zU ?_;refine .a J J J (.na (.seq (.sr (.m J J J (.nei J J J J (show(!decide _)=false from congrArg not (decide_eq_true (rfl))) (.na (.cond_f J (rfl) (.skip (Ct (.sr (.sliceArrHi 32 J J J J J dE dE Y48.h Sz5 (.s2a J J J Y33.h oM (.lN (Aa (sg.take 32)) J J J Y33.h J Sz33 Z2 (by rw[Lea,←Lcm]) (by rw[La1];exact ht32) ?_)))))))))))));refine .cV J J J J Body190 (curve_Read_some (sg.take 32) R ht32 h2) tV (.m J J J (.eX J J J J (.eX J J J J (.alloc (cs:=Point.zero.cells) J Point.zr J ?_))));intro n10 hn10 hf10;refine .sA J J J J (Point.isCell zP) Sz210 (Point.length zP) Z0 (Point.length zZ) zU ?_;refine .a J J J (.na (.seq (.sr (.m J J J (.nei J J J J (show(!decide _)=false from congrArg not (decide_eq_true (rfl))) (.na (.cond_f J (rfl) (.skip (Ct (.seq (.draw (oP [100,2,3,4,107,110,301,205,306,308,309,11,12]) Ao zK (.lA J J J Y207.h J Sz207 Z2 (by(simp[hsg];done)) ?_))))))))))));refine .sliceArrHi 32 J J J J J dE dE Y48.h Sz5 (.sliceArr J J J Y44.h Sz5 (.m J J J (.lA J J J Y210.h J Sz210 Z1 (Point.length zP) ?_)));refine .lA J J J Y210.h J Sz210 Z0 (Point.length zP) ?_;refine .cV J J J J Body192 (curve_Base) tV (.mkRow2 (z:= .slice none 0 0) [.slice (some ⟨n5,0,none⟩) 32 64, .slice (some ⟨n3,0,none⟩) 32 32,sb.v] [.slice (some ⟨n5,0,none⟩) 32 64, .slice (some ⟨n3,0,none⟩) 32 32,sb.v] rfl J Y183.h Sz46 Zr46 J J (by intro v hv;simp only[Lal,Lcd,or_false]at hv;rcases hv with rfl|rfl|rfl<;>rfl) dE J ?_);intro q38
 refine .cV J J J J Body193 (sign_residueR (some ⟨q38,0,none⟩) 3 3 [⟨some ⟨n5,0,none⟩,32,64⟩,⟨some ⟨n3,0,none⟩,32,32⟩,sb] [sg.take 32,k,bb] rfl J (fun j hj=>(by
   rcases(show j=0∨j=1∨j=2 by omega)with rfl|rfl|rfl
   ·exact⟨by show 32=List.length _;exact ht32.symm,fun e=>by cases e⟩
   ·exact⟨by show 32=List.length _;exact hk.symm,fun e=>by cases e⟩
   ·exact⟨by show sb.n=bb.length;exact hW.len.symm,fun e=>by have h1:=hW.nil e;have h2:=hW.cap;show sb.n=0;omega⟩)) (sg.take 32++(k++bb)) sP (by simp[hsg,hk];omega) dE s hs r hr) (fun w h=>⟨SeesP.of (Ap h Z0),(fun j hj=>(by
   rcases(show j=0∨j=1∨j=2 by omega)with rfl|rfl|rfl
   ·exact SeesP.of (by have h9:=Ap (cs:=Aa sg) h Z4;exact fun i v hv=>h9 i v (take_sees hv))
   ·exact SeesP.of (Ap (cs:=Aa k) h (by exact mem5))
   ·exact A2 h rfl hW.see))⟩) ?_
 refine .cV J J J J Body194 (curve_Neg A hA) tV (.cV J J J J Body191 (hmul) tV (.eql_rec J J J J Point.eg (fun w=>Point.eq_runC (ptc_ok _) (ptc_ok _) w) (good_dec hc h1 h2 hQ) (.a J J J (.na ?_))));refine .ret (en_r ?_);refine⟨_,[],Ae J J,sP,sP,?_,rfl⟩;rfl
theorem sign_Good(k:List UInt8)(hk:k.length=32)(sb:Sl)(bb:List UInt8)(hbn:bb.length≤80000)(sg:List UInt8)(hsg:sg.length=64):Mv 155 [agg (Aa k),sb.v,agg (Aa sg)] (fun W=>BytesAt W sb bb) (.bool (goodB k bb sg)):=by
  by_cases hc:le (sg.drop 32)<L
  · cases h1:rdP k with
    | none=>
      rw[good_no (fun e=>by obtain⟨_,⟨A,h⟩,_⟩:=e;rw[h1]at h;cases h)];exact sign_Good_k k hk sb bb hbn sg hsg hc h1
    | some A=>
      cases h2:rdP (sg.take 32)with
      | none=>
        rw[good_no (fun e=>by obtain⟨_,_,⟨R,h⟩⟩:=e;rw[h2]at h;cases h)];exact sign_Good_r k hk sb bb hbn sg hsg hc A h1 h2
      |some R=>exact sign_Good_ok k hk sb bb hbn sg hsg hc A R h1 h2 _ _ ⟨rfl⟩ ⟨rfl⟩ (sgR_length _)
  · rw[good_no (fun e=>hc e.1)]
    exact sign_Good_c k hk sb bb hbn sg hsg hc
end Go.Proofs.YtpogmfngccolbaaGreat
namespace Go.Proofs.YtpogmfngccolbaaGreat
open Go Hw Ed
theorem sgK_read(s:List UInt8):rdP (sgK s)=some (cv.mul (le (clampB (s.take 32))) bP):=rdP_pb (cv.on_mul bP_on _)
theorem sgF_read(s:List UInt8):rdP (sgF s)=some (cv.mul (le (sgR s)) bP):=rdP_pb (cv.on_mul bP_on _)
theorem sgS_lt(s s1 s2:List UInt8):le (sgS s s1 s2)<L:=by
  have h:=Lbs (le (sgR s2)*le (clampB (s.take 32))+le (sgR s1)) L_pos;rw[sgS,le_leb32 (Ld9 h L_lt)];exact h
theorem sgS_eq(s s1 s2:List UInt8):le (sgS s s1 s2)=(le (sgR s2)*le (clampB (s.take 32))+le (sgR s1))%L:=by
  have h:=Lbs (le (sgR s2)*le (clampB (s.take 32))+le (sgR s1)) L_pos;rw[sgS,le_leb32 (Ld9 h L_lt)]
theorem lin_selfS(k n r:Nat):cv.lin ((k*n+r)%L) k bP (neg (cv.mul n bP))=cv.mul r bP:=by
  have hn:=cv.on_mul bP_on n;have hk:=cv.on_mul hn k;have hr:=cv.on_mul bP_on r;rw[Cv.lin,cv.mul_order bP_on bP_order,Ldt,cv.mul_add bP_on,cv.mul_mul bP_on,cv.mul_neg hn,cv.add_assoc hr hk (cv.on_neg hk),cv.add_neg hk,cv.add_zero]
theorem sg_take(s s1 s2:List UInt8):(sgF s1++sgS s s1 s2).take 32=sgF s1:=by
  rw[List.take_left' (sgF_length s1)]
theorem sg_drop(s s1 s2:List UInt8):(sgF s1++sgS s s1 s2).drop 32=sgS s s1 s2:=by
  rw[List.drop_left' (sgF_length s1)]
theorem good_self(s s1 bb:List UInt8){s2:List UInt8}(h:sha512 (sgF s1++(sgK s++bb))=s2):goodB (sgK s) bb (sgF s1++sgS s s1 s2)=true:=by
  unfold goodB;simp only[decide_eq_true_eq];rw[sg_take,sg_drop,h];refine⟨sgS_lt s s1 s2,_,_,sgK_read s,sgF_read s1,?_⟩;rw[sgS_eq];exact lin_selfS _ _ _
end Go.Proofs.YtpogmfngccolbaaGreat
namespace Go.Proofs.YtpogmfngccolbaaGreat
open Go Hw _root_.Go.Proofs.Tryz
open Ed
theorem own_bytes{W:World}{q n c:Nat}{l:List UInt8}(hs:SeesP W (some ⟨q,0,none⟩) (Aa l))(hl:l.length=n)(hc:n≤c)(hm:n≤maxLen):BytesAt W ⟨some ⟨q,0,none⟩,n,c⟩ l:=⟨hl,hc,hs,hm,fun e=>by cases e⟩
end Go.Proofs.YtpogmfngccolbaaGreat
namespace Go.Proofs.YtpogmfngccolbaaGreat
open Go Hw _root_.Go.Proofs.Tryz
variable{A st:List UInt64}{i q t:Nat}{p:List UInt8}
theorem rolW_64(x:UInt64)(n:Nat)(h:n≤64):Ar x n|||A1 x (64-n)=rolW x (64-n):=by
  rw[rolW,show 64-(64-n)=n by omega,Lg2]
theorem W8.of_l(h:st.length=8):(W8.of st).l=st:=by
  match st,h with
  | [a,b,c,d,e,f,g,i],_=>rfl
theorem addUp_gets(st xs:List UInt64):∀i j,i≤st.length→j<st.length→(addUp st xs i).getD j 0=if j<i then st.getD j 0+xs.getD j 0 else st.getD j 0
  |0,j,_,hj=>by rw[if_neg oM];rfl
  | i +1,j,hi,hj=>by
    have hl:=B8 st xs i;rw[addUp,La2,Lcx];split
    · rename_i e
      subst e;rw[if_pos oM,if_pos oM,Lbn,addUp_get st xs i i (Lae _)]
    · rename_i e
      rw[←La2,addUp_gets st xs i j oM hj];by_cases h:j<i
      ·rw[if_pos h,if_pos oM]
      ·rw[if_neg h,if_neg oM]
theorem addUp_comm{st xs:List UInt64}(h:st.length=8)(hx:xs.length=8):addUp xs st 8=addUp st xs 8:=by
  have h1:=B8 xs st 8;have h2:=B8 st xs 8;apply Le3 oM;intro j ha hb;have e1:=addUp_gets xs st 8 j oM oM;have e2:=addUp_gets st xs 8 j oM oM;rw[if_pos oM]at e1 e2;rw[La2,La3 ha,Lbn]at e1;rw[La2,La3 hb,Lbn]at e2;rw[e1,e2,UInt64.add_comm]
def schT(p:List UInt8)(A:List UInt64)(t:Nat):List UInt64:=if t≤16 then schA p (8*t)else schB A (t-16)
theorem schT_lo(h:t≤16):schT p A t=schA p (8*t):=if_pos h
theorem schT_hi(hA:schA p 128=A)(h:16≤t):schT p A t=schB A (t-16):=by
  unfold schT;split
  · obtain rfl:t=16:=by omega
    exact hA
  ·rfl
theorem schT_step{j:Nat}(hA:schA p 128=A):schT p A (16+j+1)=(schB A j).set (16+j) ((schB A j).getD j 0+sig0 ((schB A j).getD (j+1) 0)+(schB A j).getD (j+9) 0+sig1 ((schB A j).getD (j+14) 0)):=by
  rw[schT_hi hA oM,show 16+j+1-16=j+1 by omega];rfl
theorem schA_step(p:List UInt8)(t i:Nat)(hi:i<8):schA p (8*t+(i+1))=(schA p (8*t+i)).set t (A1 ((schA p (8*t+i)).getD t 0) 8|||(p.getD (8*t+i) 0).toUInt64):=by
  have e:(8*t+i)/8=t:=by omega
  show schA p ((8*t+i)+1)=_;rw[schA,e]
theorem r2_K(k:List UInt64)(hk:Hid (kW=k)):Mv 274 [] (fun _=>True) (agg (Ah k)):=by
 intro W hW;rw[←hk.out];refine Ac func274 J 2 ntmps274 J (G2 ?_);refine .alloc (cs:=(Ah (List.replicate 80 0))) J Zr276 J ?_;intro n0 hn0 hf0;refine G4 ?_;refine .build (cs:=Ah kW) J J J (fun w=>by kernel_rfl) ?_;refine .sA J J J J zB Sz276 (by(simp[kW];done)) Z0 sP zU ?_;refine G2 ?_;refine G2 ?_;refine⟨_,[],Am J J Y276 J Sz276 Z0 (by simp[kW]),sP,sP,?_,rfl⟩;rfl
theorem r2_Start(k:List UInt64)(hk:Hid (startW=k)):Mv 209 [] (fun _=>True) (agg (Ah k)):=by
 intro W hW;rw[←hk.out];refine Ac func209 J 2 ntmps209 J (G2 ?_);refine .alloc (cs:=(Ah (List.replicate 8 0))) J Zr185 J ?_;intro n0 hn0 hf0;refine G4 ?_;refine .build (cs:=Ah startW) J J J (fun w=>by kernel_rfl) ?_;refine .sA J J J J zB Sz185 (by(simp[startW];done)) Z0 sP zU ?_;refine G2 ?_;refine G2 ?_;refine⟨_,[],Am J J Y185.h J Sz185 Z0 (by simp[startW]),sP,sP,?_,rfl⟩;rfl
theorem r2_rot(x:UInt64)(n:Nat)(hn:n≤63):Mv 275 [u64 x,i64 (n:Int)] (fun _=>True) (u64 (rolW x (64-n))):=by
 intro W hW;refine Ac func275 J 15 ntmps275 J (G2 ?_);refine .a J J (show Ag _ _=some (u64 0)from rfl) (G7 ?_);refine .shr_u64 J J J J n (by rw[Cg _ oM]) oM ?_;refine G2 ?_;refine .subN 64 n J J J J oM (G1 ?_);refine .shl_u64 J J J J (64-n) (by rw[Cg _ oM]) oM ?_;refine G4 ?_;refine G2 ?_;refine⟨_,[],Ae J J,sP,sP,?_,rfl⟩;rw[rolW_64 x n oM]
theorem r2_piece(st:List UInt64)(hst:st.length=8)(p:List UInt8)(hp:p.length=128)(q o c:Nat)(A w k:List UInt64)(R:W8)(hA:Hid (schA p 128=A))(hwp:Hid (schB A 64=w))(hk:Hid (kW=k))(hk80:k.length=80)(hR:Hid (rnds k w (W8.of st) 80=R)):Mv 208 [agg (Ah st), .slice (some ⟨q,o,none⟩) 128 c] (fun W=>Cd W q o (Aa p)) (agg (Ah (addUp st R.l 8))):=by
 intro W hW;have hA80:A.length=80:=by rw[←hA.out];exact schA_length p 128
 have hw80:w.length=80:=by rw[←hwp.out,schB_length];exact hA80
 have hRl:=W8.l_length R;have hlw:=hw80;have hcm:=addUp_comm hst hRl;refine Ac func208 J 176 ntmps208 J (G3 ?_);intro n2 hn2 hf2;refine .alloc (cs:=(Ah (List.replicate 8 0))) J Zr185 J ?_;intro n4 hn4 hf4;refine G4 ?_;refine .cV J J J J Body274 (r2_K k hk) tV (.alloc (cs:=(Ah (List.replicate 80 0))) J Zr276 J ?_);intro n5 hn5 hf5;refine .sA J J J J zB Sz276 (by(simp[hk80];done)) Z0 sP zU ?_;refine G4 ?_;refine .alloc (cs:=(Ah (List.replicate 80 0))) J Zr276 J ?_;intro n6 hn6 hf6;refine G9 ?_;refine .loop (ι:=Nat) (fun t=>⟨[(1, .slice (some ⟨q,o,none⟩) 128 c),(2,ptr n2 0),(4,ptr n4 0),(5,ptr n5 0),(6,ptr n6 0),(7,i64 (t:Int))],[⟨n6,Ah (schT p A t),276,80⟩,⟨n5,Ah k,276,80⟩,⟨n4,Ah (List.replicate 8 0),185,8⟩,⟨n2,Ah st,185,(Ah st).length⟩]⟩) (fun t=>t≤80) (fun t=>80-t) (0) ?_ ?_ ?_
 ·omega
 ·exact Ad wN (wh1 (by rw[schT_lo oM];exact Bp) (wh1 Z1 (wh1 Z2 (wh1 Z3 wh0)))) nD
 rintro t ht;refine G7 ?_;refine .condP J (fun hc0=>?_) (fun hc0=>?_)
 ·
  refine G11 ?_;refine .condP J (fun hc1=>?_) (fun hc1=>?_)
  ·
   refine G7 ?_;refine .loop (ι:=Nat) (fun i=>⟨[(1, .slice (some ⟨q,o,none⟩) 128 c),(2,ptr n2 0),(4,ptr n4 0),(5,ptr n5 0),(6,ptr n6 0),(7,i64 (t:Int)),(8,i64 (i:Int))],[⟨n6,Ah (schA p (8*t+i)),276,80⟩,⟨n5,Ah k,276,80⟩,⟨n4,Ah (List.replicate 8 0),185,8⟩,⟨n2,Ah st,185,(Ah st).length⟩]⟩) (fun i=>i≤8) (fun i=>8-i) (0) ?_ ?_ ?_
   ·omega
   ·exact Ad wN (wh1 (by rw[Lbt,←schT_lo (p:=p) (A:=A) (by omega:t≤16)];exact Bp) (wh1 Z1 (wh1 Z2 (wh1 Z3 wh0)))) nD
   rintro i hi;have hlw:=schA_length p (8*t+i);refine G7 ?_;refine .condP J (fun hc2=>?_) (fun hc2=>?_)
   ·
    refine G4 ?_;refine .draw (oP [0,1,2,103,4,5,6,7,8,9,10,111,12,13,14,415]) Ao zK (G2 ?_);refine .i1 J J J J Y276 Sz45 _ J oM (G1 ?_);refine .shl_u64 J J J J 8 J dE (G2 ?_);refine .mulN 8 t J J J J oM (G1 ?_);refine .addN (8*t) i J J J J oM (.idxSlO J J J J Y46.h Sz5 (8*t+i) oM oM (.loadE J J J Y5.h J sP (hW (8*t+i) _ (B0 oM)) (G2 ?_)));refine .i1 J J J J Y276 Sz45 _ J oM (.s1 J J J J J Sz45 Z0 (by(simp[hlw];omega)) (by exact Be _ _ _) zU ?_);refine G9 ?_;exact⟨i+1,by omega,by omega,Ad wN (wh1 (by rw[schA_step p t i oM];exact Bp) (wh1 Z1 (wh1 Z2 (wh1 Z3 wh0)))) nD⟩
   refine G15 ?_;exact⟨t+1,by omega,by omega,Ad wN (wh1 (by(rw[schT_lo (by omega:t+1≤16),show 8*(t+1)=8*t+i by omega];exact Bp)) (wh1 Z1 (wh1 Z2 (wh1 Z3 wh0)))) nD⟩
  obtain⟨j,rfl⟩:∃j,t=16+j:=⟨t-16,by omega⟩;rw[schT_hi hA.out (show 16≤16+j by omega),show 16+j-16=j by omega];have hlw:(schB A j).length=80:=by rw[schB_length];exact hA80
  refine G3 ?_;refine .draw (oP [0,1,2,103,4,5,6,107,8,9]) Ao zK (G2 ?_);refine .i1 J J J J Y276 Sz45 (j+1) oM oM (G3 ?_);refine .i1 J J J J Y276 Sz45 (j+14) oM oM (G5 ?_);refine .draw (oP [0,1,2,3,104,5,7,10,11,14,15,16,117,19,21,24,25,306,308,9,12,13,18,320,322,23,26,27,28,429]) Ao zK (G3 ?_);refine .i1 J J J J Y276 Sz45 j oM oM (G4 ?_);refine .shr_u64 J J J J 7 J dE (G2 ?_);refine .i1 J J J J Y276 Sz45 (j+9) oM oM (G4 ?_);refine .shr_u64 J J J J 6 J dE (.cV J J J J Body275 (r2_rot _ 1 dE) tV (.cV J J J J Body275 (r2_rot _ 8 dE) tV (G4 ?_)));refine .cV J J J J Body275 (r2_rot _ 19 dE) tV (.cV J J J J Body275 (r2_rot _ 61 dE) tV (G3 ?_));refine .i1 J J J J Y276 Sz45 (16+j) oM oM (.s1 J J J J J Sz45 Z0 (by(simp[hlw];omega)) (by exact Be _ _ _) zU ?_);refine G9 ?_;exact⟨16+j+1,by omega,by omega,Ad wN (wh1 (by(rw[schT_step hA.out];exact Bp)) (wh1 Z1 (wh1 Z2 (wh1 Z3 wh0)))) nD⟩
 obtain rfl:t=80:=by omega
 rw[show schT p A 80=w from by rw[schT_hi hA.out dE];exact hwp.out];refine G7 ?_;refine .lA J J J Y185.h J Sz185 Z3 (by(simp[hst];done)) ?_;refine .alloc (cs:=(Ah (List.replicate 8 0))) J Zr185 J ?_;intro n11 hn11 hf11;refine .sA J J J J zB Sz185 (by(simp[hst];done)) Z0 sP zU ?_;refine G9 ?_;refine .loop (ι:=Nat) (fun t=>⟨[(2,ptr n2 0),(4,ptr n4 0),(5,ptr n5 0),(6,ptr n6 0),(11,ptr n11 0),(12,i64 (t:Int))],[⟨n11,Ah (rnds k w (W8.of st) t).l,185,8⟩,⟨n6,Ah w,276,80⟩,⟨n5,Ah k,276,80⟩,⟨n4,Ah (List.replicate 8 0),185,8⟩,⟨n2,Ah st,185,(Ah st).length⟩]⟩) (fun t=>t≤80) (fun t=>80-t) (0) ?_ ?_ ?_
 ·omega
 ·exact Ad wN (wh1 (by rw[show(rnds k w (W8.of st) 0).l=st from W8.of_l hst];exact Bp) (wh1 Z1 (wh1 Z2 (wh1 Z3 (wh1 Z4 wh0))))) nD
 rintro t ht;have hlr:=W8.l_length (rnds k w (W8.of st) t);refine G7 ?_;refine .condP J (fun hc3=>?_) (fun hc3=>?_)
 ·
  refine G5 ?_;refine .draw (oP [0,101,2,103,4,5]) Ao zK (.i1 J J J J Y185.h Sz45 0 J dE (G1 ?_));refine .i1 J J J J Y185.h Sz45 4 J dE (G6 ?_);refine .draw (oP [0,101,2,4,7,11,12,113,14,15,16,17,118,19,20,22,23,124,26,27,128,303,305,6,308,9,10,21,25,29,30]) Ao zK (.i1 J J J J Y185.h Sz45 7 J dE (G5 ?_));refine .i1 J J J J Y185.h Sz45 5 J dE (G3 ?_);refine .not_u64 J J J (.i1 J J J J Y185.h Sz45 6 J dE (G4 ?_));refine .i1 J J J J Y276 Sz45 _ J oM (G2 ?_);refine .i1 J J J J Y276 Sz45 _ J oM (G1 ?_);refine .cV J J J J Body275 (r2_rot _ 14 dE) tV (.cV J J J J Body275 (r2_rot _ 18 dE) tV (G1 ?_));refine .cV J J J J Body275 (r2_rot _ 41 dE) tV (G9 ?_);refine .draw (oP [0,2,5,8,9,110,11,12,13,114,15,16,17,118,19,120,21,22,301,303,4,306,7,23,24]) Ao zK (G4 ?_);refine .i1 J J J J Y185.h Sz45 1 J dE (G3 ?_);refine .i1 J J J J Y185.h Sz45 2 J dE (G3 ?_);refine .i1 J J J J Y185.h Sz45 1 J dE (G1 ?_);refine .i1 J J J J Y185.h Sz45 2 J dE (G3 ?_);refine .cV J J J J Body275 (r2_rot _ 28 dE) tV (.cV J J J J Body275 (r2_rot _ 34 dE) tV (G1 ?_));refine .cV J J J J Body275 (r2_rot _ 39 dE) tV (G10 ?_);refine .i1 J J J J Y185.h Sz45 1 J dE (G1 ?_);refine .i1 J J J J Y185.h Sz45 2 J dE (G1 ?_);refine .i1 J J J J Y185.h Sz45 3 J dE (G4 ?_);refine .i1 J J J J Y185.h Sz45 5 J dE (G1 ?_);refine .i1 J J J J Y185.h Sz45 6 J dE (G1 ?_);refine .build (cs:=Ah (rnd1 (rnds k w (W8.of st) t) (k.getD t 0) (w.getD t 0)).l) J J J (fun w=>by kernel_rfl) ?_;refine .sA J J J J zB Sz185 (by(simp[W8.l_length];done)) Z0 (by(simp[W8.l_length];done)) zU ?_;refine G9 ?_;exact⟨t+1,by omega,by omega,Ad wN (wh1 Z0 (wh1 Z1 (wh1 Z2 (wh1 Z3 (wh1 Z4 wh0))))) nD⟩
 obtain rfl:t=80:=by omega
 rw[hR.out];refine G12 ?_;refine .loop (ι:=Nat) (fun i=>⟨[(2,ptr n2 0),(4,ptr n4 0),(11,ptr n11 0),(17,i64 (i:Int))],[⟨n11,Ah (addUp R.l st i),185,8⟩,⟨n4,Ah (List.replicate 8 0),185,8⟩,⟨n2,Ah st,185,(Ah st).length⟩]⟩) (fun i=>i≤8) (fun i=>8-i) (0) ?_ ?_ ?_
 ·omega
 ·exact Ad wN (wh1 Z0 (wh1 Z3 (wh1 Z4 wh0))) nD
 rintro i hi;have hlu:=B8 R.l st i;refine G7 ?_;refine .condP J (fun hc4=>?_) (fun hc4=>?_)
 ·
  refine G4 ?_;refine .draw (oP [0,1,2,103,4,5,106,7,8,409]) Ao zK (G2 ?_);refine .i1 J J J J Y185.h Sz45 _ J oM (G2 ?_);refine .i1 J J J J Y185.h Sz45 _ J oM (G2 ?_);refine .i1 J J J J Y185.h Sz45 _ J oM (.s1 J J J J J Sz45 Z0 (by(simp[hRl,B8];omega)) (by exact Be _ _ _) zU ?_);refine G9 ?_;exact⟨i+1,by omega,by omega,Ad wN (wh1 Z0 (wh1 Z1 (wh1 Z2 wh0))) nD⟩
 obtain rfl:i=8:=by omega
 rw[hcm];refine G7 ?_;refine .lA J J J Y185.h J Sz185 Z0 (by(simp[hst,B8];done)) ?_;refine .sA J J J J zB Sz185 (by(simp[hst,B8];done)) Z1 sP zV ?_;refine G2 ?_;refine G2 ?_;refine⟨_,[],Am J J Y185.h J Sz185 Z1 (by simp[hst,B8]),sP,sP,?_,rfl⟩;rfl
theorem r2_bytes(st:List UInt64)(hst:st.length=8)(s:List UInt8)(hs:Hid (sumUp st 64=s)):Mv 166 [agg (Ah st)] (fun _=>True) (agg (Aa s)):=by
 intro W hW;have hs64:s.length=64:=by rw[←hs.out];exact Cb st 64
 refine Ac func166 J 23 ntmps166 J (G3 ?_);intro n1 hn1 hf1;refine .alloc (cs:=(Aa (List.replicate 64 0))) J Zr47 J ?_;intro n2 hn2 hf2;refine G4 ?_;refine .alloc (cs:=(Aa (List.replicate 64 0))) J Zr47 J ?_;intro n3 hn3 hf3;refine G9 ?_;refine .loop (ι:=Nat) (fun k=>⟨[(1,ptr n1 0),(2,ptr n2 0),(3,ptr n3 0),(4,i64 (k:Int))],[⟨n3,Aa (sumUp st k),47,64⟩,⟨n2,Aa (List.replicate 64 0),47,64⟩,⟨n1,Ah st,185,(Ah st).length⟩]⟩) (fun k=>k≤64) (fun k=>64-k) (0) ?_ ?_ ?_
 ·omega
 ·exact Ad wN (wh1 Z0 (wh1 Z1 (wh1 Z2 wh0))) nD
 rintro k hi;have hlk:=Cb st k;refine G7 ?_;refine .condP J (fun hc0=>?_) (fun hc0=>?_)
 ·
  refine G7 ?_;refine .quo_i64 J J J J oM (.i1 J J J J Y185.h Sz45 (k/8) oM oM (G2 ?_));refine .remN k 8 J J J J dE (.mulN 8 (k%8) J J J J oM (.subN 56 (8*(k%8)) J J J J oM (G1 ?_)));refine .shr_u64 J J J J (56-8*(k%8)) (by rw[Cg _ oM]) oM ?_;refine G1 ?_;refine .i1 J J J J Y47.h Sz5 _ J oM (.s1 J J J J J Sz5 Z0 (by(simp[Cb];omega)) (by exact Bi _ _ _) zU ?_);refine G9 ?_;exact⟨k+1,by omega,by omega,Ad wN (wh1 Z0 (wh1 Z1 (wh1 Z2 wh0))) nD⟩
 obtain rfl:k=64:=by omega
 rw[hs.out];clear hlk;refine G7 ?_;refine .lA J J J Y47.h J Sz47 Z0 (by(simp[hs64];done)) ?_;refine .sA J J J J zE Sz47 (by(simp[hs64];done)) Z1 sP zV ?_;refine G2 ?_;refine G2 ?_;refine⟨_,[],Am J J Y47.h J Sz47 Z1 (by simp[hs64]),sP,sP,?_,rfl⟩;rfl
theorem r2_join(p:Option Addr)(n c:Nat)(ss:List Sl)(ls:List (List UInt8))(hss:ss.length=n)(hls:ls.length=n)(hsl:∀j,j<n→(ss.getD j Sl.nil).n=(ls.getD j []).length∧((ss.getD j Sl.nil).p=none→(ss.getD j Sl.nil).n=0))(F:List UInt8)(hF:ls.flatten=F)(htot:F.length≤90000)(hn:n≤1000000)  :Meets prog 169 [.slice p n c] [] (fun W=>SeesP W p (ss.map Sl.v)∧∀j,j<n→SeesP W (ss.getD j Sl.nil).p (Aa (ls.getD j []))) (fun v out=>∃s,v=s.v∧Acc s out (Aa F) 5 F.length 1):=by
 intro W hW;have hle:=take_flat_le ls;rw[hF]at hle;refine Ac func169 J 18 ntmps169 J (G17 ?_);refine .loop (ι:=Nat×Sl×List Blk) (fun x=>⟨[(0, .slice p n c),(3,x.2.1.v),(4,i64 (x.1:Int))],(x.2.2++[])⟩) (fun x=>x.1≤n∧Acc x.2.1 x.2.2 (Aa (ls.take x.1).flatten) 5 (ls.take x.1).flatten.length 1) (fun x=>n-x.1) ((0,Sl.nil,[])) ?_ ?_ ?_
 ·exact⟨Laj _,Acc.none⟩
 ·exact An wN (pm_none Ai)
 rintro x ⟨hx,hax⟩;refine G9 ?_;refine .condP J (fun hc0=>?_) (fun hc0=>?_)
 ·
  have hx3:x.1<n:=by omega
  obtain⟨b,o,hbp,hbs⟩:=hW.1.at (by rw[La1];omega);have hv:W.cell? ⟨b,o+x.1*1,none⟩=some (ss.getD x.1 Sl.nil).v:=by rw[Lb4];exact hbs x.1 _ (sl_get oM)
  have hstep:=hle (x.1+1);rw[take_flat oM,La4,←(hsl x.1 oM).1]at hstep;refine G8 ?_;refine .idxSlP 1 J J J hbp J Y183.h Sz46 x.1 J oM (.loadE J J J Y46.h J sP (hv) (.appendAcc (z:=u8 0) (by':=1) (Aa (ls.getD x.1 [])) J J J J J Y46.h Y46.h Sz5 Zr5 (by unfold By;kernel_rfl) J hax sG (fun w h=>A2 h J (hW.2 x.1 oM)) (hsl x.1 oM).2 (Ay _) oM oM (by rw[Aa,La1,Lb4];exact(hsl x.1 oM).1.symm) ?_));intro s16 bl16 hac16;refine G10 ?_;refine⟨(x.1+1,s16,bl16),⟨by simp only[];omega,?_⟩,by simp only[];omega,An wN (Af sG Ai)⟩;rw[take_flat oM,La4,←(hsl x.1 oM).1];simpa[Aa]using hac16
 have hx3:x.1=n:=by omega
 rw[hx3,La5 oM,hF]at hax;refine G11 ?_;refine G2 ?_;refine Aw (out:=(x.2.2++[])) (Ae J J) (Af sG Ai) ?_;exact⟨x.2.1,rfl,by rw[Lat];exact hax⟩
theorem pad_acc(F:List UInt8){q c:Nat}(x:UInt64)(h:F.length+1+padZ F.length+8≤c):Acc ⟨some ⟨q,0,none⟩,F.length+1+padZ F.length+8,c⟩ [⟨q,Aa (F++[128]++List.replicate (padZ F.length) 0)++List.replicate 8 (u8 0),5,c⟩] (Aa (F++[128]++List.replicate (padZ F.length) 0++beUp 0 8++beUp x 0)) 5 (F.length+1+padZ F.length+8+0) 1:=by
  have e:Aa (F++[128]++List.replicate (padZ F.length) 0)++List.replicate 8 (u8 0)=Aa (F++[128]++List.replicate (padZ F.length) 0++beUp 0 8++beUp x 0):=by
    rw[show beUp x 0=[]from rfl,Lat,C5 (b:=beUp 0 8)];rfl
  have h2:(Aa (F++[128]++List.replicate (padZ F.length) 0++beUp 0 8++beUp x 0)).length=(F.length+1+padZ F.length+8)*1:=by
    simp[Aa,beUp_length];omega
  have h3:=Acc.some (q:=q) (E:=5) (size:=1) h h2;rw[Lb4]at h3;rw[e];exact h3
theorem r2_Pad(s:Sl)(F:List UInt8)(hsl:s.n=F.length)(hsn:s.p=none→s.n=0)(htot:F.length≤90000):Meets prog 207 [s.v] [] (fun W=>SeesP W s.p (Aa F)) (fun v out=>∃s,v=s.v∧Acc s out (Aa (padB F)) 5 (padB F).length 1):=by
 intro W hW;have hz:=padZ_lt F.length;refine Ac func207 J 38 ntmps207 J (G7 ?_);refine .mkRow (z:=u8 0) [] ([]) J J J Y46.h Sz5 Zr5 J J (by intro v hv;cases hv) dE J ?_;intro q6;refine G1 ?_;refine .appendSl (z:=u8 0) (by':=1) (Aa F) J J J J J Y46.h Y46.h Sz5 Zr5 (by unfold By;kernel_rfl) J (fun w h=>A2 h J hW) hsn (Ay _) rM J J oM oM oM (by rw[Aa,La1];omega) ?_;intro q8 c8 hq8;refine .mkRow (z:=u8 0) [u8 (128)] (Aa [128]) J J J Y46.h Sz5 Zr5 J J (by intro v hv;rw[La0.1 hv];rfl) dE J ?_;intro q9;refine .appendSl (z:=u8 0) (by':=1) (Aa [128]) J J J J J Y46.h Y46.h Sz5 Zr5 (by unfold By;kernel_rfl) J (fun w h=>SeesP.of (Ap h Z0)) (fun e=>by cases e) (Ay _) rM J (by rw[Lak,Aa,La1];omega) oM oM oM (by rfl) ?_;intro q10 c10 hq10;refine G5 ?_;refine .loop (ι:=Nat×Sl×List Blk) (fun z=>⟨[(0,s.v),(3,z.2.1.v)],(z.2.2++[])⟩) (fun z=>z.1≤padZ F.length∧Acc z.2.1 z.2.2 (Aa (F++[128]++List.replicate z.1 0)) 5 (F.length+1+z.1) 1) (fun z=>padZ F.length-z.1) ((0,⟨some ⟨q10,0,none⟩,0+s.n+1,c10⟩,[⟨q10,[]++Aa F++Aa [128],5,c10*1⟩])) ?_ ?_ ?_
 ·exact⟨Laj _,by rw[show[]++Aa F++Aa [128]=Aa (F++[128]++List.replicate 0 0)from by simp[Aa],show 0+s.n+1=F.length+1+0 by omega];exact Acc.some oM (by simp[Aa])⟩
 ·exact An wN (pm_consE rM rfl rfl Ai)
 rintro⟨j,sz,blz⟩ ⟨hz1,haz⟩;simp only[]at hz1 haz;have hzn:=haz.num;have hpz:=padZ_at F.length j hz1;refine G5 ?_;refine .rem_i64 J J J J oM (G3 ?_);refine .condNP J (fun hc0=>?_) (fun hc0=>?_)
 ·
  simp only[]at hc0;have hz3:j<padZ F.length:=by omega
  refine G5 ?_;refine .mkRow (z:=u8 0) [u8 (0)] (Aa [0]) J J J Y46.h Sz5 Zr5 J J (by intro v hv;rw[La0.1 hv];rfl) dE J ?_;intro q16;refine .appendAcc (z:=u8 0) (by':=1) (Aa [0]) J J J J J Y46.h Y46.h Sz5 Zr5 (by unfold By;kernel_rfl) J haz sG (fun w h=>SeesP.of (Ap h Z0)) (fun e=>by cases e) (Ay _) oM oM (by rfl) ?_;intro s17 bl17 hac17;refine G4 ?_;refine⟨(j+1,s17,bl17),⟨by simp only[];omega,?_⟩,by simp only[];omega,An wN (Af sG Ai)⟩;rw[Lfb,←La8];simpa[Aa,Lcc]using hac17
 simp only[]at hc0;have hz3:j=padZ F.length:=by omega
 rw[hz3]at haz;obtain⟨qz,cz,rfl,hcz,rfl⟩:=acc_pos haz oM;refine G8 ?_;refine .appendMade (n:=F.length+1+padZ F.length) (m:=8) (z:=u8 0) (by':=1) J J J J J J Y46.h Y3.h Sz5 Zr5 (by unfold By;kernel_rfl) J J rM (Lb4 _) (by rw[Aa,La1];simp;omega) hcz oM dE ?_;intro q19 c19 hq19;refine G8 ?_;rw[word_nat (n:=s.n) oM];refine .mul_u64 J J J (show Ag _ _=some (u64 8)from rfl) ?_;rw[hsl];refine G10 ?_;refine .loop (ι:=Nat×Sl×List Blk) (fun y=>⟨[(3,y.2.1.v),(4,u64 (UInt64.ofNat F.length*8)),(5,i64 (7-(y.1:Int)))],(y.2.2++[])⟩) (fun y=>y.1≤8∧Acc y.2.1 y.2.2 (Aa (F++[128]++List.replicate (padZ F.length) 0++beUp 0 8++beUp (UInt64.ofNat F.length*8) y.1)) 5 (F.length+1+padZ F.length+8+y.1) 1) (fun y=>8-y.1) ((0,⟨some ⟨q19,0,none⟩,F.length+1+padZ F.length+8,c19⟩,[⟨q19,Aa (F++[128]++List.replicate (padZ F.length) 0)++List.replicate 8 (u8 0),5,c19⟩])) ?_ ?_ ?_
 ·exact⟨Laj _,pad_acc F _ hq19⟩
 ·exact An wN (pm_consE rM rfl rfl Ai)
 rintro y ⟨hy,hay⟩;refine G7 ?_;refine .condP J (fun hc1=>?_) (fun hc1=>?_)
 ·
  have hy3:y.1≤7:=by omega
  refine G8 ?_;refine .mul_i64 J J J J oM (G1 ?_);refine .shr_u64 J J J J (56-8*y.1) (by rw[Cg _ oM];omega) oM ?_;refine G1 ?_;refine .mkRow (z:=u8 0) [u8 ((Ar (UInt64.ofNat F.length*8) (56-8*y.1)).toUInt8)] (Aa [(Ar (UInt64.ofNat F.length*8) (56-8*y.1)).toUInt8]) J J J Y46.h Sz5 Zr5 J J (by intro v hv;rw[La0.1 hv];rfl) dE J ?_;intro q35;refine .appendAcc (z:=u8 0) (by':=1) (Aa [(Ar (UInt64.ofNat F.length*8) (56-8*y.1)).toUInt8]) J J J J J Y46.h Y46.h Sz5 Zr5 (by unfold By;kernel_rfl) J hay sG (fun w h=>SeesP.of (Ap h Z0)) (fun e=>by cases e) (Ay _) oM oM (by rfl) ?_;intro s36 bl36 hac36;refine G10 ?_;refine⟨(y.1+1,s36,bl36),⟨by simp only[];omega,?_⟩,by simp only[];omega,An (wk1 J (wk1 J (wk1 (congrArg (fun z=>some (i64 z)) oM) wk0))) (Af sG Ai)⟩;rw[show beUp (UInt64.ofNat F.length*8) (y.1+1)=beUp (UInt64.ofNat F.length*8) y.1++[(Ar (UInt64.ofNat F.length*8) (56-8*y.1)).toUInt8]from rfl,←La8,C5];exact hac36
 have hy3:y.1=8:=by omega
 rw[hy3]at hay;refine G11 ?_;refine G2 ?_;refine Aw (out:=(y.2.2++[])) (Ae J J) (Af sG Ai) ?_;refine⟨y.2.1,rfl,?_⟩;have e8:UInt64.ofNat F.length*8=UInt64.ofNat (8*F.length):=by
  apply Lbg.1;rw[mul8_nat (by rw[ofNat_nat oM];omega),ofNat_nat oM,ofNat_nat oM];omega
 rw[e8]at hay;rw[padB_length,padB];simpa[Lcc,Ldt,Nat.add_left_comm]using hay
theorem take_len2{xs:List UInt8}{i K:Nat}(h:xs.length=128*K)(hi:i<K):((xs.drop (128*i)).take 128).length=128:=by simp;omega
theorem sees_chunk{w:World}{l:List UInt8}(h:Cd w q 0 (Aa l)):Cd w q (128*i) (Aa ((l.drop (128*i)).take 128)):=fun j v hj=>by
  have e:(Aa l)[128*i+j]? =some v:=by
    rw[Aa,Lcm,Le7,Lb9]at hj;split at hj
    ·rwa[Lba]at hj
    ·cases hj
  have h1:=h _ v e;rwa[Las]at h1
theorem cut_chunk(q c i:Nat)(h:128*i<c):(.slice (some ⟨q,if c=128*i then 0 else 0+128*i*1,none⟩) (128*i+128-128*i) (c-128*i):Value)= .slice (some ⟨q,128*i,none⟩) 128 (c-128*i):=by
  rw[if_neg oM,show 128*i+128-128*i=128 by omega,show 0+128*i*1=128*i by omega]
theorem r2_run(st:List UInt64)(hst:st.length=8)(k:List UInt64)(hk:Hid (kW=k))(hk80:k.length=80)(s:Sl)(F:List UInt8)(hsl:s.n=F.length)(hsn:s.p=none→s.n=0)(htot:F.length≤90000):Mv 167 [agg (Ah st),s.v] (fun W=>SeesP W s.p (Aa F)) (agg (Ah (allW k st F))):=by
 intro W hW;have hpl:=padB_length F;have hpz:=padZ_lt F.length;have hpm:=padB_mod F;obtain⟨K,hK⟩:∃K,(padB F).length/128=K:=⟨_,rfl⟩;rw[hK]at hpm;obtain⟨U,hU⟩:∃U,Hid (allW k st F=U):=⟨_,⟨rfl⟩⟩;have hst2:U.length=8:=by rw[←hU.out,allW_length];exact hst
 rw[hU.out];have hrl:=hst2;refine Ac func167 J 23 ntmps167 J (G3 ?_);intro n2 hn2 hf2;refine .alloc (cs:=(Ah (List.replicate 8 0))) J Zr185 J ?_;intro n4 hn4 hf4;refine G5 ?_;refine .call4 J J J J J Body207 (r2_Pad s F hsl hsn htot) (fun w h=>A2 h J hW) ?_;rintro v8 out8 ⟨s7,rfl,hac7⟩;obtain⟨q7,c7,rfl,hc7,rfl⟩:=acc_pos hac7 oM;refine G10 ?_;refine .loop (ι:=Nat) (fun i=>⟨[(2,ptr n2 0),(4,ptr n4 0),(5, .slice (some ⟨q7,0,none⟩) (padB F).length c7),(6,i64 ((128*i:Nat):Int))],[⟨q7,Aa (padB F),5,c7*1⟩,⟨n4,Ah (List.replicate 8 0),185,8⟩,⟨n2,Ah (runW k st (padB F) i),185,(Ah st).length⟩]⟩) (fun i=>i≤K) (fun i=>K-i) (0) ?_ ?_ ?_
 ·exact Laj _
 ·exact An wN (Ab rM (Ab rM (Ab rM Ai)))
 rintro i hi;have hrl:(runW k st (padB F) i).length=8:=by rw[runW_length];exact hst
 refine G9 ?_;refine .condP J (fun hc0=>?_) (fun hc0=>?_)
 ·
  have hi3:i<K:=by omega
  obtain⟨A,hA⟩:∃A,Hid (schA ((padB F).drop (128*i)|>.take 128) 128=A):=⟨_,⟨rfl⟩⟩;obtain⟨w,hwp⟩:∃w,Hid (schB A 64=w):=⟨_,⟨rfl⟩⟩;obtain⟨R,hR⟩:∃R,Hid (rnds k w (W8.of (runW k st (padB F) i)) 80=R):=⟨_,⟨rfl⟩⟩;have e1:addUp (runW k st (padB F) i) R.l 8=runW k st (padB F) (i+1):=by rw[runW,pieceW,schW,hA.out,hwp.out,hR.out]
  have hrl2:(runW k st (padB F) (i+1)).length=8:=by rw[runW_length];exact hst
  refine G4 ?_;refine .draw (oP [100,1,2,3,4,5,306,407]) Ao zK (.lA J J J Y185.h J Sz185 Z2 (by(simp[hrl];done)) ?_);refine G4 ?_;refine .sliceLoHiN (128*i) (128*i+128) J J J J J oM oM oM oM Y46.h Sz5 ?_;rw[cut_chunk q7 c7 i oM];refine .cV J J J J Body208 (r2_piece (runW k st (padB F) i) hrl ((padB F).drop (128*i)|>.take 128) (take_len2 hpm hi3) q7 (128*i) (c7-128*i) A w k R hA hwp hk hk80 hR) (fun w h=>sees_chunk (Ap h Z0)) ?_;rw[e1];refine .sA J J J J zB Sz185 (by(simp[hst,runW_length];done)) Z2 (by(simp[hrl];done)) (by exact upd2) ?_;refine G9 ?_;exact⟨i+1,by omega,by omega,An (wk1 rfl (wk1 rfl (wk1 rfl (wk1 (congrArg (fun z=>some (i64 z)) oM) wk0)))) (Ab rM (Ab rM (Ab rM Ai)))⟩
 rw[show(runW k st (padB F) i)=U from by rw[show i=K by omega,←hU.out,allW,hK]];refine G7 ?_;refine .lA J J J Y185.h J Sz185 Z2 (by(simp[hst2];done)) ?_;refine .sA J J J J zB Sz185 (by(simp[hst2];done)) Z1 sP zV ?_;refine G2 ?_;refine G2 ?_;refine⟨_,[],Am J J Y185.h J Sz185 Z1 (by simp[hst2]),sP,sP,?_,rfl⟩;rfl
theorem r2_Sum512(p:Option Addr)(n c:Nat)(ss:List Sl)(ls:List (List UInt8))(hss:ss.length=n)(hls:ls.length=n)(hsl:∀j,j<n→(ss.getD j Sl.nil).n=(ls.getD j []).length∧((ss.getD j Sl.nil).p=none→(ss.getD j Sl.nil).n=0))(F:List UInt8)(hF:ls.flatten=F)(htot:F.length≤90000)(hn:n≤1000000)(s:List UInt8)(hs:Hid (sha512 F=s))  :Mv 267 [.slice p n c] (fun W=>SeesP W p (ss.map Sl.v)∧∀j,j<n→SeesP W (ss.getD j Sl.nil).p (Aa (ls.getD j []))) (agg (Aa s)):=by
 intro W hW;have hs64:s.length=64:=by rw[←hs.out];exact sha512_length F
 obtain⟨k,hk⟩:∃k,Hid (kW=k):=⟨_,⟨rfl⟩⟩;obtain⟨st,hst⟩:∃k,Hid (startW=k):=⟨_,⟨rfl⟩⟩;obtain⟨r,hr⟩:∃r,Hid (allW k st F=r):=⟨_,⟨rfl⟩⟩;have hk80:k.length=80:=by rw[←hk.out];rfl
 have hst8:st.length=8:=by rw[←hst.out];rfl
 have hr8:r.length=8:=by rw[←hr.out,allW_length];exact hst8
 have hsum:Hid (sumUp r 64=s):=⟨by rw[←hr.out,←hk.out,←hst.out];exact hs.out⟩;have hrun:=fun(x:Sl) (h1:x.n=F.length) (h2:x.p=none→x.n=0)=>r2_run st hst8 k hk hk80 x F h1 h2 htot;rw[hr.out]at hrun;refine Ac func267 J 8 ntmps267 J (G2 ?_);refine .alloc (cs:=(Aa (List.replicate 64 0))) J Zr47 J ?_;intro n2 hn2 hf2;refine G4 ?_;refine .cV J J J J Body209 (r2_Start st hst) tV (G1 ?_);refine .call4 J J J J J Body169 (r2_join p n c ss ls hss hls hsl F hF htot hn) (fun w h=>⟨A2 h J hW.1,fun j hj=>A2 h J (hW.2 j hj)⟩) ?_;rintro v5 out5 ⟨s5,rfl,hac5⟩;refine .cV J J J J Body167 (hrun s5 hac5.num hac5.nil) (fun w h=>hac5.see (Lies.of h (by repeat(exact A4)))) ?_;refine .cV J J J J Body166 (r2_bytes r hr8 s hsum) tV (.sA J J J J zE Sz47 (by(simp[hs64];done)) mR sP (by(repeat(first|exact upd0|apply Upd.seg))) ?_);refine G2 ?_;refine G2 ?_;refine⟨_,[],Am J J Y47.h J Sz47 mR (by simp[hs64]),sP,sP,?_,rfl⟩;rfl
end Go.Proofs.YtpogmfngccolbaaGreat
end
