/- Contracts of functions of the loaded program, and the lemmas that they need (part 5). It proves no statement by itself; it has no conditions. -/
import Derived.WalkKit
import Derived.Orders
import Derived.Deep.LoopGhost
import Derived.IntWalk
import Derived.Laws.StructEq
import Derived.Test.YtgjnomgkddbhcaaGreatRows
import Derived.KernelRfl
import Derived.ArgAppend
import Derived.Deep.AppendSrc
import Derived.Lib.Bytealg
import Derived.Lib.BytesEntry
import Derived.Laws.IdiomStrings
import Derived.WideKeyArr2
import Derived.ProofKit
import Derived.OpenShut
import Derived.Deep.Slices
import Derived.Laws.Pointers
import Derived.Laws.Cover3
import Derived.LaidEqlPtr
import Derived.LoopN
import Derived.RangeFuncLeaves
import Derived.RangeFuncSeq
import Derived.OrdersIn
import Derived.Maps.Keyed
import Derived.Maps.RangeRun
import Derived.DeepKeys4
import Derived.Below
import Derived.Laws.Externs
import Derived.Defers
import Derived.Laws.MathBits
import Derived.Shelf.SlSortCmp.WholeK
import Derived.Shelf.SlGeneric
import Derived.Test.YtgjnomgkddbhcaaGreatProg
import Derived.Shelf.SlSortCmp.NoneTotal
import Derived.Deep.QuietTactic
import Derived.BigQuiet
import Derived.ScopeJumps
import Derived.DeepKeys3
import Derived.ChangeOld
import Derived.JoinedOf
import Derived.Test.YtgjnomgkddbhcaaGreatWMtX4
set_option maxRecDepth 100000
set_option maxHeartbeats 8000000
set_option linter.unusedVariables false
set_option linter.unusedSimpArgs false
set_option linter.unusedSectionVars false
set_option linter.unnecessarySimpa false
section
namespace Go.Proofs.YtgjnomgkddbhcaaGreat
open Go Hw _root_.Go.Proofs.Tryz
open Ed
theorem r_mul(x y:Fp):Mv 238 [agg (Aa (fb x)),agg (Aa (fb y))] (fun _=>True) (agg (Aa (fb (x*y)))):=by
  have h:=r3_Mul (fb x) (fb y) (Ar x) (Ar y);rwa[fe_fb x,fe_fb y]at h
theorem r_sub(x y:Fp):Mv 267 [agg (Aa (fb x)),agg (Aa (fb y))] (fun _=>True) (agg (Aa (fb (x-y)))):=by
  have h:=r3_Sub (fb x) (fb y) (Ar x) (Ar y);rwa[fe_fb x,fe_fb y]at h
theorem r_neg(x:Fp):Mv 227 [agg (Aa (fb x))] (fun _=>True) (agg (Aa (fb (-x)))):=by
  have h:=r3_Neg (fb x) (Ar x);rwa[fe_fb x]at h
theorem r_inv(x:Fp):Mv 240 [agg (Aa (fb x))] (fun _=>True) (agg (Aa (fb (finv x)))):=by
  have h:=r3_Inv (fb x) (Ar x);rwa[fe_fb x]at h
theorem r_odd(x:Fp):Mv 242 [agg (Aa (fb x))] (fun _=>True) (.bool (decide (x.val%2=1))):=by
  have h:=r3_Odd (fb x) (Ar x);rwa[fe_fb x]at h
theorem r_canon(x:Fp):Mv 225 [agg (Aa (fb x))] (fun _=>True) (.bool true):=by
  have h:=r3_Canon (fb x) (Ar x);rw[fe_fb x]at h;rwa[decide_eq_true rfl]at h
theorem r_same_raw(x:Fp)(a:List UInt8)(ha:a.length=32):Mv 285 [agg (Aa (fb x)),agg (Aa a)] (fun _=>True) (.bool (decide (x=fe (le a)))):=by
  have h:=r3_Same (fb x) a (Ar x) ha;rwa[fe_fb x]at h
theorem r_of(x:UInt64)(X:Fp)(h:fe x.toNat=X):Mv 239 [u64 x] (fun _=>True) (agg (Aa (fb X))):=by
  rw[←h];exact r3_Of x
theorem r_one:Mv 239 [u64 1] (fun _=>True) (agg (Aa (fb 1))):=r_of 1 1 rfl
theorem r_cA:Mv 239 [u64 121666] (fun _=>True) (agg (Aa (fb cA))):=r_of 121666 cA rfl
theorem r_cB:Mv 239 [u64 121665] (fun _=>True) (agg (Aa (fb cB))):=r_of 121665 cB rfl
theorem r_pow_root(a:List UInt8)(ha:a.length=32)(X:Fp)(hX:fe (le a)=X):Mv 275 [agg (Aa a),agg (Aa (expT 5 3))] (fun _=>True) (agg (Aa (fb (Ct X ((PF-5)/8))))):=r3_Pow_e a _ ha (expT_length _ _) _ X expT_root hX
theorem r_pow_unit:Mv 275 [agg (Aa (fb (fe 2))),agg (Aa (expT 1 2))] (fun _=>True) (agg (Aa (fb (Ct (fe 2) ((PF-1)/4))))):=r3_Pow_e _ _ (Ar _) (expT_length _ _) _ _ expT_unit (fe_fb _)
theorem r_mul_a(p r:Fp)(a:List UInt8)(ha:a.length=32)(h:p*fe (le a)=r):Mv 238 [agg (Aa (fb p)),agg (Aa a)] (fun _=>True) (agg (Aa (fb r))):=by
  have h1:=r3_Mul (fb p) a (Ar p) ha;rwa[fe_fb p,h]at h1
theorem r3_Root(a:List UInt8)(X:Fp)(ha:a.length=32)(hX:fe (le a)=X):Mv 268 [agg (Aa a)] (fun _=>True) (.tuple #[agg (Aa (fb (fRoot X).1)), .bool (fRoot X).2]):=by
 intro W hW;obtain⟨r0,hr0⟩:∃r,Ct X ((PF+3)/8)=r:=⟨_,rfl⟩;obtain⟨un,hun⟩:∃r,Ct (fe 2) ((PF-1)/4)=r:=⟨_,rfl⟩;obtain⟨r1,hr1⟩:∃r,fRoot1 X=r:=⟨_,rfl⟩;have hp0:=r_pow_root a ha X hX;have hstep:=root_step X;obtain⟨p0,hpp⟩:∃r,Ct X ((PF-5)/8)=r:=⟨_,rfl⟩;rw[hpp]at hp0 hstep;rw[hr0]at hstep;have hm0:=r_mul_a p0 r0 a ha (by rw[hX];exact hstep);have hpu:=r_pow_unit;rw[hun]at hpu;have hm:=fun y=>r_same_raw y a ha;rw[hX]at hm;have hr1':r1=if r0*r0=X then r0 else r0*un:=by rw[←hr1,fRoot1,hr0,hun]
 have hR:fRoot X=if r1*r1=X then((if r1.val%2=1 then-r1 else r1),true)else(0,false):=by rw[fRoot,hr1]
 clear hr1 hstep;have hs53:=r3_shifted 5 3 dE dE;have hs12:=r3_shifted 1 2 dE dE;obtain⟨E,hE⟩:∃E,Hid (expT 5 3=E):=⟨_,⟨rfl⟩⟩;obtain⟨G,hG⟩:∃E,Hid (expT 1 2=E):=⟨_,⟨rfl⟩⟩;have hEl:E.length=32:=by rw[←hE.out];exact expT_length _ _
 have hGl:G.length=32:=by rw[←hG.out];exact expT_length _ _
 rw[hE.out]at hs53 hp0;rw[hG.out]at hs12 hpu;refine Ad func268 J 33 ntmps268 J (G3 ?_);intro n1 hn1 hf1;refine .alloc (cs:=(Aa (List.replicate 32 0))) J A8 J ?_;intro n2 hn2 hf2;refine G4 ?_;refine .draw (oPq [100,103,301,302,304,205,406]) Aq zK (.lA J J J Y187.h J Sz187 Z1 (by(simp[ha];done)) ?_);refine .lA J J J Y187.h J Sz187 Z1 (by(simp[ha];done)) ?_;refine .cV J J J J Body276 (hs53) tV (.cV J J J J Body275 (hp0) tV (.cV J J J J Body238 (hm0) tV (.alloc (cs:=(Aa (List.replicate 32 0))) J A8 J ?_)));intro n4 hn4 hf4;refine .sA J J J J zE Sz187 zF Z0 sP zU ?_;refine G2 ?_;refine .join (ι:=Unit) (fun _u=>⟨[(1,ptr n1 0),(2,ptr n2 0),(4,ptr n4 0)],[⟨n4,Aa (fb r1),187,32⟩,⟨n2,Aa (List.replicate 32 0),187,32⟩,⟨n1,Aa a,187,(Aa a).length⟩]⟩) (fun _u=>True) ?_ ?_
 ·
  refine .seq (.draw (oPq [100,101,103,302,304,5]) Aq zK (G2 ?_));refine .lA J J J Y187.h J Sz187 Z2 (by(simp[ha];done)) ?_;refine .cV J J J J Body238 (r_mul r0 r0) tV (.cV J J J J Body285 (hm (r0*r0)) tV (G3 ?_));refine .condNP J (fun hc0=>?_) (fun hc0=>?_)
  ·
   refine .draw (oPq [100,301,302,303,304,405]) Aq zK (G1 ?_);refine .cV J J J J Body239 (r_of 2 (fe 2) J) tV (.cV J J J J Body276 (hs12) tV (.cV J J J J Body275 (hpu) tV (.cV J J J J Body238 (r_mul r0 un) tV (G3 ?_))))
   (rw[hr1',if_neg hc0];exact⟨(),trivial,Ah wN (wh1 Z0 (wh1 Z1 (wh1 Z2 wh0))) nD⟩)
  refine G2 ?_
  (rw[hr1',if_pos hc0];exact⟨(),trivial,Ah wN (wh1 Z0 (wh1 Z1 (wh1 Z2 wh0))) nD⟩)
 intro _u hj;skip;refine G2 ?_;refine .draw (oPq [100,101,103,302,304,5]) Aq zK (G2 ?_);refine .lA J J J Y187.h J Sz187 Z2 (by(simp[ha];done)) ?_;refine .cV J J J J Body238 (r_mul r1 r1) tV (.cV J J J J Body285 (hm (r1*r1)) tV (G3 ?_));refine .condNP J (fun hc1=>?_) (fun hc1=>?_)
 ·
  refine G2 ?_;refine .build (cs:=Aa (List.replicate 32 0)) J J J (fun w=>by kernel_rfl) ?_;refine .sA J J J J zE Sz187 sP Z1 sP zV ?_;refine G3 ?_;refine G3 ?_;refine⟨_,[],Bg J J J Y187.h J Sz187 Z1 sP,sP,sP,?_,rfl⟩
  (rw[hR,if_neg hc1,fb_zero];done)
 refine G2 ?_;refine .join (ι:=Unit) (fun _u=>⟨[(2,ptr n2 0),(4,ptr n4 0)],[⟨n4,Aa (fb (if r1.val%2=1 then-r1 else r1)),187,32⟩,⟨n2,Aa (List.replicate 32 0),187,32⟩]⟩) (fun _u=>True) ?_ ?_
 ·
  refine G3 ?_;refine .cV J J J J Body242 (r_odd r1) tV (G2 ?_);refine .condP J (fun hc2=>?_) (fun hc2=>?_)
  ·
   refine G2 ?_;refine .cV J J J J Body227 (r_neg r1) tV (G3 ?_)
   (rw[if_pos hc2];exact⟨(),trivial,Ah wN (wh1 Z0 (wh1 Z1 wh0)) nD⟩)
  refine G2 ?_
  (rw[if_neg hc2];exact⟨(),trivial,Ah wN (wh1 Z0 (wh1 Z1 wh0)) nD⟩)
 intro _u hj;skip;refine G3 ?_;refine .sA J J J J zE Sz187 zF Z1 sP zV ?_;refine G3 ?_;refine G2 ?_;refine⟨_,[],Bg J J J Y187.h J Sz187 Z1 (by simp[Ar]),sP,sP,?_,rfl⟩
 (rw[hR,if_pos hc1];done)
theorem check_eq{P:Pt Fp}(h:cv.on P):cA*(P.y*P.y-P.x*P.x-1)= -(cB*(P.x*P.x*(P.y*P.y))):=by
  have h1:=(cv.on_iff P).1 h;have h2:P.y*P.y-P.x*P.x=1+fD*(P.x*P.x*(P.y*P.y)):=h1;have h3:=fD_cA;rw[h2];generalize P.x*P.x*(P.y*P.y)=q at*;generalize cA=a at*;generalize cB=b at*;generalize fD=d at*;grind
theorem r5_D  :Mv 233 [] (fun _=>True) (agg (Aa (fb fD))):=by
 intro W hW;have hm:=r_mul (-cB) (finv cA);rw[ref_D]at hm;have hi:=r_inv cA;revert hm hi;generalize finv cA=ia;intro hm hi;refine Ad func233 J 6 ntmps233 J (G2 ?_);refine .alloc (cs:=(Aa (List.replicate 32 0))) J A8 J ?_;intro n0 hn0 hf0;refine G4 ?_;refine .cV J J J J Body239 (r_cB) tV (.cV J J J J Body227 (r_neg cB) tV ?_);refine .cV J J J J Body239 (r_cA) tV (.cV J J J J Body240 (hi) tV (.cV J J J J Body238 (hm) tV (.sA J J J J zE Sz187 zF Z0 sP zU ?_)));refine G2 ?_;refine G2 ?_;refine⟨_,[],Aw J J Y187.h J Sz187 Z0 (by simp[Ar]),sP,sP,?_,rfl⟩;rfl
theorem r5_Zero  :Mv 231 [] (fun _=>True) (agg (ptc (zero:Pt Fp)).cells):=by
 intro W hW;refine Ad func231 J 3 ntmps231 J (G2 ?_);refine .alloc (cs:=Point.zero.cells) J Point.zr J ?_;intro n0 hn0 hf0;refine G4 ?_;refine .cV J J J J Body239 (r_one) tV (.build (cs:=(⟨fb 0,fb 1⟩:Point).cells) J J J (fun w=>by kernel_rfl) ?_);refine .sA J J J J (Point.isCell (by exact⟨C1 _,C1 _⟩)) Sz190 (Point.length (by exact⟨C1 _,C1 _⟩)) Z0 (Point.length zZ) zU ?_;refine G2 ?_;refine G2 ?_;refine⟨_,[],Aw J J Y190.h J Sz190 Z0 (by exact Point.length (by exact⟨C1 _,C1 _⟩)),sP,sP,?_,rfl⟩;rfl
theorem r5_root(Y:Fp):Mv 226 [agg (Aa (fb Y))] (fun _=>True) (.tuple #[agg (Aa (fb (xOf Y).1)), .bool (xOf Y).2]):=by
 intro W hW;have hq:=ref_quot Y;have hxo:xOf Y=fRoot ((Y*Y-1)*finv (fD*(Y*Y)+1)):=rfl;rw[←hq]at hxo;have hinv:=r_inv (cA-cB*(Y*Y));revert hinv hxo;clear hq;generalize finv (cA-cB*(Y*Y))=iz;intro hxo hinv;have hroot:=r3_Root (fb (cA*(Y*Y-1)*iz)) (cA*(Y*Y-1)*iz) (Ar _) (fe_fb _);rw[←hxo]at hroot;clear hxo;revert hroot;generalize xOf Y=xr;intro hroot;refine Ad func226 J 27 ntmps226 J (.sr (.boxA J J ?_));intro n1 hn1 hf1;refine .alloc (cs:=(Aa (List.replicate 32 0))) J A8 J ?_;intro n2 hn2 hf2;refine .a J J J (.nsr (.lA J J J Y187.h J Sz187 Z1 zF ?_));refine .lA J J J Y187.h J Sz187 Z1 zF ?_;refine .cV J J J J Body238 (r_mul Y Y) tV (.alloc (cs:=(Aa (List.replicate 32 0))) J A8 J ?_);intro n4 hn4 hf4;refine .sA J J J J zE Sz187 zF Z0 sP zU ?_;refine .na (.seq (.draw (oPq [101,300,302,303,304,205,406]) Aq zK (.lA J J J Y187.h J Sz187 Z0 zF ?_)));refine .cV J J J J Body239 (r_cA) tV (.cV J J J J Body239 (r_one) tV (.cV J J J J Body267 (r_sub (Y*Y) 1) tV (.cV J J J J Body238 (r_mul cA (Y*Y-1)) tV (.alloc (cs:=(Aa (List.replicate 32 0))) J A8 J ?_))));intro n5 hn5 hf5;refine .sA J J J J zE Sz187 zF Z0 sP zU ?_;refine .na (.seq (.draw (oPq [102,300,301,303,304,205,406]) Aq zK (.lA J J J Y187.h J Sz187 Z1 zF ?_)));refine .cV J J J J Body239 (r_cA) tV (.cV J J J J Body239 (r_cB) tV (.cV J J J J Body238 (r_mul cB (Y*Y)) tV ?_));refine .cV J J J J Body267 (r_sub cA (cB*(Y*Y))) tV ?_;refine .alloc (cs:=(Aa (List.replicate 32 0))) J A8 J ?_;intro n6 hn6 hf6;refine .sA J J J J zE Sz187 zF Z0 sP zU ?_;refine .na (.seq (.draw (oPq [100,101,302,303,304,5,6,407,8]) Aq zK (.lA J J J Y187.h J Sz187 Z1 zF ?_)));refine .lA J J J Y187.h J Sz187 Z0 zF ?_;refine .cV J J J J Body240 (hinv) tV (.cV J J J J Body238 (r_mul (cA*(Y*Y-1)) iz) tV (.cV J J J J Body268 (hroot) tV (.eX J J J J (.eX J J J J (.sA J J J J zE Sz187 zF Z3 sP (by exact upd3) ?_)))));refine .a J J J (.na ?_);refine .ret (C6 ?_);refine⟨_,[],Bg J J J Y187.h J Sz187 Z3 (by simp[Ar]),sP,sP,?_,rfl⟩;rfl
theorem bP_four:fe 4*finv (fe 5)=bP.y:=by
  have h1:bP.y*fe 5=fe 4:=by kernel_rfl
  have h2:fe 5*finv (fe 5)=1:=finv_mul (by
    intro h;have:=congrArg Fin.val h;revert this;decide)
  generalize finv (fe 5)=v at*;generalize fe 5=f at*;rw[←h1];generalize bP.y=y at*;grind
theorem bP_even:(decide (bP.x.val%2=1))=false:=by kernel_rfl
theorem bP_root:xOf bP.y=(bP.x,true):=by
  have h:=xOf_eq (x:=bP.x) (y:=bP.y) bP_on;rw[h,if_neg (of_decide_eq_false bP_even)]
theorem r5_Base  :Mv 180 [] (fun _=>True) (agg (ptc bP).cells):=by
 intro W hW;have hm:=r_mul (fe 4) (finv (fe 5));rw[bP_four]at hm;have hi:=r_inv (fe 5);have hr:=r5_root bP.y;rw[bP_root]at hr;have hb:bP=⟨bP.x,bP.y⟩:=rfl;rw[hb];clear hb;revert hm hi hr;generalize finv (fe 5)=iv;generalize bP.x=bx;generalize bP.y=bY;intro hm hi hr;refine Ad func180 J 16 ntmps180 J (.sr (.alloc (cs:=Point.zero.cells) J Point.zr J ?_));intro n0 hn0 hf0;refine .nsr (.cV J J J J Body239 (r_of 4 (fe 4) J) tV (.cV J J J J Body239 (r_of 5 (fe 5) J) tV (.cV J J J J Body240 (hi) tV (.cV J J J J Body238 (hm) tV (.alloc (cs:=(Aa (List.replicate 32 0))) J A8 J ?_)))));intro n1 hn1 hf1;refine .sA J J J J zE Sz187 zF Z0 sP zU ?_;refine .nsr (.lA J J J Y187.h J Sz187 Z0 zF ?_);refine .cV J J J J Body226 (hr) tV (.m J J J (.eX J J J J (.eX J J J J (.alloc (cs:=(Aa (List.replicate 32 0))) J A8 J ?_))));intro n2 hn2 hf2;refine .sA J J J J zE Sz187 zF Z0 sP zU ?_;refine .a J J J (.nsr (.lA J J J Y187.h J Sz187 Z0 zF ?_));refine .lA J J J Y187.h J Sz187 Z1 zF ?_;refine .build (cs:=(ptc (⟨bx,bY⟩:Pt Fp)).cells) J J J (fun w=>by kernel_rfl) ?_;refine .sA J J J J (Point.isCell zP) Sz190 (Point.length zP) Z2 (Point.length zZ) (by exact upd2) ?_;refine .na ?_;refine .ret (C6 ?_);refine⟨_,[],Aw J J Y190.h J Sz190 Z2 (by exact Point.length zP),sP,sP,?_,rfl⟩;rfl
theorem r5_Check(P:Pt Fp)(hP:cv.on P):Mv 230 [agg (ptc P).cells] (fun _=>True) (i64 0):=by
 intro W hW;refine Ad func230 J 41 ntmps230 J (G3 ?_);intro n1 hn1 hf1;refine G7 ?_;refine .lN (Aa _) J J J Y187.h J Sz187 Z0 (Point.row_fX zP) (Point.rl_fX zP) ?_;refine .cV J J J J Body225 (r_canon P.x) tV (G3 ?_);refine .lN (Aa _) J J J Y187.h J Sz187 Z0 (Point.row_fY zP) (Point.rl_fY zP) ?_;refine .cV J J J J Body225 (r_canon P.y) tV (G4 ?_);refine .cond_f J J (G3 ?_);refine .draw (oPq [0,101,2,103,5,106,7,108,304,309,210,211,412,413]) Aq zK (G1 ?_);refine .lN (Aa _) J J J Y187.h J Sz187 Z0 (Point.row_fX zP) (Point.rl_fX zP) ?_;refine G1 ?_;refine .lN (Aa _) J J J Y187.h J Sz187 Z0 (Point.row_fX zP) (Point.rl_fX zP) ?_;refine G1 ?_;refine .lN (Aa _) J J J Y187.h J Sz187 Z0 (Point.row_fY zP) (Point.rl_fY zP) ?_;refine G1 ?_;refine .lN (Aa _) J J J Y187.h J Sz187 Z0 (Point.row_fY zP) (Point.rl_fY zP) ?_;refine .cV J J J J Body238 (r_mul P.x P.x) tV (.cV J J J J Body238 (r_mul P.y P.y) tV (.alloc (cs:=(Aa (List.replicate 32 0))) J A8 J ?_));intro n3 hn3 hf3;refine .alloc (cs:=(Aa (List.replicate 32 0))) J A8 J ?_;intro n4 hn4 hf4;refine .sA J J J J zE Sz187 zF Z1 sP zV ?_;refine .sA J J J J zE Sz187 zF Z0 sP zU ?_;refine G3 ?_;refine .draw (oPq [101,102,300,303,304,305,306,207,408]) Aq zK (G2 ?_);refine .cV J J J J Body239 (r_cA) tV (.cV J J J J Body267 (r_sub (P.y*P.y) (P.x*P.x)) tV (.cV J J J J Body239 (r_one) tV (.cV J J J J Body267 (r_sub (P.y*P.y-P.x*P.x) 1) tV (.cV J J J J Body238 (r_mul cA (P.y*P.y-P.x*P.x-1)) tV (.alloc (cs:=(Aa (List.replicate 32 0))) J A8 J ?_)))));intro n5 hn5 hf5;refine .sA J J J J zE Sz187 zF Z0 sP zU ?_;refine G4 ?_;refine .draw (oPq [100,102,103,301,304,305,306,7]) Aq zK (G3 ?_);refine .cV J J J J Body239 (r_cB) tV (.cV J J J J Body238 (r_mul (P.x*P.x) (P.y*P.y)) tV (.cV J J J J Body238 (r_mul cB (P.x*P.x*(P.y*P.y))) tV ?_));refine .cV J J J J Body227 (r_neg (cB*(P.x*P.x*(P.y*P.y)))) tV ?_;refine .neq_bytes J J J J eqGuardType187 Y187.h Y5.h Sz5 zF zF (show(!decide _)=false from congrArg not (decide_eq_true (congrArg fb (check_eq hP)))) (G2 ?_);refine .cond_f J (rfl) (G7 ?_);refine G2 ?_;refine⟨_,[],Af J J,sP,sP,?_,rfl⟩;rfl
structure FarFit(u:far):Prop where
  x:Fit10 u.fX
  y:Fit10 u.fY
  z:Fit10 u.fZ
theorem FarFit.ok{x:far}(h:FarFit x):x.ok:=⟨h.x.len,h.y.len,h.z.len⟩
def farV(x:far):Fr Fp:=⟨fe (v10 x.fX),fe (v10 x.fY),fe (v10 x.fZ)⟩
structure FarRep(x:far)(P:Pt Fp):Prop where
  fit:FarFit x
  rep:(farV x).rep P
def frA(p q:far):List Nat:=mulT p.fZ q.fZ
def frM(d:List Nat)(p q:far):List Nat:=mulT d (mulT (mulT p.fX q.fX) (mulT p.fY q.fY))
def frB(p q:far):List Nat:=plusT (mulT p.fX q.fX) (mulT p.fY q.fY)
def frC(p q:far):List Nat:=minusT (mulT (plusT p.fX p.fY) (plusT q.fX q.fY)) (frB p q)
def frF(d:List Nat)(p q:far):List Nat:=minusT (mulT (frA p q) (frA p q)) (frM d p q)
def frG(d:List Nat)(p q:far):List Nat:=plusT (mulT (frA p q) (frA p q)) (frM d p q)
def frT(d:List Nat)(p q:far):far:=⟨mulT (frA p q) (mulT (frF d p q) (frC p q)),mulT (frA p q) (mulT (frG d p q) (frB p q)),mulT (frF d p q) (frG d p q)⟩
section
variable{d:List Nat}{p q:far}
variable{x y:List Nat}
theorem frA_fit(hp:FarFit p)(hq:FarFit q):Fit10 (frA p q):=Bn hp.z hq.z
theorem frM_fit(hd:Fit10 d)(hp:FarFit p)(hq:FarFit q):Fit10 (frM d p q):=Bn hd (Bn (Bn hp.x hq.x) (Bn hp.y hq.y))
theorem frB_fit(hp:FarFit p)(hq:FarFit q):Fit10 (frB p q):=plusT_fit (Bn hp.x hq.x) (Bn hp.y hq.y)
theorem frC_fit(hp:FarFit p)(hq:FarFit q):Fit10 (frC p q):=minusT_fit (Bn (plusT_fit hp.x hp.y) (plusT_fit hq.x hq.y)) (frB_fit hp hq)
theorem frF_fit(hd:Fit10 d)(hp:FarFit p)(hq:FarFit q):Fit10 (frF d p q):=minusT_fit (Bn (frA_fit hp hq) (frA_fit hp hq)) (frM_fit hd hp hq)
theorem frG_fit(hd:Fit10 d)(hp:FarFit p)(hq:FarFit q):Fit10 (frG d p q):=plusT_fit (Bn (frA_fit hp hq) (frA_fit hp hq)) (frM_fit hd hp hq)
theorem frT_fit(hd:Fit10 d)(hp:FarFit p)(hq:FarFit q):FarFit (frT d p q):=
  ⟨Bn (frA_fit hp hq) (Bn (frF_fit hd hp hq) (frC_fit hp hq)),Bn (frA_fit hp hq) (Bn (frG_fit hd hp hq) (frB_fit hp hq)),Bn (frF_fit hd hp hq) (frG_fit hd hp hq)⟩
theorem mv(hx:Fit10 x)(hy:Fit10 y):fe (v10 (mulT x y))=fe (v10 x)*fe (v10 y):=mulT_v hx.len hy.len
theorem pv'(hx:Fit10 x)(hy:Fit10 y):fe (v10 (plusT x y))=fe (v10 x)+fe (v10 y):=plusT_v hx.len hy.len
theorem nv(hx:Fit10 x)(hy:Fit10 y):fe (v10 (minusT x y))=fe (v10 x)-fe (v10 y):=minusT_v hx.len hy
theorem frT_v(hd:Fit10 d)(hp:FarFit p)(hq:FarFit q):farV (frT d p q)=Fr.add (fe (v10 d)) (farV p) (farV q):=by
  have a:=frA_fit hp hq;have m:=frM_fit hd hp hq;have b:=frB_fit hp hq;have c:=frC_fit hp hq;have f:=frF_fit hd hp hq;have g:=frG_fit hd hp hq;have c1:=Bn hp.x hq.x;have c2:=Bn hp.y hq.y;have va:fe (v10 (frA p q))=fe (v10 p.fZ)*fe (v10 q.fZ):=mv hp.z hq.z;have vm:fe (v10 (frM d p q))=fe (v10 d)*(fe (v10 p.fX)*fe (v10 q.fX)*(fe (v10 p.fY)*fe (v10 q.fY))):=by rw[frM,mv hd (Bn c1 c2),mv c1 c2,mv hp.x hq.x,mv hp.y hq.y]
  have vb:fe (v10 (frB p q))=fe (v10 p.fX)*fe (v10 q.fX)+fe (v10 p.fY)*fe (v10 q.fY):=by rw[frB,pv' c1 c2,mv hp.x hq.x,mv hp.y hq.y]
  have vc:fe (v10 (frC p q))=(fe (v10 p.fX)+fe (v10 p.fY))*(fe (v10 q.fX)+fe (v10 q.fY))-(fe (v10 p.fX)*fe (v10 q.fX)+fe (v10 p.fY)*fe (v10 q.fY)):=by
    rw[frC,nv (Bn (plusT_fit hp.x hp.y) (plusT_fit hq.x hq.y)) b,mv (plusT_fit hp.x hp.y) (plusT_fit hq.x hq.y),pv' hp.x hp.y,pv' hq.x hq.y,vb]
  have vf:fe (v10 (frF d p q))=fe (v10 (frA p q))*fe (v10 (frA p q))-fe (v10 (frM d p q)):=by rw[frF,nv (Bn a a) m,mv a a]
  have vg:fe (v10 (frG d p q))=fe (v10 (frA p q))*fe (v10 (frA p q))+fe (v10 (frM d p q)):=by rw[frG,pv' (Bn a a) m,mv a a]
  unfold farV frT Fr.add;simp only[mv a (Bn f c),mv f c,mv a (Bn g b),mv g b,mv f g,vf,vg,va,vm,vb,vc]
end
variable{A B E j t:Nat}{b:List UInt8}{d:List Nat}{p x:far}
theorem FarRep.add{p q:far}{P Q:Pt Fp}(hd:Fit10 d)(hdv:fe (v10 d)=fD)(hp:FarRep p P)(hq:FarRep q Q)(hP:cv.on P)(hQ:cv.on Q):FarRep (frT d p q) (cv.add P Q):=by
  refine⟨frT_fit hd hp.fit hq.fit,?_⟩;rw[frT_v hd hp.fit hq.fit,hdv];exact cv.far_add hp.rep hq.rep hP hQ
def awT(P:Pt Fp):far:=⟨openT (le (fb P.x)),openT (le (fb P.y)),openT (le (fb (1:Fp)))⟩
theorem awT_fit(P:Pt Fp):FarFit (awT P):=⟨o_fit (Ar _),o_fit (Ar _),o_fit (Ar _)⟩
theorem awT_rep(P:Pt Fp):FarRep (awT P) P:=by
  refine⟨awT_fit P,?_⟩;have h:farV (awT P)=Fr.of P:=by
    unfold farV awT Fr.of;simp only[o_v (Ar _),fe_fb]
  rw[h];exact cv.far_of P
def dT:List Nat:=openT (le (fb fD))
theorem dT_fit:Fit10 dT:=o_fit (Ar _)
theorem dT_v:fe (v10 dT)=fD:=by
  have h:=o_v (Ar fD);rw[fe_fb]at h;exact h
theorem r5_openD:Mv 232 [agg (Aa (fb fD))] (fun _=>True) (agg (Bp dT)):=r3_Open (fb fD) (Ar _)
theorem r5_plus(d:List Nat)(p q:far)(hd:Fit10 d)(hp:FarFit p)(hq:FarFit q):Mv 235 [agg (Bp d),agg (p).cells,agg (q).cells] (fun _=>True) (agg (frT d p q).cells):=by
 intro W hW;have ldd:=hd.len;have hpo:=hp.ok;have hqo:=hq.ok;unfold frT frF frG frC frM frB frA;have fa:=Bn hp.z hq.z;have ca:=r3_Times _ _ hp.z hq.z;revert fa ca;generalize mulT p.fZ q.fZ=a;intro fa ca;have la:=fa.len;have fb2:=Bn fa fa;have cb:=r3_Times _ _ fa fa;revert fb2 cb;generalize mulT a a=b;intro fb2 cb;have lb:=fb2.len;have fc:=Bn hp.x hq.x;have cc:=r3_Times _ _ hp.x hq.x;revert fc cc;generalize mulT p.fX q.fX=c;intro fc cc;have lc:=fc.len;have fe2:=Bn hp.y hq.y;have ce:=r3_Times _ _ hp.y hq.y;revert fe2 ce;generalize mulT p.fY q.fY=e;intro fe2 ce;have le:=fe2.len;have fce:=Bn fc fe2;have cce:=r3_Times _ _ fc fe2;revert fce cce;generalize mulT c e=ce2;intro fce cce;have lce2:=fce.len;have fm:=Bn hd fce;have cm:=r3_Times _ _ hd fce;revert fm cm;generalize mulT d ce2=m;intro fm cm;have lm:=fm.len;have ff:=minusT_fit fb2 fm;have cf:=r3_Minus _ _ fb2 fm;revert ff cf;generalize minusT b m=f;intro ff cf;have lf:=ff.len;have fg:=plusT_fit fb2 fm;have cg:=r3_Plus _ _ fb2 fm;revert fg cg;generalize plusT b m=g;intro fg cg;have lg:=fg.len;have fbo:=plusT_fit fc fe2;have cbo:=r3_Plus _ _ fc fe2;revert fbo cbo;generalize plusT c e=both;intro fbo cbo;have lboth:=fbo.len;have fpp:=plusT_fit hp.x hp.y;have cpp:=r3_Plus _ _ hp.x hp.y;revert fpp cpp;generalize plusT p.fX p.fY=pp;intro fpp cpp;have lpp:=fpp.len;have fqq:=plusT_fit hq.x hq.y;have cqq:=r3_Plus _ _ hq.x hq.y;revert fqq cqq;generalize plusT q.fX q.fY=qq;intro fqq cqq;have lqq:=fqq.len;have fpq:=Bn fpp fqq;have cpq:=r3_Times _ _ fpp fqq;revert fpq cpq;generalize mulT pp qq=pq;intro fpq cpq;have lpq:=fpq.len;have fcr:=minusT_fit fpq fbo;have ccr:=r3_Minus _ _ fpq fbo;revert fcr ccr;generalize minusT pq both=cr;intro fcr ccr;have lcr:=fcr.len;have ffc:=Bn ff fcr;have cfc:=r3_Times _ _ ff fcr;revert ffc cfc;generalize mulT f cr=fcr2;intro ffc cfc;have lfcr2:=ffc.len;have fgb:=Bn fg fbo;have cgb:=r3_Times _ _ fg fbo;revert fgb cgb;generalize mulT g both=gb;intro fgb cgb;have lgb:=fgb.len;have fX:=Bn fa ffc;have cX:=r3_Times _ _ fa ffc;revert fX cX;generalize mulT a fcr2=X;intro fX cX;have lX:=fX.len;have fY:=Bn fa fgb;have cY:=r3_Times _ _ fa fgb;revert fY cY;generalize mulT a gb=Y;intro fY cY;have lY:=fY.len;have fZ:=Bn ff fg;have cZ:=r3_Times _ _ ff fg;revert fZ cZ;generalize mulT f g=Z;intro fZ cZ;have lZ:=fZ.len;refine Ad func235 J 75 ntmps235 J (G3 ?_);intro n3 hn3 hf3;refine G1 ?_;intro n4 hn4 hf4;refine G1 ?_;intro n5 hn5 hf5;refine .alloc (cs:=far.zero.cells) J far.zr J ?_;intro n6 hn6 hf6;refine G5 ?_;refine .lN (Bp _) J J J Cn J Sz251 Z2 (far.row_fZ (by exact hpo)) (far.rl_fZ (by exact hpo)) ?_;refine G1 ?_;refine .lN (Bp _) J J J Cn J Sz251 Z1 (far.row_fZ (by exact hqo)) (far.rl_fZ (by exact hqo)) ?_;refine .cV J J J J Body271 (ca) tV (.alloc (cs:=(Cc (List.replicate 10 0))) J Zr251 J ?_);intro n7 hn7 hf7
 refine .sA J J J J (by exact Co _) Sz251 (by(simp[Ap,la];done)) Z0 sP zU ?_;refine G4 ?_;refine .lA J J J Cn J Sz251 Z0 (by(simp[Ap,la];done)) ?_;refine .lA J J J Cn J Sz251 Z0 (by(simp[Ap,la];done)) ?_;refine .cV J J J J Body271 (cb) tV (.alloc (cs:=(Cc (List.replicate 10 0))) J Zr251 J ?_);intro n8 hn8 hf8;refine .sA J J J J (by exact Co _) Sz251 (by(simp[Ap,lb];done)) Z0 sP zU ?_;refine G3 ?_;refine .draw (oPq [0,101,2,103,5,106,7,108,304,309,210,211,412,413]) Aq zK (G1 ?_);refine .lN (Bp _) J J J Cn J Sz251 Z4 (far.row_fX (by exact hpo)) (far.rl_fX (by exact hpo)) ?_;refine G1 ?_;refine .lN (Bp _) J J J Cn J Sz251 Z3 (far.row_fX (by exact hqo)) (far.rl_fX (by exact hqo)) ?_;refine G1 ?_;refine .lN (Bp _) J J J Cn J Sz251 Z4 (far.row_fY (by exact hpo)) (far.rl_fY (by exact hpo)) ?_;refine G1 ?_;refine .lN (Bp _) J J J Cn J Sz251 Z3 (far.row_fY (by exact hqo)) (far.rl_fY (by exact hqo)) ?_;refine .cV J J J J Body271 (cc) tV (.cV J J J J Body271 (ce) tV (.alloc (cs:=(Cc (List.replicate 10 0))) J Zr251 J ?_));intro n9 hn9 hf9;refine .alloc (cs:=(Cc (List.replicate 10 0))) J Zr251 J ?_;intro n10 hn10 hf10;refine .sA J J J J (by exact Co _) Sz251 (by(simp[Ap,lc];done)) Z1 sP zV ?_;refine .sA J J J J (by exact Co _) Sz251 (by(simp[Ap,le];done)) Z0 sP zU ?_;refine G3 ?_;refine .draw (oPq [100,101,102,303,304,205,406]) Aq zK (.lA J J J Cn J Sz251 (by exact mem7) (by(simp[Ap,ldd];done)) ?_);refine .lA J J J Cn J Sz251 Z1 (by(simp[Ap,lc];done)) ?_;refine .lA J J J Cn J Sz251 Z0 (by(simp[Ap,le];done)) ?_;refine .cV J J J J Body271 (cce) tV (.cV J J J J Body271 (cm) tV (.alloc (cs:=(Cc (List.replicate 10 0))) J Zr251 J ?_));intro n11 hn11 hf11;refine .sA J J J J (by exact Co _) Sz251 (by(simp[Ap,lm];done)) Z0 sP zU ?_;refine G3 ?_;refine .draw (oPq [100,101,103,104,302,305,206,207,408,409]) Aq zK (.lA J J J Cn J Sz251 Z3 (by(simp[Ap,lb];done)) ?_);refine .lA J J J Cn J Sz251 Z0 (by(simp[Ap,lm];done)) ?_;refine .lA J J J Cn J Sz251 Z3 (by(simp[Ap,lb];done)) ?_;refine .lA J J J Cn J Sz251 Z0 (by(simp[Ap,lm];done)) ?_;refine .cV J J J J Body272 (cf) tV (.cV J J J J Body273 (cg) tV (.alloc (cs:=(Cc (List.replicate 10 0))) J Zr251 J ?_));intro n12 hn12 hf12;refine .alloc (cs:=(Cc (List.replicate 10 0))) J Zr251 J ?_;intro n13 hn13 hf13;refine .sA J J J J (by exact Co _) Sz251 (by(simp[Ap,lf];done)) Z1 sP zV ?_;refine .sA J J J J (by exact Co _) Sz251 (by(simp[Ap,lg];done)) Z0 sP zU ?_;refine G4 ?_;refine .lA J J J Cn J Sz251 Z4 (by(simp[Ap,lc];done)) ?_;refine .lA J J J Cn J Sz251 Z3 (by(simp[Ap,le];done)) ?_;refine .cV J J J J Body273 (cbo) tV (.alloc (cs:=(Cc (List.replicate 10 0))) J Zr251 J ?_);intro n14 hn14 hf14;refine .sA J J J J (by exact Co _) Sz251 (by(simp[Ap,lboth];done)) Z0 sP zU ?_;refine G3 ?_;refine .draw (oPq [0,101,2,103,5,106,7,108,111,304,309,310,312,213,414]) Aq zK (G1 ?_)
 refine .lN (Bp _) J J J Cn J Sz251 mR (far.row_fX (by exact hpo)) (far.rl_fX (by exact hpo)) ?_;refine G1 ?_;refine .lN (Bp _) J J J Cn J Sz251 mR (far.row_fY (by exact hpo)) (far.rl_fY (by exact hpo)) ?_;refine G1 ?_;refine .lN (Bp _) J J J Cn J Sz251 mR (far.row_fX (by exact hqo)) (far.rl_fX (by exact hqo)) ?_;refine G1 ?_;refine .lN (Bp _) J J J Cn J Sz251 mR (far.row_fY (by exact hqo)) (far.rl_fY (by exact hqo)) ?_;refine .lA J J J Cn J Sz251 Z0 (by(simp[Ap,lboth];done)) ?_;refine .cV J J J J Body273 (cpp) tV (.cV J J J J Body273 (cqq) tV (.cV J J J J Body271 (cpq) tV (.cV J J J J Body272 (ccr) tV (.alloc (cs:=(Cc (List.replicate 10 0))) J Zr251 J ?_))));intro n15 hn15 hf15;refine .sA J J J J (by exact Co _) Sz251 (by(simp[Ap,lcr];done)) Z0 sP zU ?_;refine G3 ?_;refine .draw (oPq [100,101,102,105,106,107,110,111,303,304,308,309,312,13,414]) Aq zK (.lA J J J Cn J Sz251 mR (by(simp[Ap,la];done)) ?_);refine .lA J J J Cn J Sz251 Z3 (by(simp[Ap,lf];done)) ?_;refine .lA J J J Cn J Sz251 Z0 (by(simp[Ap,lcr];done)) ?_;refine .lA J J J Cn J Sz251 mR (by(simp[Ap,la];done)) ?_;refine .lA J J J Cn J Sz251 Z2 (by(simp[Ap,lg];done)) ?_;refine .lA J J J Cn J Sz251 Z1 (by(simp[Ap,lboth];done)) ?_;refine .lA J J J Cn J Sz251 Z3 (by(simp[Ap,lf];done)) ?_;refine .lA J J J Cn J Sz251 Z2 (by(simp[Ap,lg];done)) ?_;refine .cV J J J J Body271 (cfc) tV (.cV J J J J Body271 (cX) tV (.cV J J J J Body271 (cgb) tV (.cV J J J J Body271 (cY) tV (.cV J J J J Body271 (cZ) tV (.build (cs:=(⟨X,Y,Z⟩:far).cells) J J J (fun w=>by kernel_rfl) ?_)))));refine .sA J J J J (far.isCell (by exact⟨lX,lY,lZ⟩)) Sz254 (far.length (by exact⟨lX,lY,lZ⟩)) mR (far.length (by exact far.zero_ok)) (by(repeat(first|exact upd0|apply Upd.tail))) ?_;refine G2 ?_;refine G2 ?_;refine⟨_,[],Aw J J Y254.h J Sz254 mR (by exact far.length (by exact⟨lX,lY,lZ⟩)),sP,sP,?_,rfl⟩;rfl
theorem r5_near(p:far)(P:Pt Fp)(hp:FarRep p P):Mv 237 [agg (p).cells] (fun _=>True) (agg (ptc P).cells):=by
 intro W hW;have hpo:=hp.fit.ok;have hpt:=cv.far_pt hp.rep;have h1:=r3_Close_v p.fZ hp.fit.z _ rfl;have h2:=r3_Close_v p.fX hp.fit.x _ rfl;have h3:=r3_Close_v p.fY hp.fit.y _ rfl;have hi:=r_inv (fe (v10 p.fZ));have e:P=⟨fe (v10 p.fX)*finv (fe (v10 p.fZ)),fe (v10 p.fY)*finv (fe (v10 p.fZ))⟩:=hpt.symm;rw[e];clear e hpt;revert h1 h2 h3 hi;generalize finv (fe (v10 p.fZ))=iz;generalize fe (v10 p.fZ)=z;generalize fe (v10 p.fX)=x;generalize fe (v10 p.fY)=y;intro h1 h2 h3 hi;refine Ad func237 J 19 ntmps237 J (.sr (.boxA J J ?_));intro n1 hn1 hf1;refine .alloc (cs:=Point.zero.cells) J Point.zr J ?_;intro n2 hn2 hf2;refine .nsr (.fld J J J Y254.h J Sz251 dE _ J (.lN (Bp _) J J J Cn J Sz251 Z1 (far.row_fZ (by exact hpo)) (far.rl_fZ (by exact hpo)) ?_));refine .cV J J J J Body274 (h1) tV (.cV J J J J Body240 (hi) tV (.alloc (cs:=(Aa (List.replicate 32 0))) J A8 J ?_));intro n3 hn3 hf3;refine .sA J J J J zE Sz187 zF Z0 sP zU ?_;refine .na (.seq (.draw (oPq [0,101,103,5,106,108,302,304,307,309,10,411]) Aq zK (.fld J J J Y254.h J Sz251 dE _ J (.lN (Bp _) J J J Cn J Sz251 Z2 (far.row_fX (by exact hpo)) (far.rl_fX (by exact hpo)) ?_))));refine .lA J J J Y187.h J Sz187 Z0 zF ?_;refine .fld J J J Y254.h J Sz251 dE _ J (.lN (Bp _) J J J Cn J Sz251 Z2 (far.row_fY (by exact hpo)) (far.rl_fY (by exact hpo)) ?_);refine .lA J J J Y187.h J Sz187 Z0 zF ?_;refine .cV J J J J Body274 (h2) tV (.cV J J J J Body238 (r_mul x iz) tV (.cV J J J J Body274 (h3) tV (.cV J J J J Body238 (r_mul y iz) tV (.build (cs:=(ptc (⟨x*iz,y*iz⟩:Pt Fp)).cells) J J J (fun w=>by kernel_rfl) ?_))));refine .sA J J J J (Point.isCell zP) Sz190 (Point.length zP) Z1 (Point.length zZ) zV ?_;refine .na ?_;refine .ret (C6 ?_);refine⟨_,[],Aw J J Y190.h J Sz190 Z1 (by exact Point.length zP),sP,sP,?_,rfl⟩;rfl
theorem r5_away(P:Pt Fp):Mv 234 [agg (ptc P).cells] (fun _=>True) (agg (awT P).cells):=by
 intro W hW;have h1:=r3_Open (fb P.x) (Ar _);have h2:=r3_Open (fb P.y) (Ar _);have h3:=r3_Open (fb 1) (Ar _);have lX:=openT_length (le (fb P.x));have lY:=openT_length (le (fb P.y));have lZ:=openT_length (le (fb 1));unfold awT;revert h1 h2 h3 lX lY lZ;generalize openT (le (fb P.x))=X;generalize openT (le (fb P.y))=Y;generalize openT (le (fb 1))=Z;intro h1 h2 h3 lX lY lZ;refine Ad func234 J 12 ntmps234 J (G3 ?_);intro n1 hn1 hf1;refine .alloc (cs:=far.zero.cells) J far.zr J ?_;intro n2 hn2 hf2;refine G3 ?_;refine .draw (oPq [0,101,3,104,302,305,306,307,8,409]) Aq zK (G1 ?_);refine .lN (Aa _) J J J Y187.h J Sz187 Z1 (Point.row_fX zP) (Point.rl_fX zP) ?_;refine G1 ?_;refine .lN (Aa _) J J J Y187.h J Sz187 Z1 (Point.row_fY zP) (Point.rl_fY zP) ?_;refine .cV J J J J Body232 (h1) tV (.cV J J J J Body232 (h2) tV (.cV J J J J Body239 (r_one) tV (.cV J J J J Body232 (h3) tV (.build (cs:=(⟨X,Y,Z⟩:far).cells) J J J (fun w=>by kernel_rfl) ?_))));refine .sA J J J J (far.isCell (by exact⟨lX,lY,lZ⟩)) Sz254 (far.length (by exact⟨lX,lY,lZ⟩)) Z0 (far.length (by exact far.zero_ok)) zU ?_;refine G2 ?_;refine G2 ?_;refine⟨_,[],Aw J J Y254.h J Sz254 Z0 (by exact far.length (by exact⟨lX,lY,lZ⟩)),sP,sP,?_,rfl⟩;rfl
theorem r5_Neg(P:Pt Fp)(hP:cv.on P):Mv 182 [agg (ptc P).cells] (fun _=>True) (agg (ptc (neg P)).cells):=by
 intro W hW;refine Ad func182 J 13 ntmps182 J (.sr (.boxA J J ?_));intro n1 hn1 hf1;refine .alloc (cs:=Point.zero.cells) J Point.zr J ?_;intro n2 hn2 hf2;refine .na (.seq (.sr (.lA J J J Y190.h J Sz190 Z1 (Point.length zP) ?_)));refine .cV J J J J Body230 (r5_Check P hP) tV (.nei J J J J (show(!decide _)=false from congrArg not (decide_eq_true (rfl))) (.na (.cond_f J (rfl) (.skip (A7 (.seq (.draw (oPq [0,101,3,104,302,5,406]) Aq zK (.fld J J J Y190.h J Sz187 dE _ J (.lN (Aa _) J J J Y187.h J Sz187 Z1 (Point.row_fX zP) (Point.rl_fX zP) ?_)))))))));refine .fld J J J Y190.h J Sz187 dE _ J (.lN (Aa _) J J J Y187.h J Sz187 Z1 (Point.row_fY zP) (Point.rl_fY zP) ?_);refine .cV J J J J Body227 (r_neg P.x) tV (.build (cs:=(ptc (neg P)).cells) J J J (fun w=>by kernel_rfl) ?_);refine .sA J J J J (Point.isCell zP) Sz190 (Point.length zP) Z0 (Point.length zZ) zU ?_;refine .na ?_;refine .ret (C6 ?_);refine⟨_,[],Aw J J Y190.h J Sz190 Z0 (by exact Point.length zP),sP,sP,?_,rfl⟩;rfl
theorem byte_low:∀b:UInt8,UInt8.ofNat (b.toNat%128)=b&&&127∧((128≤b.toNat)↔¬((b&&&128).toNat:Int)=0):=by
  intro b;have h:∀n,n<256→UInt8.ofNat ((UInt8.ofNat n).toNat%128)=UInt8.ofNat n&&&127∧((128≤(UInt8.ofNat n).toNat)↔¬((UInt8.ofNat n&&&128).toNat:Int)=0):=by decide
  have h2:=h b.toNat b.toNat_lt;rwa[Lfi]at h2
theorem byte_plus:∀b:UInt8,b.toNat<128→b+128=b|||128:=by
  intro b hb;have h:∀n,n<128→UInt8.ofNat n+128=UInt8.ofNat n|||128:=by decide
  have h2:=h b.toNat hb;rwa[Lfi]at h2
theorem top_t5(h:(128:Int)≤((b.getD 31 0).toNat:Int)):topB b=true:=by
  have h1:=(byte_low (b.getD 31 0)).2.1 oM;rw[topB,decide_eq_false h1];rfl
theorem top_f5(h:¬(128:Int)≤((b.getD 31 0).toNat:Int)):topB b=false:=by
  have h1:((b.getD 31 0&&&128).toNat:Int)=0:=by
    by_cases e:((b.getD 31 0&&&128).toNat:Int)=0
    ·exact e
    ·exact absurd ((byte_low (b.getD 31 0)).2.2 e) oM
  rw[topB,decide_eq_true h1];rfl
theorem r5_Read(b:List UInt8)(hb:b.length=32):Mv 177 [agg (Aa b)] (fun _=>True) (rdV b):=by
 intro W hW;have hll:=lowB_length hb;obtain⟨Y,hY⟩:∃Y,fe (le (lowB b))=Y:=⟨_,rfl⟩;have hcan:=r3_Canon (lowB b) hll;have hroot:=r5_root Y;obtain⟨xr,hxo⟩:∃xr,xOf Y=xr:=⟨_,rfl⟩;rw[hxo]at hroot;rw[←hY]at hxo;rw[hY]at hcan;refine Ad func177 J 42 ntmps177 J (.sr (.boxA J J ?_));intro n1 hn1 hf1;refine .alloc (cs:=Point.zero.cells) J Point.zr J ?_;intro n2 hn2 hf2;refine .a J J J (.nsr (.lA J J J Y28.h J Sz28 Z1 (by(simp[hb];done)) ?_));refine .alloc (cs:=(Aa (List.replicate 32 0))) J A8 J ?_;intro n4 hn4 hf4;refine .sA J J J J zE Sz187 (by(simp[hb];done)) Z0 sP zU ?_;refine .nsr (.i1 J J J J Y187.h Sz5 31 J dE (.load1 J J J Y5.h J Z0 zG ?_));refine two (fun r hr k=>Tr.geq J J J J hr k) (fun hs2_20=>?_) (fun hs2_20=>?_)
 ·
  have hs2_2:=of_decide_eq_true hs2_20;refine .a J J J (.nsr (.i1 J J J J Y187.h Sz5 31 J dE (.load1 J J J Y5.h J Z0 zG ?_)));refine .rem_u8 J J J J 128 J dE (.i1 J J J J Y187.h Sz5 31 J dE ?_);rw[(byte_low _).1];refine .s1 J J J J J Sz5 Z0 (by(simp[hb];done)) (by exact Bl _ _ _) zU ?_;refine .na (.seq (.sr (.lA J J J Y187.h J Sz187 Z0 (by(simp[hb];done)) ?_)));refine .cV J J J J Body225 (hcan) tV (.not J J J (.na (.cond J (fun hc0=>?_) (fun hc0=>?_))))
  ·
   have hcn:¬fb Y=lowB b:=of_decide_eq_false (by simpa using hc0);refine .sr (.build (cs:=Point.zero.cells) J J J (fun w=>by kernel_rfl) ?_);refine .sA J J J J (Point.isCell zZ) Sz190 (Point.length zZ) Z1 (Point.length zZ) zV ?_;refine .a J J J (.na ?_);refine .ret (at_r (C6 ?_));refine⟨_,[],Bg J J J Y190.h J Sz190 Z1 (by exact Point.length zZ),sP,sP,?_,rfl⟩;exact(rdV_none (rd_n1 (by rw[hY];exact hcn))).symm
  have hcy:fb Y=lowB b:=of_decide_eq_true (by simpa using hc0);rw[show b.set 31 (b.getD 31 0&&&127)=fb Y from hcy.symm];refine .skip (A7 (.sr (.lA J J J Y187.h J Sz187 Z0 zF ?_)));refine .cV J J J J Body226 (hroot) tV (.m J J J (.eX J J J J (.extractB J J J J (fun hs6_40=>?_) (fun hs6_40=>?_))))
  ·
   have hs6_4:=hs6_40;refine .alloc (cs:=(Aa (List.replicate 32 0))) J A8 J ?_;intro n6 hn6 hf6;refine .sA J J J J zE Sz187 zF Z0 sP zU ?_;refine .a J J J (.na (.seq (.sr (.m J J J (.not J J J (.m J J J (.m J J J (.m J J J (.lA J J J Y187.h J Sz187 Z0 zF ?_)))))))));refine .build (cs:=Aa (List.replicate 32 0)) J J J (fun w=>by kernel_rfl) ?_;refine two (fun r hr k=>Tr.eql_bytes J J J J eqGuardType187 Y187.h Y5.h Sz5 zF sP hr k) (fun hs7_70=>?_) (fun hs7_70=>?_)
   ·
    have hs7_7:=of_decide_eq_true hs7_70;refine .pick J J J J J J (.pick J J J J J J (.na (.cond_t J J (.sr (.build (cs:=Point.zero.cells) J J J (fun w=>by kernel_rfl) ?_)))));refine .sA J J J J (Point.isCell zZ) Sz190 (Point.length zZ) Z2 (Point.length zZ) (by exact upd2) ?_;refine .a J J J (.na ?_);refine .ret (at_r (C6 ?_));refine⟨_,[],Bg J J J Y190.h J Sz190 Z2 (by exact Point.length zZ),sP,sP,?_,rfl⟩;exact(rdV_none (rd_n3 hxo (top_t5 hs2_2) hs7_7)).symm
   have hs7_7:=of_decide_eq_false hs7_70;refine .pick J J J J J J (.pick J J J J J J (.na (.cond_f J J (.skip (A7 (.seq (.sr (.m J J J (.na (.cond_t J J (.region (.lA J J J Y187.h J Sz187 Z0 zF ?_))))))))))));refine .cV J J J J Body227 (r_neg xr.1) tV (.sA J J J J zE Sz187 zF Z0 zF zU ?_);refine .nsr (.lA J J J Y187.h J Sz187 Z0 zF ?_);refine .lA J J J Y187.h J Sz187 Z1 zF ?_;refine .build (cs:=(⟨fb (-xr.1),fb Y⟩:Point).cells) J J J (fun w=>by kernel_rfl) ?_;refine .sA J J J J (Point.isCell (by exact⟨C1 _,C1 _⟩)) Sz190 (Point.length (by exact⟨C1 _,C1 _⟩)) Z2 (Point.length zZ) (by exact upd2) ?_;refine .a J J J (.na ?_);refine .ret (C6 ?_);refine⟨_,[],Bg J J J Y190.h J Sz190 Z2 (by exact Point.length (by exact⟨C1 _,C1 _⟩)),sP,sP,?_,rfl⟩
   (rw[rdV_some (rd_s1 (by rw[hY];exact hcy) hxo hs6_4 (top_t5 hs2_2) hs7_7),hY];rfl)
  have hs6_4:=hs6_40;refine .alloc (cs:=(Aa (List.replicate 32 0))) J A8 J ?_;intro n6 hn6 hf6;refine .sA J J J J zE Sz187 zF Z0 sP zU ?_;refine .a J J J (.na (.seq (.sr (.m J J J (.not J J J (.m J J J (.skp J J (.skp J J (.skp J J (.skp J J (.skp J J (.skp J J (.pick J J J J J J (.na (.cond_t J J (.sr (.build (cs:=Point.zero.cells) J J J (fun w=>by kernel_rfl) ?_)))))))))))))))));refine .sA J J J J (Point.isCell zZ) Sz190 (Point.length zZ) Z2 (Point.length zZ) (by exact upd2) ?_;refine .a J J J (.na ?_);refine .ret (at_r (C6 ?_));refine⟨_,[],Bg J J J Y190.h J Sz190 Z2 (by exact Point.length zZ),sP,sP,?_,rfl⟩;exact(rdV_none (rd_n2 hxo hs6_4)).symm
 have hs2_2:=of_decide_eq_false hs2_20;refine .a J J J (.nsr (.i1 J J J J Y187.h Sz5 31 J dE (.load1 J J J Y5.h J Z0 zG ?_)));refine .rem_u8 J J J J 128 J dE (.i1 J J J J Y187.h Sz5 31 J dE ?_);rw[(byte_low _).1];refine .s1 J J J J J Sz5 Z0 (by(simp[hb];done)) (by exact Bl _ _ _) zU ?_;refine .na (.seq (.sr (.lA J J J Y187.h J Sz187 Z0 (by(simp[hb];done)) ?_)));refine .cV J J J J Body225 (hcan) tV (.not J J J (.na (.cond J (fun hc0=>?_) (fun hc0=>?_))))
 ·
  have hcn:¬fb Y=lowB b:=of_decide_eq_false (by simpa using hc0);refine .sr (.build (cs:=Point.zero.cells) J J J (fun w=>by kernel_rfl) ?_);refine .sA J J J J (Point.isCell zZ) Sz190 (Point.length zZ) Z1 (Point.length zZ) zV ?_;refine .a J J J (.na ?_);refine .ret (at_r (C6 ?_));refine⟨_,[],Bg J J J Y190.h J Sz190 Z1 (by exact Point.length zZ),sP,sP,?_,rfl⟩;exact(rdV_none (rd_n1 (by rw[hY];exact hcn))).symm
 have hcy:fb Y=lowB b:=of_decide_eq_true (by simpa using hc0);rw[show b.set 31 (b.getD 31 0&&&127)=fb Y from hcy.symm];refine .skip (A7 (.sr (.lA J J J Y187.h J Sz187 Z0 zF ?_)));refine .cV J J J J Body226 (hroot) tV (.m J J J (.eX J J J J (.extractB J J J J (fun hs6_40=>?_) (fun hs6_40=>?_))))
 ·
  have hs6_4:=hs6_40;refine .alloc (cs:=(Aa (List.replicate 32 0))) J A8 J ?_;intro n6 hn6 hf6;refine .sA J J J J zE Sz187 zF Z0 sP zU ?_;refine .a J J J (.na (.seq (.sr (.m J J J (.not J J J (.m J J J (.m J J J (.m J J J (.skp J J (.skp J J (.skp J J (.pick J J J J J J (.pick J J J J J J (.na (.cond_f J J (.skip (A7 (.seq (.sr (.m J J J (.na (.cond_f J J (.skip (A7 (.sr (.lA J J J Y187.h J Sz187 Z0 zF ?_))))))))))))))))))))))))));refine .lA J J J Y187.h J Sz187 Z1 zF ?_;refine .build (cs:=(⟨fb xr.1,fb Y⟩:Point).cells) J J J (fun w=>by kernel_rfl) ?_;refine .sA J J J J (Point.isCell (by exact⟨C1 _,C1 _⟩)) Sz190 (Point.length (by exact⟨C1 _,C1 _⟩)) Z2 (Point.length zZ) (by exact upd2) ?_;refine .a J J J (.na ?_);refine .ret (C6 ?_);refine⟨_,[],Bg J J J Y190.h J Sz190 Z2 (by exact Point.length (by exact⟨C1 _,C1 _⟩)),sP,sP,?_,rfl⟩
  (rw[rdV_some (rd_s2 (by rw[hY];exact hcy) hxo hs6_4 (top_f5 hs2_2)),hY];rfl)
 have hs6_4:=hs6_40;refine .alloc (cs:=(Aa (List.replicate 32 0))) J A8 J ?_;intro n6 hn6 hf6;refine .sA J J J J zE Sz187 zF Z0 sP zU ?_;refine .a J J J (.na (.seq (.sr (.m J J J (.not J J J (.m J J J (.skp J J (.skp J J (.skp J J (.skp J J (.skp J J (.skp J J (.pick J J J J J J (.na (.cond_t J J (.sr (.build (cs:=Point.zero.cells) J J J (fun w=>by kernel_rfl) ?_)))))))))))))))));refine .sA J J J J (Point.isCell zZ) Sz190 (Point.length zZ) Z2 (Point.length zZ) (by exact upd2) ?_;refine .a J J J (.na ?_);refine .ret (at_r (C6 ?_));refine⟨_,[],Bg J J J Y190.h J Sz190 Z2 (by exact Point.length zZ),sP,sP,?_,rfl⟩;exact(rdV_none (rd_n2 hxo hs6_4)).symm
theorem lin_d{a b j:Nat}(hj:j<256):a/2^(256-(j+1))=2*(a/2^(256-j))+a/2^(255-j)%2:=next_div a j hj
theorem frep_dbl{P Q:Pt Fp}(hd:Fit10 d)(hdv:fe (v10 d)=fD)(hP:cv.on P)(hQ:cv.on Q)(h:FarRep p (cv.lin A B P Q)):FarRep (frT d p p) (cv.lin (2*A) (2*B) P Q):=by
  rw[cv.lin_two hP hQ];exact FarRep.add hd hdv h h (cv.on_lin hP hQ _ _) (cv.on_lin hP hQ _ _)
theorem frep_l{P Q:Pt Fp}(hd:Fit10 d)(hdv:fe (v10 d)=fD)(hP:cv.on P)(hQ:cv.on Q)(h:FarRep p (cv.lin A B P Q))(hx:FarRep x P)(ht:t=1):FarRep (frT d p x) (cv.lin (A+t) B P Q):=by
  rw[ht,cv.lin_left hP hQ];exact FarRep.add hd hdv h hx (cv.on_lin hP hQ _ _) hP
theorem frep_r{P Q:Pt Fp}(hd:Fit10 d)(hdv:fe (v10 d)=fD)(hP:cv.on P)(hQ:cv.on Q)(h:FarRep p (cv.lin A B P Q))(hx:FarRep x Q)(ht:t=1):FarRep (frT d p x) (cv.lin A (B+t) P Q):=by
  rw[ht,cv.lin_right hP hQ];exact FarRep.add hd hdv h hx (cv.on_lin hP hQ _ _) hQ
theorem frep_first(a b:List UInt8)(ha:a.length=32)(hb:b.length=32)(P Q:Pt Fp):FarRep (awT (zero:Pt Fp)) (cv.lin (le a/2^(256-0)) (le b/2^(256-0)) P Q):=by
  have h1:=le32 ha;have h2:=le32 hb;rw[show 256-0=256 from rfl,Lbk h1,Lbk h2,cv.lin_zero];exact awT_rep zero
theorem bit_one(h:E.testBit j=true):E/2^j%2=1:=by have:=test_div E j true h;rwa[if_pos rfl]at this
theorem bit_nil(h:E.testBit j=false):E/2^j%2=0:=by have:=test_div E j false h;rwa[if_neg dE]at this
theorem r5_Mul2(a b:List UInt8)(P Q:Pt Fp)(ha:a.length=32)(hb:b.length=32)(hP:cv.on P)(hQ:cv.on Q):Mv 179 [agg (Aa a),agg (ptc P).cells,agg (Aa b),agg (ptc Q).cells] (fun _=>True) (agg (ptc (cv.lin (le a) (le b) P Q)).cells):=by
 intro W hW;have hDf:=dT_fit;have hDv:=dT_v;have hod:=r5_openD;revert hDf hDv hod;generalize dT=D;intro hDf hDv hod;have hDl:=hDf.len;have hAP:=awT_rep P;have hAQ:=awT_rep Q;have hAZ:=frep_first a b ha hb P Q;have cP:=r5_away P;have cQ:=r5_away Q;have cZ:=r5_away (zero:Pt Fp);revert hAP hAQ hAZ cP cQ cZ;generalize awT P=AP;generalize awT Q=AQ;generalize awT (zero:Pt Fp)=AZ;intro hAP hAQ hAZ cP cQ cZ;have hAPo:=hAP.fit.ok;have hAQo:=hAQ.fit.ok;have hAZo:=hAZ.fit.ok;have huo:True:=trivial;have hwo:True:=trivial;have hxo:True:=trivial;refine Ad func179 J 55 ntmps179 J (.sr (.boxA J J ?_));intro n4 hn4 hf4;refine .boxA J J ?_;intro n5 hn5 hf5;refine .boxA J J ?_;intro n6 hn6 hf6;refine .boxA J J ?_;intro n7 hn7 hf7;refine .alloc (cs:=Point.zero.cells) J Point.zr J ?_;intro n8 hn8 hf8;refine .na (.seq (.sr (.lA J J J Y190.h J Sz190 Z3 (Point.length zP) ?_)));refine .cV J J J J Body230 (r5_Check P hP) tV (.nei J J J J (show(!decide _)=false from congrArg not (decide_eq_true (rfl))) (.m J J J (.lA J J J Y190.h J Sz190 Z1 (Point.length zP) ?_)));refine .cV J J J J Body230 (r5_Check Q hQ) tV (.nei J J J J (show(!decide _)=false from congrArg not (decide_eq_true (rfl))) (.pick J J J J J J (.na (.cond_f J J (.skip (A7 (.seq (.draw (oPq [104,106,300,301,302,303,305,307,208,209,210,211,412,413,414,415]) Aq zK (.lA J J J Y190.h J Sz190 Z3 (Point.length zP) ?_)))))))));refine .lA J J J Y190.h J Sz190 Z1 (Point.length zP) ?_;refine .cV J J J J Body233 (r5_D) tV (.cV J J J J Body232 (hod) tV (.cV J J J J Body231 (r5_Zero) tV (.cV J J J J Body234 (cZ) tV (.cV J J J J Body234 (cP) tV (.cV J J J J Body234 (cQ) tV (.alloc (cs:=(Cc (List.replicate 10 0))) J Zr251 J ?_))))));intro n9 hn9 hf9;refine .alloc (cs:=far.zero.cells) J far.zr J ?_;intro n10 hn10 hf10;refine .alloc (cs:=far.zero.cells) J far.zr J ?_;intro n11 hn11 hf11;refine .alloc (cs:=far.zero.cells) J far.zr J ?_;intro n12 hn12 hf12;refine .sA J J J J (by exact Co _) Sz251 (by(simp[Ap,hDl];done)) Z3 sP (by exact upd3) ?_;refine .sA J J J J (far.isCell (by exact hAZo)) Sz254 (far.length (by exact hAZo)) Z2 (far.length (by exact far.zero_ok)) (by exact upd2) ?_;refine .sA J J J J (far.isCell (by exact hAPo)) Sz254 (far.length (by exact hAPo)) Z1 (far.length (by exact far.zero_ok)) zV ?_;refine .sA J J J J (far.isCell (by exact hAQo)) Sz254 (far.length (by exact hAQo)) Z0 (far.length (by exact far.zero_ok)) zU ?_
 refine .na (.seq (.sr (.a J J J (.na (.block (.loop (ι:=Nat×far) (fun p=>⟨[(4,ptr n4 0),(6,ptr n6 0),(8,ptr n8 0),(9,ptr n9 0),(10,ptr n10 0),(11,ptr n11 0),(12,ptr n12 0),(13,i64 (255-(p.1:Int)))],[⟨n12,(AQ).cells,254,30⟩,⟨n11,(AP).cells,254,30⟩,⟨n10,(p.2).cells,254,30⟩,⟨n9,Bp D,251,10⟩,⟨n8,Point.zero.cells,190,64⟩,⟨n6,Aa b,187,(Aa b).length⟩,⟨n4,Aa a,187,(Aa a).length⟩]⟩) (fun p=>p.1≤256∧FarRep p.2 (cv.lin (le a/2^(256-p.1)) (le b/2^(256-p.1)) P Q)) (fun p=>256-p.1) ((0,AZ)) ?_ ?_ ?_))))))
 ·exact⟨Lan _,hAZ⟩
 ·exact Ah wN (wh1 Z0 (wh1 Z1 (wh1 Z2 (wh1 Z3 (wh1 Z4 (wh1 (by exact mem6) wM)))))) nD
 rintro p ⟨hj1,hw⟩;have hwo:=hw.fit.ok;refine .seq (.sr (.m J J J (.geq J J J J J (.na (.condP J (fun hc1=>?_) (fun hc1=>?_))))))
 ·
  have hj3:p.1<256:=by omega
  have hu:=frep_dbl hDf hDv hP hQ hw;have cd:=r5_plus D p.2 p.2 hDf hw.fit hw.fit;revert hu cd;generalize frT D p.2 p.2=F1;intro hu cd;have huo:=hu.fit.ok;rw[show(255:Int)-(p.1:Int)=((255-p.1:Nat):Int) by omega];refine .skip (A7 (.join (ι:=far) (fun y=>⟨[(4,ptr n4 0),(6,ptr n6 0),(8,ptr n8 0),(9,ptr n9 0),(10,ptr n10 0),(11,ptr n11 0),(12,ptr n12 0),(13,i64 (((255-p.1:Nat):Int)))],[⟨n12,(AQ).cells,254,30⟩,⟨n11,(AP).cells,254,30⟩,⟨n10,(y).cells,254,30⟩,⟨n9,Bp D,251,10⟩,⟨n8,Point.zero.cells,190,64⟩,⟨n6,Aa b,187,(Aa b).length⟩,⟨n4,Aa a,187,(Aa a).length⟩]⟩) (fun y=>FarRep y (cv.lin (le a/2^(256-(p.1+1))) (le b/2^(256-(p.1+1))) P Q)) ?_ ?_))
  ·
   refine .block (.sr (.lA J J J Cn J Sz251 Z3 (by(simp[Ap,hDl];done)) ?_));refine .lA J J J Y254.h J Sz254 Z2 (far.length (by exact hwo)) ?_;refine .lA J J J Y254.h J Sz254 Z2 (far.length (by exact hwo)) ?_;refine .cV J J J J Body235 (cd) tV (.sA J J J J (far.isCell (by exact huo)) Sz254 (far.length (by exact huo)) Z2 (far.length (by exact hwo)) (by exact upd2) ?_);refine .na (.join (ι:=far) (fun x=>⟨[(4,ptr n4 0),(6,ptr n6 0),(8,ptr n8 0),(9,ptr n9 0),(10,ptr n10 0),(11,ptr n11 0),(12,ptr n12 0),(13,i64 (((255-p.1:Nat):Int)))],[⟨n12,(AQ).cells,254,30⟩,⟨n11,(AP).cells,254,30⟩,⟨n10,(x).cells,254,30⟩,⟨n9,Bp D,251,10⟩,⟨n8,Point.zero.cells,190,64⟩,⟨n6,Aa b,187,(Aa b).length⟩,⟨n4,Aa a,187,(Aa a).length⟩]⟩) (fun x=>FarRep x (cv.lin (2*(le a/2^(256-p.1))+le a/2^(255-p.1)%2) (2*(le b/2^(256-p.1))) P Q)) ?_ ?_)
   ·
    refine .sr (.lA J J J Y187.h J Sz187 (by exact mem6) (by(simp[ha];done)) ?_);refine .m J J J (.cV J J J J Body236 (ref_bit_at a ha (255-p.1) oM) tV (.na (.cond J (fun hc2=>?_) (fun hc2=>?_))))
    ·
     have ca:=r5_plus D F1 AP hDf hu.fit hAP.fit;have hul:=frep_l hDf hDv hP hQ hu hAP (bit_one hc2);revert ca hul;generalize frT D F1 AP=F2;intro ca hul;have hulo:=hul.fit.ok;refine .region (.lA J J J Cn J Sz251 Z3 (by(simp[Ap,hDl];done)) ?_);refine .lA J J J Y254.h J Sz254 Z2 (far.length (by exact huo)) ?_;refine .lA J J J Y254.h J Sz254 Z1 (far.length (by exact hAPo)) ?_;refine .cV J J J J Body235 (ca) tV (.sA J J J J (far.isCell (by exact hulo)) Sz254 (far.length (by exact hulo)) Z2 (far.length (by exact huo)) (by exact upd2) ?_);refine .na ?_;exact⟨F2,hul,Ah wN (wh1 Z0 (wh1 Z1 (wh1 Z2 (wh1 Z3 (wh1 Z4 (wh1 (by exact mem5) (wh1 (by exact mem6) wh0))))))) nD⟩
    refine .skip (A7 ?_);exact⟨F1,(by rw[bit_nil hc2,Lca];exact hu),Ah wN (wh1 Z0 (wh1 Z1 (wh1 Z2 (wh1 Z3 (wh1 Z4 (wh1 (by exact mem5) (wh1 (by exact mem6) wh0))))))) nD⟩
   intro x hj;have hx:=hj;have hxo:=hx.fit.ok;refine .sr (.lA J J J Y187.h J Sz187 (by exact mem5) (by(simp[hb];done)) ?_);refine .m J J J (.cV J J J J Body236 (ref_bit_at b hb (255-p.1) oM) tV (.na (.cond J (fun hc3=>?_) (fun hc3=>?_))))
   ·
    have cx:=r5_plus D x AQ hDf hx.fit hAQ.fit;have hxr:=frep_r hDf hDv hP hQ hx hAQ (bit_one hc3);revert cx hxr;generalize frT D x AQ=F3;intro cx hxr;have hxro:=hxr.fit.ok;refine .region (.lA J J J Cn J Sz251 Z3 (by(simp[Ap,hDl];done)) ?_);refine .lA J J J Y254.h J Sz254 Z2 (far.length (by exact hxo)) ?_;refine .lA J J J Y254.h J Sz254 Z0 (far.length (by exact hAQo)) ?_;refine .cV J J J J Body235 (cx) tV (.sA J J J J (far.isCell (by exact hxro)) Sz254 (far.length (by exact hxro)) Z2 (far.length (by exact hxo)) (by exact upd2) ?_);refine .nil (bl_n (A7 ?_));exact⟨F3,(by rw[lin_d (b:=0) hj3,lin_d (b:=0) hj3];exact hxr),Ah wN (wh1 Z0 (wh1 Z1 (wh1 Z2 (wh1 Z3 (wh1 Z4 (wh1 (by exact mem5) (wh1 (by exact mem6) wh0))))))) nD⟩
   refine .skip (bl_n (A7 ?_));exact⟨x,(by rw[lin_d (b:=0) hj3,lin_d (b:=0) hj3,bit_nil (E:=le b) hc3,Lca];exact hx),Ah wN (wh1 Z0 (wh1 Z1 (wh1 Z2 (wh1 Z3 (wh1 Z4 (wh1 (by exact mem5) (wh1 (by exact mem6) wh0))))))) nD⟩
  intro y hj;have hy:=hj;have hyo:=hy.fit.ok;refine .region (.m J J J (.sub_i64 J J J J oM (.a J J J (.na ?_))));exact⟨(p.1+1,y),⟨by simp only[];omega,hy⟩,by simp only[];omega,Ah (wk1 rfl (wk1 rfl (wk1 rfl (wk1 rfl (wk1 rfl (wk1 rfl (wk1 rfl (wk1 (congrArg (fun z=>some (i64 z)) (show((255-p.1:Nat):Int)-1=255-((p.1+1:Nat):Int) by omega)) wk0)))))))) (wh1 Z0 (wh1 Z1 (wh1 Z2 (wh1 Z3 (wh1 Z4 (wh1 (by exact mem5) (wh1 (by exact mem6) wh0))))))) nD⟩
 have hje:p.1=256:=by omega
 have hfin:FarRep p.2 (cv.lin (le a) (le b) P Q):=by rw[hje,lin_last]at hw;exact hw
 refine .exit (at_x (at_x (bl_h (A7 (.sr (.lA J J J Y254.h J Sz254 Z2 (far.length (by exact hwo)) ?_))))));refine .cV J J J J Body237 (r5_near p.2 _ hfin) tV (.sA J J J J (Point.isCell zP) Sz190 (Point.length zP) Z4 (Point.length zZ) (by exact upd4) ?_);refine .na ?_;refine .ret (C6 ?_);refine⟨_,[],Aw J J Y190.h J Sz190 Z4 (by exact Point.length zP),sP,sP,?_,rfl⟩;rfl
theorem r5_Mul2z(a:List UInt8)(P:Pt Fp)(ha:a.length=32)(hP:cv.on P):Mv 179 [agg (Aa a),agg (ptc P).cells,agg (Aa (List.replicate 32 0)),agg (ptc (zero:Pt Fp)).cells] (fun _=>True) (agg (ptc (cv.mul (le a) P)).cells):=by
  have h:=r5_Mul2 a (List.replicate 32 0) P zero ha rfl hP cv.on_zero;rwa[le_zero32,lin_one]at h
theorem r5_Mul(a:List UInt8)(P:Pt Fp)(ha:a.length=32)(hP:cv.on P):Mv 190 [agg (Aa a),agg (ptc P).cells] (fun _=>True) (agg (ptc (cv.mul (le a) P)).cells):=by
 intro W hW;refine Ad func190 J 10 ntmps190 J (.sr (.boxA J J ?_));intro n2 hn2 hf2;refine .boxA J J ?_;intro n3 hn3 hf3;refine .alloc (cs:=Point.zero.cells) J Point.zr J ?_;intro n4 hn4 hf4;refine .na (.seq (.draw (oPq [100,101,2,303,304,405]) Aq zK (.lA J J J Y187.h J Sz187 Z2 (by(simp[ha];done)) ?_)));refine .lA J J J Y190.h J Sz190 Z1 (Point.length zP) ?_;refine .build (cs:=Aa (List.replicate 32 0)) J J J (fun w=>by kernel_rfl) ?_;refine .cV J J J J Body231 (r5_Zero) tV (.cV J J J J Body179 (r5_Mul2z a P ha hP) tV (.sA J J J J (Point.isCell zP) Sz190 (Point.length zP) Z0 (Point.length zZ) zU ?_));refine .na ?_;refine .ret (C6 ?_);refine⟨_,[],Aw J J Y190.h J Sz190 Z0 (by exact Point.length zP),sP,sP,?_,rfl⟩;rfl
theorem r5_Bytes(P:Pt Fp)(hP:cv.on P):Mv 189 [agg (ptc P).cells] (fun _=>True) (.tuple #[agg (Aa (pb P)),i64 0]):=by
 intro W hW;refine Ad func189 J 19 ntmps189 J (.sr (.boxA J J ?_));intro n1 hn1 hf1;refine .alloc (cs:=(Aa (List.replicate 32 0))) J Zr28 J ?_;intro n2 hn2 hf2;refine .a J J J (.na (.seq (.sr (.lA J J J Y190.h J Sz190 Z1 (Point.length zP) ?_))));refine .cV J J J J Body230 (r5_Check P hP) tV (.nei J J J J (show(!decide _)=false from congrArg not (decide_eq_true (rfl))) (.na (.cond_f J (rfl) (.skip (A7 (.sr (.fld J J J Y190.h J Sz187 dE _ J (.lN (Aa _) J J J Y187.h J Sz187 Z1 (Point.row_fY zP) (Point.rl_fY zP) ?_))))))));refine .alloc (cs:=(Aa (List.replicate 32 0))) J Zr28 J ?_;intro n4 hn4 hf4;refine .sA J J J J zE Sz28 (by(simp[Ar,ptc_y];done)) Z0 sP zU ?_;refine .na (.join (ι:=Unit) (fun _u=>⟨[(2,ptr n2 0),(4,ptr n4 0)],[⟨n4,Aa (pb P),28,32⟩,⟨n2,Aa (List.replicate 32 0),28,32⟩]⟩) (fun _u=>True) ?_ ?_)
 ·
  refine .sr (.fld J J J Y190.h J Sz187 dE _ J (.lN (Aa _) J J J Y187.h J Sz187 Z2 (Point.row_fX zP) (Point.rl_fX zP) ?_));refine .cV J J J J Body242 (r_odd P.x) tV (.na (.condP J (fun hc1=>?_) (fun hc1=>?_)))
  ·
   refine .region (.i1 J J J J Y28.h Sz5 31 J dE (.load1 J J J Y5.h J Z0 (get_bytes (by show 31<(fb P.y).length;rw[Ar];decide)) ?_));refine .add_u8 J J J (show Ai _ _=some (u8 128)from rfl) (.i1 J J J J Y28.h Sz5 31 J dE ?_);rw[show((ptc P).fY.getD 31 0+128:UInt8)=(fb P.y).getD 31 0|||128 from byte_plus _ (fb_top P.y)];refine .s1 J J J J J Sz5 Z0 (by(simp[Ar,ptc_y];done)) (by exact Bl _ _ _) zU ?_;refine .na ?_
   (rw[show pb P=(fb P.y).set 31 ((fb P.y).getD 31 0|||128)from if_pos hc1];exact⟨(),trivial,Ah wN (wh1 Z0 (wh1 Z1 wh0)) nD⟩)
  refine .skip (A7 ?_)
  (rw[show pb P=fb P.y from if_neg hc1];exact⟨(),trivial,Ah wN (wh1 Z0 (wh1 Z1 wh0)) nD⟩)
 intro _u hj;skip;refine .sr (.lA J J J Y28.h J Sz28 Z0 (by(simp[Cp];done)) ?_);refine .sA J J J J zE Sz28 (by(simp[Cp];done)) Z1 sP zV ?_;refine .a J J J (.na ?_);refine .ret (C6 ?_);refine⟨_,[],Bg J J J Y28.h J Sz28 Z1 (by simp[Cp]),sP,sP,?_,rfl⟩;rfl
end Go.Proofs.YtgjnomgkddbhcaaGreat
namespace Go.Proofs.YtgjnomgkddbhcaaGreat
open Go Hw _root_.Go.Proofs.Tryz
theorem ref_mul(a b:List UInt8)(ha:a.length=32)(hb:b.length=32):Mv 245 [agg (Aa a),agg (Aa b)] (fun _=>True) (agg (Aa (leb 32 (le a*le b%L)))):=by
 intro W hW;refine Ad func245 J 58 ntmps245 J (.sr (.boxA J J ?_));intro n2 hn2 hf2;refine .boxA J J ?_;intro n3 hn3 hf3;refine .alloc (cs:=(Aa (List.replicate 32 0))) J A8 J ?_;intro n4 hn4 hf4;refine .nsr (.alloc (cs:=(Cc (List.replicate 64 0))) J Zr281 J ?_);intro n5 hn5 hf5;refine .na (.join (ι:=Unit) (fun _u=>⟨[(2,ptr n2 0),(3,ptr n3 0),(4,ptr n4 0),(5,ptr n5 0)],[⟨n5,natsV (out a b 32),281,64⟩,⟨n4,Aa (List.replicate 32 0),187,32⟩]⟩) (fun _u=>True) ?_ ?_)
 ·
  refine .sr (.a J J J (.na (.block (.loop (ι:=Nat) (fun p=>⟨[(2,ptr n2 0),(3,ptr n3 0),(4,ptr n4 0),(5,ptr n5 0),(6,i64 (p:Int))],[⟨n5,natsV (out a b p),281,64⟩,⟨n4,Aa (List.replicate 32 0),187,32⟩,⟨n3,Aa b,187,(Aa b).length⟩,⟨n2,Aa a,187,(Aa a).length⟩]⟩) (fun p=>p≤32) (fun p=>32-p) (0) ?_ ?_ ?_))))
  ·omega
  ·exact Ah wN (wh1 (by rw[out,natsV_zeros];exact Cb) (wh1 Z1 (wh1 Z2 (wh1 Z3 wh0)))) nD
  rintro p hp;refine .seq (.sr (.m J J J (.lss J J J J J (.na (.condP J (fun hc0=>?_) (fun hc0=>?_))))))
  ·
   have hp2:p<32:=by omega
   refine .skip (A7 (.seq (.block (.sr (.a J J J (.na (.block (.loop (ι:=Nat) (fun q=>⟨[(2,ptr n2 0),(3,ptr n3 0),(4,ptr n4 0),(5,ptr n5 0),(6,i64 (p:Int)),(7,i64 (q:Int))],[⟨n5,natsV (inn a b p (out a b p) q),281,64⟩,⟨n4,Aa (List.replicate 32 0),187,32⟩,⟨n3,Aa b,187,(Aa b).length⟩,⟨n2,Aa a,187,(Aa a).length⟩]⟩) (fun q=>q≤32) (fun q=>32-q) (0) ?_ ?_ ?_))))))))
   ·omega
   ·exact Ah wN (wh1 Z0 (wh1 Z1 (wh1 Z2 (wh1 Z3 wh0)))) nD
   rintro q hq;refine .seq (.sr (.m J J J (.lss J J J J J (.na (.condP J (fun hc1=>?_) (fun hc1=>?_))))))
   ·
    have hq2:q<32:=by omega
    obtain⟨hm0,hm1⟩:=natCast_mul_le (a.getD p 0).toNat_lt (b.getD q 0).toNat_lt;have hcl:(inn a b p (out a b p) q).getD (p+q) 0≤2080800*p+65025*q:=inn_le a b p _ _ (out_le a b p) q (p+q);refine .skip (A7 (.seq (.block (.draw (oPq [0,1,2,3,4,5,6,107,8,9,110,11,12,13,114,15,16,17,18,419]) Aq zK (.m J J J (.m J J J (.aI J J J J oM (.m J J J (.m J J J (.aI J J J J oM (.i1 J J J J underlying281 Sz3 (p+q) oM oM (.load1 J J J Y3.h J Z0 (get_nats (by simp[inn_length,out_length];omega)) ?_))))))))))));refine .m J J J (.i1 J J J J Y187.h Sz5 _ J oM (.load1 J J J Y5.h J Z3 zG ?_));refine .conv J J J Y5.h Y3.h (cv_u8_i64 _) (.m J J J (.i1 J J J J Y187.h Sz5 _ J oM (.load1 J J J Y5.h J Z2 zG ?_)))
    refine .conv J J J Y5.h Y3.h (cv_u8_i64 _) (.mul_i64 J J J J oM (.aI J J J J oM (.i1 J J J J underlying281 Sz3 (p+q) oM oM (.s1 J J J J J Sz3 Z0 (by(simp[natsV_length,inn_length,out_length];omega)) (by rfl) zU ?_))))
    refine .nil (bl_n (A7 (.region (.m J J J (.aI J J J J oM (.a J J J (.na ?_)))))));exact⟨q+1,by omega,by omega,Ah wN (wh1 (by rw[inn,addC_set];exact Cb) (wh1 Z1 (wh1 Z2 (wh1 Z3 wh0)))) nD⟩
   obtain rfl:q=32:=by omega
   refine .exit (at_x (at_x (bl_h (bl_n (A7 (.region (.m J J J (.aI J J J J oM (.a J J J (.na ?_))))))))));exact⟨p+1,by omega,by omega,Ah wN (wh1 Z0 (wh1 Z1 (wh1 Z2 (wh1 Z3 wh0)))) nD⟩
  obtain rfl:p=32:=by omega
  refine .exit (at_x (at_x (bl_h (A7 ?_))));refine⟨(),trivial,Ah wN (wh1 Z0 (wh1 Z1 wh0)) nD⟩
 intro _u hj;skip;refine .sr (.mkSlice (z:=u8 0) (by':=1) 64 J J J J Y33.h Sz5 Zr5 (by unfold By;kernel_rfl) J oM oM oM ?_);intro n38;refine .a J J J (.nsr (.a J J J (.na (.join (ι:=Unit) (fun _u=>⟨[(4,ptr n4 0),(8, .slice (some ⟨n38,0,none⟩) 64 64)],[⟨n38,Aa (leb 64 (le a*le b)),5,64⟩,⟨n4,Aa (List.replicate 32 0),187,32⟩]⟩) (fun _u=>True) ?_ ?_))))
 ·
  refine .sr (.a J J J (.na (.block (.loop (ι:=Nat) (fun k=>⟨[(4,ptr n4 0),(5,ptr n5 0),(8, .slice (some ⟨n38,0,none⟩) 64 64),(9,i64 ((ev ((out a b 32).take k)/256^k:Nat):Int)),(10,i64 (k:Int))],[⟨n38,Aa (padW 64 (ev ((out a b 32).take k)) k),5,64⟩,⟨n5,natsV (out a b 32),281,64⟩,⟨n4,Aa (List.replicate 32 0),187,32⟩]⟩) (fun k=>k≤64) (fun k=>64-k) (0) ?_ ?_ ?_))))
  ·omega
  ·exact Ah (wk1 rfl (wk1 rfl (wk1 rfl (wk1 (by rw[Le8];rfl) wN)))) (wh1 (by rw[padW_zero];exact Cb) (wh1 Z1 (wh1 Z2 wh0))) nD
  rintro k hk;have hpl:=padW_length 64 (ev ((out a b 32).take k)) k hk;have hcb:=ev_take_le (out a b 32) _ (out_le a b 32) k;have hcn:(0:Int)≤((ev ((out a b 32).take k)/256^k:Nat):Int):=Lem _;have hcb2:((ev ((out a b 32).take k)/256^k:Nat):Int)≤((2080800*32:Nat):Int):=Int.ofNat_le.2 hcb;refine .seq (.sr (.m J J J (.lss J J J J J (.na (.condP J (fun hc2=>?_) (fun hc2=>?_))))))
  ·
   have hk2:k<64:=by omega
   have hco:=out_le a b 32 k;have hs:((ev ((out a b 32).take k)/256^k:Nat):Int)+(((out a b 32).getD k 0:Nat):Int)=((ev ((out a b 32).take k)/256^k+(out a b 32).getD k 0:Nat):Int):=by rw[Lcn]
   refine .skip (A7 (.seq (.block (.sr (.m J J J (.m J J J (.i1 J J J J underlying281 Sz3 _ J oM (.load1 J J J Y3.h J Z1 (get_nats (by simp[out_length];omega)) ?_))))))));refine .aI J J J J oM (.a J J J (.nsr (.m J J J (.m J J J (.m J J J (.rem_i64 J J J J oM (.conv J J J Y3.h Y5.h (cv_i64_u8 _) (.idxSl1 J J J J Y33.h Sz5 _ J oM (.s1 J J J J J Sz5 Z0 (by(simp;omega)) (by exact Bl _ _ _) zU ?_)))))))));refine .na (.region (.m J J J (.quo_i64 J J J J oM (.a J J J (.nil (bl_n (A7 (.region (.m J J J (.aI J J J J oM (.a J J J (.na ?_))))))))))));have hst:=ev_take_succ (out a b 32) k (by rw[out_length];omega);exact⟨k+1,by omega,by omega,Ah (wk1 rfl (wk1 rfl (wk1 rfl (wk1 (by rw[hst,←carry_step _ _ _ _ hs];rfl) wN)))) (wh1 (by rw[hst,←padW_step 64 _ _ k oM _ hs,byteOf_mod];exact Cb) (wh1 Z1 (wh1 Z2 wh0))) nD⟩
  obtain rfl:k=64:=by omega
  refine .exit (at_x (at_x (bl_h (A7 ?_))));refine⟨(),trivial,Ah wN (wh1 (by rw[←padW_all,←ev_all a b ha hb];exact Cb) (wh1 Z2 wh0)) nD⟩
 intro _u hj;skip;refine .sr (.m J J J (.cV J J J J Body243 (ref_rest _ 0 _ 64 (leb 64 (le a*le b)) (by simp[Am]) oM) (fun W h=>An h Z0) ?_));refine .sA J J J J zB Sz187 (by(simp[Am];done)) Z1 sP zV ?_;refine .na ?_;refine .ret (C6 ?_);refine⟨_,[],Aw J J Y187.h J Sz187 Z1 (by simp[Am]),sP,sP,?_,rfl⟩;rw[le_leb,Lai (le512 ha hb)]
theorem ref_muladd(a b c:List UInt8)(ha:a.length=32)(hb:b.length=32)(hc:c.length=32):Mv 195 [agg (Aa a),agg (Aa b),agg (Aa c)] (fun _=>True) (agg (Aa (leb 32 ((le a*le b+le c)%L)))):=by
 intro W hW;refine Ad func195 J 13 ntmps195 J (.sr (.boxA J J ?_));intro n3 hn3 hf3;refine .boxA J J ?_;intro n4 hn4 hf4;refine .boxA J J ?_;intro n5 hn5 hf5;refine .alloc (cs:=(Aa (List.replicate 32 0))) J A8 J ?_;intro n6 hn6 hf6;refine .na (.seq (.draw (oPq [100,101,3,302,304,305,406]) Aq zK (.lA J J J Y187.h J Sz187 Z3 (by(simp[ha];done)) ?_)));refine .lA J J J Y187.h J Sz187 Z2 (by(simp[hb];done)) ?_;refine .sliceArr J J J Y187.h Sz5 (.cV J J J J Body245 (ref_mul a b ha hb) tV (.cV J J J J Body243 (ref_rest _ 0 _ 32 c (by simp[hc]) oM) (fun W h=>An h Z1) ?_));refine .cV J J J J Body244 (ref_plus_n _ _ (Lc3 _ L_pos) (Lc3 _ L_pos)) tV (.sA J J J J zB Sz187 (by(simp[Am];done)) Z0 sP zU ?_);refine .na ?_;refine .ret (C6 ?_);refine⟨_,[],Aw J J Y187.h J Sz187 Z0 (by simp[Am]),sP,sP,?_,rfl⟩;rw[←Lf3]
open Ed
variable{D:DB}{W w:World}{b n:Nat}{l:List UInt8}{v:Value}
theorem byte_8:∀b:UInt8,b-UInt8.ofNat (b.toNat%8)=b&&&248∧UInt8.ofNat (b.toNat%64)+64=(b&&&127)|||64:=by
  intro b;have h:∀n,n<256→UInt8.ofNat n-UInt8.ofNat ((UInt8.ofNat n).toNat%8)=UInt8.ofNat n&&&248∧UInt8.ofNat ((UInt8.ofNat n).toNat%64)+64=(UInt8.ofNat n&&&127)|||64:=by decide
  have h2:=h b.toNat b.toNat_lt;rwa[Lfi]at h2
theorem clamp_ref(h:l.length=32):(l.set 0 (l.getD 0 0-UInt8.ofNat ((l.getD 0 0).toNat%8))).set 31 (UInt8.ofNat (((l.set 0 (l.getD 0 0-UInt8.ofNat ((l.getD 0 0).toNat%8))).getD 31 0).toNat%64)+64)=clampB l:=by
  have g:(l.set 0 (l.getD 0 0-UInt8.ofNat ((l.getD 0 0).toNat%8))).getD 31 0=l.getD 31 0:=by
    rw[La4,Let dE,←La4]
  rw[g,(byte_8 _).1,(byte_8 _).2];rfl
theorem upd_all{f:List UInt8}(h:f.length=32):upd (Aa (List.replicate 32 0)) 0 (Aa f)=Aa f:=by simp[upd,Aa,h]
theorem sees_take(h:De w b 0 (Aa l)):SeesP w (some ⟨b,0,none⟩) (Aa (l.take n)):=SeesP.of (fun i v hv=>h i v (take_sees hv))
theorem sees_drop(h:De w b 0 (Aa l)):SeesP w (some ⟨b,n,none⟩) (Aa (l.drop n)):=SeesP.of (fun i v hv=>by
  have e:(Aa l)[n+i]? =some v:=by rw[Aa,Lej,Lb9]at hv;exact hv
  have:=h _ v e;rwa[Lb2]at this)
theorem r6_secret(seed:List UInt8)(h32:seed.length=32)(s:List UInt8)(hs:Hid (sha512 seed=s)):Meets prog 192 [agg (Aa seed)] [] (fun _=>True) (fun v out=>∃q c,v= .tuple #[agg (Aa (clampB (s.take 32))), .slice (some ⟨q,0,none⟩) 32 c]∧32≤c∧out=[⟨q,Aa (s.drop 32),5,c*1⟩]):=by
 intro W hW;have hs64:s.length=64:=by rw[←hs.out];exact sha512_length seed
 have ht32:(s.take 32).length=32:=by rw[Lac,hs64];rfl
 have hd32:(s.drop 32).length=32:=by rw[Lb6,hs64]
 have hcl:=clampB_length ht32;refine Ad func192 J 28 ntmps192 J (G3 ?_);intro n1 hn1 hf1;refine .alloc (cs:=(Aa (List.replicate 32 0))) J A8 J ?_;intro n2 hn2 hf2;refine G6 ?_;refine .mkRow2 (z:= .slice none 0 0) [.slice (some ⟨n1,0,none⟩) 32 32] [.slice (some ⟨n1,0,none⟩) 32 32] rfl J Y150.h Sz33 Zr33 J J (by intro v hv;rw[La1.1 hv];rfl) dE J ?_;intro q7;refine .cV J J J J Body193 (r2_Sum512 (some ⟨q7,0,none⟩) 1 1 [⟨some ⟨n1,0,none⟩,32,32⟩] [seed] rfl J (fun j hj=>(by
   rcases(show j=0 by omega)with rfl
   ·exact⟨by show 32=List.length _;exact h32.symm,fun e=>by cases e⟩)) (seed) sP (by(simp[h32];done)) dE s hs) (fun w h=>⟨SeesP.of (An h Z0),(fun j hj=>(by
   rcases(show j=0 by omega)with rfl
   ·exact SeesP.of (An (cs:=Aa seed) h Z2)))⟩) ?_
 refine .alloc (cs:=(Aa (List.replicate 64 0))) J Zr34 J ?_;intro n4 hn4 hf4;refine .sA J J J J zE Sz34 (by(simp[hs64];done)) Z0 sP zU ?_;refine G4 ?_;refine .alloc (cs:=(Aa (List.replicate 32 0))) J A8 J ?_;intro n5 hn5 hf5;refine G3 ?_;refine .draw (oPq [0,1,402]) Aq zK (G1 ?_);refine .sliceArrHi 32 J J J J J dE dE Y34.h Sz5 (.copyP (Aa (s.take 32)) 32 J J J J J Y33.h Sz5 (fun w h=>sees_take (An h Z1)) (fun e=>by cases e) (by rw[Aa,La0];exact ht32) J (by rw[Aa,←Lbe,La5 (Ld4 ht32)]) (A0 _) Z0 sP (by exact upd_all ht32) zU ?_);refine G4 ?_;refine .i1 J J J J Y187.h Sz5 0 J dE (G1 ?_);refine .i1 J J J J Y187.h Sz5 0 J dE (G1 ?_);refine .rem_u8 J J J J 8 J dE (.sub_u8 J J J J (.i1 J J J J Y187.h Sz5 0 J dE (.s1 J J J J J Sz5 Z0 (by(simp[hs64];done)) (by exact Bl _ _ _) zU ?_)));refine G4 ?_;refine .i1 J J J J Y187.h Sz5 31 J dE (.load1 J J J Y5.h J Z0 (by exact get_bytes (by(simp[ht32];done))) ?_);refine .rem_u8 J J J J 64 J dE (.add_u8 J J J (show Ai _ _=some (u8 64)from rfl) (.i1 J J J J Y187.h Sz5 31 J dE (.s1 J J J J J Sz5 Z0 (by(simp[hs64,ht32];done)) (by exact Bl _ _ _) zU ?_)));refine G3 ?_;refine .withK (sp_k (sp_v (sp_v (sp_v (sp_v sp_n))))) J (.draw (oPq [0,2,201,403,404,5]) Aq zK ?_);rw[clamp_ref ht32];refine .kloadAll J J J Y187.h J Sz187 Z0 (by(simp[hcl];done)) ?_;refine .sliceArrLo 32 J J J J J dE Y34.h Sz5 (.mkRow2 (z:=u8 0) [] [] rfl J Y33.h Sz5 Zr5 J J (by intro v hv;cases hv) dE J ?_);intro q25;refine .appendSl (z:=u8 0) (by':=1) (Aa (s.drop 32)) J J J J J Y33.h Y33.h Sz5 Zr5 (by unfold By;kernel_rfl) J (fun w h=>sees_drop (An h Z1)) (fun e=>by cases e) (A0 _) rM J J oM oM oM (by rw[Aa,La0];exact hd32) ?_;intro q27 c27 hq27;refine .sA J J J J zE Sz187 (by(simp[hcl];done)) Z3 sP (by exact upd3) ?_;refine G3 ?_;refine G2 ?_;simp only[Lak,Lah,Lat];refine As (out:=(⟨q27,[]++Aa (s.drop 32),5,c27*1⟩::[])) (Bg J J J Y187.h J Sz187 Z3 (by simp[hcl])) (Ab rM Ae) ?_;exact⟨q27,c27,rfl,by omega,rfl⟩
theorem r6_Secret(seed:List UInt8)(h32:seed.length=32)(s:List UInt8)(hs:Hid (sha512 seed=s)):Mv 191 [agg (Aa seed)] (fun _=>True) (agg (Aa (clampB (s.take 32)))):=by
 intro W hW;have hs64:s.length=64:=by rw[←hs.out];exact sha512_length seed
 have ht32:(s.take 32).length=32:=by rw[Lac,hs64];rfl
 have hd32:(s.drop 32).length=32:=by rw[Lb6,hs64]
 have hcl:=clampB_length ht32;revert hcl;have hsec:=r6_secret seed h32 s hs;revert hsec;generalize clampB (s.take 32)=N;intro hsec hcl;refine Ad func191 J 11 ntmps191 J (G3 ?_);intro n1 hn1 hf1;refine .alloc (cs:=(Aa (List.replicate 32 0))) J A8 J ?_;intro n2 hn2 hf2;refine G4 ?_;refine .lA J J J Y28.h J Sz28 Z1 (by(simp[h32];done)) ?_;refine .call4 J J J J J Body192 (hsec) tV ?_;rintro v7 out7 ⟨q7,c7,rfl,hc7,rfl⟩;simp only[Lak,Lah];refine G3 ?_;refine .alloc (cs:=(Aa (List.replicate 32 0))) J A8 J ?_;intro n3 hn3 hf3;refine .sA J J J J zE Sz187 (by(simp[hcl];done)) Z0 sP zU ?_;refine G5 ?_;refine .lA J J J Y187.h J Sz187 Z0 (by(simp[hcl];done)) ?_;refine .sA J J J J zE Sz187 (by(simp[hcl];done)) Z2 sP (by exact upd2) ?_;refine G2 ?_;refine G2 ?_;refine⟨_,[],Aw J J Y187.h J Sz187 Z2 (by simp[hcl]),sP,sP,?_,rfl⟩;rfl
theorem r6_KeyQ(N:List UInt8)(hN:N.length=32)(Q:Pt Fp)(hQ:cv.mul (le N) bP=Q):cv.on Q∧Mv 190 [agg (Aa N),agg (ptc bP).cells] (fun _=>True) (agg (ptc Q).cells):=by
  rw[←hQ];exact⟨cv.on_mul bP_on _,r5_Mul N bP hN bP_on⟩
theorem r6_Key(seed:List UInt8)(h32:seed.length=32)(s:List UInt8)(hs:Hid (sha512 seed=s)):Mv 157 [agg (Aa seed)] (fun _=>True) (agg (Aa (sgK s))):=by
 intro W hW;have hs64:s.length=64:=by rw[←hs.out];exact sha512_length seed
 have ht32:(s.take 32).length=32:=by rw[Lac,hs64];rfl
 have hd32:(s.drop 32).length=32:=by rw[Lb6,hs64]
 have hcl:=clampB_length ht32;obtain⟨Q,hQ⟩:∃Q,cv.mul (le (clampB (s.take 32))) bP=Q:=⟨_,rfl⟩;have hsec:=r6_Secret seed h32 s hs;have hkq:=r6_KeyQ (clampB (s.take 32)) hcl Q hQ;rw[show sgK s=pb Q from by rw[sgK,hQ]];clear hQ;revert hcl hsec hkq;generalize clampB (s.take 32)=N;intro hcl hsec hkq;obtain⟨hQo,hmul⟩:=hkq;refine Ad func157 J 14 ntmps157 J (G3 ?_);intro n1 hn1 hf1;refine .alloc (cs:=(Aa (List.replicate 32 0))) J Zr29 J ?_;intro n2 hn2 hf2;refine G4 ?_;refine .lA J J J Y28.h J Sz28 Z1 (by(simp[h32];done)) ?_;refine .cV J J J J Body191 (hsec) tV (.cV J J J J Body180 (r5_Base) tV (.cV J J J J Body190 (hmul) tV (.cV J J J J Body189 (r5_Bytes Q hQo) tV (G3 ?_))));refine .alloc (cs:=(Aa (List.replicate 32 0))) J Zr28 J ?_;intro n3 hn3 hf3;refine .sA J J J J zE Sz28 (by(simp[Cp];done)) Z0 sP zU ?_;refine G5 ?_;refine .lA J J J Y28.h J Sz28 Z0 (by(simp[Cp];done)) ?_;refine .sA J J J J zE Sz29 (by(simp[Cp];done)) Z1 sP zV ?_;refine G2 ?_;refine G2 ?_;refine⟨_,[],Aw J J Y29.h J Sz29 Z1 (by simp[Cp]),sP,sP,?_,rfl⟩;rfl
theorem r6_challenge(r k:List UInt8)(hr:r.length=32)(hk:k.length=32)(sb:Sl)(bb:List UInt8)(hbn:bb.length≤80000)(s:List UInt8)(hs:Hid (sha512 (r++(k++bb))=s)):Mv 181 [agg (Aa r),agg (Aa k),sb.v] (fun W=>BytesAt W sb bb) (agg (Aa (sgR s))):=by
 intro W hW;have hs64:s.length=64:=by rw[←hs.out];exact sha512_length _
 obtain⟨R,hR⟩:∃R,Hid (sgR s=R):=⟨_,⟨rfl⟩⟩;have hRl:R.length=32:=by rw[←hR.out];exact sgR_length s
 have hres:=fun b=>ref_Rest b 0 64 64 s hs64 dE;rw[show leb 32 (le s%L)=R from hR.out]at hres;rw[hR.out];refine Ad func181 J 21 ntmps181 J (G3 ?_);intro n3 hn3 hf3;refine G1 ?_;intro n4 hn4 hf4;refine .alloc (cs:=(Aa (List.replicate 32 0))) J A8 J ?_;intro n6 hn6 hf6;refine G3 ?_;refine .draw (oPq [0,1,2,203,304,205,406]) Aq zK (G3 ?_);refine .mkRow2 (z:= .slice none 0 0) [.slice (some ⟨n3,0,none⟩) 32 32, .slice (some ⟨n4,0,none⟩) 32 32,sb.v] [.slice (some ⟨n3,0,none⟩) 32 32, .slice (some ⟨n4,0,none⟩) 32 32,sb.v] rfl J Y150.h Sz33 Zr33 J J (by intro v hv;simp only[Laj,Lbu,or_false]at hv;rcases hv with rfl|rfl|rfl<;>rfl) dE J ?_;intro q13;refine .cV J J J J Body193 (r2_Sum512 (some ⟨q13,0,none⟩) 3 3 [⟨some ⟨n3,0,none⟩,32,32⟩,⟨some ⟨n4,0,none⟩,32,32⟩,sb] [r,k,bb] rfl J (fun j hj=>(by
   rcases(show j=0∨j=1∨j=2 by omega)with rfl|rfl|rfl
   ·exact⟨by show 32=List.length _;exact hr.symm,fun e=>by cases e⟩
   ·exact⟨by show 32=List.length _;exact hk.symm,fun e=>by cases e⟩
   ·exact⟨by show sb.n=bb.length;exact hW.len.symm,fun e=>by have h1:=hW.nil e;have h2:=hW.cap;show sb.n=0;omega⟩)) (r++(k++bb)) sP (by(simp[hr,hk];omega)) dE s hs) (fun w h=>⟨SeesP.of (An h Z0),(fun j hj=>(by
   rcases(show j=0∨j=1∨j=2 by omega)with rfl|rfl|rfl
   ·exact SeesP.of (An (cs:=Aa r) h Z3)
   ·exact SeesP.of (An (cs:=Aa k) h Z2)
   ·exact A5 h rfl hW.see))⟩) ?_
 refine .alloc (cs:=(Aa (List.replicate 64 0))) J Zr34 J ?_;intro n7 hn7 hf7;refine .sA J J J J zE Sz34 (by(simp[hs64];done)) Z0 sP zU ?_;refine G5 ?_;refine .cV J J J J Body194 (hres n7) (fun w h=>An h Z0) ?_;refine G3 ?_;refine .alloc (cs:=(Aa (List.replicate 32 0))) J A8 J ?_;intro n8 hn8 hf8;refine .sA J J J J zE Sz187 (by(simp[hRl];done)) Z0 sP zU ?_;refine G5 ?_;refine .lA J J J Y187.h J Sz187 Z0 (by(simp[hRl];done)) ?_;refine .sA J J J J zE Sz187 (by(simp[hRl];done)) Z3 sP (by exact upd3) ?_;refine G2 ?_;refine G2 ?_;refine⟨_,[],Aw J J Y187.h J Sz187 Z3 (by simp[hRl]),sP,sP,?_,rfl⟩;rfl
theorem r6_Sign(seed:List UInt8)(h32:seed.length=32)(sb:Sl)(bb:List UInt8)(hbn:bb.length≤80000)(s s1 s2:List UInt8)(hs:Hid (sha512 seed=s))(hs1:Hid (sha512 (s.drop 32++bb)=s1))(hs2:Hid (sha512 (sgF s1++(sgK s++bb))=s2)):Mv 158 [agg (Aa seed),sb.v] (fun W=>BytesAt W sb bb) (agg (Aa (sgF s1++sgS s s1 s2))):=by
 intro W hW;have hs64:s.length=64:=by rw[←hs.out];exact sha512_length seed
 have ht32:(s.take 32).length=32:=by rw[Lac,hs64];rfl
 have hd32:(s.drop 32).length=32:=by rw[Lb6,hs64]
 have hcl:=clampB_length ht32;have h64:s1.length=64:=by rw[←hs1.out];exact sha512_length _
 have csec:=r6_secret seed h32 s hs;have ckey:=r6_Key seed h32 s hs;have cch:=r6_challenge (sgF s1) (sgK s) (sgF_length s1) (sgK_length s) sb bb hbn s2 hs2;have cma:=ref_muladd (sgR s2) (clampB (s.take 32)) (sgR s1) (sgR_length s2) hcl (sgR_length s1);rw[show leb 32 ((le (sgR s2)*le (clampB (s.take 32))+le (sgR s1))%L)=sgS s s1 s2 from rfl]at cma;obtain⟨Q,hQ⟩:∃Q,cv.mul (le (sgR s1)) bP=Q:=⟨_,rfl⟩;have hkq:=r6_KeyQ (sgR s1) (sgR_length s1) Q hQ;have hF:sgF s1=pb Q:=by rw[sgF,hQ]
 rw[hF]at cch ⊢;clear hQ hs2 hF;have hres:=fun b=>ref_Rest b 0 64 64 s1 h64 dE;rw[show leb 32 (le s1%L)=sgR s1 from rfl]at hres;have lK:=sgK_length s;have lS:=sgS_length s s1 s2;have lR1:=sgR_length s1;have lR2:=sgR_length s2;revert hcl csec ckey cch cma hkq hres lK lS lR1 lR2;generalize sgS s s1 s2=S3;generalize sgK s=K;generalize sgR s1=r1;generalize sgR s2=r2;generalize clampB (s.take 32)=N;intro hcl csec ckey cma cch hkq hres lK lS lR1 lR2;obtain⟨hQo,hmul⟩:=hkq;have hpq:=Cp Q;refine Ad func158 J 50 ntmps158 J (G3 ?_);intro n2 hn2 hf2;refine .alloc (cs:=(Aa (List.replicate 64 0))) J Zr35 J ?_;intro n4 hn4 hf4;refine G4 ?_;refine .lA J J J Y28.h J Sz28 Z1 (by(simp[h32];done)) ?_;refine .call4 J J J J J Body192 (csec) tV ?_;rintro v7 out7 ⟨q7,c7,rfl,hc7,rfl⟩;simp only[Lak,Lah];refine G3 ?_;refine .alloc (cs:=(Aa (List.replicate 32 0))) J A8 J ?_;intro n5 hn5 hf5;refine .sA J J J J zE Sz187 (by(simp[hcl];done)) Z0 sP zU ?_;refine G7 ?_;refine .mkRow2 (z:= .slice none 0 0) [.slice (some ⟨q7,0,none⟩) 32 c7,sb.v] [.slice (some ⟨q7,0,none⟩) 32 c7,sb.v] rfl J Y150.h Sz33 Zr33 J J (by intro v hv;simp only[Laj,Lbu,or_false]at hv;rcases hv with rfl|rfl<;>rfl) dE J ?_;intro q21;refine .cV J J J J Body193 (r2_Sum512 (some ⟨q21,0,none⟩) 2 2 [⟨some ⟨q7,0,none⟩,32,c7⟩,sb] [s.drop 32,bb] rfl J (fun j hj=>(by
   rcases(show j=0∨j=1 by omega)with rfl|rfl
   ·exact⟨by show 32=List.length _;exact hd32.symm,fun e=>by cases e⟩
   ·exact⟨by show sb.n=bb.length;exact hW.len.symm,fun e=>by have h1:=hW.nil e;have h2:=hW.cap;show sb.n=0;omega⟩)) (s.drop 32++bb) sP (by(simp[hd32];omega)) dE s1 hs1) (fun w h=>⟨SeesP.of (An h Z0),(fun j hj=>(by
   rcases(show j=0∨j=1 by omega)with rfl|rfl
   ·exact SeesP.of (An (cs:=Aa (s.drop 32)) h Z2)
   ·exact A5 h rfl hW.see))⟩) ?_
 refine .alloc (cs:=(Aa (List.replicate 64 0))) J Zr34 J ?_;intro n7 hn7 hf7;refine .sA J J J J zE Sz34 (by(simp[h64];done)) Z0 sP zU ?_;refine G5 ?_;refine .cV J J J J Body194 (hres n7) (fun w h=>An h Z0) ?_;refine G3 ?_;refine .alloc (cs:=(Aa (List.replicate 32 0))) J A8 J ?_;intro n8 hn8 hf8;refine .sA J J J J zE Sz187 (by(simp[lR1];done)) Z0 sP zU ?_;refine G4 ?_;refine .draw (oPq [100,301,302,303,4,5,6,207,408,9]) Aq zK (.lA J J J Y187.h J Sz187 Z0 (by(simp[lR1];done)) ?_);refine .cV J J J J Body180 (r5_Base) tV (.cV J J J J Body190 (hmul) tV (.cV J J J J Body189 (r5_Bytes Q hQo) tV (G3 ?_)));refine .alloc (cs:=(Aa (List.replicate 32 0))) J Zr28 J ?_;intro n10 hn10 hf10;refine .sA J J J J zE Sz28 (by(simp[Cp];done)) Z0 sP zU ?_;refine G4 ?_;refine .draw (oPq [100,101,3,105,106,302,304,307,208,409]) Aq zK (.lA J J J Y28.h J Sz28 Z0 (by(simp[Cp];done)) ?_);refine .lA J J J Y28.h J Sz28 (by exact mem7) (by(simp[h32];done)) ?_;refine G1 ?_;refine .lA J J J Y187.h J Sz187 Z4 (by(simp[hcl];done)) ?_;refine .lA J J J Y187.h J Sz187 Z1 (by(simp[lR1];done)) ?_;refine .cV J J J J Body157 (ckey) tV (.cV J J J J Body181 (cch) (fun w h=>bytes_ext h J hW) (.cV J J J J Body195 (cma) tV (.alloc (cs:=(Aa (List.replicate 32 0))) J A8 J ?_)));intro n12 hn12 hf12;refine .sA J J J J zE Sz187 (by(simp[lS];done)) Z0 sP zU ?_;refine G4 ?_;refine .alloc (cs:=(Aa (List.replicate 64 0))) J Zr35 J ?_;intro n13 hn13 hf13;refine G3 ?_;refine .draw (oPq [0,1,402]) Aq zK (G2 ?_);refine .copyP (Aa (pb Q)) 32 J J J J J Y33.h Sz5 (fun w h=>SeesP.of (An h Z2)) (fun e=>by cases e) (by rw[Aa,La0];exact(Cp Q)) J (by rw[Aa,←Lbe,La5 (Ld4 (Cp Q))]) (A0 _) Z0 sP (by exact upd_first (Cp Q)) zU ?_;refine G3 ?_;refine .draw (oPq [0,1,402]) Aq zK (.sliceArrLo 32 J J J J J dE Y35.h Sz5 (G1 ?_));refine .copyP (Aa S3) 32 J J J J J Y33.h Sz5 (fun w h=>SeesP.of (An h Z1)) (fun e=>by cases e) (by rw[Aa,La0];exact lS) J (by rw[Aa,←Lbe,La5 (Ld4 lS)]) (A0 _) Z0 (by(simp;omega)) (by exact upd_last (Cp Q) lS) zU ?_;refine G4 ?_;refine .lA J J J Y35.h J Sz35 Z0 (by(simp[Cp,lS];done)) ?_;refine .sA J J J J zE Sz35 (by(simp[Cp,lS];done)) mR sP (by(repeat(first|exact upd0|apply Upd.tail))) ?_;refine G2 ?_;refine G2 ?_;refine⟨_,[],Aw J J Y35.h J Sz35 mR (by simp[Cp,lS]),sP,sP,?_,rfl⟩;rfl
theorem r5_Read_none(b:List UInt8)(hb:b.length=32)(h:rdP b=none):Mv 177 [agg (Aa b)] (fun _=>True) (.tuple #[agg Point.zero.cells,i64 4]):=by
  have:=r5_Read b hb;rwa[rdV_none h]at this
theorem r5_Read_some(b:List UInt8)(P:Pt Fp)(hb:b.length=32)(h:rdP b=some P):Mv 177 [agg (Aa b)] (fun _=>True) (.tuple #[agg (ptc P).cells,i64 0]):=by
  have:=r5_Read b hb;rwa[rdV_some h]at this
theorem r6_Good_kr(k:List UInt8)(hk:k.length=32)(sb:Sl)(bb:List UInt8)(hbn:bb.length≤80000)(sg:List UInt8)(hsg:sg.length=64)(h1:rdP k=none)(h2:rdP (sg.take 32)=none):Mv 146 [agg (Aa k),sb.v,agg (Aa sg)] (fun W=>BytesAt W sb bb) (.bool false):=by
 intro W hW;have hd32:(sg.drop 32).length=32:=by rw[Lb6,hsg]
 have ht32:(sg.take 32).length=32:=by rw[Lac,hsg];rfl
 refine Ad func146 J 51 ntmps146 J (.sr (.boxA J J ?_));intro n3 hn3 hf3;refine .boxA J J ?_;intro n5 hn5 hf5;refine .a J J J (.nsr (.alloc (cs:=(Aa (List.replicate 32 0))) J Zr28 J ?_));intro n7 hn7 hf7;refine .nsr (.alloc (cs:=(Aa (List.replicate 32 0))) J A8 J ?_);intro n8 hn8 hf8;refine .na (.seq (.draw (oPq [0,1,402]) Aq zK (.sliceArr J J J Y28.h Sz5 (.sliceArrHi 32 J J J J J dE dE Y35.h Sz5 (.copyP (Aa (sg.take 32)) 32 J J J J J Y33.h Sz5 (fun w h=>sees_take (An h Z2)) (fun e=>by cases e) (by rw[Aa,La0];exact ht32) J (by rw[Aa,←Lbe,La5 (Ld4 ht32)]) (A0 _) Z1 sP (by exact upd_all ht32) zV ?_)))));refine .na (.seq (.draw (oPq [0,1,402]) Aq zK (.sliceArr J J J Y187.h Sz5 (.sliceArrLo 32 J J J J J dE Y35.h Sz5 (.copyP (Aa (sg.drop 32)) 32 J J J J J Y33.h Sz5 (fun w h=>sees_drop (An h Z2)) (fun e=>by cases e) (by rw[Aa,La0];exact hd32) J (by rw[Aa,←Lbe,La5 (Ld4 hd32)]) (A0 _) Z0 sP (by exact upd_all hd32) zU ?_)))));refine .nsr (.lA J J J Y29.h J Sz29 Z3 (by(simp[hk];done)) ?_);refine .cV J J J J Body177 (r5_Read_none k hk h1) tV (.m J J J (.eX J J J J (.eX J J J J (.alloc (cs:=Point.zero.cells) J Point.zr J ?_))));intro n9 hn9 hf9;refine .sA J J J J (Point.isCell zZ) Sz190 (Point.length zZ) Z0 (Point.length zZ) zU ?_;refine .a J J J (.nsr (.lA J J J Y28.h J Sz28 Z2 (by(simp[hsg];done)) ?_));refine .cV J J J J Body177 (r5_Read_none (sg.take 32) ht32 h2) tV (.m J J J (.eX J J J J (.eX J J J J (.alloc (cs:=Point.zero.cells) J Point.zr J ?_))));intro n11 hn11 hf11;refine .sA J J J J (Point.isCell zZ) Sz190 (Point.length zZ) Z0 (Point.length zZ) zU ?_;refine .a J J J (.na (.seq (.sr (.m J J J (.nei J J J J (show(!decide _)=true from congrArg not (decide_eq_false dE)) (.m J J J (.skp J J (.skp J J (.pick J J J J J J (.m J J J (.skp J J (.skp J J (.skp J J (.pick J J J J J J (.na (.cond_t J J (.sr (.a J J J (.na ?_)))))))))))))))))));refine .ret (at_r (C6 ?_));refine⟨_,[],Af J J,sP,sP,?_,rfl⟩;rfl
theorem r6_Good_k(k:List UInt8)(hk:k.length=32)(sb:Sl)(bb:List UInt8)(hbn:bb.length≤80000)(sg:List UInt8)(hsg:sg.length=64)(R:Pt Fp)(h1:rdP k=none)(h2:rdP (sg.take 32)=some R):Mv 146 [agg (Aa k),sb.v,agg (Aa sg)] (fun W=>BytesAt W sb bb) (.bool false):=by
 intro W hW;have hd32:(sg.drop 32).length=32:=by rw[Lb6,hsg]
 have ht32:(sg.take 32).length=32:=by rw[Lac,hsg];rfl
 refine Ad func146 J 51 ntmps146 J (.sr (.boxA J J ?_));intro n3 hn3 hf3;refine .boxA J J ?_;intro n5 hn5 hf5;refine .a J J J (.nsr (.alloc (cs:=(Aa (List.replicate 32 0))) J Zr28 J ?_));intro n7 hn7 hf7;refine .nsr (.alloc (cs:=(Aa (List.replicate 32 0))) J A8 J ?_);intro n8 hn8 hf8;refine .na (.seq (.draw (oPq [0,1,402]) Aq zK (.sliceArr J J J Y28.h Sz5 (.sliceArrHi 32 J J J J J dE dE Y35.h Sz5 (.copyP (Aa (sg.take 32)) 32 J J J J J Y33.h Sz5 (fun w h=>sees_take (An h Z2)) (fun e=>by cases e) (by rw[Aa,La0];exact ht32) J (by rw[Aa,←Lbe,La5 (Ld4 ht32)]) (A0 _) Z1 sP (by exact upd_all ht32) zV ?_)))));refine .na (.seq (.draw (oPq [0,1,402]) Aq zK (.sliceArr J J J Y187.h Sz5 (.sliceArrLo 32 J J J J J dE Y35.h Sz5 (.copyP (Aa (sg.drop 32)) 32 J J J J J Y33.h Sz5 (fun w h=>sees_drop (An h Z2)) (fun e=>by cases e) (by rw[Aa,La0];exact hd32) J (by rw[Aa,←Lbe,La5 (Ld4 hd32)]) (A0 _) Z0 sP (by exact upd_all hd32) zU ?_)))));refine .nsr (.lA J J J Y29.h J Sz29 Z3 (by(simp[hk];done)) ?_);refine .cV J J J J Body177 (r5_Read_none k hk h1) tV (.m J J J (.eX J J J J (.eX J J J J (.alloc (cs:=Point.zero.cells) J Point.zr J ?_))));intro n9 hn9 hf9;refine .sA J J J J (Point.isCell zZ) Sz190 (Point.length zZ) Z0 (Point.length zZ) zU ?_;refine .a J J J (.nsr (.lA J J J Y28.h J Sz28 Z2 (by(simp[hsg];done)) ?_));refine .cV J J J J Body177 (r5_Read_some (sg.take 32) R ht32 h2) tV (.m J J J (.eX J J J J (.eX J J J J (.alloc (cs:=Point.zero.cells) J Point.zr J ?_))));intro n11 hn11 hf11;refine .sA J J J J (Point.isCell zP) Sz190 (Point.length zP) Z0 (Point.length zZ) zU ?_;refine .a J J J (.na (.seq (.sr (.m J J J (.nei J J J J (show(!decide _)=true from congrArg not (decide_eq_false dE)) (.m J J J (.skp J J (.skp J J (.pick J J J J J J (.m J J J (.skp J J (.skp J J (.skp J J (.pick J J J J J J (.na (.cond_t J J (.sr (.a J J J (.na ?_)))))))))))))))))));refine .ret (at_r (C6 ?_));refine⟨_,[],Af J J,sP,sP,?_,rfl⟩;rfl
theorem r6_Good_r(k:List UInt8)(hk:k.length=32)(sb:Sl)(bb:List UInt8)(hbn:bb.length≤80000)(sg:List UInt8)(hsg:sg.length=64)(A:Pt Fp)(h1:rdP k=some A)(h2:rdP (sg.take 32)=none):Mv 146 [agg (Aa k),sb.v,agg (Aa sg)] (fun W=>BytesAt W sb bb) (.bool false):=by
 intro W hW;have hd32:(sg.drop 32).length=32:=by rw[Lb6,hsg]
 have ht32:(sg.take 32).length=32:=by rw[Lac,hsg];rfl
 refine Ad func146 J 51 ntmps146 J (.sr (.boxA J J ?_));intro n3 hn3 hf3;refine .boxA J J ?_;intro n5 hn5 hf5;refine .a J J J (.nsr (.alloc (cs:=(Aa (List.replicate 32 0))) J Zr28 J ?_));intro n7 hn7 hf7;refine .nsr (.alloc (cs:=(Aa (List.replicate 32 0))) J A8 J ?_);intro n8 hn8 hf8;refine .na (.seq (.draw (oPq [0,1,402]) Aq zK (.sliceArr J J J Y28.h Sz5 (.sliceArrHi 32 J J J J J dE dE Y35.h Sz5 (.copyP (Aa (sg.take 32)) 32 J J J J J Y33.h Sz5 (fun w h=>sees_take (An h Z2)) (fun e=>by cases e) (by rw[Aa,La0];exact ht32) J (by rw[Aa,←Lbe,La5 (Ld4 ht32)]) (A0 _) Z1 sP (by exact upd_all ht32) zV ?_)))));refine .na (.seq (.draw (oPq [0,1,402]) Aq zK (.sliceArr J J J Y187.h Sz5 (.sliceArrLo 32 J J J J J dE Y35.h Sz5 (.copyP (Aa (sg.drop 32)) 32 J J J J J Y33.h Sz5 (fun w h=>sees_drop (An h Z2)) (fun e=>by cases e) (by rw[Aa,La0];exact hd32) J (by rw[Aa,←Lbe,La5 (Ld4 hd32)]) (A0 _) Z0 sP (by exact upd_all hd32) zU ?_)))));refine .nsr (.lA J J J Y29.h J Sz29 Z3 (by(simp[hk];done)) ?_);refine .cV J J J J Body177 (r5_Read_some k A hk h1) tV (.m J J J (.eX J J J J (.eX J J J J (.alloc (cs:=Point.zero.cells) J Point.zr J ?_))));intro n9 hn9 hf9;refine .sA J J J J (Point.isCell zP) Sz190 (Point.length zP) Z0 (Point.length zZ) zU ?_;refine .a J J J (.nsr (.lA J J J Y28.h J Sz28 Z2 (by(simp[hsg];done)) ?_));refine .cV J J J J Body177 (r5_Read_none (sg.take 32) ht32 h2) tV (.m J J J (.eX J J J J (.eX J J J J (.alloc (cs:=Point.zero.cells) J Point.zr J ?_))));intro n11 hn11 hf11;refine .sA J J J J (Point.isCell zZ) Sz190 (Point.length zZ) Z0 (Point.length zZ) zU ?_;refine .a J J J (.na (.seq (.sr (.m J J J (.nei J J J J (show(!decide _)=false from congrArg not (decide_eq_true (rfl))) (.m J J J (.m J J J (.nei J J J J (show(!decide _)=true from congrArg not (decide_eq_false dE)) (.pick J J J J J J (.m J J J (.skp J J (.skp J J (.skp J J (.pick J J J J J J (.na (.cond_t J J (.sr (.a J J J (.na ?_)))))))))))))))))));refine .ret (at_r (C6 ?_));refine⟨_,[],Af J J,sP,sP,?_,rfl⟩;rfl
theorem r6_Good_c(k:List UInt8)(hk:k.length=32)(sb:Sl)(bb:List UInt8)(hbn:bb.length≤80000)(sg:List UInt8)(hsg:sg.length=64)(A R:Pt Fp)(h1:rdP k=some A)(h2:rdP (sg.take 32)=some R)(hc:¬le (sg.drop 32)<L):Mv 146 [agg (Aa k),sb.v,agg (Aa sg)] (fun W=>BytesAt W sb bb) (.bool false):=by
 intro W hW;have hd32:(sg.drop 32).length=32:=by rw[Lb6,hsg]
 have ht32:(sg.take 32).length=32:=by rw[Lac,hsg];rfl
 have hcan:=ref_canon (sg.drop 32) hd32;rw[decide_eq_false hc]at hcan;refine Ad func146 J 51 ntmps146 J (.sr (.boxA J J ?_));intro n3 hn3 hf3;refine .boxA J J ?_;intro n5 hn5 hf5;refine .a J J J (.nsr (.alloc (cs:=(Aa (List.replicate 32 0))) J Zr28 J ?_));intro n7 hn7 hf7;refine .nsr (.alloc (cs:=(Aa (List.replicate 32 0))) J A8 J ?_);intro n8 hn8 hf8;refine .na (.seq (.draw (oPq [0,1,402]) Aq zK (.sliceArr J J J Y28.h Sz5 (.sliceArrHi 32 J J J J J dE dE Y35.h Sz5 (.copyP (Aa (sg.take 32)) 32 J J J J J Y33.h Sz5 (fun w h=>sees_take (An h Z2)) (fun e=>by cases e) (by rw[Aa,La0];exact ht32) J (by rw[Aa,←Lbe,La5 (Ld4 ht32)]) (A0 _) Z1 sP (by exact upd_all ht32) zV ?_)))));refine .na (.seq (.draw (oPq [0,1,402]) Aq zK (.sliceArr J J J Y187.h Sz5 (.sliceArrLo 32 J J J J J dE Y35.h Sz5 (.copyP (Aa (sg.drop 32)) 32 J J J J J Y33.h Sz5 (fun w h=>sees_drop (An h Z2)) (fun e=>by cases e) (by rw[Aa,La0];exact hd32) J (by rw[Aa,←Lbe,La5 (Ld4 hd32)]) (A0 _) Z0 sP (by exact upd_all hd32) zU ?_)))));refine .nsr (.lA J J J Y29.h J Sz29 Z3 (by(simp[hk];done)) ?_);refine .cV J J J J Body177 (r5_Read_some k A hk h1) tV (.m J J J (.eX J J J J (.eX J J J J (.alloc (cs:=Point.zero.cells) J Point.zr J ?_))));intro n9 hn9 hf9;refine .sA J J J J (Point.isCell zP) Sz190 (Point.length zP) Z0 (Point.length zZ) zU ?_;refine .a J J J (.nsr (.lA J J J Y28.h J Sz28 Z2 (by(simp[hsg];done)) ?_));refine .cV J J J J Body177 (r5_Read_some (sg.take 32) R ht32 h2) tV (.m J J J (.eX J J J J (.eX J J J J (.alloc (cs:=Point.zero.cells) J Point.zr J ?_))));intro n11 hn11 hf11;refine .sA J J J J (Point.isCell zP) Sz190 (Point.length zP) Z0 (Point.length zZ) zU ?_;refine .a J J J (.na (.seq (.sr (.m J J J (.nei J J J J (show(!decide _)=false from congrArg not (decide_eq_true (rfl))) (.m J J J (.m J J J (.nei J J J J (show(!decide _)=false from congrArg not (decide_eq_true (rfl))) (.pick J J J J J J (.m J J J (.lA J J J Y187.h J Sz187 Z2 (by(simp[hsg];done)) ?_)))))))))));refine .cV J J J J Body178 (hcan) tV (.not J J J (.pick J J J J J J (.na (.cond_t J J (.sr (.a J J J (.na ?_)))))));refine .ret (at_r (C6 ?_));refine⟨_,[],Af J J,sP,sP,?_,rfl⟩;rfl
theorem r6_Good_ok(k:List UInt8)(hk:k.length=32)(sb:Sl)(bb:List UInt8)(hbn:bb.length≤80000)(sg:List UInt8)(hsg:sg.length=64)(A R:Pt Fp)(h1:rdP k=some A)(h2:rdP (sg.take 32)=some R)(hc:le (sg.drop 32)<L)(s r:List UInt8)(hs:Hid (sha512 (sg.take 32++(k++bb))=s))(hr:Hid (sgR s=r))(hrl:r.length=32):Mv 146 [agg (Aa k),sb.v,agg (Aa sg)] (fun W=>BytesAt W sb bb) (.bool (goodB k bb sg)):=by
 intro W hW;have hd32:(sg.drop 32).length=32:=by rw[Lb6,hsg]
 have ht32:(sg.take 32).length=32:=by rw[Lac,hsg];rfl
 have hcan:=ref_canon (sg.drop 32) hd32;rw[decide_eq_true hc]at hcan;have hA:=rdP_on h1;obtain⟨Q,hQ⟩:∃Q,cv.lin (le (sg.drop 32)) (le (sgR (sha512 (sg.take 32++(k++bb))))) bP (neg A)=Q:=⟨_,rfl⟩;have hmul:=r5_Mul2 (sg.drop 32) r bP (neg A) hd32 hrl bP_on (cv.on_neg hA);rw[show cv.lin (le (sg.drop 32)) (le r) bP (neg A)=Q from by rw[←hr.out,←hs.out];exact hQ]at hmul;have hch:=r6_challenge (sg.take 32) k ht32 hk sb bb hbn s hs;rw[hr.out]at hch;refine Ad func146 J 51 ntmps146 J (.sr (.boxA J J ?_));intro n3 hn3 hf3;refine .boxA J J ?_;intro n5 hn5 hf5;refine .a J J J (.nsr (.alloc (cs:=(Aa (List.replicate 32 0))) J Zr28 J ?_));intro n7 hn7 hf7;refine .nsr (.alloc (cs:=(Aa (List.replicate 32 0))) J A8 J ?_);intro n8 hn8 hf8;refine .na (.seq (.draw (oPq [0,1,402]) Aq zK (.sliceArr J J J Y28.h Sz5 (.sliceArrHi 32 J J J J J dE dE Y35.h Sz5 (.copyP (Aa (sg.take 32)) 32 J J J J J Y33.h Sz5 (fun w h=>sees_take (An h Z2)) (fun e=>by cases e) (by rw[Aa,La0];exact ht32) J (by rw[Aa,←Lbe,La5 (Ld4 ht32)]) (A0 _) Z1 sP (by exact upd_all ht32) zV ?_)))));refine .na (.seq (.draw (oPq [0,1,402]) Aq zK (.sliceArr J J J Y187.h Sz5 (.sliceArrLo 32 J J J J J dE Y35.h Sz5 (.copyP (Aa (sg.drop 32)) 32 J J J J J Y33.h Sz5 (fun w h=>sees_drop (An h Z2)) (fun e=>by cases e) (by rw[Aa,La0];exact hd32) J (by rw[Aa,←Lbe,La5 (Ld4 hd32)]) (A0 _) Z0 sP (by exact upd_all hd32) zU ?_)))));refine .nsr (.lA J J J Y29.h J Sz29 Z3 (by(simp[hk];done)) ?_);refine .cV J J J J Body177 (r5_Read_some k A hk h1) tV (.m J J J (.eX J J J J (.eX J J J J (.alloc (cs:=Point.zero.cells) J Point.zr J ?_))));intro n9 hn9 hf9;refine .sA J J J J (Point.isCell zP) Sz190 (Point.length zP) Z0 (Point.length zZ) zU ?_;refine .a J J J (.nsr (.lA J J J Y28.h J Sz28 Z2 (by(simp[hsg];done)) ?_));refine .cV J J J J Body177 (r5_Read_some (sg.take 32) R ht32 h2) tV (.m J J J (.eX J J J J (.eX J J J J (.alloc (cs:=Point.zero.cells) J Point.zr J ?_))));intro n11 hn11 hf11;refine .sA J J J J (Point.isCell zP) Sz190 (Point.length zP) Z0 (Point.length zZ) zU ?_;refine .a J J J (.na (.seq (.sr (.m J J J (.nei J J J J (show(!decide _)=false from congrArg not (decide_eq_true (rfl))) (.m J J J (.m J J J (.nei J J J J (show(!decide _)=false from congrArg not (decide_eq_true (rfl))) (.pick J J J J J J (.m J J J (.lA J J J Y187.h J Sz187 Z2 (by(simp[hsg];done)) ?_)))))))))));refine .cV J J J J Body178 (hcan) tV (.not J J J (.pick J J J J J J (.na (.cond_f J J (.skip (A7 (.seq (.draw (oPq [100,102,103,4,106,109,301,305,307,308,10,11]) Aq zK (.lA J J J Y187.h J Sz187 Z2 (by(simp[hsg];done)) ?_)))))))));refine .lA J J J Y28.h J Sz28 Z3 (by(simp[hsg];done)) ?_;refine .lA J J J Y29.h J Sz29 (by exact mem5) (by(simp[hk];done)) ?_;refine .m J J J (.lA J J J Y190.h J Sz190 Z1 (Point.length zP) ?_)
 refine .lA J J J Y190.h J Sz190 Z0 (Point.length zP) ?_;refine .cV J J J J Body180 (r5_Base) tV (.cV J J J J Body181 (hch) (fun w h=>bytes_ext h J hW) (.cV J J J J Body182 (r5_Neg A hA) tV (.cV J J J J Body179 (hmul) tV (.eql_rec J J J J Point.eg (fun w=>Point.eq_runC (ptc_ok _) (ptc_ok _) w) (good_dec hc h1 h2 hQ) (.a J J J (.na ?_))))));refine .ret (C6 ?_);refine⟨_,[],Af J J,sP,sP,?_,rfl⟩;rfl
theorem r6_Good(k:List UInt8)(hk:k.length=32)(sb:Sl)(bb:List UInt8)(hbn:bb.length≤80000)(sg:List UInt8)(hsg:sg.length=64):Mv 146 [agg (Aa k),sb.v,agg (Aa sg)] (fun W=>BytesAt W sb bb) (.bool (goodB k bb sg)):=by
  cases h1:rdP k with
  | none=>
    rw[good_no (fun e=>by obtain⟨_,⟨A,h⟩,_⟩:=e;rw[h1]at h;cases h)];cases h2:rdP (sg.take 32)with
    |none=>exact r6_Good_kr k hk sb bb hbn sg hsg h1 h2
    |some R=>exact r6_Good_k k hk sb bb hbn sg hsg R h1 h2
  | some A=>
    cases h2:rdP (sg.take 32)with
    | none=>
      rw[good_no (fun e=>by obtain⟨_,_,⟨R,h⟩⟩:=e;rw[h2]at h;cases h)];exact r6_Good_r k hk sb bb hbn sg hsg A h1 h2
    | some R=>
      by_cases hc:le (sg.drop 32)<L
      ·exact r6_Good_ok k hk sb bb hbn sg hsg A R h1 h2 hc _ _ ⟨rfl⟩ ⟨rfl⟩ (sgR_length _)
      · rw[good_no (fun e=>hc e.1)]
        exact r6_Good_c k hk sb bb hbn sg hsg A R h1 h2 hc
def btag:List UInt8:=[98,108,111,99,107]
def btxt(D:DB):List UInt8:=btag++D.body
def bsg(D:DB)(K G:List UInt8):DB:={ D with w:=K,sg:=G }
theorem DB.body_small(hd:D.ok)(h1:D.ls.length≤40)(h2:D.ds.length≤2000):(btxt D).length≤4005:=by
  have hz1:=C4 D.seq.toNat;have hz2:=C4 (UInt64.ofNat D.ls.length).toNat;have hz3:=C4 (UInt64.ofNat D.ds.length).toNat;have hfl:=Cu hd.ls (Lad D.ls.length);rw[Ldb]at hfl;simp only[btxt,btag,DB.body,La2,Bs,hd.w,hd.prev,hfl,Lay,Lew];omega
noncomputable def dgood(D:DB):Int:=if D.check=0 then(if goodB D.w (btxt D) D.sg=true then 0 else 9)else D.check
theorem cell_lt'{c o:Nat}(h:w.cell? ⟨c,o,none⟩=some v):c<w.heap.size:=by
  rcases Lb7 c w.heap.size with h1|h1
  ·exact h1
  ·simp[World.cell?,Lcm h1]at h
theorem acc_loose(cells:List Value)(E:TypeId)(n size:Nat)(hl:cells.length=n*size):Loose fun v out=>∃s:Sl,v=s.v∧Hw.Acc s out cells E n size:=fun l h=>by
  obtain⟨v,out,⟨q,c,h1,h2,h3⟩,h4⟩:=FreshRow.loose cells E n size l h;exact⟨v,out,⟨⟨some ⟨q,0,none⟩,n,c⟩,h1,by rw[h3];exact Acc.some h2 hl⟩,h4⟩
theorem lie_none{T:TypeId}(h:Lies [⟨n,[v],T,0⟩] W):False:=by
  obtain⟨full,fr,hb⟩:=h _ (La1.2 rfl);have h1:=hb.pre.length_le;have h2:=hb.size;simp at h1;simp only at h2;omega
structure SameB(B:Block)(D:DB):Prop where
  ok:B.ok
  w:B.fWriter=D.w
  seq:B.fSeq=D.seq
  prev:B.fPrev=D.prev
  sg:B.fSig=D.sg
  ln:B.fLinks.n=D.ls.length
  dn:B.fData.n=D.ds.length
theorem some_same(h:D.ok):SameB ⟨D.w,D.seq,D.prev,⟨none,D.ls.length,0⟩,⟨none,D.ds.length,0⟩,D.sg⟩ D:=⟨⟨h.w,h.prev,h.sg⟩,rfl,rfl,rfl,rfl,rfl,rfl⟩
def BlkR(e:Int)(D:DB)(v:Value)(out:List Blk):Prop:=∃B:Block,SameB B D∧v= .tuple #[agg B.cells,i64 e]∧∀W2,Lies out W2→BlockIs W2 B D
def BlkV(D:DB)(v:Value)(out:List Blk):Prop:=∃B:Block,SameB B D∧v=agg B.cells∧∀W2,Lies out W2→BlockIs W2 B D
theorem none_nodup{l:List Blk}(hl:(l.map (·.n)).Nodup)(hn:∀b∈l,b.n≠n)(v:Value):((([⟨n,[v],0,0⟩]:List Blk)++l).map (·.n)).Nodup:=by
  simp only[Lcb,Laq,Lb4];exact⟨fun h2=>by obtain⟨b,hb,e⟩:=La6.1 h2;exact hn b hb e,hl⟩
theorem BlkR.loose(e:Int)(D:DB)(hD:D.ok):Loose (BlkR e D):=fun l hl=>by
  obtain⟨n,_,hn⟩:=fresh_is 0 l;exact⟨_,[⟨n,[undef],0,0⟩],⟨_,some_same hD,rfl,fun W2 h=>(lie_none h).elim⟩,none_nodup hl hn _⟩
theorem BlkV.loose(D:DB)(hD:D.ok):Loose (BlkV D):=fun l hl=>by
  obtain⟨n,_,hn⟩:=fresh_is 0 l;exact⟨_,[⟨n,[undef],0,0⟩],⟨_,some_same hD,rfl,fun W2 h=>(lie_none h).elim⟩,none_nodup hl hn _⟩
theorem own_btxt{q c:Nat}(hs:SeesP W (some ⟨q,0,none⟩) (Aa (btxt D)))(hc:(btxt D).length≤c)(hn:(btxt D).length≤4005):BytesAt W ⟨some ⟨q,0,none⟩,(btxt D).length,c⟩ (btxt D):=own_bytes hs rfl hc (by unfold maxLen;omega)
theorem db_text(B:Block)(D:DB)(hB:B.ok)(h1:D.ls.length≤40)(h2:D.ds.length≤2000):Meets prog 121 [agg B.cells] [] (fun W=>BlockIs W B D) (fun v out=>FreshRow v out (Aa (btxt D)) 5 (btxt D).length 1):=by
 intro W hW;have hbs:=DB.body_small hW.dok h1 h2;have e1:=hW.ls.len;have e2:=hW.ds.len;have hbl:(btxt D).length=5+D.body.length:=by rw[btxt,La2];rfl
 refine Ad func121 J 8 ntmps121 J (G3 ?_);intro n1 hn1 hf1;refine G5 ?_;refine .mkRow (z:=u8 0) [u8 98,u8 108,u8 111,u8 99,u8 107] (Aa btag) J J J Y33.h Sz5 Zr5 J J (by intro v hv;simp only[Laj,Lbu,or_false]at hv;rcases hv with rfl|rfl|rfl|rfl|rfl<;>rfl) dE J ?_;intro q3;refine .constB J J J J Y33.h Y5.h Z0 ?_;refine G1 ?_;refine .call4 J J J J J Body165 (block_body B hB D.ls D.ds oM oM) (fun w h=>⟨Cw h J hW.ls,bytes_ext h J hW.ds⟩) ?_;rintro v6 out6 ⟨N6,hN6,hN62,q6,c6,rfl,hc6,rfl⟩;rw[hW.body]at hN6 ⊢;subst hN6;refine .appendSl (z:=u8 0) (by':=1) (Aa D.body) J J J J J Y33.h Y33.h Sz5 Zr5 (by unfold By;kernel_rfl) J (fun w h=>SeesP.of (An (cs:=Aa D.body) h Z0)) (fun e=>by cases e) (A0 _) rM J J dE oM oM (by rw[Aa,La0,Lba]) ?_;intro q7 c7 hq7;rw[←bytesV_app];refine G3 ?_;refine G2 ?_;refine As (out:=(⟨q7,Aa (btag++D.body),5,c7*1⟩::[])) (Af J J) (Ab rM Ae) ?_;exact⟨q7,c7,(by(rw[hbl];done)),(by rw[hbl];exact hq7),rfl⟩
theorem cl_digs_nil  :Mv 53 [.slice none 0 0] (fun _=>True) (.slice none 0 0):=by
 intro W hW;refine Ad func53 J 8 ntmps53 J (G9 ?_);refine .eqNilS (r:=true) J J J J Y32.h J (G2 ?_);refine .cond_t J (rfl) (G5 ?_);refine G3 ?_;refine As (out:=[]) (Af J J) Ae ?_;exact⟨rfl,rfl⟩
theorem cl_digs_some(a:Addr)(n c:Nat)(ls:List (List UInt8))(hl:ls.length=n)(hr:∀l∈ls,l.length=32)(hn:n≤90000):Meets prog 53 [.slice (some a) n c] [] (fun W=>SeesP W (some a) (Av ls)) (fun v out=>FreshRow v out (Av ls) 31 n 32):=by
 intro W hW;refine Ad func53 J 8 ntmps53 J (G9 ?_);refine .eqNilS (r:=false) J J J J Y32.h J (G2 ?_);refine .cond_f J (rfl) (G4 ?_);refine .mkRow (z:=agg (Aa (List.replicate 32 0))) [] [] rfl J J Y32.h Sz31 Cj J J (by intro v hv;cases hv) dE J ?_;intro q0;refine G1 ?_;refine .appendSl (z:=agg (Aa (List.replicate 32 0))) (by':=32) (Av ls) J J J J J Y32.h Y32.h Sz31 Cj (by unfold By;kernel_rfl) J (fun w h=>A5 h J hW) (fun e=>by cases e) (flatB_cell ls) A9 J J oM oM oM (by rw[A2 hr,hl]) ?_;intro q1 c1 hq1;refine G3 ?_;refine G2 ?_;refine⟨_,[⟨q1,[]++Av ls,31,c1*32⟩],Af J J,(by intro b hb;rw[La1.1 hb];exact Cb),nodup1,⟨q1,c1,by rw[Lb2],by omega,rfl⟩⟩
theorem cl_byte_nil  :Mv 97 [.slice none 0 0] (fun _=>True) (.slice none 0 0):=by
 intro W hW;refine Ad func97 J 8 ntmps97 J (G9 ?_);refine .eqNilS (r:=true) J J J J Y33.h J (G2 ?_);refine .cond_t J (rfl) (G5 ?_);refine G3 ?_;refine As (out:=[]) (Af J J) Ae ?_;exact⟨rfl,rfl⟩
theorem cl_digs(s:Sl)(ls:List (List UInt8))(hn:s.n≤90000):Meets prog 53 [s.v] [] (fun W=>RowsAt W s 32 ls) (fun v out=>∃s':Sl,v=s'.v∧Hw.Acc s' out (Av ls) 31 s.n 32):=fun W hW=>by
  obtain⟨p,n,c⟩:=s;cases p with
  | none=>
    obtain rfl:c=0:=hW.nil rfl;obtain rfl:n=0:=Nat.le_zero.1 hW.cap;obtain rfl:ls=[]:=Lg8.1 hW.len;exact(cl_digs_nil W trivial).mono fun e W' ⟨v,out,h1,⟨h2,h3⟩,h4⟩=>⟨v,out,h1,⟨Sl.nil,h2,by subst h3;exact Acc.none⟩,h4⟩
  |some a=>exact(cl_digs_some a n c ls hW.len hW.row hn W hW.see).mono fun e W' ⟨v,out,h1,⟨q,c',h2,h3,h5⟩,h4⟩=>⟨v,out,h1,⟨⟨some ⟨q,0,none⟩,n,c'⟩,h2,by rw[h5];exact Acc.some h3 (by rw[A2 hW.row,hW.len])⟩,h4⟩
theorem cl_byte(s:Sl)(l:List UInt8)(hn:s.n≤90000):Meets prog 97 [s.v] [] (fun W=>BytesAt W s l) (fun v out=>∃s':Sl,v=s'.v∧Hw.Acc s' out (Aa l) 5 s.n 1):=fun W hW=>by
  obtain⟨p,n,c⟩:=s;cases p with
  | none=>
    obtain rfl:c=0:=hW.nil rfl;obtain rfl:n=0:=Nat.le_zero.1 hW.cap;obtain rfl:l=[]:=Lg8.1 hW.len;exact(cl_byte_nil W trivial).mono fun e W' ⟨v,out,h1,⟨h2,h3⟩,h4⟩=>⟨v,out,h1,⟨Sl.nil,h2,by subst h3;exact Acc.none⟩,h4⟩
  |some a=>exact(clone_bytes a n c l hW.len hn W hW.see).mono fun e W' ⟨v,out,h1,⟨q,c',h2,h3,h5⟩,h4⟩=>⟨v,out,h1,⟨⟨some ⟨q,0,none⟩,n,c'⟩,h2,by rw[h5];exact Acc.some h3 (by rw[Aa,La0];exact hW.len.trans (Lba _).symm)⟩,h4⟩
theorem db_good(B:Block)(D:DB)(hB:B.ok):Mv 87 [agg B.cells] (fun W=>BlockIs W B D) (i64 (dgood D)):=by
 intro W hW;refine Ad func87 J 17 ntmps87 J (G3 ?_);intro n1 hn1 hf1;refine G7 ?_;refine .cV J J J J Body119 (db_check B D) (fun w h=>hW.ext h J) (G9 ?_);refine .condNP J (fun hc0=>?_) (fun hc0=>?_)
 ·
  have hq0:¬D.check=0:=by omega
  refine G6 ?_;refine G3 ?_;refine⟨_,[],Af J J,sP,sP,?_,rfl⟩
  (unfold dgood;rw[if_neg hq0];done)
 have hq0:D.check=0:=by omega
 obtain⟨h1,h2⟩:=D.head_small hq0;have hvn:(btxt D).length≤4005:=DB.body_small hW.dok oM oM;refine G4 ?_;refine .draw (oPq [0,101,102,4,105,303,306,7]) Aq zK (G1 ?_);refine .lN (Aa _) J J J Y29.h J Sz29 Z0 (Block.row_fWriter zA) (Block.rl_fWriter zA) ?_;refine G2 ?_;refine .lN (Aa _) J J J Y35.h J Sz35 Z0 (Block.row_fSig zA) (Block.rl_fSig zA) ?_;refine .call J J J J Body121 (db_text B D hB oM oM) (FreshRow.loose _ _ _ _) (fun w h=>hW.ext h J) ?_;rintro v12 out12 ⟨q12,c12,rfl,hc12,rfl⟩;refine .cV J J J J Body120 (sign_Good B.fWriter hB.l_fWriter ⟨some ⟨q12,0,none⟩,_,c12⟩ (btxt D) oM B.fSig hB.l_fSig) (fun w h=>own_btxt (SeesP.of (An h Z0)) hc12 hvn) ?_;refine G3 ?_;refine .cond J (fun hc1=>?_) (fun hc1=>?_)
 ·
  refine G5 ?_;refine G3 ?_;refine⟨_,[],Af J J,sP,sP,?_,rfl⟩
  (unfold dgood;rw[if_pos hq0,←hW.w,←hW.sg,if_neg (by intro e;rw[e]at hc1;cases hc1)];done)
 refine G7 ?_;refine G2 ?_;refine⟨_,[],Af J J,sP,sP,?_,rfl⟩
 (unfold dgood;rw[if_pos hq0,←hW.w,←hW.sg,if_pos (by simpa using hc1)];done)
theorem db_own(B:Block)(D:DB)(hn:D.ls.length≤500000)(hd:D.ds.length≤500000):Meets prog 51 [agg B.cells] [] (fun W=>BlockIs W B D) (BlkV D):=fun W hW=>by
  have e1:=hW.ls.len;have e2:=hW.ds.len;refine(kit_own_block B hW.ok D.ls D.ds oM oM W ⟨hW.ls,hW.ds⟩).mono fun e W' ⟨v,out,h1,⟨q1,c1,q2,c2,h2,h3,h4,h5⟩,h6⟩=>⟨v,out,h1,⟨ownB B q1 c1 q2 c2,⟨ownB_ok hW.ok q1 c1 q2 c2,hW.w,hW.seq,hW.prev,hW.sg,e1.symm,e2.symm⟩,h2,fun W2 hl=>?_⟩,h6⟩;subst h5;have hf:(Av D.ls).length=B.fLinks.n*32:=by rw[A2 hW.ls.row,e1]
  have hb:(Aa D.ds).length=B.fData.n*1:=by rw[Aa,La0,e2,Lba]
  refine⟨ownB_ok hW.ok q1 c1 q2 c2,hW.w,hW.seq,hW.prev,?_,?_,hW.sg⟩
  ·exact Ci (Acc.some (E:=31) h3 hf) (hl.sub (fun b hb=>by rw[La1.1 hb];exact mem1)) hW.ls.row e1 oM
  ·exact acc_bytes (Acc.some (E:=5) h4 hb) (hl.sub (fun b hb=>by rw[La1.1 hb];exact Cb)) e2 oM
end Go.Proofs.YtgjnomgkddbhcaaGreat
namespace Go.Proofs.YtgjnomgkddbhcaaGreat
open Go Hw _root_.Go.Proofs.Tryz
variable{k:Nat}{x:UInt64}
theorem room_go(hk:1≤k)(h9:k<9)(h:¬((Ax x (7*k)).toNat:Int)=0):k+1≤szN x.toNat:=by
  rcases Lb7 k (szN x.toNat)with h1|h1
  ·exact h1
  ·exact absurd (show((Ax x (7*k)).toNat:Int)=0 by rw[Bf,Lbk ((szN_le hk oM).1 h1)];rfl) h
theorem room_end(hk:1≤k)(h9:k<9)(h:((Ax x (7*k)).toNat:Int)=0):szN x.toNat≤k:=by
  refine(szN_le hk oM).2 ?_;rw[Bf]at h;rcases Nat.div_eq_zero_iff.1 (show x.toNat/2^(7*k)=0 by omega)with h1|h1
  ·exact absurd h1 (Nat.ne_of_gt (Lc5 dE))
  ·exact h1
theorem head_or:∀r,r<9→1≤r→∀y,y<2^(8-r)→UInt8.ofNat (256-2^(9-r))+UInt8.ofNat y=shl8 255 (9-r)|||UInt8.ofNat y:=by decide
theorem head_9:shl8 255 0=255:=by decide
theorem headB_9(h:szN x.toNat=9):headB x=255:=by
  rw[headB,h,head_9];have:∀y:UInt8,255|||y=255:=by
    intro y;have hh:∀n,n<256→(255:UInt8)|||UInt8.ofNat n=255:=by decide
    have:=hh y.toNat y.toNat_lt;rwa[Lfi]at this
  exact this _
theorem headB_lt(h:szN x.toNat<9):((256:UInt64)-A6 1 (9-szN x.toNat)).toUInt8+(Ax x (8*(szN x.toNat-1))).toUInt8=headB x:=by
  have hp:=C4 x.toNat;have hy:(Ax x (8*(szN x.toNat-1))).toNat<2^(8-szN x.toNat):=by
    rw[Bf,Ldt (Lc5 dE),←Lbm,show 8-szN x.toNat+8*(szN x.toNat-1)=7*szN x.toNat by omega];exact szN_hi oM
  have h1:((256:UInt64)-A6 1 (9-szN x.toNat)).toUInt8=UInt8.ofNat (256-2^(9-szN x.toNat)):=by
    have:∀r,r<9→1≤r→((256:UInt64)-A6 1 (9-r)).toUInt8=UInt8.ofNat (256-2^(9-r)):=by decide
    exact this _ h hp.1
  have h2:(Ax x (8*(szN x.toNat-1))).toUInt8=UInt8.ofNat (Ax x (8*(szN x.toNat-1))).toNat:=rfl;rw[h1,headB,h2];exact head_or _ h hp.1 _ hy
theorem r1_room(x:UInt64):Mv 186 [u64 x] (fun _=>True) (i64 ((szN x.toNat:Nat):Int)):=by
 intro W hW;have hz:=C4 x.toNat;refine Ad func186 J 17 ntmps186 J (G12 ?_);refine .loop (ι:=Nat) (fun k=>⟨[(0,u64 x),(3,i64 (k:Int))],[]⟩) (fun k=>1≤k∧k≤szN x.toNat) (fun k=>9-k) (1) ?_ ?_ ?_
 ·exact⟨Lad _,hz.1⟩
 ·exact Ah wN wh0 nD
 rintro k ⟨hk1,hk2⟩;refine G4 ?_;refine two (fun r hr k=>Tr.lss J J J J hr k) (fun hs2_10=>?_) (fun hs2_10=>?_)
 ·
  have hs2_1:=of_decide_eq_true hs2_10;refine G3 ?_;refine .mul_i64 J J J J oM (G1 ?_);refine .shr_u64 J J J J (7*k) (by rw[show(7:Int)*(k:Int)=((7*k:Nat):Int) by omega,wordOf_id _ oM]) oM ?_;refine G4 ?_;refine .condNP J (fun hc0=>?_) (fun hc0=>?_)
  ·
   refine G10 ?_;exact⟨k+1,⟨by omega,room_go hk1 oM zA⟩,by omega,Ah (wk1 rfl (wk1 (by rw[Lcn];rfl) wk0)) wh0 nD⟩
  refine G11 ?_;refine G2 ?_;refine⟨_,[],Af J J,sP,sP,?_,rfl⟩
  (have:=room_end hk1 oM zA;congr 1;omega)
 have hs2_1:=of_decide_eq_false hs2_10;refine G10 ?_;refine .cond_f J J (G11 ?_);refine G2 ?_;refine⟨_,[],Af J J,sP,sP,?_,rfl⟩
 (congr 1;omega)
theorem r1_Number(p0:Option Addr)(n c:Nat)(l:List UInt8)(x:UInt64)(hl:l.length=n)(hp0:p0=none→n=0)(hn:n≤90000):Meets prog 152 [.slice p0 n c,u64 x] [] (fun W=>SeesP W p0 (Aa l)) (fun v out=>FreshRow v out (Aa (l++numB x)) 5 (n+szN x.toNat) 1):=by
 intro W hW;have hz:=C4 x.toNat;refine Ad func152 J 51 ntmps152 J (G7 ?_);refine .mkRow2 (z:=u8 0) [] [] rfl J Y33.h Sz5 Zr5 J J (by intro v hv;cases hv) dE J ?_;intro q8;refine G1 ?_;refine .appendSl (z:=u8 0) (by':=1) (Aa l) J J J J J Y33.h Y33.h Sz5 Zr5 (by unfold By;kernel_rfl) J (fun w h=>A5 h J hW) hp0 (by simp[Aa,isCell,u8]) A9 J J oM oM oM (by simp[Aa,hl]) ?_;intro q10 c10 hq10;rw[Lb2 n]at hq10 ⊢;refine G6 ?_;refine .cV J J J J Body186 (r1_room _) tV (G3 ?_);refine .join (ι:=Nat×Nat) (fun p=>⟨[(1,u64 x),(5, .slice (some ⟨p.1,0,none⟩) (n+1) p.2),(6,i64 ((szN x.toNat:Nat):Int))],[⟨p.1,Aa (l++[headB x]),5,p.2*1⟩]⟩) (fun p=>n+1≤p.2) ?_ ?_
 ·
  refine G6 ?_;refine .condP J (fun hc0=>?_) (fun hc0=>?_)
  ·
   refine G2 ?_;refine .mkRow (z:=u8 0) [u8 (255)] (Aa [255]) J J J Y33.h Sz5 Zr5 J J (by intro v hv;rw[La1.1 hv];rfl) dE J ?_;intro q16;refine .appendSl (z:=u8 0) (by':=1) (Aa [255]) J J J J J Y33.h Y33.h Sz5 Zr5 (by unfold By;kernel_rfl) J (fun w h=>SeesP.of (An h Cb)) (fun e=>by cases e) (by simp[Aa,isCell,u8]) (rem_there A9) J (by simp[Aa,hl]) oM oM oM (by rfl) ?_;intro q17 c17 hq17;refine G3 ?_;exact⟨(q17,c17),hq17,Ah wN (wh1 (by(rw[headB_9 (x:=x) oM];simp only[Aa,Lae];exact Cb)) wh0) nD⟩
  refine G5 ?_;refine .shl_u64 J J (show Ai _ _=some (u64 1)from rfl) J (9-szN x.toNat) (by rw[show(9:Int)-((szN x.toNat:Nat):Int)=((9-szN x.toNat:Nat):Int) by omega,wordOf_id _ oM]) oM ?_;refine .sub_u64 J J (show Ai _ _=some (u64 256)from rfl) J (G4 ?_);refine .mul_i64 J J J J oM (G1 ?_);refine .shr_u64 J J J J (8*(szN x.toNat-1)) (by rw[show(8:Int)*(((szN x.toNat:Nat):Int)-1)=((8*(szN x.toNat-1):Nat):Int) by omega,wordOf_id _ oM]) oM ?_;refine G1 ?_;refine .add_u8 J J J J ?_;rw[headB_lt (x:=x) oM];refine .mkRow (z:=u8 0) [u8 (headB x)] (Aa [headB x]) J J J Y33.h Sz5 Zr5 J J (by intro v hv;rw[La1.1 hv];rfl) dE J ?_;intro q33;refine .appendSl (z:=u8 0) (by':=1) (Aa [headB x]) J J J J J Y33.h Y33.h Sz5 Zr5 (by unfold By;kernel_rfl) J (fun w h=>SeesP.of (An h Cb)) (fun e=>by cases e) (by simp[Aa,isCell,u8]) (rem_there A9) J (by simp[Aa,hl]) oM oM oM (by rfl) ?_;intro q17 c17 hq17;refine G3 ?_;exact⟨(q17,c17),hq17,Ah wN (wh1 (by(simp only[Aa,Lae];exact Cb)) wh0) nD⟩
 intro p hj;have hjp:=hj;refine G9 ?_;refine .loop (ι:=Nat×Nat×Nat) (fun r=>⟨[(1,u64 x),(5, .slice (some ⟨r.2.1,0,none⟩) (n+1+r.1) r.2.2),(7,i64 (((szN x.toNat:Nat):Int)-2-(r.1:Int)))],[⟨r.2.1,Aa (l++numUp x r.1),5,r.2.2*1⟩]⟩) (fun r=>r.1≤szN x.toNat-1∧n+1+r.1≤r.2.2) (fun r=>szN x.toNat-1-r.1) ((0,p.1,p.2)) ?_ ?_ ?_
 ·exact⟨Lan _,hjp⟩
 ·exact Ah (wk1 rfl (wk1 rfl (wk1 (by rw[show(((szN x.toNat:Nat):Int)-2-((0:Nat):Int))=((szN x.toNat:Nat):Int)-2 by omega];rfl) wk0))) (wh1 (by rw[numUp_zero];exact Cb) wh0) nD
 rintro r ⟨hp1,hp2⟩;refine G7 ?_;refine .condP J (fun hc1=>?_) (fun hc1=>?_)
 ·
  have hp3:r.1<szN x.toNat-1:=by omega
  refine G8 ?_;refine .mul_i64 J J J J oM (G1 ?_);refine .shr_u64 J J J J (8*(szN x.toNat-2-r.1)) (by rw[show(8:Int)*(((szN x.toNat:Nat):Int)-2-(r.1:Int))=((8*(szN x.toNat-2-r.1):Nat):Int) by omega,wordOf_id _ oM]) oM ?_;refine G1 ?_;refine .mkRow (z:=u8 0) [u8 ((Ax x (8*(szN x.toNat-2-r.1))).toUInt8)] (Aa [(Ax x (8*(szN x.toNat-2-r.1))).toUInt8]) J J J Y33.h Sz5 Zr5 J J (by intro v hv;rw[La1.1 hv];rfl) dE J ?_;intro q48;refine .appendSl (z:=u8 0) (by':=1) (Aa [(Ax x (8*(szN x.toNat-2-r.1))).toUInt8]) J J J J J Y33.h Y33.h Sz5 Zr5 (by unfold By;kernel_rfl) J (fun w h=>SeesP.of (An h Cb)) (fun e=>by cases e) (by simp[Aa,isCell,u8]) (rem_there A9) J (by rw[Aa,La0,La2,hl,numUp_length x r.1 oM];omega) oM oM oM (by rfl) ?_;intro q2 c2 hq2;refine G10 ?_;exact⟨(r.1+1,q2,c2),⟨by simp only[];omega,by simp only[];omega⟩,by simp only[];omega,Ah (wk1 rfl (wk1 (by rw[show n+1+(r.1+1)=n+1+r.1+1 by omega];rfl) (wk1 (by rw[show(((szN x.toNat:Nat):Int)-2-((r.1+1:Nat):Int))=((szN x.toNat:Nat):Int)-2-(r.1:Int)-1 by omega];rfl) wk0))) (wh1 (by rw[numUp_step x r.1 oM,←La8];simp only[Aa,Lae];exact Cb) wh0) nD⟩
 have hp3:r.1=szN x.toNat-1:=by omega
 refine G11 ?_;refine G2 ?_;refine⟨_,[⟨r.2.1,Aa (l++numB x),5,r.2.2*1⟩],Af J J,(by intro b hb;rw[La1.1 hb,←numUp_all,←hp3];exact Cb),nodup1,⟨r.2.1,r.2.2,by rw[show n+1+r.1=n+szN x.toNat by omega],by omega,rfl⟩⟩
open Ed
variable{B:Block}{D:DB}{K:List UInt8}{W:World}
theorem cmpB_same(x:UInt8)(a b:List UInt8):C7 (x::a) (x::b)=C7 a b:=by simp[C7,Go.Lib.compareBytes]
theorem cmpB_other{x y:UInt8}(h:x≠y)(a b:List UInt8):C7 (x::a) (y::b)=cmpI (x.toNat:Int) (y.toNat:Int):=by
  have h2:x.toNat≠y.toNat:=fun e=>h (Ld7.1 e);simp only[C7,Go.Lib.compareBytes,Lfc];unfold cmpI
  (repeat' split)<;>first|rfl|omega
theorem cmpB_at:∀(k:Nat) (a b:List UInt8),a.length=b.length→(∀j,j<k→a.getD j 0=b.getD j 0)→k<a.length→a.getD k 0≠b.getD k 0→C7 a b=cmpI ((a.getD k 0).toNat:Int) ((b.getD k 0).toNat:Int)
  |k,[],b,hl,hs,hk,hd=>absurd hk (Leb _)
  |k,x::a,[],hl,hs,hk,hd=>by cases hl
  |0,x::a,y::b,hl,hs,hk,hd=>cmpB_other hd a b
  | k+1,x::a,y::b,hl,hs,hk,hd=>by
    have e:x=y:=hs 0 (Nat.succ_pos k);subst e;rw[cmpB_same];exact cmpB_at k a b (Nat.succ.inj hl) (fun j hj=>hs (j+1) (Nat.succ_lt_succ hj)) (Nat.lt_of_succ_lt_succ hk) hd
theorem cmpB_all{a b:List UInt8}(ha:a.length=32)(hb:b.length=32)(h:∀j,j<32→a.getD j 0=b.getD j 0):C7 a b=0:=by
  refine(cmpB_zero a b).2 (Le0 oM (fun i h1 h2=>?_));have:=h i oM;simpa[List.getD,h1,h2]using this
theorem seesP_tk{w:World}{p:Option Addr}{l:List UInt8}{n:Nat}(h:SeesP w p (Aa l)):SeesP w p (Aa (l.take n)):=fun j v hj=>by
  rw[Aa,Lbe,Lby]at hj;split at hj
  ·exact h j v hj
  ·cases hj
theorem r2_StartShort(k s0 i0:List UInt64)(G:List UInt8)(hk:Hid (kW=k))(hk80:k.length=80)(hs0:Hid (xorUp 8=s0))(hs8:s0.length=8)(hG:Hid (shaTag=G))(hGl:G.length=11)(hi0:Hid (allW k s0 G=i0))(hi8:i0.length=8)  :Mv 114 [] (fun _=>True) (agg (Al i0)):=by
 intro W hW;refine Ad func114 J 18 ntmps114 J (G2 ?_);refine .alloc (cs:=(Al (List.replicate 8 0))) J Zr152 J ?_;intro n0 hn0 hf0;refine G4 ?_;refine .cV J J J J Body156 (r2_Start startW ⟨rfl⟩) tV (.alloc (cs:=(Al (List.replicate 8 0))) J Zr152 J ?_);intro n1 hn1 hf1;refine .sA J J J J zB Sz152 (by(simp[startW_length];done)) Z0 sP zU ?_;refine G9 ?_;refine .loop (ι:=Nat) (fun j=>⟨[(0,ptr n0 0),(1,ptr n1 0),(2,i64 (j:Int))],[⟨n1,Al (xorUp j),152,8⟩,⟨n0,Al (List.replicate 8 0),152,8⟩]⟩) (fun j=>j≤8) (fun j=>8-j) (0) ?_ ?_ ?_
 ·omega
 ·exact Ag wN (Ab rM (Ab rM Ae))
 rintro j hi;have hlj:=xorUp_length j;refine G7 ?_;refine .condP J (fun hc0=>?_) (fun hc0=>?_)
 ·
  refine G7 ?_;refine .i1 J J J J Y152.h Sz30 _ J oM (G1 ?_);refine .xor_u64 J J J (show Ai _ _=some (u64 11936128518282651045)from rfl) (.i1 J J J J Y152.h Sz30 _ J oM (.s1 J J J J J Sz30 Z0 (by(simp[xorUp_length];omega)) (by exact Bj _ _ _) zU ?_));refine G9 ?_;exact⟨j+1,by omega,by omega,Ag wN (Ab rM (Ab rM Ae))⟩
 obtain rfl:j=8:=by omega
 rw[hs0.out];clear hlj;refine G7 ?_;refine .lA J J J Y152.h J Sz152 Z0 (by(simp[hs8];done)) ?_;refine .mkRow (z:=u8 0) [u8 83,u8 72,u8 65,u8 45,u8 53,u8 49,u8 50,u8 47,u8 50,u8 53,u8 54] (Aa shaTag) J J J Y33.h Sz5 Zr5 J J (by intro v hv;simp only[Laj,Lbu,or_false]at hv;rcases hv with rfl|rfl|rfl|rfl|rfl|rfl|rfl|rfl|rfl|rfl|rfl<;>rfl) dE J ?_;intro q15;rw[hG.out];refine .constB J J J J Y33.h Y5.h Z0 ?_;refine .cV J J J J Body113 (r2_run s0 hs8 k hk hk80 ⟨some ⟨q15,0,none⟩,11,11⟩ G (by simp[hGl]) (fun e=>by cases e) oM) (fun w h=>SeesP.of (An h Z0)) ?_;rw[hi0.out];refine .sA J J J J zB Sz152 (by(simp[hi8];done)) Z2 sP (by exact upd2) ?_;refine G2 ?_;refine G2 ?_;refine⟨_,[],Aw J J Y152.h J Sz152 Z2 (by simp[hi8]),sP,sP,?_,rfl⟩;rfl
theorem r2_Sum(k s0 i0:List UInt64)(G:List UInt8)(hk:Hid (kW=k))(hk80:k.length=80)(hs0:Hid (xorUp 8=s0))(hs8:s0.length=8)(hG:Hid (shaTag=G))(hGl:G.length=11)(hi0:Hid (allW k s0 G=i0))(hi8:i0.length=8)(p:Option Addr)(n c:Nat)(ss:List Sl)(ls:List (List UInt8))(hss:ss.length=n)(hls:ls.length=n)(hsl:∀j,j<n→(ss.getD j Sl.nil).n=(ls.getD j []).length∧((ss.getD j Sl.nil).p=none→(ss.getD j Sl.nil).n=0))(F:List UInt8)(hF:ls.flatten=F)(htot:F.length≤90000)(hn:n≤1000000)(r:List UInt64)(hr:Hid (allW k i0 F=r))(s:List UInt8)(hs:Hid (sumUp r 64=s))  :Mv 81 [.slice p n c] (fun W=>SeesP W p (ss.map Sl.v)∧∀j,j<n→SeesP W (ss.getD j Sl.nil).p (Aa (ls.getD j []))) (agg (Aa (s.take 32))):=by
 intro W hW;have hr8:r.length=8:=by rw[←hr.out,allW_length];exact hi8
 have hs64:s.length=64:=by rw[←hs.out];exact Cs r 64
 have hs32:(s.take 32).length=32:=by rw[Lac,hs64];rfl
 have hrun:=fun(x:Sl) (h1:x.n=F.length) (h2:x.p=none→x.n=0)=>r2_run i0 hi8 k hk hk80 x F h1 h2 htot;rw[hr.out]at hrun;refine Ad func81 J 14 ntmps81 J (G2 ?_);refine .alloc (cs:=(Aa (List.replicate 32 0))) J Cj J ?_;intro n2 hn2 hf2;refine G4 ?_;refine .cV J J J J Body114 (r2_StartShort k s0 i0 G hk hk80 hs0 hs8 hG hGl hi0 hi8) tV (G1 ?_);refine .call4 J J J J J Body115 (r2_join p n c ss ls hss hls hsl F hF htot hn) (fun w h=>⟨A5 h J hW.1,fun j hj=>A5 h J (hW.2 j hj)⟩) ?_;rintro v7 out7 ⟨s7,rfl,hac7⟩;refine .cV J J J J Body113 (hrun s7 hac7.num hac7.nil) (fun w h=>hac7.see (Lies.of h (by repeat(exact Au)))) ?_;refine .cV J J J J Body112 (r2_bytes r hr8 s hs) tV (.alloc (cs:=(Aa (List.replicate 64 0))) J Zr34 J ?_);intro n3 hn3 hf3;refine .sA J J J J zE Sz34 (by(simp[hs64];done)) Z0 sP zU ?_;refine G4 ?_;refine .alloc (cs:=(Aa (List.replicate 32 0))) J Cj J ?_;intro n4 hn4 hf4;refine G3 ?_;refine .draw (oPq [0,1,402]) Aq zK (G1 ?_);refine .sliceArrHi 32 J J J J J dE dE Y34.h Sz5 (.copyP (Aa (s.take 32)) 32 J J J J J Y33.h Sz5 (fun w h=>seesP_tk (SeesP.of (An h Z1))) (fun e=>by cases e) (by simp[Aa,hs64]) J (La5 (by simp[Aa,hs64])) (A0 _) Z0 (by simp[Aa]) (show upd (Aa (List.replicate 32 0)) 0 (Aa (s.take 32))=Aa (s.take 32) by simp[upd,Aa,hs64]) zU ?_);refine G4 ?_;refine .lA J J J Y31.h J Sz31 Z0 (by(simp[hs64];done)) ?_;refine .sA J J J J zE Sz31 (by(simp[hs64];done)) mR sP uU ?_;refine G2 ?_;refine G2 ?_;refine⟨_,[],Aw J J Y31.h J Sz31 mR (by simp[hs64]),sP,sP,?_,rfl⟩;rfl
theorem dcheck_2(h:¬D.check=0):D.check=2:=by
  unfold DB.check at h ⊢;by_cases h1:D.head=true
  ·rw[if_pos h1]
  · rw[if_neg h1]at h ⊢
    by_cases h2:linksBad D.prev D.ls=true
    ·rw[if_pos h2]
    ·rw[if_neg h2]at h;exact absurd rfl h
theorem r15_cmp(a b:List UInt8)(ha:a.length=32)(hb:b.length=32):Mv 14 [agg (Aa a),agg (Aa b)] (fun _=>True) (i64 (C7 a b)):=by
 intro W hW;refine Ad func14 J 24 ntmps14 J (G3 ?_);intro n2 hn2 hf2;refine G1 ?_;intro n3 hn3 hf3;refine G10 ?_;refine .loop (ι:=Nat) (fun k=>⟨[(2,ptr n2 0),(3,ptr n3 0),(5,i64 (k:Int))],[⟨n3,Aa b,31,(Aa b).length⟩,⟨n2,Aa a,31,(Aa a).length⟩]⟩) (fun k=>k≤32∧∀j,j<k→a.getD j 0=b.getD j 0) (fun k=>32-k) (0) ?_ ?_ ?_
 ·exact⟨Lan _,fun j hj=>absurd hj (Leb _)⟩
 ·exact Ah wN (wh1 Z0 (wh1 Z1 wh0)) nD
 rintro k ⟨hk,hsm⟩;refine G7 ?_;refine .condP J (fun hc0=>?_) (fun hc0=>?_)
 ·
  have hk2:k<32:=by omega
  refine G6 ?_;refine .draw (oPq [0,1,102,3,4,105,6]) Aq zK (G1 ?_);refine .i1 J J J J Y31.h Sz5 k J oM (G2 ?_);refine .i1 J J J J Y31.h Sz5 k J oM (G4 ?_);refine .condP J (fun hc1=>?_) (fun hc1=>?_)
  ·
   have hek:a.getD k 0≠b.getD k 0:=fun e=>by rw[e]at hc1;omega
   refine G5 ?_;refine G8 ?_;refine⟨_,[],Af J J,sP,sP,?_,rfl⟩
   (rw[cmpB_at k a b oM hsm oM hek];unfold cmpI;rw[if_pos oM];done)
  refine G3 ?_;refine .draw (oPq [0,1,102,3,4,105,6]) Aq zK (G1 ?_);refine .i1 J J J J Y31.h Sz5 k J oM (G2 ?_);refine .i1 J J J J Y31.h Sz5 k J oM (G4 ?_);refine .condP J (fun hc2=>?_) (fun hc2=>?_)
  ·
   have hek:a.getD k 0≠b.getD k 0:=fun e=>by rw[e]at hc2;omega
   refine G5 ?_;refine G7 ?_;refine⟨_,[],Af J J,sP,sP,?_,rfl⟩
   (rw[cmpB_at k a b oM hsm oM hek];unfold cmpI;rw[if_neg oM,if_pos oM];done)
  have hek:a.getD k 0=b.getD k 0:=Ld7.1 oM;refine G9 ?_;exact⟨k+1,⟨by omega,fun j hj=>by rcases Lb7 j k with h1|h1;exact hsm j h1;exact(show j=k by omega)▸hek⟩,by omega,Ah (wk1 rfl (wk1 rfl (wk1 (by rw[Lcn];rfl) wk0))) (wh1 Z0 (wh1 Z1 wh0)) nD⟩
 have hk2:k=32:=by omega
 refine G10 ?_;refine G2 ?_;refine⟨_,[],Af J J,sP,sP,?_,rfl⟩
 (rw[cmpB_all ha hb (fun j hj=>hsm j oM)];done)
theorem r15_check(B:Block)(hB:B.ok)(ls:List (List UInt8)):Mv 103 [agg B.cells] (fun W=>RowsAt W B.fLinks 32 ls) (i64 (bcheck B ls)):=by
 intro W hW;have hcx:B.fLinks.n≤maxLen:=hW.max;simp only[maxLen]at hcx;have hcn:=hW.cap;refine Ad func103 J 74 ntmps103 J (G3 ?_);intro n1 hn1 hf1;refine G5 ?_;refine .build (cs:=Aa (List.replicate 32 0)) J J J (fun w=>by kernel_rfl) ?_;refine .alloc (cs:=(Aa (List.replicate 32 0))) J Cj J ?_;intro n3 hn3 hf3;refine .sA J J J J zE Sz31 sP Z0 sP zU ?_;refine G4 ?_;refine .draw (oPq [0,101,2,3,4,105,106,7,8,109,10,11,12,13,14,115,16,17,18,19,20,121,22,23,24]) Aq zK (G2 ?_);refine two (fun r hr k=>Tr.gtr J J J J hr k) (fun hs2_20=>?_) (fun hs2_20=>?_)
 ·
  have hs2_2:=of_decide_eq_true hs2_20;refine G24 ?_;refine .cond_t J J (G5 ?_);refine G3 ?_;refine⟨_,[],Af J J,sP,sP,?_,rfl⟩;exact congrArg i64 (bcheck_head (by unfold bhead bheadB;simp_all)).symm
 have hs2_2:=of_decide_eq_false hs2_20;refine G2 ?_;refine .lN (Aa _) J J J Y31.h J Sz31 Z1 (Block.row_fPrev zA) (Block.rl_fPrev zA) ?_;refine .lA J J J Y31.h J Sz31 Z0 sP ?_;refine .eql_bytes J J J J eqGuardType31 Y31.h Y5.h Sz5 (by(simp[hB.l_fPrev];done)) sP J ?_;refine G3 ?_;refine two (fun r hr k=>Tr.neb J J J J underlying4 hr k) (fun hs2_110=>?_) (fun hs2_110=>?_)
 ·
  have hs2_11:=nd_t hs2_110;refine G15 ?_;refine .cond_t J J (G5 ?_);refine G3 ?_;refine⟨_,[],Af J J,sP,sP,?_,rfl⟩;exact congrArg i64 (bcheck_head (by unfold bhead bheadB;simp_all)).symm
 have hs2_11:=nd_f hs2_110;refine G5 ?_;refine two (fun r hr k=>Tr.gtr J J J J hr k) (fun hs2_170=>?_) (fun hs2_170=>?_)
 ·
  have hs2_17:=of_decide_eq_true hs2_170;refine G9 ?_;refine .cond_t J J (G5 ?_);refine G3 ?_;refine⟨_,[],Af J J,sP,sP,?_,rfl⟩;exact congrArg i64 (bcheck_head (by unfold bhead bheadB;simp_all)).symm
 have hs2_17:=of_decide_eq_false hs2_170;refine G9 ?_;refine .condP J (fun hc0=>?_) (fun hc0=>?_)
 ·
  refine G5 ?_;refine G3 ?_;refine⟨_,[],Af J J,sP,sP,?_,rfl⟩;exact congrArg i64 (bcheck_head (by unfold bhead bheadB;simp_all)).symm
 have hnb:¬bhead B:=by unfold bhead bheadB;simp_all
 refine G9 ?_;refine .loop (ι:=Nat) (fun k=>⟨[(1,ptr n1 0),(3,ptr n3 0),(4,i64 (k:Int))],[⟨n3,Aa (List.replicate 32 0),31,32⟩,⟨n1,B.cells,37,B.cells.length⟩]⟩) (fun k=>k≤B.fLinks.n∧∀j,j<k→badAt B.fPrev ls j=false) (fun k=>B.fLinks.n-k) (0) ?_ ?_ ?_
 ·exact⟨by omega,fun j hj=>by omega⟩
 ·exact Ah wN (wh1 Z0 (wh1 Z1 wh0)) nD
 rintro k ⟨hk,hg⟩;refine G10 ?_;refine .condP J (fun hc1=>?_) (fun hc1=>?_)
 ·
  have hk2:k<B.fLinks.n:=by omega
  have hll:=hW.len;obtain⟨b,o,hbp,hbs⟩:=hW.see.at (by rw[A2 hW.row];omega);have hr0:(ls.getD k []).length=32:=Ch hW.row oM;have hr1:(ls.getD (k-1) []).length=32:=Ch hW.row oM;refine G2 ?_;refine .join (ι:=Unit) (fun _u=>⟨[(1,ptr n1 0),(3,ptr n3 0),(4,i64 (k:Int))],[⟨n3,Aa (List.replicate 32 0),31,32⟩,⟨n1,B.cells,37,B.cells.length⟩]⟩) (fun _u=>badAt B.fPrev ls k=false) ?_ ?_
  ·
   refine G2 ?_;refine .draw (oPq [0,101,2,3,104,105,6,7,8,109,10,11,112,13,114,15,16,17,18,19,20,21,122,23,24,25,126,27,128,29,30,131,332,33,34,35]) Aq zK (G3 ?_);refine .idxSlP 32 J J J hbp J Y32.h Sz31 k J oM (.loadEN (Aa (ls.getD (k) [])) J J J Y31.h J Sz31 sP (by rw[Aa,La0];exact Ch hW.row (by rw[hW.len];omega)) (B0 hW.row hbs (by rw[hW.len];omega)) ?_);refine .lA J J J Y31.h J Sz31 Z0 sP ?_;refine two (fun r hr k=>Tr.eql_bytes J J J J eqGuardType31 Y31.h Y5.h Sz5 zA sP hr k) (fun hs7_60=>?_) (fun hs7_60=>?_)
   ·
    have hs7_6:=of_decide_eq_true hs7_60;refine G31 ?_;refine .cond_t J J (G5 ?_);refine G7 ?_;refine⟨_,[],Af J J,sP,sP,?_,rfl⟩;exact congrArg i64 (bcheck_bad hnb (linksBad_at (k:=k) oM (by unfold badAt;simp_all))).symm
   have hs7_6:=of_decide_eq_false hs7_60;refine G4 ?_;refine .idxSlP 32 J J J hbp J Y32.h Sz31 k J oM (.loadEN (Aa (ls.getD (k) [])) J J J Y31.h J Sz31 sP (by rw[Aa,La0];exact Ch hW.row (by rw[hW.len];omega)) (B0 hW.row hbs (by rw[hW.len];omega)) ?_);refine G1 ?_;refine .lN (Aa _) J J J Y31.h J Sz31 Z1 (Block.row_fPrev zA) (Block.rl_fPrev zA) ?_;refine two (fun r hr k=>Tr.eql_bytes J J J J eqGuardType31 Y31.h Y5.h Sz5 zA (by(simp[hB.l_fPrev];done)) hr k) (fun hs7_150=>?_) (fun hs7_150=>?_)
   ·
    have hs7_15:=of_decide_eq_true hs7_150;refine G22 ?_;refine .cond_t J J (G5 ?_);refine G7 ?_;refine⟨_,[],Af J J,sP,sP,?_,rfl⟩;exact congrArg i64 (bcheck_bad hnb (linksBad_at (k:=k) oM (by unfold badAt;simp_all))).symm
   have hs7_15:=of_decide_eq_false hs7_150;refine G3 ?_;refine two (fun r hr k=>Tr.gtr J J J J hr k) (fun hs7_190=>?_) (fun hs7_190=>?_)
   ·
    have hs7_19:=of_decide_eq_true hs7_190;refine G5 ?_;refine .idxSlP 32 J J J hbp J Y32.h Sz31 (k-1) oM oM (.loadEN (Aa (ls.getD (k-1) [])) J J J Y31.h J Sz31 sP (by rw[Aa,La0];exact Ch hW.row (by rw[hW.len];omega)) (B0 hW.row hbs (by rw[hW.len];omega)) ?_);refine G3 ?_;refine .idxSlP 32 J J J hbp J Y32.h Sz31 k J oM (.loadEN (Aa (ls.getD (k) [])) J J J Y31.h J Sz31 sP (by rw[Aa,La0];exact Ch hW.row (by rw[hW.len];omega)) (B0 hW.row hbs (by rw[hW.len];omega)) ?_);refine .cV J J J J Body14 (r15_cmp _ _ hr1 hr0) tV (G5 ?_);refine .condP J (fun hc2=>?_) (fun hc2=>?_)
    ·
     refine G5 ?_;refine G7 ?_;refine⟨_,[],Af J J,sP,sP,?_,rfl⟩;exact congrArg i64 (bcheck_bad hnb (linksBad_at (k:=k) oM (by unfold badAt;simp_all))).symm
    refine G3 ?_;refine⟨(),by unfold badAt;simp_all,Ah wN (wh1 Z0 (wh1 Z1 wh0)) nD⟩
   have hs7_19:=of_decide_eq_false hs7_190;refine G18 ?_;refine .cond_f J J (G3 ?_);refine⟨(),by unfold badAt;simp_all,Ah wN (wh1 Z0 (wh1 Z1 wh0)) nD⟩
  intro _u hj;have hgk:=hj;refine G6 ?_;exact⟨k+1,⟨by omega,fun j hj=>by rcases Lcc.1 hj with h|rfl;exact hg j h;exact hgk⟩,by omega,Ah (wk1 rfl (wk1 rfl (wk1 (by rw[Lcn];rfl) wk0))) (wh1 Z0 (wh1 Z1 wh0)) nD⟩
 obtain rfl:k=B.fLinks.n:=by omega
 refine G10 ?_;refine G2 ?_;refine⟨_,[],Af J J,sP,sP,?_,rfl⟩;exact congrArg i64 (bcheck_ok hnb (linksBad_not (by rw[hW.len];exact hg))).symm
theorem r15_Check(B:Block)(D:DB):Mv 103 [agg B.cells] (fun W=>BlockIs W B D) (i64 D.check):=
  fun W hW=>by rw[←hW.check];exact r15_check B hW.ok D.ls W hW.ls
theorem r1_Block(p r:Option Addr)(n c m d:Nat)(l ys:List UInt8)(hl:l.length=n)(hy:ys.length=m)(hp:p=none→n=0)(hr:r=none→m=0)(hn:n≤40000)(hm:m≤40000):Meets prog 153 [.slice p n c, .slice r m d] [] (fun W=>SeesP W p (Aa l)∧SeesP W r (Aa ys)) (fun v out=>FreshRow v out (Aa (l++numB (UInt64.ofNat m)++ys)) 5 (n+szN m+m) 1):=by
 intro W hW;have hz:=C4 m;have hw:wordOf (m:Int)=UInt64.ofNat m:=by simp only[wordOf];congr 1;omega
 have hmn:(UInt64.ofNat m).toNat=m:=by rw[Lc4,Lai oM]
 refine Ad func153 J 12 ntmps153 J (G11 ?_);rw[hw];refine .call4 J J J J J Body152 (r1_Number p n c l (UInt64.ofNat m) hl hp oM) (fun w h=>A5 h J hW.1) ?_;rintro v9 out9 ⟨q9,c9,rfl,hc9,rfl⟩;rw[hmn]at hc9 ⊢;refine G1 ?_;refine .appendSl (z:=u8 0) (by':=1) (Aa ys) J J J J J Y33.h Y33.h Sz5 Zr5 (by unfold By;kernel_rfl) J (fun w h=>A5 h J hW.2) hr (A0 _) rM J (by rw[Aa,La0,La2,Bs,hl,hmn,Lba]) oM oM oM (by rw[Aa,La0,hy,Lba]) ?_;intro q11 c11 hq11;rw[←bytesV_app];refine G3 ?_;refine G2 ?_;refine As (out:=(⟨q11,Aa (l++numB (UInt64.ofNat m)++ys),5,c11*1⟩::[])) (Af J J) (Ab rM Ae) ?_;exact⟨q11,c11,rfl,hq11,rfl⟩
theorem btag_length:btag.length=5:=rfl
theorem r15_Text(B:Block)(D:DB)(hB:B.ok)(h1:D.ls.length≤40)(h2:D.ds.length≤2000):Meets prog 111 [agg B.cells] [] (fun W=>BlockIs W B D) (fun v out=>FreshRow v out (Aa (btxt D)) 5 (btxt D).length 1):=by
 intro W hW;have hbs0:=DB.body_small hW.dok h1 h2;have e1:=hW.ls.len;have e2:=hW.ds.len;have hz1:=C4 B.fSeq.toNat;have hz2:=C4 (UInt64.ofNat B.fLinks.n).toNat;have hz3:=C4 B.fData.n;have hw2:=word_nat (n:=B.fLinks.n) oM;have hrow:=hW.ls.row;refine Ad func111 J 41 ntmps111 J (G3 ?_);intro n1 hn1 hf1;refine G5 ?_;refine .mkRow (z:=u8 0) [u8 98,u8 108,u8 111,u8 99,u8 107] (Aa btag) J J J Y33.h Sz5 Zr5 J J (by intro v hv;simp only[Laj,Lbu,or_false]at hv;rcases hv with rfl|rfl|rfl|rfl|rfl<;>rfl) dE J ?_;intro q5;refine .constB J J J J Y33.h Y5.h Z0 ?_;refine G2 ?_;refine .appendSl (z:=u8 0) (by':=1) (Aa B.fWriter) J J J J J Y33.h Y33.h Sz5 Zr5 (by unfold By;kernel_rfl) J (fun w h=>SeesP.of (sees_part h Z1 (Block.see_fWriter hB))) (fun e=>by cases e) (A0 _) rM J J dE dE dE (by simp[hB.l_fWriter]) ?_;intro q9 c9 hq9;rw[←bytesV_app];refine G4 ?_;refine .draw (oPq [0,1,102,4,5,403,406,7]) Aq zK (G5 ?_);refine .call4 J J J J J Body152 (r1_Number (some ⟨q9,0,none⟩) (5+32) c9 (btag++B.fWriter) (B.fSeq) (by simp only[La2,Bs,hB.l_fWriter,hB.l_fPrev,btag_length]) (fun e=>by cases e) oM) (fun w h=>SeesP.of (An (cs:=Aa (btag++B.fWriter)) h Z0)) ?_;rintro v13 out13 ⟨q13,c13,rfl,hc13,rfl⟩;refine .appendSl (z:=u8 0) (by':=1) (Aa B.fPrev) J J J J J Y33.h Y33.h Sz5 Zr5 (by unfold By;kernel_rfl) J (fun w h=>SeesP.of (sees_part h Z2 (Block.see_fPrev hB))) (fun e=>by cases e) (A0 _) rM J (by rw[Aa,La0,Lba];simp only[La2,Bs,hB.l_fWriter,hB.l_fPrev,btag_length]) oM oM oM (by simp[hB.l_fPrev]) ?_;intro q16 c16 hq16;rw[←bytesV_app];refine G10 ?_;rw[hw2];refine .call4 J J J J J Body152 (r1_Number (some ⟨q16,0,none⟩) (5+32+szN B.fSeq.toNat+32) c16 (btag++B.fWriter++numB B.fSeq++B.fPrev) (UInt64.ofNat B.fLinks.n) (by simp only[La2,Bs,hB.l_fWriter,hB.l_fPrev,btag_length]) (fun e=>by cases e) oM) (fun w h=>SeesP.of (An (cs:=Aa (btag++B.fWriter++numB B.fSeq++B.fPrev)) h Z0)) ?_;rintro v22 out22 ⟨q22,c22,rfl,hc22,rfl⟩;refine G10 ?_;refine .loop (ι:=Nat×Nat×Nat) (fun p=>⟨[(1,ptr n1 0),(3, .slice (some ⟨p.2.1,0,none⟩) (5+32+szN B.fSeq.toNat+32+szN (UInt64.ofNat B.fLinks.n).toNat+32*p.1) p.2.2),(4,i64 (p.1:Int))],[⟨p.2.1,Aa (btag++B.fWriter++numB B.fSeq++B.fPrev++numB (UInt64.ofNat B.fLinks.n)++(D.ls.take p.1).flatten),5,p.2.2*1⟩,⟨n1,B.cells,37,B.cells.length⟩]⟩) (fun p=>p.1≤B.fLinks.n∧5+32+szN B.fSeq.toNat+32+szN (UInt64.ofNat B.fLinks.n).toNat+32*p.1≤p.2.2) (fun p=>B.fLinks.n-p.1) ((0,q22,c22)) ?_ ?_ ?_
 ·exact⟨Lan _,by simp only[];omega⟩
 ·exact Ag wN (pm_consE rM (by simp only[Le8,Lhb,Lat]) rfl (Ab rM Ae))
 rintro p ⟨hp1,hp2⟩;refine G10 ?_;refine .condP J (fun hc0=>?_) (fun hc0=>?_)
 ·
  have hp3:p.1<B.fLinks.n:=by omega
  obtain⟨b,o,hbp,hbs⟩:=hW.ls.see.at (by rw[A2 hrow];omega);have hrk:(D.ls.getD p.1 []).length=32:=Ch hrow oM;refine G9 ?_;refine .idxSlP 32 J J J hbp J Y32.h Sz31 p.1 J oM (G1 ?_);refine .appendSl (z:=u8 0) (by':=1) (Aa (D.ls.getD p.1 [])) J J J J J Y33.h Y33.h Sz5 Zr5 (by unfold By;kernel_rfl) J (fun w h=>SeesP.of (sees_ext h sP (B0 hrow hbs oM))) (fun e=>by cases e) (A0 _) rM J (by simp only[Aa,La0,La2,Bs,hB.l_fWriter,hB.l_fPrev,btag_length,Cu hrow (show p.1≤D.ls.length by omega)];omega) oM oM oM (by rw[Aa,La0,hrk]) ?_;intro q36 c36 hq36;rw[←bytesV_app];refine G10 ?_;exact⟨(p.1+1,q36,c36),⟨by simp only[];omega,by simp only[];omega⟩,by simp only[];omega,Ag (wk1 rfl (wk1 (by rw[show 5+32+szN B.fSeq.toNat+32+szN (UInt64.ofNat B.fLinks.n).toNat+32*(p.1+1)=5+32+szN B.fSeq.toNat+32+szN (UInt64.ofNat B.fLinks.n).toNat+32*p.1+32 by omega];rfl) (wk1 (by rw[Lcn];rfl) wk0))) (pm_consE rM (by rw[flatten_take_step oM,←La8]) rfl (Ab rM Ae))⟩
 have hp3:p.1=B.fLinks.n:=by omega
 refine G10 ?_;refine .call4 J J J J J Body153 (r1_Block (some ⟨p.2.1,0,none⟩) B.fData.p (5+32+szN B.fSeq.toNat+32+szN (UInt64.ofNat B.fLinks.n).toNat+32*p.1) p.2.2 B.fData.n B.fData.c (btag++B.fWriter++numB B.fSeq++B.fPrev++numB (UInt64.ofNat B.fLinks.n)++(D.ls.take p.1).flatten) D.ds (by simp only[La2,Bs,hB.l_fWriter,hB.l_fPrev,btag_length,Cu hrow (show p.1≤D.ls.length by omega)];omega) e2 (fun e=>by cases e) (fun e=>by have h3:=hW.ds.nil e;have h4:=hW.ds.cap;omega) oM oM) (fun w h=>⟨SeesP.of (An h Z0),A5 h J hW.ds.see⟩) ?_;rintro v40 out40 ⟨q40,c40,rfl,hc40,rfl⟩;refine G3 ?_;refine G2 ?_;refine As (out:=(⟨q40,Aa (btag++B.fWriter++numB B.fSeq++B.fPrev++numB (UInt64.ofNat B.fLinks.n)++(D.ls.take p.1).flatten++numB (UInt64.ofNat B.fData.n)++D.ds),5,c40*1⟩::[])) (Af J J) (Ab rM Ae) ?_;have hfin:btag++B.fWriter++numB B.fSeq++B.fPrev++numB (UInt64.ofNat B.fLinks.n)++(D.ls.take p.1).flatten++numB (UInt64.ofNat B.fData.n)++D.ds=btxt D:=by rw[btxt,DB.body,←hW.w,←hW.seq,←hW.prev,e1,e2,La5 oM];simp only[La8]
 have hlen:5+32+szN B.fSeq.toNat+32+szN (UInt64.ofNat B.fLinks.n).toNat+32*p.1+szN B.fData.n+B.fData.n=(btxt D).length:=by rw[←hfin];simp only[La2,Bs,hB.l_fWriter,hB.l_fPrev,btag_length,Cu hrow (show p.1≤D.ls.length by omega),e2,ofNat_nat (show B.fData.n≤1000000 by omega)];omega
 rw[hfin];exact⟨q40,c40,by rw[hlen],by omega,rfl⟩
theorem r15_Good(B:Block)(D:DB)(hB:B.ok):Mv 104 [agg B.cells] (fun W=>BlockIs W B D) (i64 (dgood D)):=by
 intro W hW;refine Ad func104 J 14 ntmps104 J (.sr (.boxA J J ?_));intro n1 hn1 hf1;refine .a J J J (.na (.seq (.sr (.lA J J J Y37.h J Sz37 Z0 (Block.length zA) ?_))));refine .cV J J J J Body103 (r15_Check B D) (fun w h=>hW.ext h J) (.nei J J J J J (.na (.condNP J (fun hc0=>?_) (fun hc0=>?_))))
 ·
  have hq0:¬D.check=0:=by omega
  refine .sr (.a J J J (.na ?_));refine .ret (at_r (C6 ?_));refine⟨_,[],Af J J,sP,sP,?_,rfl⟩
  (unfold dgood;rw[if_neg hq0,dcheck_2 hq0];done)
 have hq0:D.check=0:=by omega
 obtain⟨h1,h2⟩:=D.head_small hq0;have hvn:(btxt D).length≤4005:=DB.body_small hW.dok oM oM;refine .skip (A7 (.seq (.seq (.draw (oPq [0,101,102,4,105,303,306,7]) Aq zK (.fld J J J Y37.h J Sz29 dE _ J (.lN (Aa _) J J J Y29.h J Sz29 Z0 (Block.row_fWriter zA) (Block.rl_fWriter zA) ?_))))));refine .lA J J J Y37.h J Sz37 Z0 (Block.length zA) ?_;refine .fld J J J Y37.h J Sz35 dE _ J (.lN (Aa _) J J J Y35.h J Sz35 Z0 (Block.row_fSig zA) (Block.rl_fSig zA) ?_);refine .call J J J J Body111 (r15_Text B D hB oM oM) (FreshRow.loose _ _ _ _) (fun w h=>hW.ext h J) ?_;rintro v9 out9 ⟨q9,c9,rfl,hc9,rfl⟩;refine .cV J J J J Body146 (r6_Good B.fWriter hB.l_fWriter ⟨some ⟨q9,0,none⟩,_,c9⟩ (btxt D) oM B.fSig hB.l_fSig) (fun w h=>own_btxt (SeesP.of (An h Z0)) hc9 hvn) ?_;refine .not J J J (.na (.cond J (fun hc1=>?_) (fun hc1=>?_)))
 ·
  refine .sr (.a J J J (.na ?_));refine .ret (at_r (C6 ?_));refine⟨_,[],Af J J,sP,sP,?_,rfl⟩
  (unfold dgood;rw[if_pos hq0,←hW.w,←hW.sg,if_neg (by intro e;rw[e]at hc1;cases hc1)];done)
 refine .skip (A7 (.sr (.a J J J (.na ?_))));refine .ret (C6 ?_);refine⟨_,[],Af J J,sP,sP,?_,rfl⟩
 (unfold dgood;rw[if_pos hq0,←hW.w,←hW.sg,if_pos (by simpa using hc1)];done)
theorem r15_Copy(B:Block)(D:DB)(hB:B.ok)(hn:D.ls.length≤500000)(hd:D.ds.length≤500000):Meets prog 85 [agg B.cells] [] (fun W=>BlockIs W B D) (BlkV D):=by
 intro W hW;have e1:=hW.ls.len;have e2:=hW.ds.len;refine Ad func85 J 14 ntmps85 J (G3 ?_);intro n1 hn1 hf1;refine .alloc (cs:=Block.zero.cells) J Block.zr J ?_;intro n2 hn2 hf2;refine G3 ?_;refine .draw (oPq [1,102,5,106,200,303,8,204,307,409,10,411]) Aq zK (G4 ?_);refine .mkRow2 (z:=agg (Aa (List.replicate 32 0))) [] [] rfl J Y32.h Sz31 Cj J J (by intro v hv;cases hv) dE J ?_;intro q3;refine .appendE (z:=agg (Aa (List.replicate 32 0))) (by':=32) (Av D.ls) J J J J Y32.h Y32.h Sz31 Cj (by unfold By;kernel_rfl) J (fun w h=>A5 h J hW.ls.see) (fun e=>by have:=hW.ls.nil e;have:=hW.ls.cap;omega) (flatB_cell _) oM oM (by rw[A2 hW.ls.row,e1]) ?_;intro s6 bl6 hr6;refine G1 ?_;refine .mkRow2 (z:=u8 0) [] [] rfl J Y33.h Sz5 Zr5 J J (by intro v hv;cases hv) dE J ?_;intro q7;refine .appendE (z:=u8 0) (by':=1) (Aa D.ds) J J J J Y33.h Y33.h Sz5 Zr5 (by unfold By;kernel_rfl) J (fun w h=>A5 h J hW.ds.see) (fun e=>by have:=hW.ds.nil e;have:=hW.ds.cap;omega) (A0 _) oM oM (by rw[Aa,La0,e2,Lba]) ?_;intro s10 bl10 hr10;refine .s1 J J J J J Sz32 mR (by rw[Block.length zA];decide) (by exact Block.set_fLinks zA _) uU ?_;refine G1 ?_;refine .s1 J J J J J Sz33 mR (by rw[Block.length (by exact⟨hB.l_fWriter,hB.l_fPrev,hB.l_fSig⟩)];decide) (by exact Block.set_fData (by exact⟨hB.l_fWriter,hB.l_fPrev,hB.l_fSig⟩) _) uU ?_;refine G4 ?_;refine .lA J J J Y37.h J Sz37 mR (Block.length (by exact⟨hB.l_fWriter,hB.l_fPrev,hB.l_fSig⟩)) ?_;refine .sA J J J J (Block.isCell (by exact⟨hB.l_fWriter,hB.l_fPrev,hB.l_fSig⟩)) Sz37 (Block.length (by exact⟨hB.l_fWriter,hB.l_fPrev,hB.l_fSig⟩)) mR (Block.length (by exact Block.zero_ok)) uU ?_;refine G2 ?_;refine G2 ?_;refine As (out:=(bl10++(bl6++[]))) (Aw J J Y37.h J Sz37 mR (by exact Block.length (by exact⟨hB.l_fWriter,hB.l_fPrev,hB.l_fSig⟩))) (Ac sG (Ac sG Ae)) ?_;have g6:=hr6.num;have g10:=hr10.num;exact⟨({ B with fLinks:=s6,fData:=s10 }:Block),⟨⟨hB.l_fWriter,hB.l_fPrev,hB.l_fSig⟩,hW.w,hW.seq,hW.prev,hW.sg,g6.trans e1.symm,g10.trans e2.symm⟩,rfl,fun W2 h2=>⟨⟨hB.l_fWriter,hB.l_fPrev,hB.l_fSig⟩,hW.w,hW.seq,hW.prev,⟨e1.trans g6.symm,hW.ls.row,hr6.cap,hr6.see W2 (h2.sub (Bk Au)),by show s6.n≤maxLen;rw[g6];unfold maxLen;omega,hr6.nil⟩,⟨e2.trans g10.symm,hr10.cap,hr10.see W2 (h2.sub Au),by show s10.n≤maxLen;rw[g10];unfold maxLen;omega,hr10.nil⟩,hW.sg⟩⟩
theorem with_w'(h:BlockIs W B D)(hK:K.length=32):BlockIs W { B with fWriter:=K } { D with w:=K }:=⟨⟨hK,h.ok.l_fPrev,h.ok.l_fSig⟩,rfl,h.seq,h.prev,h.ls,h.ds,h.sg⟩
theorem with_wg'(h:BlockIs W B D){K G:List UInt8}(hK:K.length=32)(hG:G.length=64):BlockIs W { B with fWriter:=K,fSig:=G } { D with w:=K,sg:=G }:=⟨⟨hK,h.ok.l_fPrev,hG⟩,rfl,h.seq,h.prev,h.ls,h.ds,rfl⟩
theorem r15_Sign(B:Block)(D:DB)(hB:B.ok)(hn:D.ls.length≤40)(hd:D.ds.length≤2000)(seed:List UInt8)(h32:seed.length=32)(s s1 s2:List UInt8)(hs:Hid (sha512 seed=s))(hs1:Hid (sha512 (s.drop 32++btxt ({ D with w:=sgK s }:DB))=s1))(hs2:Hid (sha512 (sgF s1++(sgK s++btxt ({ D with w:=sgK s }:DB)))=s2))(hc:D.check=0):Meets prog 116 [agg (Aa seed),agg B.cells] [] (fun W=>BlockIs W B D) (BlkR 0 (bsg D (sgK s) (sgF s1++sgS s s1 s2))):=by
 intro W hW;have lG:(sgF s1++sgS s s1 s2).length=64:=by rw[La2,sgF_length,sgS_length]
 have lK:=sgK_length s;have cK:=r6_Key seed h32 s hs;have e1:=hW.ls.len;have e2:=hW.ds.len;have hDk:({ D with w:=sgK s }:DB).ok:=⟨lK,hW.dok.prev,hW.dok.sg,hW.dok.ls⟩;have hvn:(btxt { D with w:=sgK s }).length≤4005:=DB.body_small hDk oM oM;have cS:=fun(x:Sl)=>r6_Sign seed h32 x (btxt { D with w:=sgK s }) oM s s1 s2 hs hs1 hs2;clear hs hs1 hs2;revert lG lK cK hDk hvn cS;generalize sgF s1++sgS s s1 s2=G;generalize sgK s=K;intro lG lK cK hDk hvn cS;refine Ad func116 J 21 ntmps116 J (G3 ?_);intro n2 hn2 hf2;refine G1 ?_;intro n3 hn3 hf3;refine .alloc (cs:=Block.zero.cells) J Block.zr J ?_;intro n4 hn4 hf4;refine G6 ?_;refine .call4 J J J J J Body85 (r15_Copy B D hB oM oM) (fun w h=>hW.ext h J) ?_;rintro v7 out7 ⟨B7,h7,rfl,ho7⟩;have okX:({ B7 with fWriter:=K }:Block).ok:=⟨lK,h7.ok.l_fPrev,h7.ok.l_fSig⟩;have okG:({ B7 with fWriter:=K,fSig:=G }:Block).ok:=⟨lK,h7.ok.l_fPrev,lG⟩;have cC:=r15_Check ({ B7 with fWriter:=K }:Block) { D with w:=K };rw[show({ D with w:=K }:DB).check=D.check from rfl]at cC;have cT:=r15_Text ({ B7 with fWriter:=K }:Block) { D with w:=K } okX hn hd
 try simp only[La8,Lak,Lah]
 refine .sA J J J J (Block.isCell (by exact h7.ok)) Sz37 (Block.length (by exact h7.ok)) mR (Block.length zA) uU ?_;refine G4 ?_;refine .lA J J J Y28.h J Sz28 mR (by(simp[h32];done)) ?_;refine .cV J J J J Body157 (cK) tV (G1 ?_);refine .storeN (Aa _) J J J J J zE Sz29 (by simp[lK]) mR (by rw[Block.length (by exact h7.ok)];simp[lK]) (Block.upd_fWriter (by exact h7.ok) _ (by simp[lK])) uU ?_;refine G6 ?_;refine .cV J J J J Body103 (cC) (fun w h=>with_w' (ho7 w (Lies.of h (by repeat(exact Au)))) lK) ?_;refine G3 ?_;refine .cond_f J (by simpa using hc) ?_;refine G3 ?_;refine .draw (oPq [100,101,302,303,4,405]) Aq zK (.lA J J J Y28.h J Sz28 mR (by(simp[h32];done)) ?_);refine G1 ?_;refine .call J J J J Body111 (cT) (FreshRow.loose _ _ _ _) (fun w h=>with_w' (ho7 w (Lies.of h (by repeat(exact Au)))) lK) ?_;rintro v17 out17 ⟨q17,c17,rfl,hc17,rfl⟩;refine .cV J J J J Body158 (cS ⟨some ⟨q17,0,none⟩,_,c17⟩) (fun w h=>own_btxt (SeesP.of (An h Z0)) hc17 hvn) ?_;refine G1 ?_;refine .storeN (Aa _) J J J J J zE Sz35 (by simp[lG]) mR (by rw[Block.length zA];simp[lG]) (Block.upd_fSig zA _ (by simp[lG])) uU ?_;refine G9 ?_;refine G2 ?_;refine As (out:=(out7++[])) (Bg J J J Y37.h J Sz37 mR (by exact Block.length zA)) (Ac sG Ae) ?_;rw[Lat];exact⟨({ B7 with fWriter:=K,fSig:=G }:Block),⟨okG,rfl,h7.seq,h7.prev,rfl,h7.ln,h7.dn⟩,rfl,fun W2 h2=>with_wg' (ho7 W2 h2) lK lG⟩
def ByR(e:Int)(l:List UInt8)(v:Value)(out:List Blk):Prop:=∃s:Sl,v= .tuple #[s.v,i64 e]∧s.n=l.length∧(s.p=none→s.n=0)∧∀W2,Lies out W2→SeesP W2 s.p (Aa l)
theorem body_pos(D:DB):0<D.body.length:=by
  have:=C4 D.seq.toNat;simp only[DB.body,La2,Bs];omega
theorem text_off{q c:Nat}{E:TypeId}(hc:(btxt D).length≤c)(hl:(btxt D).length=5+D.body.length):AccO ⟨some ⟨q,if c=5 then 0 else 0+5*1,none⟩,(btxt D).length-5,c-5⟩ [⟨q,Aa (btxt D),E,c*1⟩] (Aa D.body) E ((btxt D).length-5):=by
  refine .inr ⟨q,if c=5 then 0 else 0+5*1,c-5,c*1,Aa (if c=5 then[]else btag),Aa [],rfl,by omega,by rw[Aa,La0];omega,?_, .inl rfl,?_,?_⟩
  ·split<;>rfl
  ·split<;>omega
  · by_cases h5:c=5
    ·exfalso;have hb:0<D.body.length:=body_pos D;omega
    ·rw[if_neg h5,←bytesV_app,←bytesV_app,Lat];rfl
theorem r15_Bytes(B:Block)(D:DB)(hB:B.ok):Meets prog 80 [agg B.cells] [] (fun W=>BlockIs W B D) (ByR D.check (bytesR D)):=by
 intro W hW;have hsl:=hB.l_fSig;have hsg:=hW.sg;refine Ad func80 J 13 ntmps80 J (G3 ?_);intro n1 hn1 hf1;refine G8 ?_;refine .cV J J J J Body103 (r15_Check B D) (fun w h=>hW.ext h J) (G3 ?_);refine .condNP J (fun hc0=>?_) (fun hc0=>?_)
 ·
  have hq0:¬D.check=0:=by omega
  refine G6 ?_;refine G3 ?_;refine As (out:=[]) (Ca J J J) Ae ?_;rw[dcheck_2 hq0];exact⟨Sl.nil,rfl,by rw[show bytesR D=[]from if_neg hq0];rfl,fun _=>rfl,fun W2 _=>by rw[show bytesR D=[]from if_neg hq0];exact SeesP.nil⟩
 have hq0:D.check=0:=by omega
 obtain⟨h1,h2⟩:=D.head_small hq0;have hvn:(btxt D).length≤4005:=DB.body_small hW.dok oM oM;have hbl5:(btxt D).length=5+D.body.length:=by rw[btxt,La2];rfl
 refine G3 ?_;refine .draw (oPq [100,3,4,301,2,405,6,7]) Aq zK (G3 ?_);refine .call J J J J Body111 (r15_Text B D hB oM oM) (FreshRow.loose _ _ _ _) (fun w h=>hW.ext h J) ?_;rintro v8 out8 ⟨q8,c8,rfl,hc8,rfl⟩;refine .sliceLoN 5 J J J J J oM oM Y33.h Sz5 (.appendO (z:=u8 0) (by':=1) (Aa B.fSig) J J J J J Y33.h Y33.h Sz5 Zr5 (by unfold By;kernel_rfl) J (text_off hc8 hbl5) sG (fun w h=>SeesP.of (sees_part h Z1 (Block.see_fSig hB))) dE (fun e=>by cases e) (A0 _) oM oM (by simp[hsl]) ?_);intro s12 bl12 hac12;refine G4 ?_;refine G2 ?_;refine As (out:=(bl12++[])) (Ca J J J) (Ac sG Ae) ?_;rw[hq0,show bytesR D=D.body++D.sg from if_pos hq0,←hsg,Lat];refine⟨s12,rfl,by rw[hac12.num,La2,hsl];omega,fun e=>by have:=hac12.nilc e;have:=hac12.cap;omega,fun W2 h2=>?_⟩;rw[bytesV_app];exact hac12.see h2
theorem r15_Name(B:Block)(D:DB)(hB:B.ok):Mv 37 [agg B.cells] (fun W=>BlockIs W B D) (agg (Aa (Az D))):=by
 intro W hW;have hvl:(bytesR D).length≤5000:=by
  unfold bytesR;split
  ·rename_i h9;exact D.bytes_small h9 hW.dok
  ·exact Lan _
 obtain⟨k,hk⟩:∃k,Hid (kW=k):=⟨_,⟨rfl⟩⟩;obtain⟨s0,hs0⟩:∃s0,Hid (xorUp 8=s0):=⟨_,⟨rfl⟩⟩;obtain⟨G,hG⟩:∃G,Hid (shaTag=G):=⟨_,⟨rfl⟩⟩;obtain⟨i0,hi0⟩:∃i0,Hid (allW k s0 G=i0):=⟨_,⟨rfl⟩⟩;have hk80:k.length=80:=by rw[←hk.out];rfl
 have hs8:s0.length=8:=by rw[←hs0.out];exact xorUp_length 8
 have hGl:G.length=11:=by rw[←hG.out];rfl
 have hi8:i0.length=8:=by rw[←hi0.out,allW_length];exact hs8
 obtain⟨r,hr⟩:∃r,Hid (allW k i0 (bytesR D)=r):=⟨_,⟨rfl⟩⟩;obtain⟨s,hs⟩:∃s,Hid (sumUp r 64=s):=⟨_,⟨rfl⟩⟩;have hsd:Hid (s.take 32=sha256 (bytesR D)):=⟨by rw[←hs.out,←hr.out,←hi0.out,←hG.out,←hs0.out,←hk.out];rfl⟩;have hs64:s.length=64:=by rw[←hs.out];exact Cs r 64
 have hs32:(s.take 32).length=32:=by rw[Lac,hs64];rfl
 refine Ad func37 J 16 ntmps37 J (G3 ?_);intro n1 hn1 hf1;refine .alloc (cs:=(Aa (List.replicate 32 0))) J Cj J ?_;intro n2 hn2 hf2;refine G5 ?_;refine .call4 J J J J J Body80 (r15_Bytes B D hB) (fun w h=>hW.ext h J) ?_;rintro v7 out7 ⟨s7,rfl,hn7,hp7,hs7⟩;refine G14 ?_;refine .condNP J (fun hc0=>?_) (fun hc0=>?_)
 ·
  have hq0:¬D.check=0:=by omega
  refine G2 ?_;refine .build (cs:=Aa (List.replicate 32 0)) J J J (fun w=>by kernel_rfl) ?_;refine .sA J J J J zE Sz31 sP mR sP (by(repeat(first|exact upd0|apply Upd.seg))) ?_;refine G2 ?_;refine G3 ?_;refine⟨_,[],Aw J J Y31.h J Sz31 mR sP,sP,sP,?_,rfl⟩
  (rw[Az,if_neg hq0];done)
 have hq0:D.check=0:=by omega
 refine G5 ?_;refine .mkRow (z:= .slice none 0 0) [s7.v] [s7.v] rfl J J Y150.h Sz33 Zr33 J J (by intro v hv;rw[La1.1 hv];rfl) dE J ?_;intro q14;refine .cV J J J J Body81 (r2_Sum k s0 i0 G hk hk80 hs0 hs8 hG hGl hi0 hi8 (some ⟨q14,0,none⟩) 1 1 [s7] [bytesR D] rfl J (fun j hj=>(by obtain rfl:j=0:=oM;exact⟨by simp[hn7],hp7⟩)) (bytesR D) sP oM dE r hr s hs) (fun w h=>⟨SeesP.of (An h Z0),fun j hj=>(by obtain rfl:j=0:=oM;exact hs7 w (Lies.of h (by repeat(first|exact Au|refine A3 ?_))))⟩) ?_;refine .sA J J J J zE Sz31 (by(simp[hs64];done)) mR sP uU ?_;refine G2 ?_;refine G2 ?_;refine⟨_,[],Aw J J Y31.h J Sz31 mR (by simp[hs64]),sP,sP,?_,rfl⟩
 (rw[Az,if_pos hq0,←show bytesR D=D.bytes from if_pos hq0,hsd.out];done)
theorem r15_parents_nil(B:Block)(hB:B.ok)(ls:List (List UInt8))(hn:B.fLinks.n≤500000)(hs:(B.fSeq.toNat:Int)=0)(h0:B.fLinks.n=0):Mv 39 [agg B.cells] (fun W=>RowsAt W B.fLinks 32 ls) (.slice none 0 0):=by
 intro W hW;have hl0:∃p c,B.fLinks.v= .slice p 0 c:=⟨_,_,by rw[Sl.v,h0]⟩;obtain⟨p9,c9,hl9⟩:=hl0;have hg9:=Block.get_fLinks hB;rw[hl9]at hg9;refine Ad func39 J 16 ntmps39 J (G3 ?_);intro n1 hn1 hf1;refine G13 ?_;refine .gtr J J J J (decide_eq_false oM) (G2 ?_);refine .cond_f J (rfl) (G6 ?_);refine .load1 J J J Y32.h J Z0 hg9 ?_;refine .appendNilNil J J J J Y32.h Y32.h Sz31 (G3 ?_);refine G2 ?_;refine⟨_,[],Af J J,sP,sP,?_,rfl⟩;rfl
theorem r15_parents_0(B:Block)(hB:B.ok)(ls:List (List UInt8))(hn:B.fLinks.n≤500000)(hs:(B.fSeq.toNat:Int)=0)(h0:0<B.fLinks.n):Meets prog 39 [agg B.cells] [] (fun W=>RowsAt W B.fLinks 32 ls) (fun v out=>FreshRow v out (Av ls) 31 B.fLinks.n 32):=by
 intro W hW;refine Ad func39 J 16 ntmps39 J (G3 ?_);intro n1 hn1 hf1;refine G13 ?_;refine .gtr J J J J (decide_eq_false oM) (G2 ?_);refine .cond_f J (rfl) (G7 ?_);refine .appendToNil (z:=agg (Aa (List.replicate 32 0))) (by':=32) (Av ls) J J J J Y32.h Y32.h Sz31 Cj (by unfold By;kernel_rfl) J (fun w h=>A5 h J hW.see) h0 (fun e=>by have:=hW.nil e;have:=hW.cap;omega) (flatB_cell ls) oM oM (by rw[A2 hW.row,hW.len]) ?_;intro q1 c1 hq1;refine G3 ?_;refine G2 ?_;refine⟨_,[⟨q1,Av ls,31,c1*32⟩],Af J J,(by intro b hb;rw[La1.1 hb];exact Cb),nodup1,⟨q1,c1,rfl,hq1,rfl⟩⟩
theorem r15_parents_s(B:Block)(hB:B.ok)(ls:List (List UInt8))(hn:B.fLinks.n≤500000)(hs:¬(B.fSeq.toNat:Int)=0):Meets prog 39 [agg B.cells] [] (fun W=>RowsAt W B.fLinks 32 ls) (fun v out=>FreshRow v out (Av (B.fPrev::ls)) 31 (1+B.fLinks.n) 32):=by
 intro W hW;refine Ad func39 J 16 ntmps39 J (G3 ?_);intro n1 hn1 hf1;refine G13 ?_;refine .gtr J J J J (decide_eq_true oM) (G2 ?_);refine .cond_t J (rfl) (G3 ?_);refine .lN (Aa _) J J J Y31.h J Sz31 Z0 (Block.row_fPrev zA) (Block.rl_fPrev zA) ?_;refine .mkRow (z:=agg (Aa (List.replicate 32 0))) [agg (Aa B.fPrev)] (Aa B.fPrev) J J J Y32.h Sz31 Cj J J (by intro v hv;rw[La1.1 hv];simp[Value.cells,hB.l_fPrev]) dE (by simp[Value.cells]) ?_;intro q0;refine .appendToNil (z:=agg (Aa (List.replicate 32 0))) (by':=32) (Aa B.fPrev) J J J J Y32.h Y32.h Sz31 Cj (by unfold By;kernel_rfl) J (fun w h=>SeesP.of (An h Cb)) dE (fun e=>by cases e) (by simp[Aa,isCell,u8]) dE dE (by simp[hB.l_fPrev]) ?_;intro q1 c1 hq1;refine G8 ?_;refine .appendSl (z:=agg (Aa (List.replicate 32 0))) (by':=32) (Av ls) J J J J J Y32.h Y32.h Sz31 Cj (by unfold By;kernel_rfl) J (fun w h=>A5 h J hW.see) (fun e=>by have:=hW.nil e;have:=hW.cap;omega) (flatB_cell ls) A9 J (by simp[hB.l_fPrev]) hq1 oM oM (by rw[A2 hW.row,hW.len]) ?_;intro q2 c2 hq2;refine G3 ?_;refine G2 ?_;refine⟨_,[⟨q2,Aa B.fPrev++Av ls,31,c2*32⟩],Af J J,(by intro b hb;rw[La1.1 hb];exact Cb),nodup1,⟨q2,c2,rfl,hq2,rfl⟩⟩
def RowsR(L:List (List UInt8))(v:Value)(out:List Blk):Prop:=∃s:Sl,v=s.v∧s.n=L.length∧∀W2,Lies out W2→SeesP W2 s.p (Av L)
def Bo(D:DB):List (List UInt8):=if D.seq=0 then D.ls else D.prev::D.ls
theorem parL_row(h:D.ok):∀l∈Bo D,l.length=32:=by
  intro l hl;unfold Bo at hl;split at hl
  ·exact h.ls l hl
  · rcases Laj.1 hl with rfl|hl
    ·exact h.prev
    ·exact h.ls l hl
theorem RowsR.loose{L:List (List UInt8)}(hr:∀l∈L,l.length=32):Loose (RowsR L):=fun l hl=>by
  obtain⟨v,out,⟨q,c,h1,h2,h3⟩,h4⟩:=FreshRow.loose (Av L) 31 L.length 32 l hl;exact⟨v,out,⟨⟨some ⟨q,0,none⟩,L.length,c⟩,h1,rfl,fun W2 h=>by subst h3;exact(Acc.some (E:=31) h2 (A2 hr)).see h⟩,h4⟩
end Go.Proofs.YtgjnomgkddbhcaaGreat
namespace Go.Proofs.YtgjnomgkddbhcaaGreat
open Go Hw _root_.Go.Proofs.Tryz
variable{W:World}{b c:Nat}{z:Value}{ν:Type}{ev:ν→Value}{fs:List (List UInt8×ν)}
theorem key_seqB(M:MOk prog 89 31 37 (Ao 32 ev) z)(hb:BlkOk W (A4 b (Ao 32 ev) fs))(hc:CapM W c b)(hcl:c<W.heap.size):KeySeq prog 144 #[ptr c 0] (fs.map (·.1)) W:=by
  intro σ X vis s0 names l w1 hk hn hv hH hY;obtain⟨es,clock,h1,F⟩:=hb.map;have hb1:w1.heap[b]? =some (.map es clock):=(hk.block b hb.lt sP).trans h1;have hbn:b∉names:=fun h=>by have:=hn b h;have:=hb.lt;simp only at this;omega
  have hcn:c∉names:=fun h=>by have:=hn c h;omega
  have hc1:CapM w1 c b:=by
    unfold CapM World.cell? at hc ⊢;rw[hk.block c hcl sP];exact hc
  have hcl1:c<w1.heap.size:=Lbp hcl hk.size;refine callsIn_wide.2 ((keys_iterB M X vis s0 names l c b fs es clock w1 F hv hbn hcn w1 ⟨rfl,hH,hb1,hc1,hcl1,fun s k h32 hvl W2 h=>hY s k h32 (by simpa using hvl) W2 h⟩).mono fun e W' ⟨v,out,he,⟨_,s,hp,ho⟩,hr⟩=>⟨⟨v,he⟩,s,hp,?_⟩);subst ho;exact⟨hr.cells,hr.nodup,hr.own,hr.keeps,fun _ h=>(by cases h),fun _ _ _ h=>(by cases h)⟩
theorem key_seqU(M:MOk prog 88 31 110 (Ao 32 ev) z)(hb:BlkOk W (A4 b (Ao 32 ev) fs))(hc:CapM W c b)(hcl:c<W.heap.size):KeySeq prog 145 #[ptr c 0] (fs.map (·.1)) W:=by
  intro σ X vis s0 names l w1 hk hn hv hH hY;obtain⟨es,clock,h1,F⟩:=hb.map;have hb1:w1.heap[b]? =some (.map es clock):=(hk.block b hb.lt sP).trans h1;have hbn:b∉names:=fun h=>by have:=hn b h;have:=hb.lt;simp only at this;omega
  have hcn:c∉names:=fun h=>by have:=hn c h;omega
  have hc1:CapM w1 c b:=by
    unfold CapM World.cell? at hc ⊢;rw[hk.block c hcl sP];exact hc
  have hcl1:c<w1.heap.size:=Lbp hcl hk.size;refine callsIn_wide.2 ((keys_iterU M X vis s0 names l c b fs es clock w1 F hv hbn hcn w1 ⟨rfl,hH,hb1,hc1,hcl1,fun s k h32 hvl W2 h=>hY s k h32 (by simpa using hvl) W2 h⟩).mono fun e W' ⟨v,out,he,⟨_,s,hp,ho⟩,hr⟩=>⟨⟨v,he⟩,s,hp,?_⟩);subst ho;exact⟨hr.cells,hr.nodup,hr.own,hr.keeps,fun _ h=>(by cases h),fun _ _ _ h=>(by cases h)⟩
theorem KeySeq.keep{P:Program}{gf:Nat}{lb:Array Value}{keys:List (List UInt8)}{C:Cx}{hp:List Blk}{w:World}(h:KeySeq P gf lb keys C.W0)(hh:HRep C hp w)(hl:C.lent=[]:=by rfl):KeySeq P gf lb keys w:=by
  intro σ X vis s0 names l w1 hk hn hv hH hY;have k0:=hh.keeps;rw[hl]at k0;exact h σ X vis s0 names l w1 (k0.trans hk) (fun n hm=>Lbb k0.size (hn n hm)) hv hH hY
theorem append_keys(gf:Nat)(lb:Array Value)(keys:List (List UInt8))(hgf:Ay prog gf)(hkn:keys.length≤100000):Meets prog 135 [.slice none 0 0, .func (.func gf) #[] lb] [] (fun W=>KeySeq prog gf lb keys W) (fun v out=>∃(s:Sl) (ks:List (List UInt8)),ks.Perm keys∧v=s.v∧Hw.Acc s out (Av ks) 31 ks.length 32):=by
  intro W hW;refine calls_rangeR (hp0:=[]) func135 rfl 13 ntmps135 rfl (HRep.nil _) ?_;refine Sat.region ?_;refine Tr.box1 rfl rfl rfl ?_;intro n2 hn2 hf2;refine G7 ?_;refine⟨gf,lb,{t:Sl×List Blk×List (List UInt8)//Hw.Acc t.1 t.2.1 (Av t.2.2) 31 t.2.2.length 32},fun t=>⟨n2,[t.1.1.v],32,1⟩::t.1.2.1,⟨(Sl.nil,[],[]),Acc.none⟩,[n2],(fun t v=>∃k,v=agg (Aa k)∧k.length=32∧t.1.2.2.length<keys.length),(fun t v t2=>∃k,v=agg (Aa k)∧t2.1.2.2=t.1.2.2++[k]),(fun t=>t.1.2.2.Perm keys),(fun sl t v st=>∃k n5 m5,v=agg (Aa k)∧st=⟨(5,ptr n5 0)::(7,v)::sl,⟨n5,Aa k,31,m5⟩::⟨n2,[t.1.1.v],32,1⟩::t.1.2.1⟩),rfl,rfl,hgf,dE,rfl,?_,?_,?_,?_⟩
  ·
    intro l w1 hk hh hy;refine(hW _ (fun t: {t:Sl×List Blk×List (List UInt8)//Hw.Acc t.1 t.2.1 (Av t.2.2) 31 t.2.2.length 32}=>⟨n2,[t.1.1.v],32,1⟩::t.1.2.1) (fun t=>t.1.2.2) ⟨(Sl.nil,[],[]),Acc.none⟩ [n2] l w1 hk (fun n hn=>by rw[La1.1 hn];exact hn2) rfl hh fun s k h32 hvl W2 h=>?_);obtain⟨fn,tmps,ae,bd,hrun,hR⟩:=hy s (agg (Aa k)) ⟨k,rfl,h32,hvl⟩ W2 h;exact⟨fn,tmps,ae,bd,hrun,RoundIn.mono hR fun e W3 ⟨he,s2,⟨k2,e2,hs2⟩,hr⟩=>⟨he,s2,by rw[agg_bytes_inj e2];exact hs2,hr⟩⟩
  ·
    intro t v hok l W2 ns hns hh;obtain⟨k,rfl,hk32,hlt⟩:=hok;refine SatI.region zK ?_;refine Tr.alloc (cs:=(Aa (List.replicate 32 0))) rfl Cj rfl ?_;intro n5 hn5 hf5;refine Tr.sA rfl rfl rfl rfl zE Sz31 (by(rw[Aa,La0];assumption)) Z0 sP zU ?_;refine Tr.nil ?_;exact⟨k,_,_,rfl,rfl⟩
  ·
    intro t v hok st hmid l W2 ns hns hh;obtain⟨k,n5,m5,rfl,rfl⟩:=hmid;obtain⟨k1,ek,hk32,hlt⟩:=hok;obtain rfl:=agg_bytes_inj ek;refine SatI.block ?_;refine SatI.region zK ?_;refine G1 ?_;refine Tr.lA rfl rfl rfl Y31.h rfl Sz31 Z0 (by(rw[Aa,La0];assumption)) ?_;refine Tr.mkRow2 (z:=agg (Aa (List.replicate 32 0))) [agg (Aa k)] (Aa k) rfl rfl Y32.h Sz31 Cj rfl rfl (by intro v hv;rw[La1.1 hv];simp[Value.cells,Aa,hk32]) dE (by simp[Value.cells,agg]) ?_;intro q10;refine Tr.appendAcc (z:=agg (Aa (List.replicate 32 0))) (by':=32) (Aa k) rfl rfl rfl rfl rfl Y32.h Y32.h Sz31 Cj (by unfold By;kernel_rfl) rfl t.2 (by repeat(first|exact Df|apply sg_there)) (fun w h=>SeesP.of (An h Z0)) (fun e=>by cases e) (A0 _) oM oM (by rw[Aa,La0,hk32]) ?_;intro s11 bl11 hac11;refine Tr.s1 rfl rfl rfl rfl rfl Sz32 mR sP (by rfl) uU ?_;refine Tr.nil ?_;refine⟨⟨(s11,bl11,t.1.2.2++[k]),by simpa[Cf,Av]using hac11⟩,_,⟨k,rfl,rfl⟩,(Ab rM sG)⟩
  intro t hdn D W2 ns hns;skip;refine G6 ?_;refine Sat.ret ?_;refine enA_r ?_;refine endA_perm (out:=(t.1.2.1++[])) (fun W names=>Af rfl rfl) (Ac (by repeat(first|exact Df|apply sg_there)) Ae) ?_;exact⟨t.1.1,t.1.2.2,hdn,rfl,by simpa using t.2⟩
theorem collect_keys(gf:Nat)(lb:Array Value)(keys:List (List UInt8))(hgf:Ay prog gf)(hkn:keys.length≤100000):Meets prog 98 [.func (.func gf) #[] lb] [] (fun W=>KeySeq prog gf lb keys W) (fun v out=>∃(s:Sl) (ks:List (List UInt8)),ks.Perm keys∧v=s.v∧Hw.Acc s out (Av ks) 31 ks.length 32):=by
 intro W hW;refine Ad func98 J 5 ntmps98 J (G8 ?_);refine .call4 J J J J J Body135 (append_keys gf lb keys hgf hkn) (fun w h=>hW.keep h) ?_;rintro v4 out4 ⟨s4,ks,hp,rfl,hac⟩;refine G3 ?_;refine G2 ?_;refine As (out:=(out4++[])) (Af J J) (Ac sG Ae) ?_;exact⟨s4,ks,hp,rfl,by simpa using hac⟩
open Go.RowKit Go.Shelf Go.Lib Go.Sort
set_option maxHeartbeats 2000000
theorem bytes70(W:World){p q:Option Addr}{c1 c2 n m:Nat}{a b:List UInt8}(ha:a.length=n)(hb:b.length=m)(h1:SeesP W p (Aa a))(h2:SeesP W q (Aa b)):Calls prog 96 #[.slice p n c1, .slice q m c2] W fun e w'=>e= .returned (i64 (C7 a b))∧w'=W:=by
  have hr:=bytealg_run (w:=W) (c1:=c1) (c2:=c2) ha hb h1 h2;rw[show[Value.slice p n c1,Value.slice q m c2].toArray= #[.slice p n c1, .slice q m c2]from rfl]at hr;generalize C7 a b=r at hr ⊢;clear h1 h2 ha hb
  go_enter func96,ntmps96
  go_wp2
  go_ret
  exact⟨rfl,rfl⟩
theorem cmp47(x y:List UInt8)(hx:x.length=32)(hy:y.length=32)(W:World):Calls prog 58 #[agg (Aa x),agg (Aa y)] W fun e w'=>e= .returned (i64 (C7 x y))∧∃q os',w'=grow (W.drewN q) os':=by
  obtain⟨r,hr⟩:∃r,C7 x y=r:=⟨_,rfl⟩;rw[hr];have hs:∀W':World,(∀i,i<W.heap.size+2→W'.heap[i]? =((W.alloc (.cells (Aa x).toArray 31)).alloc (.cells (Aa y).toArray 31)).heap[i]?)→Calls prog 96 #[.slice (some ⟨W.heap.size,0,none⟩) 32 32, .slice (some ⟨W.heap.size+1,0,none⟩) 32 32] W' fun e w'=>e= .returned (i64 r)∧w'=W':=fun W' h=>by
    rw[←hr];refine bytes70 W' hx hy (SeesP.of fun j v hj=>?_) (SeesP.of fun j v hj=>?_)
    · have e:=h W.heap.size oM
      have e2:((W.alloc (.cells (Aa x).toArray 31)).alloc (.cells (Aa y).toArray 31)).heap[W.heap.size]? =some (.cells (Aa x).toArray 31):=by
        show((W.heap.push _).push _)[W.heap.size]? =_;rw[Lbw,if_neg sP,Lbw,if_pos rfl]
      rw[e2]at e;simpa[World.cell?,e]using hj
    · have e:=h (W.heap.size+1) oM
      have e2:((W.alloc (.cells (Aa x).toArray 31)).alloc (.cells (Aa y).toArray 31)).heap[W.heap.size+1]? =some (.cells (Aa y).toArray 31):=by
        show((W.heap.push _).push _)[W.heap.size+1]? =_;rw[Lbw,if_pos sP]
      rw[e2]at e;simpa[World.cell?,e]using hj
  go_enter func58,ntmps58
  go_wp2
  generalize hw2:(W.alloc (.cells (Aa x).toArray 31)).alloc (.cells (Aa y).toArray 31)=w2 at hs ⊢
  go_quiet ((go_at_call 96;exact Calls.quiet_of_same (hs _ (fun i hi=>rfl))))
  go_wp2
  go_ret
  refine⟨rfl,nq, #[.cells (Aa x).toArray 31, .cells (Aa y).toArray 31],?_⟩;rw[←hw2,alloc_eq_grow,alloc_eq_grow,grow_grow];rfl
abbrev L32:={l:List UInt8//l.length=32}
instance:Inhabited L32:=⟨⟨List.replicate 32 0,by simp⟩⟩
def cf32(x y:L32):Int:=C7 x.1 y.1
theorem lt32(x y:L32):ltOf cf32 x y=decide (C7 x.1 y.1<0):=rfl
theorem swo32:SWO (ltOf cf32) where
  irrefl x:=by rw[lt32,cmpB_self];rfl
  trans x y z h1 h2:=by
    rw[lt32]at*;simp only[decide_eq_true_eq]at*;exact(cmpB_trans _ _ _ oM oM).2 (.inl h1)
  ntrans x y z h1 h2:=by
    rw[lt32]at*;simp only[decide_eq_false_iff_not]at*;have e1:=cmpB_neg x.1 y.1;have e2:=cmpB_neg y.1 z.1;have e3:=cmpB_neg x.1 z.1;have:=(cmpB_trans z.1 y.1 x.1 oM oM).1;omega
theorem enc32_cells(x:L32):∀v∈Aa x.1,v.oneCell'=true:=fun v hv=>by
  obtain⟨u,_,rfl⟩:=La6.1 hv;rfl
def up32(ks:List (List UInt8))(h:∀l∈ks,l.length=32):List L32:=ks.attach.map fun x=>⟨x.1,h x.1 x.2⟩
theorem up32_val(ks:List (List UInt8))(h:∀l∈ks,l.length=32):(up32 ks h).map (·.1)=ks:=by
  unfold up32;rw[Lhd];show ks.attach.map Subtype.val=ks;simp
theorem flatK_list(d:Array L32):∀(j:Nat) (v:Value),(Av (d.toList.map (·.1)))[j]? =some v→j<d.size*32∧(flatK (fun x:L32=>Aa x.1) 32 d)[j]! =v:=fun j v hj=>by
  have h32:∀l∈d.toList.map (·.1),l.length=32:=fun l hl=>by obtain⟨x,_,rfl⟩:=La6.1 hl;exact x.2
  have hlen:=A2 h32;have hlt:=(Laa.1 hj).1;rw[hlen]at hlt;have hlt2:j<d.size*32:=by simpa using hlt
  refine⟨hlt2,?_⟩;rw[get_flatK _ _ _ _ hlt2];have hi:j/32<d.size:=by omega
  have hc:((d.toList.map (·.1)).map Aa)[j/32]? =some (Aa d[j/32]!.1):=by
    rw[Lam,Lam];have:d.toList[j/32]? =some d[j/32]! :=by simp[hi]
    rw[this];rfl
  have hm:j%32<(Aa d[j/32]!.1).length:=by rw[Aa,La0,d[j/32]!.2];omega
  have:=flat_get (m:=32) (fun l hl=>flatB_all h32 l hl) hc hm;have e:j/32*32+j%32=j:=by omega
  rw[e]at this;have hj2:((d.toList.map (·.1)).map Aa).flatten[j]? =some v:=hj;rw[hj2]at this;rw[Lgk,←this];rfl
def SortB(ks:List (List UInt8)):Prop:=ks.Pairwise fun a b=>C7 a b≤0
theorem sort_digs(q n c m:Nat)(ks:List (List UInt8))(h32:∀l∈ks,l.length=32)(hl:ks.length=n)(hbig:n≤1000000)(hm:n*32≤m):Meets prog 54 [.slice (some ⟨q,0,none⟩) n c, .func (.func 58) #[] #[]] [q] (fun W=>BlkOk W ⟨q,Av ks,31,m⟩)
    (fun v out=>v= .tuple #[]∧∃ks':List (List UInt8),ks'.Perm ks∧SortB ks'∧out=[⟨q,Av ks',31,m⟩]):=fun W hb=>by
  obtain⟨d,hd⟩:∃d:Array L32,d=(up32 ks h32).toArray:=⟨_,rfl⟩;have hdl:d.toList.map (·.1)=ks:=by rw[hd];exact up32_val ks h32
  have hds:d.size=n:=by rw[←hl,←hdl];simp
  have hb0:∃full fr,BlkAt W ⟨q,Av ks,31,m⟩ full fr:=hb;obtain⟨full,fr,hbk⟩:=hb0;have hfl:=A2 h32;have hH:HoldsK (fun x:L32=>Aa x.1) 32 W q 0 d:=fun j hj=>by
    rw[size_flatK]at hj;have hj2:j<(Av ks).length:=by rw[hfl,hl,←hds];exact hj
    have h1:=La3 hj2;have h2:=(flatK_list d j _ (by rw[hdl];exact h1)).2;rw[h2];exact⟨hb.cell (b:=⟨q,Av ks,31,m⟩) (by simpa using h1),hbk.unfrozen (by show 0+j<m;omega)⟩
  have eg:∀args w,(callFunc 58 args).run prog w= .ok (.enter 58 args) w:=enters_of func58 zK rfl;have hcmp:CmpLays prog 58 #[] (fun x:L32=>Aa x.1) 32 cf32 q 0 d.size W:=fun k os dk hk x y=>cmp47 x.1 y.1 x.2 y.2 _;have hz25:∀w,(Go.sizeOf (sortD_ren.t 24)).run prog w= .ok 32 w:=by
    intro w;have e:sortD_ren.t 24=31:=by rfl
    rw[e];exact Ck Sz31 w
  have hcon:=AnyQ.slices_SortFunc sortD 32 (fun w=>run_isAgg_arr Y31.h rfl w) (fun w=>hz25 w) (fun x:L32=>Aa x.1) (fun x=>by rw[Aa,La0,x.2]) enc32_cells cf32 swo32 58 #[] q 0 c d W eg hcmp hH hb.lt oM;have hcon2:Calls prog 54 #[.slice (some ⟨q,0,none⟩) d.size c, .func (.func 58) #[] #[]] W _:=hcon;rw[hds]at hcon2;refine hcon2.mono fun e W' ⟨he,d',k,os,hp,hs,hw⟩=>?_;subst hw;have hsz':d'.size=d.size:=hp.1;obtain⟨ks',hk'⟩:∃ks',ks'=d'.toList.map (·.1):=⟨_,rfl⟩;have h32':∀l∈ks',l.length=32:=fun l hl=>by rw[hk']at hl;obtain⟨x,_,rfl⟩:=La6.1 hl;exact x.2
  have hlen':ks'.length=n:=by rw[hk'];simp[hsz',hds]
  have hperm:ks'.Perm ks:=by
    rw[hk',←hdl];refine List.Perm.map _ ?_;have h3:=hp.2.2;have e1:d.extract 0 d.size=d:=by simp
    have e2:d'.extract 0 d.size=d':=by rw[←hsz'];simp
    rw[←hds]at h3;rwa[e1,e2]at h3
  have hsort:SortB ks':=by
    rw[hk'];refine Lgx.2 (Ldr.2 fun i j hi hj hij=>?_);have h4:=hs i j (Lan _) hij (by rw[←hds,←hsz'];simpa using hj);rw[lt32,decide_eq_false_iff_not]at h4;have hi2:i<d'.size:=by simpa using hi
    have hj2:j<d'.size:=by simpa using hj
    rw[getElem!_pos d' j hj2,getElem!_pos d' i hi2]at h4;have:=cmpB_neg d'.toList[i].1 d'.toList[j].1;simp only[Array.getElem_toList]at this ⊢;omega
  refine⟨_,_,he,⟨rfl,ks',hperm,hsort,rfl⟩,⟨⟨rfl,rfl,rfl,?_,Lha W.drawn k,fun i hi hn=>?_⟩,fun b hb2=>?_,by simp,fun b hb2=>?_⟩⟩
  ·simp[sortWorldK,grow,putRowK]
  · have hne:i≠q:=by simpa using hn
    simp only[sortWorldK,grow,putRowK,putRow,mapBlock];rw[Ldo (by simpa using hi),Ldw];rw[if_neg (fun e:q=i=>hne e.symm)];rfl
  · rw[La1.1 hb2]
    have hq:W.heap[q]? =some (.cells full 31 fr):=hbk.heap;have hql:q<W.heap.size:=hb.lt;refine⟨putCells id 0 (flatK (fun x:L32=>Aa x.1) 32 d') full,fr,?_,by simpa[putCells]using hbk.size,?_,hbk.free⟩
    · simp only[sortWorldK,grow,putRowK,putRow,mapBlock]
      rw[Ldo (by simpa using hql),Ldw,if_pos rfl,show(Go.Sort.ahead W k).heap[q]? =some (Obj.cells full 31 fr)from hq];rfl
    · have hms:=hbk.size
      simp only at hms;rw[prefix_iff];intro j v hj;simp only at hj;have hf:=flatK_list d' j v (by rw[←hk'];exact hj);simp only[putCells,Ldv,Array.getElem?_mapIdx];have hjf:j<full.size:=by rw[hms];have:=hf.1;omega
      rw[Lcw hjf];simp only[Lbg,La7,Lan,true_and,Lb2,size_flatK,Lgj];rw[if_pos hf.1,hf.2];rfl
  ·rw[La1.1 hb2];exact .inr sP
theorem sort_none(p:Option Addr)(c:Nat):Mv 54 [.slice p 0 c, .func (.func 58) #[] #[]] (fun _=>True) (.tuple #[]):=fun W _=>by
  have hcon:=AnyF.slices_SortFunc_none sortD p c (.func (.func 58) #[] #[]) W;have hcon2:Calls prog 54 #[.slice p 0 c, .func (.func 58) #[] #[]] W _:=hcon;refine hcon2.mono fun e W' h=>?_;obtain⟨he,hw⟩:=h;subst hw;exact⟨_,[],he,⟨rfl,rfl⟩,⟨Keeps.refl _ _,fun b hb=>(by cases hb),Ld0,fun b hb=>(by cases hb)⟩⟩
end Go.Proofs.YtgjnomgkddbhcaaGreat
namespace Go.Proofs.YtgjnomgkddbhcaaGreat
open Go Hw _root_.Go.Proofs.Tryz
variable{C:Cx}{T:TypeId}{hp:List Blk}{w:World}{z:Value}{ν:Type}{ev:ν→Value}
theorem sort_acc(s:Sl)(bl:List Blk)(ks:List (List UInt8))(h32:∀l∈ks,l.length=32)(hbig:ks.length≤1000000)(hac:Hw.Acc s bl (Av ks) 31 ks.length 32):Meets prog 54 [s.v, .func (.func 58) #[] #[]] (bl.map (·.n)) (fun W=>Lies bl W)
    (fun v out=>v= .tuple #[]∧∃ks':List (List UInt8),ks'.Perm ks∧SortB ks'∧Hw.Acc s out (Av ks') 31 ks.length 32):=by
  rcases hac with ⟨rfl,rfl,hz,hn⟩|⟨q,c,rfl,hnc,hfl,rfl⟩
  · obtain rfl:=Lag hn
    intro W _;exact(sort_none none 0 W trivial).mono fun e W' ⟨v,out,he,⟨hv,ho⟩,hr⟩=>⟨v,out,he,⟨hv,[],Ld1 _,List.Pairwise.nil, .inl ⟨rfl,ho,rfl,rfl⟩⟩,hr⟩
  · intro W hW
    have hb:BlkOk W ⟨q,Av ks,31,c*32⟩:=hW _ (La1.2 rfl);refine(sort_digs q ks.length c (c*32) ks h32 rfl hbig (Lep 32 hnc) W hb).mono fun e W' ⟨v,out,he,⟨hv,ks',hp,hs,ho⟩,hr⟩=>⟨v,out,he,⟨hv,ks',hp,hs,?_⟩,hr⟩;have h32':∀l∈ks',l.length=32:=fun l hl=>h32 l (hp.mem_iff.1 hl);exact .inr ⟨q,c,rfl,hnc,by rw[A2 h32',hp.length_eq],ho⟩
theorem mblk_keep{B:Blk}(h:BlkOk C.W0 B)(hh:HRep C hp w)(hl:C.lent=[]:=by rfl):BlkOk w B:=
  h.of_heap (hh.keeps.block B.n h.lt (by rw[hl];simp))
theorem CapM.of_own{c b:Nat}(hh:HRep C hp w)(hc:(⟨c,[.map (some b)],T,1⟩:Blk)∈hp):CapM w c b∧c<w.heap.size:=
  ⟨(hh.cells _ hc).cell (o:=0) rfl,(hh.cells _ hc).lt⟩
theorem sorted_keys(gf:Nat)(lb:Array Value)(keys:List (List UInt8))(hgf:Ay prog gf)(hkn:keys.length≤100000)(hk32:∀l∈keys,l.length=32):Meets prog 60 [.func (.func gf) #[] lb, .func (.func 58) #[] #[]] [] (fun W=>KeySeq prog gf lb keys W) (fun v out=>∃(s:Sl) (ks:List (List UInt8)),ks.Perm keys∧SortB ks∧v=s.v∧Hw.Acc s out (Av ks) 31 ks.length 32):=by
 intro W hW;refine Ad func60 J 12 ntmps60 J (G8 ?_);refine .call4 J J J J J Body98 (collect_keys gf lb keys hgf hkn) (fun w h=>hW.keep h) ?_;rintro v7 out7 ⟨s7,ks,hp,rfl,hac⟩;refine G7 ?_;refine .callL (L:=out7) J J J J J Body54 (sort_acc s7 out7 ks (fun l hl=>hk32 l (hp.mem_iff.1 hl)) (by have:=hp.length_eq;omega) hac) sG (C5 J) (fun w h=>Lies.of h (by repeat(exact Au))) ?_;rintro v10 out10 ⟨rfl,ks2,hp2,hs2,hac2⟩;refine G8 ?_;refine G2 ?_;refine As (out:=(out10++[])) (Af J J) (Ac sG Ae) ?_;exact⟨s7,ks2,hp2.trans hp,hs2,rfl,by rw[hp2.length_eq];simpa using hac2⟩
theorem dag_sortedB(M:MOk prog 89 31 37 (Ao 32 ev) z)(b:Nat)(fs:List (List UInt8×ν))(h32:∀p∈fs,p.1.length=32)(hn:fs.length≤100000):Meets prog 64 [.map (some b)] [] (fun W=>BlkOk W (A4 b (Ao 32 ev) fs)) (fun v out=>∃(s:Sl) (ks:List (List UInt8)),ks.Perm (fs.map (·.1))∧SortB ks∧v=s.v∧Hw.Acc s out (Av ks) 31 ks.length 32):=by
 intro W hW;refine Ad func64 J 6 ntmps64 J (G8 ?_);refine .call4 J J J J J Body101 (mk_keysB b) tV ?_;rintro v4 out4 ⟨c,rfl,rfl⟩;refine .call4 J J J J J Body60 (sorted_keys 144 #[ptr c 0] (fs.map (·.1)) Body144 (by simpa using hn) (fun l hl=>by obtain⟨p,hp,rfl⟩:=La6.1 hl;exact h32 p hp)) (fun w h=>key_seqB M (mblk_keep (B:=A4 b (Ao 32 ev) fs) hW h) (CapM.of_own h Z0).1 (CapM.of_own h Z0).2) ?_;rintro v5 out5 ⟨s5,ks,hp,hs,rfl,hac⟩;refine G3 ?_;refine G2 ?_;refine As (out:=(out5++[])) (Af J J) (Ac sG Ae) ?_;exact⟨s5,ks,hp,hs,rfl,by simpa using hac⟩
theorem dag_sortedU(M:MOk prog 88 31 110 (Ao 32 ev) z)(b:Nat)(fs:List (List UInt8×ν))(h32:∀p∈fs,p.1.length=32)(hn:fs.length≤100000):Meets prog 67 [.map (some b)] [] (fun W=>BlkOk W (A4 b (Ao 32 ev) fs)) (fun v out=>∃(s:Sl) (ks:List (List UInt8)),ks.Perm (fs.map (·.1))∧SortB ks∧v=s.v∧Hw.Acc s out (Av ks) 31 ks.length 32):=by
 intro W hW;refine Ad func67 J 6 ntmps67 J (G8 ?_);refine .call4 J J J J J Body102 (mk_keysU b) tV ?_;rintro v4 out4 ⟨c,rfl,rfl⟩;refine .call4 J J J J J Body60 (sorted_keys 145 #[ptr c 0] (fs.map (·.1)) Body145 (by simpa using hn) (fun l hl=>by obtain⟨p,hp,rfl⟩:=La6.1 hl;exact h32 p hp)) (fun w h=>key_seqU M (mblk_keep (B:=A4 b (Ao 32 ev) fs) hW h) (CapM.of_own h Z0).1 (CapM.of_own h Z0).2) ?_;rintro v5 out5 ⟨s5,ks,hp,hs,rfl,hac⟩;refine G3 ?_;refine G2 ?_;refine As (out:=(out5++[])) (Af J J) (Ac sG Ae) ?_;exact⟨s5,ks,hp,hs,rfl,by simpa using hac⟩
abbrev EV:=DEnt×DB
abbrev BV:=Block×DB
structure RV where
  s:Sl
  bl:List Blk
  ks:List (List UInt8)
def RV.none:RV:=⟨Sl.nil,[],[]⟩
structure RV.ok(r:RV):Prop where
  acc:Hw.Acc r.s r.bl (Av r.ks) 31 r.ks.length 32
  r32:∀l∈r.ks,l.length=32
theorem RV.none_ok:RV.none.ok:=⟨.inl ⟨rfl,rfl,rfl,rfl⟩,fun l h=>by cases h⟩
abbrev evE(x:EV):Value:=agg x.1.cells
abbrev evB(x:BV):Value:=agg x.1.cells
abbrev evU(_:Unit):Value:=agg []
abbrev evR(r:RV):Value:=r.s.v
theorem A25:WideMaps.ArrKey prog 31 5 32:=⟨Y31.h,by kernel_rfl,by kernel_rfl,by kernel_rfl⟩
theorem A23:WideMaps.ArrKey prog 29 5 32:=⟨Y29.h,by kernel_rfl,by kernel_rfl,by kernel_rfl⟩
theorem K25:Maps.Keyed prog 31:= .of_law (deep_law (m:=3) dE zK zK (by rw[Y31.h]))
theorem K23:Maps.Keyed prog 29:= .of_law (deep_law (m:=3) dE zK zK (by rw[Y29.h]))
theorem K87:Maps.Keyed prog 101:= .of_law (deep_law (m:=4) dE zK zK (by rw[underlying101]))
theorem size_pos:∃m,prog.types.size=m+1:=⟨prog.types.size-1,by kernel_rfl⟩
theorem size_two:∃m,prog.types.size=m+2:=⟨prog.types.size-2,by kernel_rfl⟩
theorem zr_run{v:Value}(h:Zr prog T v)(w:World):(zeroValue T).run prog w= .ok v w:=by
  unfold Zr at h;cases hi:prog.info? T with
  |none=>rw[hi]at h;cases h
  | some i=>
    rw[hi]at h;simp only[Lc2]at h;simp[zeroValue,typeInfo,hi,h]
theorem ME:MOk prog 87 31 98 (Ao 32 evE) (agg DEnt.zero.cells):=bytesT_ok _ Y87.h A25 Y5.h size_pos K25 (zr_run DEnt.zr)
theorem MH:MOk prog 88 31 110 (Ao 32 evU) (agg []):=bytesT_ok _ Y88.h A25 Y5.h size_pos K25 (zr_run Zr110)
theorem MO:MOk prog 89 31 37 (Ao 32 evB) (agg Block.zero.cells):=bytesT_ok _ Y89.h A25 Y5.h size_pos K25 (zr_run Block.zr)
theorem MW:MOk prog 91 29 32 (Ao 32 evR) (.slice none 0 0):=bytesT_ok _ underlying91 A23 Y5.h size_pos K23 (zr_run Zr32)
theorem MP:MOk prog 90 101 32 (placeT 32 evR) (.slice none 0 0):=
  placeT_ok _ underlying90 (fun l x hl=>keyOf_place underlying101 rfl zK rfl rfl zK zK zK A23 Y5.h Y30.h zK size_two hl x) K87 (zr_run Zr32)
section
variable{κ ν μ:Type}[DecidableEq κ]
variable{fs:List (κ×ν)}{k:κ}{p:κ×ν}{v:ν}
theorem Be(h:Aj fs k=some v):(k,v)∈fs:=by
  unfold Aj at h;cases hf:fs.find? (fun p=>decide (p.1=k))with
  |none=>rw[hf]at h;cases h
  | some p=>
    rw[hf]at h;simp only[Lbg,La7]at h;have h1:=Lfr hf;have h2:=List.find?_some hf;simp only[decide_eq_true_eq]at h2;rw[←h2,←h];exact h1
theorem mput_mem(h:p∈Bh fs k v):p∈fs∨p=(k,v):=by
  unfold Bh at h;split at h
  ·exact Leo h
  · rcases Lab.1 h with h|h
    ·exact .inl h
    ·exact .inr (La1.1 h)
theorem mdel_mem(h:p∈mdel fs k):p∈fs:=by
  unfold mdel at h;split at h
  ·exact(Ldh _ _).subset h
  ·exact h
theorem mput_len(fs:List (κ×ν))(k:κ)(v:ν):(Bh fs k v).length≤fs.length+1:=by
  unfold Bh;split
  ·rw[Lbs];omega
  ·simp
theorem mdel_len(fs:List (κ×ν))(k:κ):(mdel fs k).length≤fs.length:=by
  unfold mdel;split
  ·exact(Ldh _ _).length_le
  ·exact Lad _
theorem midx_map(f:ν→μ)(fs:List (κ×ν))(k:κ):midx (fs.map fun p=>(p.1,f p.2)) k=midx fs k:=by
  unfold midx;rw[List.findIdx?_map];rfl
theorem mget_map(f:ν→μ)(fs:List (κ×ν))(k:κ):Aj (fs.map fun p=>(p.1,f p.2)) k=(Aj fs k).map f:=by
  unfold Aj;rw[List.find?_map];cases h:fs.find? (fun p=>decide (p.1=k))with
  | none=>
    have:List.find? ((fun p:κ×μ=>decide (p.1=k))∘fun p:κ×ν=>(p.1,f p.2)) fs=none:=h;rw[this];rfl
  | some p=>
    have:List.find? ((fun p:κ×μ=>decide (p.1=k))∘fun p:κ×ν=>(p.1,f p.2)) fs=some p:=h;rw[this];rfl
theorem mput_map(f:ν→μ)(fs:List (κ×ν))(k:κ)(v:ν):(Bh fs k v).map (fun p=>(p.1,f p.2))=Bh (fs.map fun p=>(p.1,f p.2)) k (f v):=by
  unfold Bh;rw[midx_map];split
  ·rw[Le9]
  ·rw[Lae];rfl
theorem mdel_map(f:ν→μ)(fs:List (κ×ν))(k:κ):(mdel fs k).map (fun p=>(p.1,f p.2))=mdel (fs.map fun p=>(p.1,f p.2)) k:=by
  unfold mdel;rw[midx_map];split
  ·exact(ChangeMaps.map_eraseIdx ..)
  ·rfl
theorem mput_mput(k:κ)(v v2:ν):Bh (Bh fs k v) k v2=Bh fs k v2:=by
  cases h:midx fs k with
  | some j=>
    have e1:Bh fs k v=fs.set j (k,v):=by unfold Bh;rw[h]
    have e2:Bh fs k v2=fs.set j (k,v2):=by unfold Bh;rw[h]
    have h2:midx (fs.set j (k,v)) k=some j:=by
      unfold midx at h ⊢;rw[Lbq]at h ⊢;obtain⟨hl,he,hn⟩:=h;refine⟨by simpa using hl,by simp,fun i hi=>?_⟩;rw[List.getElem_set_ne oM];exact hn i hi
    rw[e1,e2];unfold Bh;rw[h2];simp
  | none=>
    have e1:Bh fs k v=fs++[(k,v)]:=by unfold Bh;rw[h]
    have e2:Bh fs k v2=fs++[(k,v2)]:=by unfold Bh;rw[h]
    have h2:midx (fs++[(k,v)]) k=some fs.length:=by
      unfold midx at h ⊢;rw[List.findIdx?_append,h];simp[List.findIdx?_cons]
    rw[e1,e2];unfold Bh;rw[h2];simp
theorem flat_set{α:Type}(f:α→List Blk){l:List α}{j:Nat}{x:α}(h:l[j]? =some x):∃R,(l.map f).flatten.Perm (f x++R)∧∀y,((l.set j y).map f).flatten.Perm (f y++R):=by
  obtain⟨hl,he⟩:=Laa.1 h;refine⟨((l.take j).map f).flatten++((l.drop (j+1)).map f).flatten,?_,?_⟩
  · have e:l=l.take j++x::l.drop (j+1):=by rw[←he,←Lbt hl,Lc6]
    have e2:(l.map f).flatten=((l.take j).map f).flatten++(f x++((l.drop (j+1)).map f).flatten):=by
      conv=>lhs;rw[e]
      simp[Lae,Lcq]
    rw[e2,←La8,←La8];exact Ld6 _ Ldf
  · intro y
    have e:l.set j y=l.take j++y::l.drop (j+1):=Leg .. |>.trans (by rw[if_pos hl]);have e2:((l.set j y).map f).flatten=((l.take j).map f).flatten++(f y++((l.drop (j+1)).map f).flatten):=by
      rw[e];simp[Lae,Lcq]
    rw[e2,←La8,←La8];exact Ld6 _ Ldf
end
def rbl{κ:Type}(fs:List (κ×RV)):List Blk:=(fs.map fun p=>p.2.bl).flatten
variable{B:Block}{C:Cx}{D:DB}{L ks l:List (List UInt8)}{a k kk n:List UInt8}{bl hp:List Blk}{e:EV}{hds:List (List UInt8×Unit)}{ob:BV}{p:Nat}{rp rw:RV}{s:Sl}{v:Value}{w:World}{κ ν:Type}{fs:List (κ×ν)}
theorem rbl_put[DecidableEq κ](fs:List (κ×RV))(k:κ):∃R,(rbl fs).Perm (((Aj fs k).getD RV.none).bl++R)∧∀r,(rbl (Bh fs k r)).Perm (r.bl++R):=by
  cases h:midx fs k with
  | some j=>
    have e:∀r,Bh fs k r=fs.set j (k,r):=fun r=>by unfold Bh;rw[h]
    unfold midx at h;have hg:∃x,fs[j]? =some x∧Aj fs k=some x.2:=by
      have h2:=h;rw[Lbq]at h2;obtain⟨hl,he,hn⟩:=h2;refine⟨fs[j],La3 hl,?_⟩;unfold Aj;have h3:fs.find? (fun q=>decide (q.1=k))=some fs[j]:=Ld5.2 ⟨he,j,hl,rfl,fun i hi=>by simpa using hn i hi⟩;rw[h3];rfl
    obtain⟨x,hx,hm⟩:=hg;rw[hm];obtain⟨R,h1,h2⟩:=flat_set (fun p:κ×RV=>p.2.bl) hx;exact⟨R,h1,fun r=>by rw[e r];exact h2 (k,r)⟩
  | none=>
    have e:∀r,Bh fs k r=fs++[(k,r)]:=fun r=>by unfold Bh;rw[h]
    have hm:Aj fs k=none:=by
      refine mget_none fun p hp e2=>?_;unfold midx at h;rw[Lda]at h;have:=h p hp;simp[e2]at this
    rw[hm];refine⟨rbl fs,Ld1 _,fun r=>?_⟩;rw[e r];unfold rbl;simp only[Lae,Lcq,Laq,Lei,Lcu,Lhb,Lat];exact Ldf
structure DD where
  nm:Sl
  nb:List Blk
  names:List (List UInt8)
  ent:List (List UInt8×EV)
  hds:List (List UInt8×Unit)
  orp:List (List UInt8×BV)
  pls:List ((List UInt8×UInt64)×RV)
  wrs:List (List UInt8×RV)
  cb:List Blk
  bE:Nat
  bH:Nat
  bO:Nat
  bP:Nat
  bW:Nat
def DD.blks(x:DD)(p:Nat):List Blk:=
  ⟨p,[ptr p 0,x.nm.v, .map (some x.bE), .map (some x.bH), .map (some x.bO), .map (some x.bP), .map (some x.bW)],93,7⟩::A4 x.bE (Ao 32 evE) x.ent::A4 x.bH (Ao 32 evU) x.hds::A4 x.bO (Ao 32 evB) x.orp::A4 x.bP (placeT 32 evR) x.pls::A4 x.bW (Ao 32 evR) x.wrs::(x.nb++(x.cb++(rbl x.pls++(rbl x.wrs++[]))))
def Held(cb:List Blk)(B:Block)(D:DB):Prop:=SameB B D∧∀W,Lies cb W→BlockIs W B D
structure DD.ok(x:DD):Prop where
  nm:Hw.Acc x.nm x.nb (Av x.names) 31 x.names.length 32
  n32:∀l∈x.names,l.length=32
  big:x.names.length+x.orp.length≤20000
  orpn:x.orp.length≤64
  ent:∀p∈x.ent,p.1.length=32∧Held x.cb p.2.1.fBlock p.2.2∧0≤p.2.1.fDepth∧p.2.1.fDepth≤x.names.length
  entn:x.ent.length≤x.names.length
  hds:∀p∈x.hds,p.1.length=32
  hdsn:x.hds.length≤x.names.length
  orp:∀p∈x.orp,p.1.length=32∧Held x.cb p.2.1 p.2.2∧p.2.2.ls.length≤16
  pls:∀p∈x.pls,p.1.1.length=32∧p.2.ok∧p.2.ks.length≤x.names.length
  wrs:∀p∈x.wrs,p.1.length=32∧p.2.ok∧p.2.ks.length≤x.names.length
theorem DD.ok.entOk{x:DD}(h:x.ok)(hg:Aj x.ent k=some e):e.1.ok:=⟨(h.ent _ (Be hg)).2.1.1.ok⟩
theorem DD.ok.orpOk{x:DD}(h:x.ok){e:BV}(hg:Aj x.orp k=some e):e.1.ok:=(h.orp _ (Be hg)).2.1.1.ok
theorem DEnt.part{e:DEnt}(h:e.ok)(o n:Nat)(hn:o+n≤131):(e.cells.drop o).take n=(e.fBlock.cells.drop o).take n:=by
  have hl:=Block.length h.o_fBlock;unfold DEnt.cells;rw[Le1 oM,Lcl (by rw[Lb6];omega)]
theorem Held.more{cb cb2:List Blk}(h:Held cb B D)(hs:∀b∈cb,b∈cb2):Held cb2 B D:=⟨h.1,fun W hW=>h.2 W (hW.sub hs)⟩
def RowA(L:List (List UInt8))(v:Value)(out:List Blk):Prop:=∃s:Sl,v=s.v∧Hw.Acc s out (Av L) 31 L.length 32
theorem fresh_rowA{n:Nat}(hr:∀l∈L,l.length=32)(hn:L.length=n){out:List Blk}(h:FreshRow v out (Av L) 31 n 32):RowA L v out:=by
  obtain⟨q,c,h1,h2,h3⟩:=h;subst h3;subst hn;exact⟨⟨some ⟨q,0,none⟩,L.length,c⟩,h1,Acc.some h2 (A2 hr)⟩
theorem db_parA(B:Block)(D:DB)(hn:D.ls.length≤500000):Meets prog 65 [agg B.cells] [] (fun W=>BlockIs W B D) (RowA (Bo D)):=fun W hW=>by
  have e1:=hW.ls.len;have hsq:=hW.seq;have hL:=parL_row hW.dok;by_cases hs:(B.fSeq.toNat:Int)=0
  · have hp:Bo D=D.ls:=if_pos (by rw[←hsq];exact Lbn.1 (by show B.fSeq.toNat=0;omega))
    rw[hp]at hL ⊢;by_cases h0:B.fLinks.n=0
    · have hl0:D.ls=[]:=Lag oM
      exact(parents_nil B hW.ok D.ls oM hs h0 W hW.ls).mono fun e W' ⟨v,out,h1,⟨h2,h3⟩,h4⟩=>⟨v,out,h1,⟨Sl.nil,h2,by rw[hl0,h3];exact Acc.none⟩,h4⟩
    ·exact(parents_0 B hW.ok D.ls oM hs oM W hW.ls).mono fun e W' ⟨v,out,h1,h2,h4⟩=>⟨v,out,h1,fresh_rowA hL e1 h2,h4⟩
  · have hp:Bo D=D.prev::D.ls:=if_neg (fun e=>hs (by rw[hsq,e];rfl))
    rw[hp]at hL ⊢;rw[←hW.prev]at hL ⊢;exact(parents_s B hW.ok D.ls oM hs W hW.ls).mono fun e W' ⟨v,out,h1,h2,h4⟩=>⟨v,out,h1,fresh_rowA hL (by rw[Lay];omega) h2,h4⟩
def DD.P(x:DD):List (List UInt8×DB):=x.ent.map fun p=>(p.1,p.2.2)
theorem DD.getP(x:DD)(k:List UInt8):Aj x.P k=(Aj x.ent k).map (·.2):=mget_map (fun e:EV=>e.2) x.ent k
def wrongB(P:List (List UInt8×DB))(D:DB):Bool:=decide (D.seq≠0)&&(match Aj P D.prev with|none=>false|some e=>decide (e.w≠D.w)||decide (e.seq≠D.seq-1))
def readyB(P:List (List UInt8×DB))(D:DB):Bool:=(Bo D).all fun n=>(Aj P n).isSome
def Bi(P:List (List UInt8×DB))(D:DB):Int:=if wrongB P D=true then 2 else if readyB P D=true then 1 else 0
theorem parL_len(D:DB):(Bo D).length≤D.ls.length+1:=by unfold Bo;split<;>simp
theorem judge_wrong{P:List (List UInt8×DB)}(h:wrongB P D=true):Bi P D=2:=if_pos h
theorem judge_waits{P:List (List UInt8×DB)}(h:wrongB P D=false){k:Nat}(hk:k<(Bo D).length)(hn:Aj P ((Bo D).getD k [])=none):Bi P D=0:=by
  have h2:readyB P D=false:=by
    unfold readyB;rw[Lh0];refine⟨(Bo D)[k],Lc7 hk,?_⟩;rw[La4,La3 hk]at hn;simp only[Lc1]at hn;rw[hn];simp
  unfold Bi;rw[h,h2];rfl
theorem judge_fits{P:List (List UInt8×DB)}(h:wrongB P D=false)(hall:∀j,j<(Bo D).length→(Aj P ((Bo D).getD j [])).isSome=true):Bi P D=1:=by
  have h2:readyB P D=true:=by
    unfold readyB;rw[Lbv];intro n hn;obtain⟨j,hj,rfl⟩:=Lbo hn;have:=hall j hj;rwa[La4,La3 hj]at this
  unfold Bi;rw[h,h2];rfl
theorem u64_ne{a b:UInt64}(h:¬((a.toNat:Int)=(b.toNat:Int))):a≠b:=fun e=>h (by rw[e])
theorem u64_eq{a b:UInt64}(h:(a.toNat:Int)=(b.toNat:Int)):a=b:=Lbn.1 oM
theorem wrong_seq{P:List (List UInt8×DB)}(h:D.seq=0):wrongB P D=false:=by simp[wrongB,h]
theorem wrong_none{P:List (List UInt8×DB)}(h:Aj P D.prev=none):wrongB P D=false:=by simp[wrongB,h]
theorem wrong_some{P:List (List UInt8×DB)}{D e:DB}(hs:D.seq≠0)(h:Aj P D.prev=some e):wrongB P D=(decide (e.w≠D.w)||decide (e.seq≠D.seq-1)):=by simp[wrongB,h,hs]
def DagSee(x:DD)(p:Nat)(W:World):Prop:=BlkOk W ⟨p,[ptr p 0,x.nm.v, .map (some x.bE), .map (some x.bH), .map (some x.bO), .map (some x.bP), .map (some x.bW)],93,7⟩∧BlkOk W (A4 x.bE (Ao 32 evE) x.ent)
theorem DagSee.of{x:DD}(hh:HRep C hp w)(h1:⟨p,[ptr p 0,x.nm.v, .map (some x.bE), .map (some x.bH), .map (some x.bO), .map (some x.bP), .map (some x.bW)],93,7⟩∈hp)(h2:A4 x.bE (Ao 32 evE) x.ent∈hp):DagSee x p w:=⟨hh.cells _ h1,hh.cells _ h2⟩
theorem DagSee.at{x:DD}{W:World}(h:DagSee x p W){o:Nat}(hv:[ptr p 0,x.nm.v, .map (some x.bE), .map (some x.bH), .map (some x.bO), .map (some x.bP), .map (some x.bW)][o]? =some v):W.cell? ⟨p,o,none⟩=some v:=h.1.cell hv
theorem DagSee.ext{x:DD}(hh:HRep C hp w)(h:DagSee x p C.W0)(hl:C.lent=[]:=by rfl):DagSee x p w:=⟨mblk_keep h.1 hh hl,mblk_keep h.2 hh hl⟩
theorem dag_new  :Meets prog 49 [] [] (fun _=>True) (fun v out=>∃p bE bH bO bP bW,v=ptr p 0∧out=(⟨Sl.nil,[],[],[],[],[],[],[],[],bE,bH,bO,bP,bW⟩:DD).blks p):=by
 intro W hW;refine Ad func49 J 14 ntmps49 J (G7 ?_);refine .mkMap (Ao 32 evE) J J ?_;intro bE;refine .mkMap (Ao 32 evU) J J ?_;intro bH;refine .mkMap (Ao 32 evB) J J ?_;intro bO;refine .mkMap (placeT 32 evR) J J ?_;intro bP;refine .mkMap (Ao 32 evR) J J ?_;intro bW;refine .build (cs:=[.pointer none, .slice none 0 0, .map (some bE), .map (some bH), .map (some bO), .map (some bP), .map (some bW)]) J J J (fun w=>by kernel_rfl) ?_;refine G1 ?_;intro n8 hn8 hf8;refine G9 ?_;refine .s1 J J J J J Sz25 Z0 sP (by rfl) zU ?_;refine G8 ?_;refine G2 ?_;refine As (out:=(⟨n8,[ptr n8 0, .slice none 0 0, .map (some bE), .map (some bH), .map (some bO), .map (some bP), .map (some bW)],93,7⟩::(A4 bE (Ao 32 evE) []::(A4 bH (Ao 32 evU) []::(A4 bO (Ao 32 evB) []::(A4 bP (placeT 32 evR) []::(A4 bW (Ao 32 evR) []::[]))))))) (Af J J) (Ab rM (Ab rM (Ab rM (Ab rM (Ab rM (Ab rM Ae)))))) ?_;exact⟨n8,bE,bH,bO,bP,bW,rfl,rfl⟩
theorem dag_valid(x:DD)(p:Nat):Mv 52 [ptr p 0] (fun W=>DagSee x p W) (.bool true):=by
 intro W hW;refine Ad func52 J 13 ntmps52 J (G8 ?_);refine .neqNilP J J J J Y25.h (G4 ?_);refine .loadE J J J Y25.h J sP (hW.at (o:=0) J) (G1 ?_);refine .eqSameP J J J J Y25.h Sz93 (G4 ?_);refine G2 ?_;refine⟨_,[],Af J J,sP,sP,?_,rfl⟩;rfl
theorem dag_has(x:DD)(hx:x.ok)(p:Nat)(n:List UInt8)(h32:n.length=32):Mv 66 [ptr p 0,agg (Aa n)] (fun W=>DagSee x p W) (.bool (Aj x.ent n).isSome):=by
 intro W hW;refine Ad func66 J 20 ntmps66 J (G3 ?_);intro n3 hn3 hf3;refine G7 ?_;refine .cV J J J J Body52 (dag_valid x p) (fun w h=>hW.ext h) (G3 ?_);refine .cond_f J J (G3 ?_);refine .draw (oPq [0,1,2,103,104,105,6,7,8,209,410,11]) Aq zK (G3 ?_);refine .loadE J J J Y87.h J sP (hW.at (o:=2) J) (.lA J J J Y31.h J Sz31 Z0 (by(simp[h32];done)) ?_);refine .lookFC evE ME hW.2 sP J J J J h32 (fun hg=>?_) (fun e hg=>?_)
 ·
  skip;refine G3 ?_;refine .alloc (cs:=DEnt.zero.cells) J DEnt.zr J ?_;intro n5 hn5 hf5;refine G10 ?_;refine G2 ?_;refine⟨_,[],Af J J,sP,sP,?_,rfl⟩;rw[hg];rfl
 skip;refine G3 ?_;refine .alloc (cs:=DEnt.zero.cells) J DEnt.zr J ?_;intro n5 hn5 hf5;refine .sA J J J J (DEnt.isCell (by exact hx.entOk hg)) Sz98 (DEnt.length (by exact hx.entOk hg)) Z0 (DEnt.length (by exact DEnt.zero_ok)) zU ?_;refine G9 ?_;refine G2 ?_;refine⟨_,[],Af J J,sP,sP,?_,rfl⟩;rw[hg];rfl
theorem dag_judge(x:DD)(hx:x.ok)(p:Nat)(B:Block)(D:DB)(hB:SameB B D)(hs:D.ls.length≤500000):Mv 89 [ptr p 0,agg B.cells] (fun W=>DagSee x p W∧BlockIs W B D) (i64 (Bi x.P D)):=by
 intro W hW;have hrow0:=parL_row hW.2.dok;refine Ad func89 J 61 ntmps89 J (G3 ?_);intro n3 hn3 hf3;refine G3 ?_;refine .join (ι:=Unit) (fun u=>⟨[(0,ptr p 0),(3,ptr n3 0)],[⟨n3,B.cells,37,B.cells.length⟩]⟩) (fun u=>wrongB x.P D=false) ?_ ?_
 ·
  refine G3 ?_;refine .load1 J J J Y30.h J Z0 (by exact Block.get_fSeq (by exact hB.ok)) ?_;refine G3 ?_;refine .condP J (fun hc0=>?_) (fun hc0=>?_)
  ·
   refine .seq (.draw (oPq [0,1,2,103,4,105,106,7,8,9,210,411,12]) Aq zK (G3 ?_));refine .loadE J J J Y87.h J sP (hW.1.at (o:=2) J) (G1 ?_);refine .lN (Aa _) J J J Y31.h J Sz31 Z0 (Block.row_fPrev (by exact hB.ok)) (Block.rl_fPrev (by exact hB.ok)) ?_;refine .lookFC evE ME hW.1.2 sP J J J J hB.ok.l_fPrev (fun hg=>?_) (fun e hg=>?_)
   ·
    skip;refine G3 ?_;refine .alloc (cs:=DEnt.zero.cells) J DEnt.zr J ?_;intro n5 hn5 hf5;refine G26 ?_;refine .cond_f J J (G2 ?_);exact⟨(),wrong_none (by rw[x.getP,←hB.prev,hg];rfl),Ag wN (Ab rM Ae)⟩
   have he:=(hx.ent _ (Be hg)).2.1.1;have hP:Aj x.P D.prev=some e.2:=by rw[x.getP,←hB.prev,hg];rfl
   have hsq:D.seq≠0:=fun h=>by rw[hB.seq,h]at hc0;simp at hc0
   refine G3 ?_;refine .alloc (cs:=DEnt.zero.cells) J DEnt.zr J ?_;intro n5 hn5 hf5;refine .sA J J J J (DEnt.isCell (by exact hx.entOk hg)) Sz98 (DEnt.length (by exact hx.entOk hg)) Z0 (DEnt.length (by exact DEnt.zero_ok)) zU ?_;refine G9 ?_;have hwl:=(hx.entOk hg).o_fBlock.l_fWriter;refine .lN (Aa e.1.fBlock.fWriter) J J J Y29.h J Sz29 Z0 ((DEnt.part (hx.entOk hg) 0 32 dE).trans (Block.row_fWriter (hx.entOk hg).o_fBlock)) (by rw[Aa,La0];exact hwl) ?_;refine G1 ?_;refine .lN (Aa _) J J J Y29.h J Sz29 Z1 (Block.row_fWriter (by exact hB.ok)) (Block.rl_fWriter (by exact hB.ok)) ?_;refine two (fun r hr k=>Tr.neq_bytes J J J J eqGuardType29 Y29.h Y5.h Sz5 zA (by(simp[hB.ok.l_fWriter];done)) hr k) (fun hs3_70=>?_) (fun hs3_70=>?_)
   ·
    have hs3_7:=nd_t hs3_70;refine G12 ?_;refine .cond_t J J (G5 ?_);refine G3 ?_;refine⟨_,[],Af J J,sP,sP,?_,rfl⟩;rw[judge_wrong (by rw[wrong_some hsq hP,←he.w,←hB.w];simp[hs3_7])]
   have hs3_7:=nd_f hs3_70;refine G3 ?_;refine .load1 J J J Y30.h J Z0 (DEnt.see_fBlock (hx.entOk hg) 32 _ (Block.get_fSeq (hx.entOk hg).o_fBlock)) ?_;refine G1 ?_;refine .load1 J J J Y30.h J Z1 (by exact Block.get_fSeq (by exact hB.ok)) ?_;refine .sub_u64 J J J (show Ai _ _=some (u64 1)from rfl) (G5 ?_);refine .condNP J (fun hc1=>?_) (fun hc1=>?_)
   ·
    refine G5 ?_;refine G3 ?_;refine⟨_,[],Af J J,sP,sP,?_,rfl⟩;rw[judge_wrong (by have h9:=u64_ne hc1;rw[wrong_some hsq hP,←he.seq,←hB.seq];simp[h9])]
   refine G2 ?_;exact⟨(),(by have h9:=u64_eq hc1;rw[wrong_some hsq hP,←he.w,←he.seq,←hB.w,←hB.seq,hs3_7,h9];simp),Ag wN (Ab rM Ae)⟩
  refine G2 ?_;exact⟨(),wrong_seq (by rw[←hB.seq];exact u64_eq (b:=0) (by have h9:((0:UInt64).toNat:Int)=0:=rfl;omega)),Ag wN (Ab rM Ae)⟩
 intro u hj;skip;refine G3 ?_;refine .lA J J J Y37.h J Sz37 Z0 (Block.length (by exact hB.ok)) ?_;refine .call4 J J J J J Body65 (db_parA B D hs) (fun w h=>hW.2.ext h J) ?_;rintro v43 out43 ⟨s43,rfl,hac⟩;have hn43:s43.n=(Bo D).length:=hac.num;refine G5 ?_;refine .loop (ι:=Nat) (fun k=>⟨[(0,ptr p 0),(3,ptr n3 0),(43,s43.v),(44,i64 (s43.n:Int)),(45,i64 (k:Int))],(⟨n3,B.cells,37,B.cells.length⟩::(out43++[]))⟩) (fun k=>k≤(Bo D).length∧∀j,j<k→(Aj x.P ((Bo D).getD j [])).isSome=true) (fun k=>(Bo D).length-k) (0) ?_ ?_ ?_
 ·exact⟨Lan _,fun j hj=>by omega⟩
 ·exact Ag wN (Ab (by repeat(first|exact A9|apply Ce)) (Ac sG Ae))
 rintro k ⟨hk0,hall⟩;refine G6 ?_;refine .condP J (fun hc2=>?_) (fun hc2=>?_)
 ·
  refine G6 ?_;have hk:k<(Bo D).length:=by omega
  have hkb:k≤600000:=by have:=parL_len D;omega
  rcases hac with ⟨_,_,_,h0⟩|⟨qr,cr,rfl,hnc,hfl,rfl⟩
  ·exfalso;omega
  have hrow:=hrow0;obtain⟨kk,hkk⟩:∃kk,kk=(Bo D).getD k []:=⟨_,rfl⟩;have h32k:kk.length=32:=by rw[hkk,La4,La3 hk];exact hrow _ (Lc7 hk)
  refine .idxSlP 32 J J J J J Y32.h Sz31 k J oM (.loadSN (n:=32) (Aa kk) J J J Y31.h J Sz31 (by rw[Aa,La0];exact h32k) (fun w h=>by rw[hkk];simpa using B0 hrow (An h Z1) hk) ?_);refine .alloc (cs:=(Aa (List.replicate 32 0))) J Cj J ?_;intro n8 hn8 hf8;refine .sA J J J J zE Sz31 (by(rw[Aa,La0];assumption)) Z0 sP zU ?_;refine G3 ?_;refine .draw (oPq [0,1,2,103,104,105,6,7,8,209,410,11]) Aq zK (G3 ?_);refine .loadE J J J Y87.h J sP (hW.1.at (o:=2) J) (.lA J J J Y31.h J Sz31 Z0 (by(rw[Aa,La0];assumption)) ?_);refine .lookFC evE ME hW.1.2 sP J J J J h32k (fun hg=>?_) (fun e hg=>?_)
  ·
   skip;refine G3 ?_;refine .alloc (cs:=DEnt.zero.cells) J DEnt.zr J ?_;intro n9 hn9 hf9;refine G10 ?_;refine .cond_t J J (G5 ?_);refine G7 ?_;refine⟨_,[],Af J J,sP,sP,?_,rfl⟩;rw[judge_waits hj hk (by rw[←hkk,x.getP,hg];rfl)]
  skip;refine G3 ?_;refine .alloc (cs:=DEnt.zero.cells) J DEnt.zr J ?_;intro n9 hn9 hf9;refine .sA J J J J (DEnt.isCell (by exact hx.entOk hg)) Sz98 (DEnt.length (by exact hx.entOk hg)) Z0 (DEnt.length (by exact DEnt.zero_ok)) zU ?_;refine G9 ?_;refine .cond_f J J (G8 ?_);exact⟨k+1,⟨hk,fun j hj=>by rcases Lg3 (Lgv hj)with h|h;exact hall j h;rw[h,←hkk,x.getP,hg];rfl⟩,by omega,Ag wN (Ab rM (Ac sG Ae))⟩
 refine G10 ?_;refine G2 ?_;refine⟨_,[],Af J J,sP,sP,?_,rfl⟩;rw[judge_fits hj (by rw[Nat.le_antisymm hk0 oM]at hall;exact hall)]
theorem dag_clone(B:Block)(D:DB)(hB:SameB B D)(h1:D.ls.length≤90000)(h2:D.ds.length≤90000):Meets prog 59 [agg B.cells] [] (fun W=>BlockIs W B D) (BlkV D):=by
 intro W hW;have f1:(Av D.ls).length=B.fLinks.n*32:=by rw[A2 hW.ls.row,hW.ls.len]
 have f2:(Aa D.ds).length=B.fData.n*1:=by rw[Aa,La0,hB.dn];omega
 have g1:=hB.ln;have g2:=hB.dn;refine Ad func59 J 12 ntmps59 J (G3 ?_);intro n1 hn1 hf1;refine .alloc (cs:=Block.zero.cells) J Block.zr J ?_;intro n2 hn2 hf2;refine G3 ?_;refine .draw (oPq [0,101,3,104,302,6,305,407,8,409]) Aq zK (G1 ?_);refine .load1 J J J Y32.h J Z1 (by exact Block.get_fLinks (by exact hB.ok)) ?_;refine G1 ?_;refine .load1 J J J Y33.h J Z1 (by exact Block.get_fData (by exact hB.ok)) ?_;refine .call J J J J Body53 (cl_digs B.fLinks D.ls oM) (acc_loose _ _ _ _ f1) (fun w h=>(hW.ext h J).ls) ?_;rintro v5 out5 ⟨⟨p5,n5,c5⟩,rfl,hac5⟩;have hn5:=hac5.num;refine G1 ?_;refine .call J J J J Body97 (cl_byte B.fData D.ds oM) (acc_loose _ _ _ _ f2) (fun w h=>(hW.ext h J).ds) ?_;rintro v8 out8 ⟨⟨p8,n8,c8⟩,rfl,hac8⟩;have hn8:=hac8.num;refine .s1 J J J J J Sz32 mR (by rw[Block.length (by exact hB.ok)];decide) (by exact Block.set_fLinks (by exact hB.ok) _) uU ?_;refine G1 ?_;refine .s1 J J J J J Sz33 mR (by rw[Block.length (by exact⟨hB.ok.l_fWriter,hB.ok.l_fPrev,hB.ok.l_fSig⟩)];decide) (by exact Block.set_fData (by exact⟨hB.ok.l_fWriter,hB.ok.l_fPrev,hB.ok.l_fSig⟩) _) uU ?_;refine G4 ?_;refine .lA J J J Y37.h J Sz37 mR (Block.length (by exact⟨hB.ok.l_fWriter,hB.ok.l_fPrev,hB.ok.l_fSig⟩)) ?_;refine .sA J J J J (Block.isCell (by exact⟨hB.ok.l_fWriter,hB.ok.l_fPrev,hB.ok.l_fSig⟩)) Sz37 (Block.length (by exact⟨hB.ok.l_fWriter,hB.ok.l_fPrev,hB.ok.l_fSig⟩)) mR (Block.length (by exact Block.zero_ok)) (by(repeat(first|exact upd0|apply Upd.seg))) ?_;refine G2 ?_;refine G2 ?_;refine As (out:=(out8++(out5++[]))) (Aw J J Y37.h J Sz37 mR (by exact Block.length (by exact⟨hB.ok.l_fWriter,hB.ok.l_fPrev,hB.ok.l_fSig⟩))) (Ac sG (Ac sG Ae)) ?_;exact⟨{ B with fLinks:=⟨p5,n5,c5⟩,fData:=⟨p8,n8,c8⟩ },⟨⟨hB.ok.l_fWriter,hB.ok.l_fPrev,hB.ok.l_fSig⟩,hB.w,hB.seq,hB.prev,hB.sg,hn5.trans g1,hn8.trans g2⟩,rfl,fun W2 hl=>⟨⟨hB.ok.l_fWriter,hB.ok.l_fPrev,hB.ok.l_fSig⟩,hB.w,hB.seq,hB.prev,Ci hac5 (hl.sub (by repeat(first|exact Au|refine Bk ?_))) hW.ls.row hW.ls.len oM,acc_bytes hac8 (hl.sub (by repeat(exact Au))) g2.symm oM,hB.sg⟩⟩
def stepD(ent:List (List UInt8×EV))(d:Int)(n:List UInt8):Int:=if((Aj ent n).map fun e=>e.1.fDepth).getD 0+1>d then((Aj ent n).map fun e=>e.1.fDepth).getD 0+1 else d
def depL(ent:List (List UInt8×EV))(L:List (List UInt8)):Int:=L.foldl (stepD ent) 0
def delL(hds:List (List UInt8×Unit))(L:List (List UInt8)):List (List UInt8×Unit):=L.foldl mdel hds
theorem take_one{α:Type}{L:List α}{k:Nat}{a:α}{d:α}(hk:k<L.length)(ha:a=L.getD k d):L.take (k+1)=L.take k++[a]:=by
  rw[ha,La4,La3 hk,Lar hk];rfl
theorem depL_none{x:DD}{k:Nat}(hk:k<L.length)(ha:a=L.getD k [])(h:Aj x.ent a=none):depL x.ent (L.take (k+1))=if(0:Int)+1>depL x.ent (L.take k)then 0+1 else depL x.ent (L.take k):=by
  unfold depL;rw[take_one hk ha,Ldq];simp only[Ldl,Lfs,stepD,h,Option.map_none,Lh9]
theorem depL_some{x:DD}{k:Nat}(hk:k<L.length)(ha:a=L.getD k [])(h:Aj x.ent a=some e):depL x.ent (L.take (k+1))=if e.1.fDepth+1>depL x.ent (L.take k)then e.1.fDepth+1 else depL x.ent (L.take k):=by
  unfold depL;rw[take_one hk ha,Ldq];simp only[Ldl,Lfs,stepD,h,Lbg,Lc1]
theorem delL_one{k:Nat}(hk:k<L.length)(ha:a=L.getD k []):delL hds (L.take (k+1))=mdel (delL hds (L.take k)) a:=by
  unfold delL;rw[take_one hk ha,Ldq];rfl
theorem delL_mem:∀p∈delL hds L,p∈hds:=by
  unfold delL
  induction L generalizing hds with
  |nil=>intro p h;exact h
  |cons a L ih=>intro p h;exact mdel_mem (ih p h)
theorem delL_len{hds:List (List UInt8×Unit)}{L:List (List UInt8)}:(delL hds L).length≤hds.length:=by
  unfold delL
  induction L generalizing hds with
  |nil=>exact Lad _
  |cons a L ih=>exact Lbb ih (mdel_len _ _)
def DD.adm(x:DD)(s:Sl)(bl:List Blk)(n:List UInt8)(B:Block)(D:DB)(rp rw:RV):DD:=
  { x with nm:=s,nb:=bl,names:=x.names++[n],ent:=Bh x.ent n (⟨B,depL x.ent (Bo D)⟩,D),hds:=Bh (delL x.hds (Bo D)) n (),pls:=Bh x.pls (B.fWriter,B.fSeq) rp,wrs:=Bh x.wrs B.fWriter rw }
def MoreR(old:Option RV)(n:List UInt8)(r:RV):Prop:=r.ok∧r.ks=(old.getD RV.none).ks++[n]
theorem DD.ok.plsR{x:DD}(hx:x.ok)(k:List UInt8×UInt64):((Aj x.pls k).getD RV.none).ok∧((Aj x.pls k).getD RV.none).ks.length≤x.names.length:=by
  cases h:Aj x.pls k with
  |none=>exact⟨RV.none_ok,Lan _⟩
  |some r=>exact(hx.pls _ (Be h)).2
theorem DD.ok.wrsR{x:DD}(hx:x.ok)(k:List UInt8):((Aj x.wrs k).getD RV.none).ok∧((Aj x.wrs k).getD RV.none).ks.length≤x.names.length:=by
  cases h:Aj x.wrs k with
  |none=>exact⟨RV.none_ok,Lan _⟩
  |some r=>exact(hx.wrs _ (Be h)).2
theorem depL_le{x:DD}(hx:x.ok)(L:List (List UInt8)):0≤depL x.ent L∧depL x.ent L≤x.names.length+1:=by
  have key:∀(L:List (List UInt8)) (d:Int),0≤d→d≤x.names.length+1→0≤L.foldl (stepD x.ent) d∧L.foldl (stepD x.ent) d≤x.names.length+1:=by
    intro L
    induction L with
    |nil=>intro d h0 h1;exact⟨h0,h1⟩
    | cons a L ih=>
      intro d h0 h1;refine ih _ ?_ ?_<;>unfold stepD<;>cases h:Aj x.ent a with
      |none=>simp only[Option.map_none,Lh9];split<;>omega
      | some e=>
        have:=(hx.ent _ (Be h)).2.2;simp only[Lbg,Lc1];simp only at this;split<;>omega
  exact key L 0 (Lh6 _) oM
theorem DD.ok.adm{x:DD}(hx:x.ok)(h32:n.length=32)(hB:Held x.cb B D)(hroom:x.names.length+x.orp.length<20000)
    (hs:Hw.Acc s bl (Av x.names++Aa n) 31 (x.names.length+1) 32) (hp:MoreR (Aj x.pls (B.fWriter,B.fSeq)) n rp) (hw:MoreR (Aj x.wrs B.fWriter) n rw):(x.adm s bl n B D rp rw).ok where
  nm:=by
    show Hw.Acc s bl (Av (x.names++[n])) 31 (x.names++[n]).length 32;rw[La2,Cf];simpa[Av]using hs
  n32:=fun l hl=>by rcases Lab.1 hl with h|h;exact hx.n32 l h;rw[La1.1 h];exact h32
  big:=by show(x.names++[n]).length+x.orp.length≤20000;rw[La2,Lav];omega
  ent :=fun p hp=>by
    have e:((x.names++[n]).length:Int)=x.names.length+1:=by rw[La2,Lav];rfl
    show p.1.length=32∧Held x.cb p.2.1.fBlock p.2.2∧0≤p.2.1.fDepth∧p.2.1.fDepth≤((x.names++[n]).length:Int);rw[e];rcases mput_mem hp with h|h
    · have:=hx.ent p h
      exact⟨this.1,this.2.1,this.2.2.1,by omega⟩
    · subst h
      exact⟨h32,hB,depL_le hx _⟩
  entn:=by
    show(Bh x.ent n _).length≤(x.names++[n]).length;rw[La2,Lav];exact Lbb (mput_len ..) (by have:=hx.entn;omega)
  hds:=fun p hp=>by
    rcases mput_mem hp with h|h
    ·exact hx.hds p (delL_mem p h)
    ·subst h;exact h32
  hdsn:=by
    show(Bh _ n _).length≤(x.names++[n]).length;rw[La2,Lav];exact Lbb (mput_len ..) (by have:=hx.hdsn;have:= @delL_len x.hds (Bo D);omega)
  orp:=hx.orp
  orpn:=hx.orpn
  pls :=fun p h=>by
    show p.1.1.length=32∧p.2.ok∧p.2.ks.length≤(x.names++[n]).length;rw[La2,Lav];rcases mput_mem h with h|h
    · have:=hx.pls p h
      exact⟨this.1,this.2.1,by omega⟩
    · subst h
      refine⟨hB.1.ok.l_fWriter,hp.1,?_⟩;show rp.ks.length≤_;rw[hp.2,La2,Lav];have:=(hx.plsR (B.fWriter,B.fSeq)).2;omega
  wrs :=fun p h=>by
    show p.1.length=32∧p.2.ok∧p.2.ks.length≤(x.names++[n]).length;rw[La2,Lav];rcases mput_mem h with h|h
    · have:=hx.wrs p h
      exact⟨this.1,this.2.1,by omega⟩
    · subst h
      refine⟨hB.1.ok.l_fWriter,hw.1,?_⟩;show rw.ks.length≤_;rw[hw.2,La2,Lav];have:=(hx.wrsR B.fWriter).2;omega
theorem dag_admit(x:DD)(hx:x.ok)(p:Nat)(n:List UInt8)(h32:n.length=32)(B:Block)(D:DB)(hB:Held x.cb B D)(hs:D.ls.length≤500000)(hroom:x.names.length+x.orp.length<20000):Meets prog 90 [ptr p 0,agg (Aa n),agg B.cells] ((x.blks p).map (·.n)) (fun W=>Lent (x.blks p) W) (fun v out=>v= .tuple #[]∧∃s bl rp rw,out=(x.adm s bl n B D rp rw).blks p∧(x.adm s bl n B D rp rw).ok∧MoreR (Aj x.pls (B.fWriter,B.fSeq)) n rp∧MoreR (Aj x.wrs B.fWriter) n rw):=by
 intro W hW;have hbd:=hB.2 W (hW.1.sub (by unfold DD.blks;exact(by repeat(first|exact Au|refine A3 ?_|refine Bk ?_))));have hrow:=parL_row hbd.dok;have hwp:((⟨B.fWriter,B.fSeq⟩:DPl)).ok:=⟨hB.1.ok.l_fWriter⟩;have hbig:=hx.big;refine calls_of (hp0:=(⟨p,[ptr p 0,x.nm.v, .map (some x.bE), .map (some x.bH), .map (some x.bO), .map (some x.bP), .map (some x.bW)],93,7⟩::A4 x.bE (Ao 32 evE) (x.ent)::A4 x.bH (Ao 32 evU) (x.hds)::A4 x.bO (Ao 32 evB) (x.orp)::A4 x.bP (placeT 32 evR) (x.pls)::A4 x.bW (Ao 32 evR) (x.wrs)::(x.nb++(x.cb++(rbl x.pls++(rbl x.wrs++[])))))) func90 J 85 ntmps90 J hW.rep (G3 ?_);intro n4 hn4 hf4;refine G1 ?_;intro n5 hn5 hf5;refine G10 ?_;refine .lA J J J Y37.h J Sz37 Z0 (Block.length (by exact hB.1.ok)) ?_;refine .call4 J J J J J Body65 (db_parA B D hs) (fun w h=>hB.2 w (Lies.of h (by repeat(first|exact Au|refine A3 ?_|refine Bk ?_)))) ?_;rintro v11 out11 ⟨s11,rfl,hac⟩;have hn11:s11.n=(Bo D).length:=hac.num;refine G5 ?_;refine .loop (ι:=Nat×Int×List (List UInt8×Unit)) (fun q=>⟨[(0,ptr p 0),(4,ptr n4 0),(5,ptr n5 0),(6,i64 q.2.1),(11,s11.v),(12,i64 (s11.n:Int)),(13,i64 (q.1:Int))],(⟨n5,B.cells,37,B.cells.length⟩::(⟨n4,Aa n,31,(Aa n).length⟩::(⟨p,[ptr p 0,x.nm.v, .map (some x.bE), .map (some x.bH), .map (some x.bO), .map (some x.bP), .map (some x.bW)],93,7⟩::(A4 x.bE (Ao 32 evE) (x.ent)::(A4 x.bH (Ao 32 evU) (q.2.2)::(A4 x.bO (Ao 32 evB) (x.orp)::(A4 x.bP (placeT 32 evR) (x.pls)::(A4 x.bW (Ao 32 evR) (x.wrs)::(x.nb++(x.cb++(rbl x.pls++(rbl x.wrs++(out11++[])))))))))))))⟩) (fun q=>q.1≤(Bo D).length∧q.2.1=depL x.ent ((Bo D).take q.1)∧q.2.2=delL x.hds ((Bo D).take q.1)) (fun q=>(Bo D).length-q.1) ((0,0,x.hds)) ?_ ?_ ?_
 ·exact⟨Lan _,rfl,rfl⟩
 ·exact Ag wN (Ab (by repeat(first|exact A9|apply Ce)) (Ab (by repeat(first|exact A9|apply Ce)) (Ab (by repeat(first|exact A9|apply Ce)) (Ab (by repeat(first|exact A9|apply Ce)) (Ab (by repeat(first|exact A9|apply Ce)) (Ab (by repeat(first|exact A9|apply Ce)) (Ab (by repeat(first|exact A9|apply Ce)) (Ab (by repeat(first|exact A9|apply Ce)) (Ac (by repeat(first|exact Bu|apply B6)) (Ac (by repeat(first|exact Bu|apply B6)) (Ac (by repeat(first|exact Bu|apply B6)) (Ac (by repeat(first|exact Bu|apply B6)) (Ac sG Ae)))))))))))))
 rintro⟨k,dp,hd⟩ ⟨hk0,hdp,hhd⟩;simp only at hk0 hdp hhd ⊢;have hdl:=depL_le hx ((Bo D).take k);rw[←hdp]at hdl;refine G6 ?_;refine .condP J (fun hc0=>?_) (fun hc0=>?_)
 ·
  refine G6 ?_;have hk:k<(Bo D).length:=by omega
  have hkb:k≤600000:=by have:=parL_len D;omega
  rcases hac with ⟨_,_,_,h0⟩|⟨qr,cr,rfl,hnc,hfl,rfl⟩
  ·exfalso;omega
  obtain⟨kk,hkk⟩:∃kk,kk=(Bo D).getD (k) []:=⟨_,rfl⟩;have h32k:kk.length=32:=by rw[hkk,La4,La3 hk];exact hrow _ (Lc7 hk)
  refine .idxSlP 32 J J J J J Y32.h Sz31 (k) J oM (.loadSN (n:=32) (Aa kk) J J J Y31.h J Sz31 (by rw[Aa,La0];exact h32k) (fun w h=>by rw[hkk];simpa using B0 hrow (An h mR) hk) ?_);refine .alloc (cs:=(Aa (List.replicate 32 0))) J Cj J ?_;intro n8 hn8 hf8;refine .sA J J J J zE Sz31 (by(rw[Aa,La0];assumption)) Z0 sP zU ?_;refine G3 ?_;refine .draw (oPq [0,1,2,3,104,105,106,7,8,9,10]) Aq zK (G5 ?_);refine .lA J J J Y31.h J Sz31 Z0 (by(rw[Aa,La0];assumption)) ?_;refine .lookG evE ME J J J J h32k Z4 (fun hg=>?_) (fun e hg=>?_)
  ·
   have hdv:DEnt.zero.fDepth=0:=rfl;refine .field1 J J J Y98.h J Y3.h J (DEnt.get_fDepth DEnt.zero_ok) (G1 ?_);refine .max2 J J J J (rfl) (G3 ?_);refine .draw (oPq [0,1,2,103,104,405]) Aq zK (G4 ?_);refine .lA J J J Y31.h J Sz31 Z0 (by(rw[Aa,La0];assumption)) ?_;refine .mapDel MH J J J J h32k rM ?_;refine G8 ?_;refine⟨(k+1,_,_),⟨hk,?_,?_⟩,by simp only;omega,Ag wN (Ab rM (Ab rM (Ab rM (Ab rM (Ab rM (Ab rM (Ab rM (Ab rM (Ac sG (Ac sG (Ac sG (Ac sG (Ac sG Ae)))))))))))))⟩
   ·rw[depL_none hk hkk hg,←hdp];rfl
   ·rw[delL_one hk hkk,←hhd];rfl
  have hdv:0≤e.1.fDepth∧e.1.fDepth≤(x.names.length:Int):=(hx.ent _ (Be hg)).2.2;refine .field1 J J J Y98.h J Y3.h J (DEnt.get_fDepth (hx.entOk hg)) (G1 ?_);refine .max2 J J J J (rfl) (G3 ?_);refine .draw (oPq [0,1,2,103,104,405]) Aq zK (G4 ?_);refine .lA J J J Y31.h J Sz31 Z0 (by(rw[Aa,La0];assumption)) ?_;refine .mapDel MH J J J J h32k rM ?_;refine G8 ?_;refine⟨(k+1,_,_),⟨hk,?_,?_⟩,by simp only;omega,Ag wN (Ab rM (Ab rM (Ab rM (Ab rM (Ab rM (Ab rM (Ab rM (Ab rM (Ac sG (Ac sG (Ac sG (Ac sG (Ac sG Ae)))))))))))))⟩
  ·rw[depL_some hk hkk hg,←hdp];rfl
  ·rw[delL_one hk hkk,←hhd];rfl
 have hkl:k=(Bo D).length:=by omega
 rw[hkl,Ldb]at hdp hhd;refine G6 ?_;refine .draw (oPq [0,1,2,103,104,105,6,7,408]) Aq zK (G4 ?_);refine .lA J J J Y31.h J Sz31 Z1 (by(simp[h32];done)) ?_;refine .lA J J J Y37.h J Sz37 Z0 (Block.length (by exact hB.1.ok)) ?_;refine G1 ?_;refine .build (cs:=(⟨B,dp⟩:DEnt).cells) J J J (fun w=>run_build2 (a:=agg B.cells) (b:=i64 dp) (ca:=B.cells) (cb:=[i64 dp]) DEnt.zr Y98.h J J Sz37 Sz3 (DEnt.length DEnt.zero_ok) J J (Block.length hB.1.ok) J w) (.mapPut (v:=((⟨B,dp⟩,D):EV)) ME J J J J J h32 rM ?_);refine G3 ?_;refine .draw (oPq [0,1,2,3,104,105,206,407,8,9,410]) Aq zK (G5 ?_);refine .lA J J J Y31.h J Sz31 Z2 (by(simp[h32];done)) ?_;refine .mkRow2 (z:=agg (Aa (List.replicate 32 0))) [agg (Aa n)] (Aa n) J J Y32.h Sz31 Cj J J (by intro v hv;rw[La1.1 hv];simp[Value.cells,Aa,h32]) dE (by simp[Value.cells,agg]) ?_;intro q9;refine .appendAcc (z:=agg (Aa (List.replicate 32 0))) (by':=32) (Aa n) J J J J J Y32.h Y32.h Sz31 Cj (by unfold By;kernel_rfl) J hx.nm sG (fun w h=>SeesP.of (An h Z0)) (fun e=>by cases e) (A0 _) oM oM (by rw[Aa,La0,h32]) ?_;intro s9 bl9 hac9;refine G2 ?_;refine .s1 J J J J J Sz32 mR sP (by rfl) uU ?_;refine G3 ?_;refine .draw (oPq [0,1,2,103,104,5,406]) Aq zK (G4 ?_);refine .lA J J J Y31.h J Sz31 mR (by(simp[h32];done)) ?_;refine .build (cs:=[]) J J J (fun w=>by kernel_rfl) ?_;refine .mapPut (v:=()) MH J J J J J h32 rM ?_;refine G2 ?_;refine .join (ι:=Nat×Sl×List Blk) (fun j=>⟨[(0,ptr p 0),(4,ptr n4 0),(5,ptr n5 0),(9,ptr j.1 0)],(⟨n5,B.cells,37,B.cells.length⟩::(⟨n4,Aa n,31,(Aa n).length⟩::(⟨j.1,(⟨B.fWriter,B.fSeq⟩:DPl).cells,101,33⟩::(⟨p,[ptr p 0,j.2.1.v, .map (some x.bE), .map (some x.bH), .map (some x.bO), .map (some x.bP), .map (some x.bW)],93,7⟩::(A4 x.bE (Ao 32 evE) (Bh x.ent n (⟨B,dp⟩,D))::(A4 x.bH (Ao 32 evU) (Bh hd n ())::(A4 x.bO (Ao 32 evB) (x.orp)::(A4 x.bP (placeT 32 evR) (x.pls)::(A4 x.bW (Ao 32 evR) (x.wrs)::(j.2.2++(x.cb++(rbl x.pls++(rbl x.wrs++[])))))))))))))⟩) (fun j=>Hw.Acc j.2.1 j.2.2 (Av x.names++Aa n) 31 (x.names.length+1) 32) ?_ ?_
 ·
  refine G2 ?_;refine .lN (Aa _) J J J Y29.h J Sz29 mR (Block.row_fWriter (by exact hB.1.ok)) (Block.rl_fWriter (by exact hB.1.ok)) ?_;refine G1 ?_;refine .load1 J J J Y30.h J mR (by exact Block.get_fSeq (by exact hB.1.ok)) ?_;refine .build (cs:=(⟨B.fWriter,B.fSeq⟩:DPl).cells) J J J (fun w=>run_build2 (a:=agg (Aa B.fWriter)) (b:=u64 B.fSeq) (ca:=Aa B.fWriter) (cb:=[u64 B.fSeq]) DPl.zr underlying101 J J Sz29 Sz30 (DPl.length DPl.zero_ok) J J (by rw[Aa,La0];exact hB.1.ok.l_fWriter) J w) ?_;refine .alloc (cs:=DPl.zero.cells) J DPl.zr J ?_;intro n9 hn9 hf9;refine .sA J J J J (DPl.isCell (by exact hwp)) Sz101 (DPl.length (by exact hwp)) Z0 (DPl.length (by exact DPl.zero_ok)) zU ?_;refine G2 ?_;exact⟨(n9,s9,bl9),hac9,Ag wN (Ab rM (Ab rM (Ab rM (Ab rM (Ab rM (Ab rM (Ab rM (Ab rM (Ab rM (Ac sG (Ac sG (Ac sG (Ac sG Ae)))))))))))))⟩
 intro j hj;obtain⟨m9,s9,bl9⟩:=j;simp only at hj ⊢;have hac9:=hj;refine .join (ι:=RV) (fun r=>⟨[(0,ptr p 0),(4,ptr n4 0),(5,ptr n5 0)],(⟨n5,B.cells,37,B.cells.length⟩::(⟨n4,Aa n,31,(Aa n).length⟩::(⟨p,[ptr p 0,s9.v, .map (some x.bE), .map (some x.bH), .map (some x.bO), .map (some x.bP), .map (some x.bW)],93,7⟩::(A4 x.bE (Ao 32 evE) (Bh x.ent n (⟨B,dp⟩,D))::(A4 x.bH (Ao 32 evU) (Bh hd n ())::(A4 x.bO (Ao 32 evB) (x.orp)::(A4 x.bP (placeT 32 evR) (Bh x.pls (B.fWriter,B.fSeq) r)::(A4 x.bW (Ao 32 evR) (x.wrs)::(bl9++(x.cb++(rbl (Bh x.pls (B.fWriter,B.fSeq) r)++(rbl x.wrs++[]))))))))))))⟩) (fun r=>MoreR (Aj x.pls (B.fWriter,B.fSeq)) n r) ?_ ?_
 ·
  refine .withK (sp_k (sp_k (sp_k (sp_k (sp_v (sp_v (sp_v (sp_v (sp_v (sp_x (sp_x (sp_x (sp_x sp_n))))))))))))) J (.draw (oPq [0,1,2,3,4,5,206,407,8,10,409,411]) Aq zK (G3 ?_));refine .kload1 J J J underlying90 J Z3 (by rfl) ?_;refine .kloadAll J J J underlying101 J Sz101 Z2 (DPl.length (by exact hwp)) ?_;refine .kloadAll J J J Y31.h J Sz31 Z1 (by(simp[h32];done)) ?_;refine .mkRow2 (z:=agg (Aa (List.replicate 32 0))) [agg (Aa n)] (Aa n) J J Y32.h Sz31 Cj J J (by intro v hv;rw[La1.1 hv];simp[Value.cells,Aa,h32]) dE (by simp[Value.cells,agg]) ?_;intro q12;obtain⟨R12,hR12,hS12⟩:=rbl_put x.pls (B.fWriter,B.fSeq);have hrk12:=hx.plsR (B.fWriter,B.fSeq);refine .mapEntry (d0:=RV.none) (k:=(B.fWriter,B.fSeq)) MP J J J J J J hB.1.ok.l_fWriter rM ?_;intro st12;obtain⟨row12,hrow12⟩:∃r,r=(Aj x.pls (B.fWriter,B.fSeq)).getD RV.none:=⟨_,rfl⟩;rw[←hrow12]at hR12 hrk12 ⊢;refine G2 ?_;refine .appendAcc (z:=agg (Aa (List.replicate 32 0))) (by':=32) (Aa n) J J J J J Y32.h Y32.h Sz31 Cj (by unfold By;kernel_rfl) J hrk12.1.acc (perm_open sG hR12) (fun w h=>SeesP.of (An h Z1)) (fun e=>by cases e) (A0 _) oM oM (by rw[Aa,La0,h32]) ?_;intro s12 bl12 hac12;refine .entryStore (k:=(B.fWriter,B.fSeq)) (v:=(⟨s12,bl12,row12.ks++[n]⟩:RV)) J J J J J hB.1.ok.l_fWriter (by repeat(first|exact A9|apply Ce)) ?_;rw[mput_mput];refine G2 ?_;refine⟨(⟨s12,bl12,row12.ks++[n]⟩:RV),(⟨⟨by rw[Cf,La2];simpa[Av]using hac12,fun l hl=>by rcases Lab.1 hl with h|h;exact hrk12.1.r32 l h;rw[La1.1 h];exact h32⟩,by rw[←hrow12]⟩:MoreR _ n (⟨s12,bl12,row12.ks++[n]⟩:RV)),?_⟩;refine wk_norm (by simp only[Lak,Lah,Lat,La8];exact rfl) ?_;exact Ag wN (Ab rM (Ab rM (Ab rM (Ab rM (Ab rM (Ab rM (Ab rM (Ab rM (Ac sG (Ac sG (pm_join sG sG (hS12 (⟨s12,bl12,row12.ks++[n]⟩:RV)) (Ac sG Ae))))))))))))
 intro r hj;have hr:=hj;refine .withK (sp_k (sp_k (sp_k (sp_v (sp_v (sp_v (sp_v (sp_v (sp_x (sp_x (sp_x (sp_x sp_n)))))))))))) J (.draw (oPq [0,1,2,3,4,5,6,207,408,9,11,410,412]) Aq zK (G3 ?_));refine .kload1 J J J underlying91 J Z2 (by rfl) ?_;refine G1 ?_;refine .kloadN (Aa _) J J J Y29.h J Sz29 Z0 (Block.row_fWriter (by exact hB.1.ok)) (Block.rl_fWriter (by exact hB.1.ok)) ?_;refine .kloadAll J J J Y31.h J Sz31 Z1 (by(simp[h32];done)) ?_;refine .mkRow2 (z:=agg (Aa (List.replicate 32 0))) [agg (Aa n)] (Aa n) J J Y32.h Sz31 Cj J J (by intro v hv;rw[La1.1 hv];simp[Value.cells,Aa,h32]) dE (by simp[Value.cells,agg]) ?_;intro q13;obtain⟨R13,hR13,hS13⟩:=rbl_put x.wrs B.fWriter;have hrk13:=hx.wrsR B.fWriter;refine .mapEntry (d0:=RV.none) (k:=B.fWriter) MW J J J J J J hB.1.ok.l_fWriter rM ?_;intro st13;obtain⟨row13,hrow13⟩:∃r,r=(Aj x.wrs B.fWriter).getD RV.none:=⟨_,rfl⟩;rw[←hrow13]at hR13 hrk13 ⊢;refine G2 ?_;refine .appendAcc (z:=agg (Aa (List.replicate 32 0))) (by':=32) (Aa n) J J J J J Y32.h Y32.h Sz31 Cj (by unfold By;kernel_rfl) J hrk13.1.acc (perm_open sG hR13) (fun w h=>SeesP.of (An h Z1)) (fun e=>by cases e) (A0 _) oM oM (by rw[Aa,La0,h32]) ?_;intro s13 bl13 hac13;refine .entryStore (k:=B.fWriter) (v:=(⟨s13,bl13,row13.ks++[n]⟩:RV)) J J J J J hB.1.ok.l_fWriter (by repeat(first|exact A9|apply Ce)) ?_;rw[mput_mput];refine G2 ?_;simp only[Lak,Lah,Lat,La8];refine As (out:=(⟨p,[ptr p 0,s9.v, .map (some x.bE), .map (some x.bH), .map (some x.bO), .map (some x.bP), .map (some x.bW)],93,7⟩::(A4 x.bE (Ao 32 evE) (Bh x.ent n (⟨B,dp⟩,D))::(A4 x.bH (Ao 32 evU) (Bh hd n ())::(A4 x.bO (Ao 32 evB) (x.orp)::(A4 x.bP (placeT 32 evR) (Bh x.pls (B.fWriter,B.fSeq) r)::(A4 x.bW (Ao 32 evR) (Bh x.wrs B.fWriter (⟨s13,bl13,row13.ks++[n]⟩:RV))::(bl9++(x.cb++(rbl (Bh x.pls (B.fWriter,B.fSeq) r)++(rbl (Bh x.wrs B.fWriter (⟨s13,bl13,row13.ks++[n]⟩:RV))++[]))))))))))) (res_none J) (Ab rM (Ab rM (Ab rM (Ab rM (Ab rM (Ab rM (Ac sG (Ac sG (Ac sG (pm_join sG sG (hS13 (⟨s13,bl13,row13.ks++[n]⟩:RV)) Ae)))))))))) ?_;have hm13:=(⟨⟨by rw[Cf,La2];simpa[Av]using hac13,fun l hl=>by rcases Lab.1 hl with h|h;exact hrk13.1.r32 l h;rw[La1.1 h];exact h32⟩,by rw[←hrow13]⟩:MoreR _ n (⟨s13,bl13,row13.ks++[n]⟩:RV));subst hdp;subst hhd;exact⟨rfl,s9,bl9,r,(⟨s13,bl13,row13.ks++[n]⟩:RV),(by simp only[DD.blks,DD.adm,Lat]),hx.adm h32 hB hroom hac9 hr hm13,hr,hm13⟩
def insB(a:List UInt8):List (List UInt8)→List (List UInt8)
  | []=>[a]
  |b::l=>if C7 a b≤0 then a::b::l else b::insB a l
def isort(l:List (List UInt8)):List (List UInt8):=l.foldr insB []
theorem insB_perm(a:List UInt8):∀l,(insB a l).Perm (a::l)
  | []=>Ld1 _
  | b::l=>by
    unfold insB;split
    ·exact Ld1 _
    ·exact(List.Perm.cons b (insB_perm a l)).trans (List.Perm.swap a b l)
theorem Br:∀l,(isort l).Perm l
  | []=>Ld1 _
  |a::l=>(insB_perm a (isort l)).trans (List.Perm.cons a (Br l))
theorem insB_sort(a:List UInt8):∀l,SortB l→SortB (insB a l)
  | [],_=>by simp[insB,SortB]
  | b ::l,h=>by
    obtain⟨h1,h2⟩:=Ldk.1 h;unfold insB;split
    · rename_i hab
      refine Ldk.2 ⟨fun c hc=>?_,h⟩;rcases Laj.1 hc with rfl|hc
      ·exact hab
      ·exact(cmpB_trans a b c hab (h1 c hc)).1
    · rename_i hab
      refine Ldk.2 ⟨fun c hc=>?_,insB_sort a l h2⟩;rcases Laj.1 ((insB_perm a l).mem_iff.1 hc)with rfl|hc
      ·have:=cmpB_neg c b;omega
      ·exact h1 c hc
theorem isort_sort:∀l,SortB (isort l)
  | []=>List.Pairwise.nil
  |a::l=>insB_sort a _ (isort_sort l)
theorem sort_unique:∀ {a b:List (List UInt8)},a.Perm b→SortB a→SortB b→a=b
  | [],b,hp,_,_=>(List.nil_perm.1 hp).symm
  |x::a,[],hp,_,_=>by have:=hp.length_eq;simp at this
  | x ::a,y::b,hp,ha,hb=>by
    obtain⟨h1,h2⟩:=Ldk.1 ha;obtain⟨h3,h4⟩:=Ldk.1 hb;have e:x=y:=by
      have hx:=hp.mem_iff.1 (La9 (a:=x) (l:=a));have hy:=hp.mem_iff.2 (La9 (a:=y) (l:=b));rcases Laj.1 hx with h|h
      ·exact h
      · rcases Laj.1 hy with h5|h5
        ·exact h5.symm
        · have u1:=h3 x h
          have u2:=h1 y h5;have u3:=cmpB_neg x y;exact(cmpB_zero x y).1 oM
    subst e;rw[sort_unique (List.Perm.cons_inv hp) h2 h4]
theorem isort_eq(hp:ks.Perm l)(hs:SortB ks):ks=isort l:=sort_unique (hp.trans (Br l).symm) hs (isort_sort l)
structure PD where
  names:List (List UInt8)
  P:List (List UInt8×DB)
  dep:List (List UInt8×Int)
  hds:List (List UInt8×Unit)
  orp:List (List UInt8×DB)
  pls:List ((List UInt8×UInt64)×List (List UInt8))
  wrs:List (List UInt8×List (List UInt8))
def DD.pl(x:DD):PD:=⟨x.names,x.P,x.ent.map fun p=>(p.1,p.2.1.fDepth),x.hds,x.orp.map fun p=>(p.1,p.2.2),x.pls.map fun p=>(p.1,p.2.ks),x.wrs.map fun p=>(p.1,p.2.ks)⟩
def stepP(dep:List (List UInt8×Int))(d:Int)(n:List UInt8):Int:=if(Aj dep n).getD 0+1>d then(Aj dep n).getD 0+1 else d
def PD.adm(X:PD)(n:List UInt8)(D:DB):PD:=
  ⟨X.names++[n],Bh X.P n D,Bh X.dep n ((Bo D).foldl (stepP X.dep) 0),Bh (delL X.hds (Bo D)) n (),X.orp,Bh X.pls (D.w,D.seq) ((Aj X.pls (D.w,D.seq)).getD []++[n]),Bh X.wrs D.w ((Aj X.wrs D.w).getD []++[n])⟩
theorem get_ks[DecidableEq κ](fs:List (κ×RV))(k:κ):((Aj fs k).getD RV.none).ks=(Aj (fs.map fun p=>(p.1,p.2.ks)) k).getD []:=by
  rw[mget_map (fun r:RV=>r.ks)];cases Aj fs k<;>rfl
theorem adm_pl{x:DD}(hB:SameB B D)(hp:MoreR (Aj x.pls (B.fWriter,B.fSeq)) n rp)(hw:MoreR (Aj x.wrs B.fWriter) n rw):(x.adm s bl n B D rp rw).pl=x.pl.adm n D:=by
  have e1:(Bh x.ent n ((⟨B,depL x.ent (Bo D)⟩,D):EV)).map (fun p=>(p.1,p.2.2))=Bh x.P n D:=mput_map (fun e:EV=>e.2) x.ent n (⟨B,depL x.ent (Bo D)⟩,D);have ed:∀m,((Aj x.ent m).map fun e=>e.1.fDepth)=Aj (x.ent.map fun p=>(p.1,p.2.1.fDepth)) m:=fun m=>(mget_map (fun e:EV=>e.1.fDepth) x.ent m).symm;have es:depL x.ent (Bo D)=(Bo D).foldl (stepP (x.ent.map fun p=>(p.1,p.2.1.fDepth))) 0:=by
    unfold depL;congr 1;funext d m;unfold stepD stepP;rw[ed m]
  have e2:(Bh x.ent n ((⟨B,depL x.ent (Bo D)⟩,D):EV)).map (fun p=>(p.1,p.2.1.fDepth))=Bh (x.ent.map fun p=>(p.1,p.2.1.fDepth)) n (depL x.ent (Bo D)):=mput_map (fun e:EV=>e.1.fDepth) x.ent n (⟨B,depL x.ent (Bo D)⟩,D);have e3:(Bh x.pls (B.fWriter,B.fSeq) rp).map (fun p=>(p.1,p.2.ks))=Bh (x.pls.map fun p=>(p.1,p.2.ks)) (B.fWriter,B.fSeq) rp.ks:=mput_map (fun r:RV=>r.ks) x.pls (B.fWriter,B.fSeq) rp;have e4:(Bh x.wrs B.fWriter rw).map (fun p=>(p.1,p.2.ks))=Bh (x.wrs.map fun p=>(p.1,p.2.ks)) B.fWriter rw.ks:=mput_map (fun r:RV=>r.ks) x.wrs B.fWriter rw;unfold DD.pl PD.adm DD.adm DD.P;simp only;rw[e1,e2,es,e3,e4,hp.2,hw.2,get_ks,get_ks,hB.w,hB.seq];rfl
def PD.drop1(X:PD)(n:List UInt8):PD:={ X with orp:=mdel X.orp n }
def DD.drop1(x:DD)(n:List UInt8):DD:={ x with orp:=mdel x.orp n }
theorem drop1_pl(x:DD)(n:List UInt8):(x.drop1 n).pl=x.pl.drop1 n:=by
  unfold DD.pl DD.drop1 PD.drop1;simp only;rw[mdel_map (fun b:BV=>b.2)];rfl
theorem mdel_one[DecidableEq κ]{k:κ}{v:ν}(h:Aj fs k=some v):(mdel fs k).length+1=fs.length:=by
  have hi:∃j,midx fs k=some j∧j<fs.length:=by
    unfold Aj at h;unfold midx;cases hf:fs.find? (fun p=>decide (p.1=k))with
    |none=>rw[hf]at h;cases h
    | some p=>
      obtain⟨hp,j,hj,_,hn⟩:=Ld5.1 hf
      rename_i e1
      exact⟨j,by rw[Lbq];exact⟨hj,by rw[e1];exact hp,fun i hi=>by simpa using hn i hi⟩,hj⟩
  obtain⟨j,hj,hl⟩:=hi;unfold mdel;rw[hj];simp only[Les,hl,if_true];omega
theorem DD.ok.drop1{x:DD}(h:x.ok)(n:List UInt8):(x.drop1 n).ok:={ h with
  big:=Lbb (Nat.add_le_add_left (mdel_len _ _) _) h.big
  orpn:=Lbb (mdel_len _ _) h.orpn
  orp:=fun p hp=>h.orp p (mdel_mem hp) }
def PD.first(X:PD):Option (List UInt8):=(isort (X.orp.map (·.1))).find? fun n=>Bi X.P ((Aj X.orp n).getD DB.zero) !=0
def PD.settle:Nat→PD→PD×List (List UInt8)
  |0,X=>(X,[])
  | f+1,X=>match X.first with
    |none=>(X,[])
    |some n=>if Bi X.P ((Aj X.orp n).getD DB.zero)=1 then(let r:=PD.settle f ((X.drop1 n).adm n ((Aj X.orp n).getD DB.zero));(r.1,n::r.2))else PD.settle f (X.drop1 n)
theorem settle_done{X:PD}(h:X.first=none)(f:Nat):PD.settle f X=(X,[]):=by
  cases f with
  |zero=>rfl
  |succ f=>rw[PD.settle,h]
theorem settle_fit{X:PD}(h:X.first=some n)(hD:Aj X.orp n=some D)(hj:Bi X.P D=1)(f:Nat):PD.settle (f+1) X=((PD.settle f ((X.drop1 n).adm n D)).1,n::(PD.settle f ((X.drop1 n).adm n D)).2):=by
  rw[PD.settle,h];simp only[hD,Lc1];rw[if_pos hj]
theorem settle_wrong{X:PD}(h:X.first=some n)(hD:Aj X.orp n=some D)(hj:Bi X.P D≠1)(f:Nat):PD.settle (f+1) X=PD.settle f (X.drop1 n):=by
  rw[PD.settle,h];simp only[hD,Lc1];rw[if_neg hj]
theorem first_at{X:PD}(hks:ks=isort (X.orp.map (·.1))){k:Nat}(hk:k<ks.length)(hall:∀j,j<k→Bi X.P ((Aj X.orp (ks.getD j [])).getD DB.zero)=0)(h:Bi X.P ((Aj X.orp (ks.getD k [])).getD DB.zero)≠0):X.first=some (ks.getD k []):=by
  unfold PD.first;rw[←hks,Ld5];have e:∀j (hj:j<ks.length),ks.getD j []=ks[j]:=fun j hj=>by rw[La4,La3 hj];rfl
  refine⟨by simpa using h,k,hk,(e k hk).symm,fun j hj=>?_⟩;have:=hall j hj;rw[e j oM]at this;rw[this];rfl
theorem first_none{X:PD}(hks:ks=isort (X.orp.map (·.1)))(hall:∀j,j<ks.length→Bi X.P ((Aj X.orp (ks.getD j [])).getD DB.zero)=0):X.first=none:=by
  unfold PD.first;rw[←hks,Lek];intro n hn;obtain⟨j,hj,rfl⟩:=Lbo hn;have:=hall j hj;rw[La4,La3 hj]at this;simp only[Lc1]at this;rw[this];simp
theorem DD.getO(x:DD)(k:List UInt8):Aj x.pl.orp k=(Aj x.orp k).map (·.2):=mget_map (fun b:BV=>b.2) x.orp k
theorem orp_keys(x:DD):x.pl.orp.map (·.1)=x.orp.map (·.1):=by unfold DD.pl;simp only[Lhd];rfl
theorem Cr[DecidableEq κ]{k:κ}(h:k∈fs.map (·.1)):∃v,Aj fs k=some v:=by
  obtain⟨p,hp,rfl⟩:=La6.1 h;unfold Aj;cases hf:fs.find? (fun q=>decide (q.1=p.1))with
  |none=>rw[Lek]at hf;have:=hf p hp;simp at this
  |some q=>exact⟨q.2,rfl⟩
def AdmR(x:DD)(p:Nat)(n:List UInt8)(D:DB)(v:Value)(out:List Blk):Prop:=v= .tuple #[]∧∃x':DD,out=x'.blks p∧x'.ok∧x'.pl=x.pl.adm n D∧x'.names.length=x.names.length+1∧x'.orp.length=x.orp.length
theorem dag_admit2(x:DD)(hx:x.ok)(p:Nat)(n:List UInt8)(h32:n.length=32)(B:Block)(D:DB)(hB:Held x.cb B D)(hs:D.ls.length≤500000)(hroom:x.names.length+x.orp.length<20000):
    Meets prog 90 [ptr p 0,agg (Aa n),agg B.cells] ((x.blks p).map (·.n)) (fun W=>Lent (x.blks p) W) (AdmR x p n D):=
  (dag_admit x hx p n h32 B D hB hs hroom).imp (fun w h=>h) fun v out ⟨h1,s,bl,rp,rw,h2,h3,h4,h5⟩=>⟨h1,_,h2,h3,adm_pl hB.1 h4 h5,by show(x.names++[n]).length=_;rw[La2,Lav],rfl⟩
theorem judge_cases(P:List (List UInt8×DB))(D:DB):Bi P D=0∨Bi P D=1∨Bi P D=2:=by
  unfold Bi;split
  ·exact .inr (.inr rfl)
  · split
    ·exact .inr (.inl rfl)
    ·exact .inl rfl
theorem settle_go{x x2:DD}(hf:x.pl.first=some kk)(hob:Aj x.orp kk=some ob)(hj:Bi x.P ob.2=1)(hp:x2.pl=(x.drop1 kk).pl.adm kk ob.2)(ho:x2.orp.length=(x.drop1 kk).orp.length):
    PD.settle x.orp.length x.pl=((PD.settle x2.orp.length x2.pl).1,kk::(PD.settle x2.orp.length x2.pl).2):=by
  have h1:=mdel_one hob;have h2:x2.orp.length=(mdel x.orp kk).length:=ho;rw[←h1,settle_fit hf (by rw[x.getO,hob];rfl) hj,h2,hp,drop1_pl]
theorem settle_no{x:DD}(hf:x.pl.first=some kk)(hob:Aj x.orp kk=some ob)(hj:Bi x.P ob.2≠1):PD.settle x.orp.length x.pl=PD.settle (x.drop1 kk).orp.length (x.drop1 kk).pl:=by
  have h1:=mdel_one hob;have h2:(x.drop1 kk).orp.length=(mdel x.orp kk).length:=rfl;rw[←h1,settle_wrong hf (by rw[x.getO,hob];rfl) hj,h2,drop1_pl]
def SetR(x0:DD)(p:Nat)(v:Value)(out:List Blk):Prop:=∃(x:DD) (s:Sl) (bl:List Blk) (l:List (List UInt8)),v=s.v∧out=x.blks p++bl∧x.ok∧Hw.Acc s bl (Av l) 31 l.length 32∧(∀n∈l,n.length=32)∧x.names.length+x.orp.length≤x0.names.length+x0.orp.length∧l.length≤x0.orp.length∧x.pl=(PD.settle x0.orp.length x0.pl).1∧l=(PD.settle x0.orp.length x0.pl).2
theorem acc_one{E:TypeId}{m:Nat}(h:Hw.Acc s bl (Av l++Aa k) E (m+1) 32)(hm:l.length=m):Hw.Acc s bl (Av (l++[k])) E (l++[k]).length 32:=by
  rw[La2,Lav,Cf,hm];simpa[Av]using h
theorem all_snoc(h:∀n∈l,n.length=32)(hk:k.length=32):∀n∈l++[k],n.length=32:=fun n hn=>by rcases Lab.1 hn with h1|h1;exact h n h1;rw[La1.1 h1];exact hk
theorem dag_settle(x0:DD)(hx0:x0.ok)(p:Nat):Meets prog 91 [ptr p 0] ((x0.blks p).map (·.n)) (fun W=>Lent (x0.blks p) W) (SetR x0 p):=by
 intro W hW;have hbig0:=hx0.big;refine calls_of (hp0:=(⟨p,[ptr p 0,x0.nm.v, .map (some x0.bE), .map (some x0.bH), .map (some x0.bO), .map (some x0.bP), .map (some x0.bW)],93,7⟩::(A4 x0.bE (Ao 32 evE) x0.ent::(A4 x0.bH (Ao 32 evU) x0.hds::(A4 x0.bO (Ao 32 evB) x0.orp::(A4 x0.bP (placeT 32 evR) x0.pls::(A4 x0.bW (Ao 32 evR) x0.wrs::(x0.nb++(x0.cb++(rbl x0.pls++(rbl x0.wrs++[]))))))))))) func91 J 50 ntmps91 J hW.rep (G5 ?_);refine .again (l:=0) (ι:=DD×Sl×List Blk×List (List UInt8)) (fun i=>⟨[(0,ptr p 0),(3,i.2.1.v)],(⟨p,[ptr p 0,i.1.nm.v, .map (some i.1.bE), .map (some i.1.bH), .map (some i.1.bO), .map (some i.1.bP), .map (some i.1.bW)],93,7⟩::(A4 i.1.bE (Ao 32 evE) i.1.ent::(A4 i.1.bH (Ao 32 evU) i.1.hds::(A4 i.1.bO (Ao 32 evB) i.1.orp::(A4 i.1.bP (placeT 32 evR) i.1.pls::(A4 i.1.bW (Ao 32 evR) i.1.wrs::(i.1.nb++(i.1.cb++(rbl i.1.pls++(rbl i.1.wrs++(i.2.2.1++[])))))))))))⟩) (fun i=>i.1.ok∧Hw.Acc i.2.1 i.2.2.1 (Av i.2.2.2) 31 i.2.2.2.length 32∧(∀n∈i.2.2.2,n.length=32)∧i.1.names.length+i.1.orp.length≤x0.names.length+x0.orp.length∧i.2.2.2.length+i.1.orp.length≤x0.orp.length∧(PD.settle i.1.orp.length i.1.pl).1=(PD.settle x0.orp.length x0.pl).1∧i.2.2.2++(PD.settle i.1.orp.length i.1.pl).2=(PD.settle x0.orp.length x0.pl).2) (fun i=>i.1.orp.length) J ?_ ?_
 ·
  refine G4 ?_;exact⟨(x0,Sl.nil,[],[]),⟨hx0,Acc.none,fun n (h:n∈([]:List (List UInt8)))=>(by cases h),Lad _,(by show 0+x0.orp.length≤_;omega),rfl,Lah _⟩,Ag wN (Ab rM (Ab rM (Ab rM (Ab rM (Ab rM (Ab rM (Ac sG (Ac sG (Ac sG (Ac sG (Ac (by repeat(exact Df)) Ae)))))))))))⟩
 rintro⟨x,s,bl,l⟩ hi;simp only at hi ⊢;obtain⟨hx,hac3,h32l,hn1,hn2,hpl1,hpl2⟩:=hi;have hbigx:=hx.big;have hls:=hac3.num;refine G7 ?_;refine .call4 J J J J J Body64 (dag_sortedB MO x.bO x.orp (fun p hp=>(hx.orp p hp).1) oM) (fun w h=>h.cells _ Z3) ?_;rintro v11 out11 ⟨s11,ks,hkp,hks,rfl,hac⟩;have hn11:=hac.num;have hke:ks=isort (x.pl.orp.map (·.1)):=isort_eq (by rw[orp_keys];exact hkp) hks;have hrow:∀l∈ks,l.length=32:=fun l hl=>by obtain⟨q,hq,rfl⟩:=La6.1 (hkp.mem_iff.1 hl);exact(hx.orp q hq).1
 refine G5 ?_;refine .loop (ι:=Nat) (fun k=>⟨[(0,ptr p 0),(3,s.v),(11,s11.v),(12,i64 (s11.n:Int)),(13,i64 (k:Int))],(⟨p,[ptr p 0,x.nm.v, .map (some x.bE), .map (some x.bH), .map (some x.bO), .map (some x.bP), .map (some x.bW)],93,7⟩::(A4 x.bE (Ao 32 evE) x.ent::(A4 x.bH (Ao 32 evU) x.hds::(A4 x.bO (Ao 32 evB) x.orp::(A4 x.bP (placeT 32 evR) x.pls::(A4 x.bW (Ao 32 evR) x.wrs::(x.nb++(x.cb++(rbl x.pls++(rbl x.wrs++(bl++(out11++[]))))))))))))⟩) (fun k=>k≤ks.length∧∀j,j<k→Bi x.pl.P ((Aj x.pl.orp (ks.getD j [])).getD DB.zero)=0) (fun k=>ks.length-k) (0) ?_ ?_ ?_
 ·exact⟨Lan _,fun j hj=>by omega⟩
 ·exact Ag wN (Ab (by repeat(first|exact A9|apply Ce)) (Ab (by repeat(first|exact A9|apply Ce)) (Ab (by repeat(first|exact A9|apply Ce)) (Ab (by repeat(first|exact A9|apply Ce)) (Ab (by repeat(first|exact A9|apply Ce)) (Ab (by repeat(first|exact A9|apply Ce)) (Ac (by repeat(first|exact Bu|apply B6)) (Ac (by repeat(first|exact Bu|apply B6)) (Ac (by repeat(first|exact Bu|apply B6)) (Ac (by repeat(first|exact Bu|apply B6)) (Ac (by repeat(first|exact Bu|apply B6)) (Ac sG Ae))))))))))))
 rintro k ⟨hk0,hall⟩;refine G6 ?_;refine .condP J (fun hc0=>?_) (fun hc0=>?_)
 ·
  refine G6 ?_;have hk:k<ks.length:=by omega
  have hkb:k≤600000:=by have:=hkp.length_eq;simp only[La0]at this;omega
  rcases hac with ⟨_,_,_,h0⟩|⟨qr,cr,rfl,hnc,hfl,rfl⟩
  ·exfalso;omega
  obtain⟨kk,hkk⟩:∃kk,kk=ks.getD k []:=⟨_,rfl⟩;have hkm:kk∈ks:=by rw[hkk,La4,La3 hk];exact Lc7 hk
  have h32k:kk.length=32:=hrow _ hkm;obtain⟨ob,hob⟩:=Cr (fs:=x.orp) (hkp.mem_iff.1 hkm);have hheld:=hx.orp _ (Be hob);simp only at hheld;have hgo:Aj x.pl.orp kk=some ob.2:=by rw[x.getO,hob];rfl
  have hm1:=mdel_one hob;refine .idxSlP 32 J J J J J Y32.h Sz31 k J oM (.loadSN (n:=32) (Aa kk) J J J Y31.h J Sz31 (by rw[Aa,La0];exact h32k) (fun w h=>by rw[hkk];simpa using B0 hrow (An h mR) hk) ?_);refine .alloc (cs:=(Aa (List.replicate 32 0))) J Cj J ?_;intro n5 hn5 hf5;refine .sA J J J J zE Sz31 (by(rw[Aa,La0];assumption)) Z0 sP zU ?_;refine G3 ?_;refine .draw (oPq [0,1,2,103,104,105,206,407]) Aq zK (G4 ?_);refine .lA J J J Y31.h J Sz31 Z0 (by(rw[Aa,La0];assumption)) ?_;refine .lookS evB MO hob J J J J h32k Z4 ?_;refine .alloc (cs:=Block.zero.cells) J Block.zr J ?_;intro n6 hn6 hf6;refine .sA J J J J (Block.isCell (by exact hheld.2.1.1.ok)) Sz37 (Block.length (by exact hheld.2.1.1.ok)) Z0 (Block.length (by exact Block.zero_ok)) zU ?_;refine G5 ?_;refine .lA J J J Y37.h J Sz37 Z0 (Block.length (by exact hheld.2.1.1.ok)) ?_;refine .cV J J J J Body89 (dag_judge x hx p ob.1 ob.2 hheld.2.1.1 oM) (fun w h=>⟨DagSee.of h Z2 Z3,hheld.2.1.2 w (Lies.of h (by repeat(first|exact Au|refine A3 ?_|refine Bk ?_)))⟩) ?_;refine G9 ?_;refine .condP J (fun hc1=>?_) (fun hc1=>?_)
  ·
   refine .seq (.draw (oPq [0,1,2,103,104,405]) Aq zK (G4 ?_));refine .lA J J J Y31.h J Sz31 Z1 (by(rw[Aa,La0];assumption)) ?_;refine .mapDel MO J J J J h32k rM ?_;refine G5 ?_;refine .lA J J J Y31.h J Sz31 Z2 (by(rw[Aa,La0];assumption)) ?_;refine .lA J J J Y37.h J Sz37 Z1 (Block.length (by exact hheld.2.1.1.ok)) ?_;refine .callL (L:=((x.drop1 kk).blks p)) J J J J J Body90 (dag_admit2 (x.drop1 kk) (hx.drop1 kk) p kk h32k ob.1 ob.2 hheld.2.1 oM (by show x.names.length+(mdel x.orp kk).length<20000;omega)) (Ab rM (Ab rM (Ab rM (Ab rM (Ab rM (Ab rM (Ac sG (Ac sG (Ac sG (Ac sG Ae)))))))))) (C5 J) (fun w h=>Lent.of h (Ab rM (Ab rM (Ab rM (Ab rM (Ab rM (Ab rM (Ac sG (Ac sG (Ac sG (Ac sG Ae))))))))))) ?_;rintro v36 out36 ⟨rfl,x2,rfl,hx2,hplx,hnlx,holx⟩;simp only[DD.blks,Lak,Lah,La8];refine G5 ?_;refine .lA J J J Y31.h J Sz31 mR (by(rw[Aa,La0];assumption)) ?_;refine .mkRow2 (z:=agg (Aa (List.replicate 32 0))) [agg (Aa kk)] (Aa kk) J J Y32.h Sz31 Cj J J (by intro v hv;rw[La1.1 hv];simp[Value.cells,Aa,h32k]) dE (by simp[Value.cells,agg]) ?_;intro q39;refine .appendAcc (z:=agg (Aa (List.replicate 32 0))) (by':=32) (Aa kk) J J J J J Y32.h Y32.h Sz31 Cj (by unfold By;kernel_rfl) J hac3 sG (fun w h=>SeesP.of (An h Z0)) (fun e=>by cases e) (A0 _) oM oM (by rw[Aa,La0,h32k]) ?_;intro s40 bl40 hac40;refine G3 ?_;refine .goto (bl_g (bl_g (at_g (at_g (bl_g (at_g (jm_g ?_)))))));have hf:x.pl.first=some kk:=by rw[hkk];exact first_at hke hk hall (by rw[←hkk,hgo];show Bi x.P ob.2≠0;omega)
   have hst:=settle_go (x2:=x2) hf hob hc1 hplx holx;rw[hst]at hpl1 hpl2;have hol2:x2.orp.length=(mdel x.orp kk).length:=holx;have hnl2:x2.names.length=x.names.length+1:=hnlx;exact⟨(x2,s40,bl40,l++[kk]),⟨hx2,acc_one hac40 rfl,all_snoc h32l h32k,by simp only;omega,by simp only[La2,Lav];omega,hpl1,by simp only[La8,Lcb];exact hpl2⟩,by simp only;omega,Ag wN (Ab rM (Ab rM (Ab rM (Ab rM (Ab rM (Ab rM (Ac sG (Ac sG (Ac sG (Ac sG (Ac sG Ae)))))))))))⟩
  refine G6 ?_;refine .condP J (fun hc2=>?_) (fun hc2=>?_)
  ·
   refine .seq (.draw (oPq [0,1,2,103,104,405]) Aq zK (G4 ?_));refine .lA J J J Y31.h J Sz31 Z1 (by(rw[Aa,La0];assumption)) ?_;refine .mapDel MO J J J J h32k rM ?_;refine G2 ?_;refine .goto (bl_g (bl_g (at_g (at_g (bl_g (at_g (jm_g ?_)))))));have hf:x.pl.first=some kk:=by rw[hkk];exact first_at hke hk hall (by rw[←hkk,hgo];show Bi x.P ob.2≠0;omega)
   have hst:=settle_no hf hob oM;rw[hst]at hpl1 hpl2;have hol2:(x.drop1 kk).orp.length=(mdel x.orp kk).length:=rfl;have hnl2:(x.drop1 kk).names.length=x.names.length:=rfl;exact⟨(x.drop1 kk,s,bl,l),⟨hx.drop1 kk,hac3,h32l,by simp only;omega,by simp only;omega,hpl1,hpl2⟩,by simp only;omega,Ag wN (Ab rM (Ab rM (Ab rM (Ab rM (Ab rM (Ab rM (Ac sG (Ac sG (Ac sG (Ac sG (Ac sG Ae)))))))))))⟩
  refine G9 ?_;exact⟨k+1,⟨hk,fun j hj=>by rcases Lg3 (Lgv hj)with h|h;exact hall j h;rw[h,←hkk,hgo];show Bi x.P ob.2=0;rcases judge_cases x.P ob.2 with h9|h9|h9<;>omega⟩,by omega,Ag wN (Ab rM (Ab rM (Ab rM (Ab rM (Ab rM (Ab rM (Ac sG (Ac sG (Ac sG (Ac sG (Ac sG (Ac sG Ae))))))))))))⟩
 refine G11 ?_;refine .ret (jm_r (C6 (As (out:=(⟨p,[ptr p 0,x.nm.v, .map (some x.bE), .map (some x.bH), .map (some x.bO), .map (some x.bP), .map (some x.bW)],93,7⟩::(A4 x.bE (Ao 32 evE) x.ent::(A4 x.bH (Ao 32 evU) x.hds::(A4 x.bO (Ao 32 evB) x.orp::(A4 x.bP (placeT 32 evR) x.pls::(A4 x.bW (Ao 32 evR) x.wrs::(x.nb++(x.cb++(rbl x.pls++(rbl x.wrs++(bl++[])))))))))))) (Af J J) (Ab rM (Ab rM (Ab rM (Ab rM (Ab rM (Ab rM (Ac sG (Ac sG (Ac sG (Ac sG (Ac sG Ae))))))))))) ?_)));rw[settle_done (first_none hke (by rw[show k=ks.length by omega]at hall;exact hall))]at hpl1 hpl2;exact⟨x,s,bl,l,rfl,(by simp only[DD.blks,Lak,Lah,Lat,La8]),hx,hac3,h32l,hn1,by omega,hpl1,by simpa using hpl2⟩
end Go.Proofs.YtgjnomgkddbhcaaGreat
end
