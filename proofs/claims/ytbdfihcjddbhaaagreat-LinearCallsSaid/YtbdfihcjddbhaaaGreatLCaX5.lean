/- Contracts of functions of the loaded program, and the lemmas that they need (part 5). It proves no statement by itself; it has no conditions. -/
import Derived.Test.YtbdfihcjddbhaaaGreatLCaX4
set_option maxRecDepth 100000
set_option maxHeartbeats 8000000
set_option linter.unusedVariables false
set_option linter.unusedSimpArgs false
set_option linter.unusedSectionVars false
set_option linter.unnecessarySimpa false
section
namespace Go.Proofs.YtbdfihcjddbhaaaGreat
open Go Hw _root_.Go.Proofs.Tryz
open Ed
theorem r_mul(x y:Fp):Mv 236 [agg (Aa (fb x)),agg (Aa (fb y))] (λ_=>True) (agg (Aa (fb (x*y)))):=by
  have h:=r3_Mul (fb x) (fb y) (Aw x) (Aw y);rwa[fe_fb x,fe_fb y]at h
theorem r_sub(x y:Fp):Mv 264 [agg (Aa (fb x)),agg (Aa (fb y))] (λ_=>True) (agg (Aa (fb (x-y)))):=by
  have h:=r3_Sub (fb x) (fb y) (Aw x) (Aw y);rwa[fe_fb x,fe_fb y]at h
theorem r_neg(x:Fp):Mv 225 [agg (Aa (fb x))] (λ_=>True) (agg (Aa (fb (-x)))):=by
  have h:=r3_Neg (fb x) (Aw x);rwa[fe_fb x]at h
theorem r_inv(x:Fp):Mv 238 [agg (Aa (fb x))] (λ_=>True) (agg (Aa (fb (finv x)))):=by
  have h:=r3_Inv (fb x) (Aw x);rwa[fe_fb x]at h
theorem r_odd(x:Fp):Mv 239 [agg (Aa (fb x))] (λ_=>True) (.bool (decide (x.val%2=1))):=by
  have h:=r3_Odd (fb x) (Aw x);rwa[fe_fb x]at h
theorem r_canon(x:Fp):Mv 223 [agg (Aa (fb x))] (λ_=>True) (.bool true):=by
  have h:=r3_Canon (fb x) (Aw x);rw[fe_fb x]at h;rwa[decide_eq_true rfl]at h
theorem r_same_raw(x:Fp)(a:List UInt8)(ha:a.length=32):Mv 282 [agg (Aa (fb x)),agg (Aa a)] (λ_=>True) (.bool (decide (x=fe (le a)))):=by
  have h:=r3_Same (fb x) a (Aw x) ha;rwa[fe_fb x]at h
theorem r_of(x:UInt64)(X:Fp)(h:fe x.toNat=X):Mv 237 [u64 x] (λ_=>True) (agg (Aa (fb X))):=by
  rw[<-h];exact r3_Of x
theorem r_one:Mv 237 [u64 1] (λ_=>True) (agg (Aa (fb 1))):=r_of 1 1 rfl
theorem r_cA:Mv 237 [u64 121666] (λ_=>True) (agg (Aa (fb cA))):=r_of 121666 cA rfl
theorem r_cB:Mv 237 [u64 121665] (λ_=>True) (agg (Aa (fb cB))):=r_of 121665 cB rfl
theorem r_pow_root(a:List UInt8)(ha:a.length=32)(X:Fp)(hX:fe (le a)=X):Mv 272 [agg (Aa a),agg (Aa (expT 5 3))] (λ_=>True) (agg (Aa (fb (Cy X ((PF-5)/8))))):=r3_Pow_e a _ ha (expT_length _ _) _ X expT_root hX
theorem r_pow_unit:Mv 272 [agg (Aa (fb (fe 2))),agg (Aa (expT 1 2))] (λ_=>True) (agg (Aa (fb (Cy (fe 2) ((PF-1)/4))))):=r3_Pow_e _ _ (Aw _) (expT_length _ _) _ _ expT_unit (fe_fb _)
theorem r_mul_a(p r:Fp)(a:List UInt8)(ha:a.length=32)(h:p*fe (le a)=r):Mv 236 [agg (Aa (fb p)),agg (Aa a)] (λ_=>True) (agg (Aa (fb r))):=by
  have h1:=r3_Mul (fb p) a (Aw p) ha;rwa[fe_fb p,h]at h1
theorem r3_Root(a:List UInt8)(X:Fp)(ha:a.length=32)(hX:fe (le a)=X):Mv 265 [agg (Aa a)] (λ_=>True) (.tuple #[agg (Aa (fb (fRoot X).1)), .bool (fRoot X).2]):=by
 intro W hW;obtain⟨r0,aj⟩:∃r,Cy X ((PF+3)/8)=r:=⟨_,rfl⟩;obtain⟨un,ak⟩:∃r,Cy (fe 2) ((PF-1)/4)=r:=⟨_,rfl⟩;obtain⟨r1,ai⟩:∃r,fRoot1 X=r:=⟨_,rfl⟩;have hp0:=r_pow_root a ha X hX;have aa:=root_step X;obtain⟨p0,an⟩:∃r,Cy X ((PF-5)/8)=r:=⟨_,rfl⟩;rw[an]at hp0 aa;rw[aj]at aa;have am:=r_mul_a p0 r0 a ha (by rw[hX];exact aa);have ah:=r_pow_unit;rw[ak]at ah;have hm:=λy=>r_same_raw y a ha;rw[hX]at hm;have ab:r1=if r0*r0=X then r0 else r0*un:=by rw[<-ai,fRoot1,aj,ak]
 have hR:fRoot X=if r1*r1=X then((if r1.val%2=1 then-r1 else r1),true)else(0,false):=by rw[fRoot,ai]
 clear ai aa;have ad:=r3_shifted 5 3 dE dE;have ac:=r3_shifted 1 2 dE dE;obtain⟨E,hE⟩:∃E,Hid (expT 5 3=E):=⟨_,⟨rfl⟩⟩;obtain⟨G,hG⟩:∃E,Hid (expT 1 2=E):=⟨_,⟨rfl⟩⟩;have ao:E.length=32:=by rw[<-hE.out];exact expT_length _ _
 have ap:G.length=32:=by rw[<-hG.out];exact expT_length _ _
 rw[hE.out]at ad hp0;rw[hG.out]at ac ah;refine Ae func265 J 33 ntmps265 J (G3 ?_);intro n1 av aq;refine .alloc (cs:=(Aa (List.replicate 32 0))) J A9 J ?_;intro n2 aw ar;refine G4 ?_;refine .draw (oPq [100,103,301,302,304,205,406]) Au zK (.lA J J J Y184.h J Sz184 Z1 (by(simp[ha];done)) ?_);refine .lA J J J Y184.h J Sz184 Z1 (by(simp[ha];done)) ?_;refine .cV J J J J Body273 (ad) tV (.cV J J J J Body272 (hp0) tV (.cV J J J J Body236 (am) tV (.alloc (cs:=(Aa (List.replicate 32 0))) J A9 J ?_)));intro n4 ax au;refine .sA J J J J zE Sz184 zF Z0 sP zU ?_;refine G2 ?_;refine .join (ι:=Unit) (λ_u=>⟨[(1,ptr n1 0),(2,ptr n2 0),(4,ptr n4 0)],[⟨n4,Aa (fb r1),184,32⟩,⟨n2,Aa (List.replicate 32 0),184,32⟩,⟨n1,Aa a,184,(Aa a).length⟩]⟩) (λ_u=>True) ?_ ?_
 ·
  refine .seq (.draw (oPq [100,101,103,302,304,5]) Au zK (G2 ?_));refine .lA J J J Y184.h J Sz184 Z2 (by(simp[ha];done)) ?_;refine .cV J J J J Body236 (r_mul r0 r0) tV (.cV J J J J Body282 (hm (r0*r0)) tV (G3 ?_));refine .condNP J (λae=>?_) (λae=>?_)
  ·
   refine .draw (oPq [100,301,302,303,304,405]) Au zK (G1 ?_);refine .cV J J J J Body237 (r_of 2 (fe 2) J) tV (.cV J J J J Body273 (ac) tV (.cV J J J J Body272 (ah) tV (.cV J J J J Body236 (r_mul r0 un) tV (G3 ?_))))
   (rw[ab,if_neg ae];exact⟨(),trivial,Ah wN (wh1 Z0 (wh1 Z1 (wh1 Z2 wh0))) nD⟩)
  refine G2 ?_
  (rw[ab,if_pos ae];exact⟨(),trivial,Ah wN (wh1 Z0 (wh1 Z1 (wh1 Z2 wh0))) nD⟩)
 intro _u hj;skip;refine G2 ?_;refine .draw (oPq [100,101,103,302,304,5]) Au zK (G2 ?_);refine .lA J J J Y184.h J Sz184 Z2 (by(simp[ha];done)) ?_;refine .cV J J J J Body236 (r_mul r1 r1) tV (.cV J J J J Body282 (hm (r1*r1)) tV (G3 ?_));refine .condNP J (λag=>?_) (λag=>?_)
 ·
  refine G2 ?_;refine .build (cs:=Aa (List.replicate 32 0)) J J J (λw=>by kernel_rfl) ?_;refine .sA J J J J zE Sz184 sP Z1 sP zV ?_;refine G3 ?_;refine G3 ?_;refine⟨_,[],Bg J J J Y184.h J Sz184 Z1 sP,sP,sP,?_,rfl⟩
  (rw[hR,if_neg ag,fb_zero];done)
 refine G2 ?_;refine .join (ι:=Unit) (λ_u=>⟨[(2,ptr n2 0),(4,ptr n4 0)],[⟨n4,Aa (fb (if r1.val%2=1 then-r1 else r1)),184,32⟩,⟨n2,Aa (List.replicate 32 0),184,32⟩]⟩) (λ_u=>True) ?_ ?_
 ·
  refine G3 ?_;refine .cV J J J J Body239 (r_odd r1) tV (G2 ?_);refine .condP J (λhc2=>?_) (λhc2=>?_)
  ·
   refine G2 ?_;refine .cV J J J J Body225 (r_neg r1) tV (G3 ?_)
   (rw[if_pos hc2];exact⟨(),trivial,Ah wN (wh1 Z0 (wh1 Z1 wh0)) nD⟩)
  refine G2 ?_
  (rw[if_neg hc2];exact⟨(),trivial,Ah wN (wh1 Z0 (wh1 Z1 wh0)) nD⟩)
 intro _u hj;skip;refine G3 ?_;refine .sA J J J J zE Sz184 zF Z1 sP zV ?_;refine G3 ?_;refine G2 ?_;refine⟨_,[],Bg J J J Y184.h J Sz184 Z1 (by simp[Aw]),sP,sP,?_,rfl⟩
 (rw[hR,if_pos ag];done)
theorem check_eq{P:Pt Fp}(h:cv.on P):cA*(P.y*P.y-P.x*P.x-1)= -(cB*(P.x*P.x*(P.y*P.y))):=by
  have h1:=(cv.on_iff P).1 h;have h2:P.y*P.y-P.x*P.x=1+fD*(P.x*P.x*(P.y*P.y)):=h1;have h3:=fD_cA;rw[h2];generalize P.x*P.x*(P.y*P.y)=q at*;generalize cA=a at*;generalize cB=b at*;generalize fD=d at*;grind
theorem r5_D  :Mv 231 [] (λ_=>True) (agg (Aa (fb fD))):=by
 intro W hW;have hm:=r_mul (-cB) (finv cA);rw[ref_D]at hm;have hi:=r_inv cA;revert hm hi;generalize finv cA=ia;intro hm hi;refine Ae func231 J 6 ntmps231 J (G2 ?_);refine .alloc (cs:=(Aa (List.replicate 32 0))) J A9 J ?_;intro n0 ab aa;refine G4 ?_;refine .cV J J J J Body237 (r_cB) tV (.cV J J J J Body225 (r_neg cB) tV ?_);refine .cV J J J J Body237 (r_cA) tV (.cV J J J J Body238 (hi) tV (.cV J J J J Body236 (hm) tV (.sA J J J J zE Sz184 zF Z0 sP zU ?_)));refine G2 ?_;refine G2 ?_;refine⟨_,[],Ax J J Y184.h J Sz184 Z0 (by simp[Aw]),sP,sP,?_,rfl⟩;rfl
theorem r5_Zero  :Mv 229 [] (λ_=>True) (agg (ptc (zero:Pt Fp)).cells):=by
 intro W hW;refine Ae func229 J 3 ntmps229 J (G2 ?_);refine .alloc (cs:=Point.zero.cells) J Point.zr J ?_;intro n0 ab aa;refine G4 ?_;refine .cV J J J J Body237 (r_one) tV (.build (cs:=(⟨fb 0,fb 1⟩:Point).cells) J J J (λw=>by kernel_rfl) ?_);refine .sA J J J J (Point.isCell (by exact⟨C3 _,C3 _⟩)) Sz187 (Point.length (by exact⟨C3 _,C3 _⟩)) Z0 (Point.length zZ) zU ?_;refine G2 ?_;refine G2 ?_;refine⟨_,[],Ax J J Y187.h J Sz187 Z0 (by exact Point.length (by exact⟨C3 _,C3 _⟩)),sP,sP,?_,rfl⟩;rfl
theorem r5_root(Y:Fp):Mv 224 [agg (Aa (fb Y))] (λ_=>True) (.tuple #[agg (Aa (fb (xOf Y).1)), .bool (xOf Y).2]):=by
 intro W hW;have hq:=ref_quot Y;have ac:xOf Y=fRoot ((Y*Y-1)*finv (fD*(Y*Y)+1)):=rfl;rw[<-hq]at ac;have ab:=r_inv (cA-cB*(Y*Y));revert ab ac;clear hq;generalize finv (cA-cB*(Y*Y))=iz;intro ac ab;have aa:=r3_Root (fb (cA*(Y*Y-1)*iz)) (cA*(Y*Y-1)*iz) (Aw _) (fe_fb _);rw[<-ac]at aa;clear ac;revert aa;generalize xOf Y=xr;intro aa;refine Ae func224 J 27 ntmps224 J (.sr (.boxA J J ?_));intro n1 aj ad;refine .alloc (cs:=(Aa (List.replicate 32 0))) J A9 J ?_;intro n2 ak ae;refine .a J J J (.nsr (.lA J J J Y184.h J Sz184 Z1 zF ?_));refine .lA J J J Y184.h J Sz184 Z1 zF ?_;refine .cV J J J J Body236 (r_mul Y Y) tV (.alloc (cs:=(Aa (List.replicate 32 0))) J A9 J ?_);intro n4 am ag;refine .sA J J J J zE Sz184 zF Z0 sP zU ?_;refine .na (.seq (.draw (oPq [101,300,302,303,304,205,406]) Au zK (.lA J J J Y184.h J Sz184 Z0 zF ?_)));refine .cV J J J J Body237 (r_cA) tV (.cV J J J J Body237 (r_one) tV (.cV J J J J Body264 (r_sub (Y*Y) 1) tV (.cV J J J J Body236 (r_mul cA (Y*Y-1)) tV (.alloc (cs:=(Aa (List.replicate 32 0))) J A9 J ?_))));intro n5 an ah;refine .sA J J J J zE Sz184 zF Z0 sP zU ?_;refine .na (.seq (.draw (oPq [102,300,301,303,304,205,406]) Au zK (.lA J J J Y184.h J Sz184 Z1 zF ?_)));refine .cV J J J J Body237 (r_cA) tV (.cV J J J J Body237 (r_cB) tV (.cV J J J J Body236 (r_mul cB (Y*Y)) tV ?_));refine .cV J J J J Body264 (r_sub cA (cB*(Y*Y))) tV ?_;refine .alloc (cs:=(Aa (List.replicate 32 0))) J A9 J ?_;intro n6 ao ai;refine .sA J J J J zE Sz184 zF Z0 sP zU ?_;refine .na (.seq (.draw (oPq [100,101,302,303,304,5,6,407,8]) Au zK (.lA J J J Y184.h J Sz184 Z1 zF ?_)));refine .lA J J J Y184.h J Sz184 Z0 zF ?_;refine .cV J J J J Body238 (ab) tV (.cV J J J J Body236 (r_mul (cA*(Y*Y-1)) iz) tV (.cV J J J J Body265 (aa) tV (.eX J J J J (.eX J J J J (.sA J J J J zE Sz184 zF Z3 sP (by exact upd3) ?_)))));refine .a J J J (.na ?_);refine .ret (en_r ?_);refine⟨_,[],Bg J J J Y184.h J Sz184 Z3 (by simp[Aw]),sP,sP,?_,rfl⟩;rfl
theorem bP_four:fe 4*finv (fe 5)=bP.y:=by
  have h1:bP.y*fe 5=fe 4:=by kernel_rfl
  have h2:fe 5*finv (fe 5)=1:=finv_mul (by
    intro h;have:=congrArg Fin.val h;revert this;decide)
  generalize finv (fe 5)=v at*;generalize fe 5=f at*;rw[<-h1];generalize bP.y=y at*;grind
theorem bP_even:(decide (bP.x.val%2=1))=false:=by kernel_rfl
theorem bP_root:xOf bP.y=(bP.x,true):=by
  have h:=xOf_eq (x:=bP.x) (y:=bP.y) bP_on;rw[h,if_neg (of_decide_eq_false bP_even)]
theorem r5_Base  :Mv 181 [] (λ_=>True) (agg (ptc bP).cells):=by
 intro W hW;have hm:=r_mul (fe 4) (finv (fe 5));rw[bP_four]at hm;have hi:=r_inv (fe 5);have hr:=r5_root bP.y;rw[bP_root]at hr;have hb:bP=⟨bP.x,bP.y⟩:=rfl;rw[hb];clear hb;revert hm hi hr;generalize finv (fe 5)=iv;generalize bP.x=bx;generalize bP.y=bY;intro hm hi hr;refine Ae func181 J 16 ntmps181 J (.sr (.alloc (cs:=Point.zero.cells) J Point.zr J ?_));intro n0 ad aa;refine .nsr (.cV J J J J Body237 (r_of 4 (fe 4) J) tV (.cV J J J J Body237 (r_of 5 (fe 5) J) tV (.cV J J J J Body238 (hi) tV (.cV J J J J Body236 (hm) tV (.alloc (cs:=(Aa (List.replicate 32 0))) J A9 J ?_)))));intro n1 ae ab;refine .sA J J J J zE Sz184 zF Z0 sP zU ?_;refine .nsr (.lA J J J Y184.h J Sz184 Z0 zF ?_);refine .cV J J J J Body224 (hr) tV (.m J J J (.eX J J J J (.eX J J J J (.alloc (cs:=(Aa (List.replicate 32 0))) J A9 J ?_))));intro n2 ag ac;refine .sA J J J J zE Sz184 zF Z0 sP zU ?_;refine .a J J J (.nsr (.lA J J J Y184.h J Sz184 Z0 zF ?_));refine .lA J J J Y184.h J Sz184 Z1 zF ?_;refine .build (cs:=(ptc (⟨bx,bY⟩:Pt Fp)).cells) J J J (λw=>by kernel_rfl) ?_;refine .sA J J J J (Point.isCell zP) Sz187 (Point.length zP) Z2 (Point.length zZ) (by exact upd2) ?_;refine .na ?_;refine .ret (en_r ?_);refine⟨_,[],Ax J J Y187.h J Sz187 Z2 (by exact Point.length zP),sP,sP,?_,rfl⟩;rfl
theorem r5_Check(P:Pt Fp)(hP:cv.on P):Mv 228 [agg (ptc P).cells] (λ_=>True) (i64 0):=by
 intro W hW;refine Ae func228 J 41 ntmps228 J (G3 ?_);intro n1 ae aa;refine G7 ?_;refine .lN (Aa _) J J J Y184.h J Sz184 Z0 (Point.row_fX zP) (Point.rl_fX zP) ?_;refine .cV J J J J Body223 (r_canon P.x) tV (G3 ?_);refine .lN (Aa _) J J J Y184.h J Sz184 Z0 (Point.row_fY zP) (Point.rl_fY zP) ?_;refine .cV J J J J Body223 (r_canon P.y) tV (G4 ?_);refine .cond_f J J (G3 ?_);refine .draw (oPq [0,101,2,103,5,106,7,108,304,309,210,211,412,413]) Au zK (G1 ?_);refine .lN (Aa _) J J J Y184.h J Sz184 Z0 (Point.row_fX zP) (Point.rl_fX zP) ?_;refine G1 ?_;refine .lN (Aa _) J J J Y184.h J Sz184 Z0 (Point.row_fX zP) (Point.rl_fX zP) ?_;refine G1 ?_;refine .lN (Aa _) J J J Y184.h J Sz184 Z0 (Point.row_fY zP) (Point.rl_fY zP) ?_;refine G1 ?_;refine .lN (Aa _) J J J Y184.h J Sz184 Z0 (Point.row_fY zP) (Point.rl_fY zP) ?_;refine .cV J J J J Body236 (r_mul P.x P.x) tV (.cV J J J J Body236 (r_mul P.y P.y) tV (.alloc (cs:=(Aa (List.replicate 32 0))) J A9 J ?_));intro n3 ag ab;refine .alloc (cs:=(Aa (List.replicate 32 0))) J A9 J ?_;intro n4 ah ac;refine .sA J J J J zE Sz184 zF Z1 sP zV ?_;refine .sA J J J J zE Sz184 zF Z0 sP zU ?_;refine G3 ?_;refine .draw (oPq [101,102,300,303,304,305,306,207,408]) Au zK (G2 ?_);refine .cV J J J J Body237 (r_cA) tV (.cV J J J J Body264 (r_sub (P.y*P.y) (P.x*P.x)) tV (.cV J J J J Body237 (r_one) tV (.cV J J J J Body264 (r_sub (P.y*P.y-P.x*P.x) 1) tV (.cV J J J J Body236 (r_mul cA (P.y*P.y-P.x*P.x-1)) tV (.alloc (cs:=(Aa (List.replicate 32 0))) J A9 J ?_)))));intro n5 ai ad;refine .sA J J J J zE Sz184 zF Z0 sP zU ?_;refine G4 ?_;refine .draw (oPq [100,102,103,301,304,305,306,7]) Au zK (G3 ?_);refine .cV J J J J Body237 (r_cB) tV (.cV J J J J Body236 (r_mul (P.x*P.x) (P.y*P.y)) tV (.cV J J J J Body236 (r_mul cB (P.x*P.x*(P.y*P.y))) tV ?_));refine .cV J J J J Body225 (r_neg (cB*(P.x*P.x*(P.y*P.y)))) tV ?_;refine .neq_bytes J J J J eqGuardType184 Y184.h Y5.h Sz5 zF zF (show(!decide _)=false from congrArg not (decide_eq_true (congrArg fb (check_eq hP)))) (G2 ?_);refine .cond_f J (rfl) (G7 ?_);refine G2 ?_;refine⟨_,[],Ag J J,sP,sP,?_,rfl⟩;rfl
structure FarFit(u:far):Prop where
  x:Fit10 u.fX
  y:Fit10 u.fY
  z:Fit10 u.fZ
theorem FarFit.ok{x:far}(h:FarFit x):x.ok:=⟨h.x.len,h.y.len,h.z.len⟩
def farV(x:far):Fr Fp:=⟨fe (v10 x.fX),fe (v10 x.fY),fe (v10 x.fZ)⟩
structure FarRep(x:far)(P:Pt Fp):Prop where
  fit:FarFit x
  rep:(farV x).rep P
def frA(p q:far):List Nat:=mulT p.fZ q.fZ
def frM(d:List Nat)(p q:far):List Nat:=mulT d (mulT (mulT p.fX q.fX) (mulT p.fY q.fY))
def frB(p q:far):List Nat:=plusT (mulT p.fX q.fX) (mulT p.fY q.fY)
def frC(p q:far):List Nat:=minusT (mulT (plusT p.fX p.fY) (plusT q.fX q.fY)) (frB p q)
def frF(d:List Nat)(p q:far):List Nat:=minusT (mulT (frA p q) (frA p q)) (frM d p q)
def frG(d:List Nat)(p q:far):List Nat:=plusT (mulT (frA p q) (frA p q)) (frM d p q)
def frT(d:List Nat)(p q:far):far:=⟨mulT (frA p q) (mulT (frF d p q) (frC p q)),mulT (frA p q) (mulT (frG d p q) (frB p q)),mulT (frF d p q) (frG d p q)⟩
section
variable{d:List Nat}{p q:far}
variable{x y:List Nat}
theorem frA_fit(hp:FarFit p)(hq:FarFit q):Fit10 (frA p q):=Bp hp.z hq.z
theorem frM_fit(hd:Fit10 d)(hp:FarFit p)(hq:FarFit q):Fit10 (frM d p q):=Bp hd (Bp (Bp hp.x hq.x) (Bp hp.y hq.y))
theorem frB_fit(hp:FarFit p)(hq:FarFit q):Fit10 (frB p q):=plusT_fit (Bp hp.x hq.x) (Bp hp.y hq.y)
theorem frC_fit(hp:FarFit p)(hq:FarFit q):Fit10 (frC p q):=minusT_fit (Bp (plusT_fit hp.x hp.y) (plusT_fit hq.x hq.y)) (frB_fit hp hq)
theorem frF_fit(hd:Fit10 d)(hp:FarFit p)(hq:FarFit q):Fit10 (frF d p q):=minusT_fit (Bp (frA_fit hp hq) (frA_fit hp hq)) (frM_fit hd hp hq)
theorem frG_fit(hd:Fit10 d)(hp:FarFit p)(hq:FarFit q):Fit10 (frG d p q):=plusT_fit (Bp (frA_fit hp hq) (frA_fit hp hq)) (frM_fit hd hp hq)
theorem frT_fit(hd:Fit10 d)(hp:FarFit p)(hq:FarFit q):FarFit (frT d p q):=
  ⟨Bp (frA_fit hp hq) (Bp (frF_fit hd hp hq) (frC_fit hp hq)),Bp (frA_fit hp hq) (Bp (frG_fit hd hp hq) (frB_fit hp hq)),Bp (frF_fit hd hp hq) (frG_fit hd hp hq)⟩
theorem mv(hx:Fit10 x)(hy:Fit10 y):fe (v10 (mulT x y))=fe (v10 x)*fe (v10 y):=mulT_v hx.len hy.len
theorem pv'(hx:Fit10 x)(hy:Fit10 y):fe (v10 (plusT x y))=fe (v10 x)+fe (v10 y):=plusT_v hx.len hy.len
theorem nv(hx:Fit10 x)(hy:Fit10 y):fe (v10 (minusT x y))=fe (v10 x)-fe (v10 y):=minusT_v hx.len hy
theorem frT_v(hd:Fit10 d)(hp:FarFit p)(hq:FarFit q):farV (frT d p q)=Fr.add (fe (v10 d)) (farV p) (farV q):=by
  have a:=frA_fit hp hq;have m:=frM_fit hd hp hq;have b:=frB_fit hp hq;have c:=frC_fit hp hq;have f:=frF_fit hd hp hq;have g:=frG_fit hd hp hq;have c1:=Bp hp.x hq.x;have c2:=Bp hp.y hq.y;have va:fe (v10 (frA p q))=fe (v10 p.fZ)*fe (v10 q.fZ):=mv hp.z hq.z;have vm:fe (v10 (frM d p q))=fe (v10 d)*(fe (v10 p.fX)*fe (v10 q.fX)*(fe (v10 p.fY)*fe (v10 q.fY))):=by rw[frM,mv hd (Bp c1 c2),mv c1 c2,mv hp.x hq.x,mv hp.y hq.y]
  have vb:fe (v10 (frB p q))=fe (v10 p.fX)*fe (v10 q.fX)+fe (v10 p.fY)*fe (v10 q.fY):=by rw[frB,pv' c1 c2,mv hp.x hq.x,mv hp.y hq.y]
  have vc:fe (v10 (frC p q))=(fe (v10 p.fX)+fe (v10 p.fY))*(fe (v10 q.fX)+fe (v10 q.fY))-(fe (v10 p.fX)*fe (v10 q.fX)+fe (v10 p.fY)*fe (v10 q.fY)):=by
    rw[frC,nv (Bp (plusT_fit hp.x hp.y) (plusT_fit hq.x hq.y)) b,mv (plusT_fit hp.x hp.y) (plusT_fit hq.x hq.y),pv' hp.x hp.y,pv' hq.x hq.y,vb]
  have vf:fe (v10 (frF d p q))=fe (v10 (frA p q))*fe (v10 (frA p q))-fe (v10 (frM d p q)):=by rw[frF,nv (Bp a a) m,mv a a]
  have vg:fe (v10 (frG d p q))=fe (v10 (frA p q))*fe (v10 (frA p q))+fe (v10 (frM d p q)):=by rw[frG,pv' (Bp a a) m,mv a a]
  unfold farV frT Fr.add;simp only[mv a (Bp f c),mv f c,mv a (Bp g b),mv g b,mv f g,vf,vg,va,vm,vb,vc]
end
variable{A B E j t:Nat}{b:List UInt8}{d:List Nat}{p x:far}
theorem FarRep.add{p q:far}{P Q:Pt Fp}(hd:Fit10 d)(aa:fe (v10 d)=fD)(hp:FarRep p P)(hq:FarRep q Q)(hP:cv.on P)(hQ:cv.on Q):FarRep (frT d p q) (cv.add P Q):=by
  refine⟨frT_fit hd hp.fit hq.fit,?_⟩;rw[frT_v hd hp.fit hq.fit,aa];exact cv.far_add hp.rep hq.rep hP hQ
def awT(P:Pt Fp):far:=⟨openT (le (fb P.x)),openT (le (fb P.y)),openT (le (fb (1:Fp)))⟩
theorem awT_fit(P:Pt Fp):FarFit (awT P):=⟨o_fit (Aw _),o_fit (Aw _),o_fit (Aw _)⟩
theorem awT_rep(P:Pt Fp):FarRep (awT P) P:=by
  refine⟨awT_fit P,?_⟩;have h:farV (awT P)=Fr.of P:=by
    unfold farV awT Fr.of;simp only[o_v (Aw _),fe_fb]
  rw[h];exact cv.far_of P
def dT:List Nat:=openT (le (fb fD))
theorem dT_fit:Fit10 dT:=o_fit (Aw _)
theorem dT_v:fe (v10 dT)=fD:=by
  have h:=o_v (Aw fD);rw[fe_fb]at h;exact h
theorem r5_openD:Mv 230 [agg (Aa (fb fD))] (λ_=>True) (agg (Bs dT)):=r3_Open (fb fD) (Aw _)
theorem r5_plus(d:List Nat)(p q:far)(hd:Fit10 d)(hp:FarFit p)(hq:FarFit q):Mv 233 [agg (Bs d),agg (p).cells,agg (q).cells] (λ_=>True) (agg (frT d p q).cells):=by
 intro W hW;have a1:=hd.len;have aa:=hp.ok;have ab:=hq.ok;unfold frT frF frG frC frM frB frA;have fa:=Bp hp.z hq.z;have ca:=r3_Times _ _ hp.z hq.z;revert fa ca;generalize mulT p.fZ q.fZ=a;intro fa ca;have la:=fa.len;have ac:=Bp fa fa;have cb:=r3_Times _ _ fa fa;revert ac cb;generalize mulT a a=b;intro ac cb;have lb:=ac.len;have fc:=Bp hp.x hq.x;have cc:=r3_Times _ _ hp.x hq.x;revert fc cc;generalize mulT p.fX q.fX=c;intro fc cc;have lc:=fc.len;have ae:=Bp hp.y hq.y;have ce:=r3_Times _ _ hp.y hq.y;revert ae ce;generalize mulT p.fY q.fY=e;intro ae ce;have le:=ae.len;have ah:=Bp fc ae;have aq:=r3_Times _ _ fc ae;revert ah aq;generalize mulT c e=ce2;intro ah aq;have bo:=ah.len;have fm:=Bp hd ah;have cm:=r3_Times _ _ hd ah;revert fm cm;generalize mulT d ce2=m;intro fm cm;have lm:=fm.len;have ff:=minusT_fit ac fm;have cf:=r3_Minus _ _ ac fm;revert ff cf;generalize minusT b m=f;intro ff cf;have lf:=ff.len;have fg:=plusT_fit ac fm;have cg:=r3_Plus _ _ ac fm;revert fg cg;generalize plusT b m=g;intro fg cg;have lg:=fg.len;have ad:=plusT_fit fc ae;have ap:=r3_Plus _ _ fc ae;revert ad ap;generalize plusT c e=both;intro ad ap;have ag:=ad.len;have am:=plusT_fit hp.x hp.y;have aw:=r3_Plus _ _ hp.x hp.y;revert am aw;generalize plusT p.fX p.fY=pp;intro am aw;have ci:=am.len;have ao:=plusT_fit hq.x hq.y;have ay:=r3_Plus _ _ hq.x hq.y;revert ao ay;generalize plusT q.fX q.fY=qq;intro ao ay;have cl:=ao.len;have an:=Bp am ao;have ax:=r3_Times _ _ am ao;revert an ax;generalize mulT pp qq=pq;intro an ax;have cj:=an.len;have ai:=minusT_fit an ad;have ar:=r3_Minus _ _ an ad;revert ai ar;generalize minusT pq both=cr;intro ai ar;have az:=ai.len;have aj:=Bp ff ai;have au:=r3_Times _ _ ff ai;revert aj au;generalize mulT f cr=fcr2;intro aj au;have a2:=aj.len;have ak:=Bp fg ad;have av:=r3_Times _ _ fg ad;revert ak av;generalize mulT g both=gb;intro ak av;have cd:=ak.len;have fX:=Bp fa aj;have cX:=r3_Times _ _ fa aj;revert fX cX;generalize mulT a fcr2=X;intro fX cX;have lX:=fX.len;have fY:=Bp fa ak;have cY:=r3_Times _ _ fa ak;revert fY cY;generalize mulT a gb=Y;intro fY cY;have lY:=fY.len;have fZ:=Bp ff fg;have cZ:=r3_Times _ _ ff fg;revert fZ cZ;generalize mulT f g=Z;intro fZ cZ;have lZ:=fZ.len;refine Ae func233 J 75 ntmps233 J (G3 ?_);intro n3 b3 bp;refine G1 ?_;intro n4 b4 bq;refine G1 ?_;intro n5 b5 bt;refine .alloc (cs:=far.zero.cells) J far.zr J ?_;intro n6 b6 bu;refine G5 ?_;refine .lN (Bs _) J J J Cq J Sz250 Z2 (far.row_fZ (by exact aa)) (far.rl_fZ (by exact aa)) ?_;refine G1 ?_;refine .lN (Bs _) J J J Cq J Sz250 Z1 (far.row_fZ (by exact ab)) (far.rl_fZ (by exact ab)) ?_;refine .cV J J J J Body268 (ca) tV (.alloc (cs:=(Cg (List.replicate 10 0))) J Zr250 J ?_);intro n7 b7 bv
 refine .sA J J J J (by exact Cr _) Sz250 (by(simp[Av,la];done)) Z0 sP zU ?_;refine G4 ?_;refine .lA J J J Cq J Sz250 Z0 (by(simp[Av,la];done)) ?_;refine .lA J J J Cq J Sz250 Z0 (by(simp[Av,la];done)) ?_;refine .cV J J J J Body268 (cb) tV (.alloc (cs:=(Cg (List.replicate 10 0))) J Zr250 J ?_);intro n8 b8 bw;refine .sA J J J J (by exact Cr _) Sz250 (by(simp[Av,lb];done)) Z0 sP zU ?_;refine G3 ?_;refine .draw (oPq [0,101,2,103,5,106,7,108,304,309,210,211,412,413]) Au zK (G1 ?_);refine .lN (Bs _) J J J Cq J Sz250 Z4 (far.row_fX (by exact aa)) (far.rl_fX (by exact aa)) ?_;refine G1 ?_;refine .lN (Bs _) J J J Cq J Sz250 Z3 (far.row_fX (by exact ab)) (far.rl_fX (by exact ab)) ?_;refine G1 ?_;refine .lN (Bs _) J J J Cq J Sz250 Z4 (far.row_fY (by exact aa)) (far.rl_fY (by exact aa)) ?_;refine G1 ?_;refine .lN (Bs _) J J J Cq J Sz250 Z3 (far.row_fY (by exact ab)) (far.rl_fY (by exact ab)) ?_;refine .cV J J J J Body268 (cc) tV (.cV J J J J Body268 (ce) tV (.alloc (cs:=(Cg (List.replicate 10 0))) J Zr250 J ?_));intro n9 b9 bz;refine .alloc (cs:=(Cg (List.replicate 10 0))) J Zr250 J ?_;intro cn bg a6;refine .sA J J J J (by exact Cr _) Sz250 (by(simp[Av,lc];done)) Z1 sP zV ?_;refine .sA J J J J (by exact Cr _) Sz250 (by(simp[Av,le];done)) Z0 sP zU ?_;refine G3 ?_;refine .draw (oPq [100,101,102,303,304,205,406]) Au zK (.lA J J J Cq J Sz250 (by exact mem7) (by(simp[Av,a1];done)) ?_);refine .lA J J J Cq J Sz250 Z1 (by(simp[Av,lc];done)) ?_;refine .lA J J J Cq J Sz250 Z0 (by(simp[Av,le];done)) ?_;refine .cV J J J J Body268 (aq) tV (.cV J J J J Body268 (cm) tV (.alloc (cs:=(Cg (List.replicate 10 0))) J Zr250 J ?_));intro co bi a7;refine .sA J J J J (by exact Cr _) Sz250 (by(simp[Av,lm];done)) Z0 sP zU ?_;refine G3 ?_;refine .draw (oPq [100,101,103,104,302,305,206,207,408,409]) Au zK (.lA J J J Cq J Sz250 Z3 (by(simp[Av,lb];done)) ?_);refine .lA J J J Cq J Sz250 Z0 (by(simp[Av,lm];done)) ?_;refine .lA J J J Cq J Sz250 Z3 (by(simp[Av,lb];done)) ?_;refine .lA J J J Cq J Sz250 Z0 (by(simp[Av,lm];done)) ?_;refine .cV J J J J Body269 (cf) tV (.cV J J J J Body270 (cg) tV (.alloc (cs:=(Cg (List.replicate 10 0))) J Zr250 J ?_));intro cp bj a8;refine .alloc (cs:=(Cg (List.replicate 10 0))) J Zr250 J ?_;intro cq bk ba;refine .sA J J J J (by exact Cr _) Sz250 (by(simp[Av,lf];done)) Z1 sP zV ?_;refine .sA J J J J (by exact Cr _) Sz250 (by(simp[Av,lg];done)) Z0 sP zU ?_;refine G4 ?_;refine .lA J J J Cq J Sz250 Z4 (by(simp[Av,lc];done)) ?_;refine .lA J J J Cq J Sz250 Z3 (by(simp[Av,le];done)) ?_;refine .cV J J J J Body270 (ap) tV (.alloc (cs:=(Cg (List.replicate 10 0))) J Zr250 J ?_);intro ct bm bc;refine .sA J J J J (by exact Cr _) Sz250 (by(simp[Av,ag];done)) Z0 sP zU ?_;refine G3 ?_;refine .draw (oPq [0,101,2,103,5,106,7,108,111,304,309,310,312,213,414]) Au zK (G1 ?_)
 refine .lN (Bs _) J J J Cq J Sz250 mR (far.row_fX (by exact aa)) (far.rl_fX (by exact aa)) ?_;refine G1 ?_;refine .lN (Bs _) J J J Cq J Sz250 mR (far.row_fY (by exact aa)) (far.rl_fY (by exact aa)) ?_;refine G1 ?_;refine .lN (Bs _) J J J Cq J Sz250 mR (far.row_fX (by exact ab)) (far.rl_fX (by exact ab)) ?_;refine G1 ?_;refine .lN (Bs _) J J J Cq J Sz250 mR (far.row_fY (by exact ab)) (far.rl_fY (by exact ab)) ?_;refine .lA J J J Cq J Sz250 Z0 (by(simp[Av,ag];done)) ?_;refine .cV J J J J Body270 (aw) tV (.cV J J J J Body270 (ay) tV (.cV J J J J Body268 (ax) tV (.cV J J J J Body269 (ar) tV (.alloc (cs:=(Cg (List.replicate 10 0))) J Zr250 J ?_))));intro cu bn be;refine .sA J J J J (by exact Cr _) Sz250 (by(simp[Av,az];done)) Z0 sP zU ?_;refine G3 ?_;refine .draw (oPq [100,101,102,105,106,107,110,111,303,304,308,309,312,13,414]) Au zK (.lA J J J Cq J Sz250 mR (by(simp[Av,la];done)) ?_);refine .lA J J J Cq J Sz250 Z3 (by(simp[Av,lf];done)) ?_;refine .lA J J J Cq J Sz250 Z0 (by(simp[Av,az];done)) ?_;refine .lA J J J Cq J Sz250 mR (by(simp[Av,la];done)) ?_;refine .lA J J J Cq J Sz250 Z2 (by(simp[Av,lg];done)) ?_;refine .lA J J J Cq J Sz250 Z1 (by(simp[Av,ag];done)) ?_;refine .lA J J J Cq J Sz250 Z3 (by(simp[Av,lf];done)) ?_;refine .lA J J J Cq J Sz250 Z2 (by(simp[Av,lg];done)) ?_;refine .cV J J J J Body268 (au) tV (.cV J J J J Body268 (cX) tV (.cV J J J J Body268 (av) tV (.cV J J J J Body268 (cY) tV (.cV J J J J Body268 (cZ) tV (.build (cs:=(⟨X,Y,Z⟩:far).cells) J J J (λw=>by kernel_rfl) ?_)))));refine .sA J J J J (far.isCell (by exact⟨lX,lY,lZ⟩)) Sz253 (far.length (by exact⟨lX,lY,lZ⟩)) mR (far.length (by exact far.zero_ok)) (by(repeat(first|exact upd0|apply Upd.tail))) ?_;refine G2 ?_;refine G2 ?_;refine⟨_,[],Ax J J Y253.h J Sz253 mR (by exact far.length (by exact⟨lX,lY,lZ⟩)),sP,sP,?_,rfl⟩;rfl
theorem r5_near(p:far)(P:Pt Fp)(hp:FarRep p P):Mv 235 [agg (p).cells] (λ_=>True) (agg (ptc P).cells):=by
 intro W hW;have aa:=hp.fit.ok;have ab:=cv.far_pt hp.rep;have h1:=r3_Close_v p.fZ hp.fit.z _ rfl;have h2:=r3_Close_v p.fX hp.fit.x _ rfl;have h3:=r3_Close_v p.fY hp.fit.y _ rfl;have hi:=r_inv (fe (v10 p.fZ));have e:P=⟨fe (v10 p.fX)*finv (fe (v10 p.fZ)),fe (v10 p.fY)*finv (fe (v10 p.fZ))⟩:=ab.symm;rw[e];clear e ab;revert h1 h2 h3 hi;generalize finv (fe (v10 p.fZ))=iz;generalize fe (v10 p.fZ)=z;generalize fe (v10 p.fX)=x;generalize fe (v10 p.fY)=y;intro h1 h2 h3 hi;refine Ae func235 J 19 ntmps235 J (.sr (.boxA J J ?_));intro n1 ag ac;refine .alloc (cs:=Point.zero.cells) J Point.zr J ?_;intro n2 ah ad;refine .nsr (.fld J J J Y253.h J Sz250 dE _ J (.lN (Bs _) J J J Cq J Sz250 Z1 (far.row_fZ (by exact aa)) (far.rl_fZ (by exact aa)) ?_));refine .cV J J J J Body271 (h1) tV (.cV J J J J Body238 (hi) tV (.alloc (cs:=(Aa (List.replicate 32 0))) J A9 J ?_));intro n3 ai ae;refine .sA J J J J zE Sz184 zF Z0 sP zU ?_;refine .na (.seq (.draw (oPq [0,101,103,5,106,108,302,304,307,309,10,411]) Au zK (.fld J J J Y253.h J Sz250 dE _ J (.lN (Bs _) J J J Cq J Sz250 Z2 (far.row_fX (by exact aa)) (far.rl_fX (by exact aa)) ?_))));refine .lA J J J Y184.h J Sz184 Z0 zF ?_;refine .fld J J J Y253.h J Sz250 dE _ J (.lN (Bs _) J J J Cq J Sz250 Z2 (far.row_fY (by exact aa)) (far.rl_fY (by exact aa)) ?_);refine .lA J J J Y184.h J Sz184 Z0 zF ?_;refine .cV J J J J Body271 (h2) tV (.cV J J J J Body236 (r_mul x iz) tV (.cV J J J J Body271 (h3) tV (.cV J J J J Body236 (r_mul y iz) tV (.build (cs:=(ptc (⟨x*iz,y*iz⟩:Pt Fp)).cells) J J J (λw=>by kernel_rfl) ?_))));refine .sA J J J J (Point.isCell zP) Sz187 (Point.length zP) Z1 (Point.length zZ) zV ?_;refine .na ?_;refine .ret (en_r ?_);refine⟨_,[],Ax J J Y187.h J Sz187 Z1 (by exact Point.length zP),sP,sP,?_,rfl⟩;rfl
theorem r5_away(P:Pt Fp):Mv 232 [agg (ptc P).cells] (λ_=>True) (agg (awT P).cells):=by
 intro W hW;have h1:=r3_Open (fb P.x) (Aw _);have h2:=r3_Open (fb P.y) (Aw _);have h3:=r3_Open (fb 1) (Aw _);have lX:=openT_length (le (fb P.x));have lY:=openT_length (le (fb P.y));have lZ:=openT_length (le (fb 1));unfold awT;revert h1 h2 h3 lX lY lZ;generalize openT (le (fb P.x))=X;generalize openT (le (fb P.y))=Y;generalize openT (le (fb 1))=Z;intro h1 h2 h3 lX lY lZ;refine Ae func232 J 12 ntmps232 J (G3 ?_);intro n1 ac aa;refine .alloc (cs:=far.zero.cells) J far.zr J ?_;intro n2 ad ab;refine G3 ?_;refine .draw (oPq [0,101,3,104,302,305,306,307,8,409]) Au zK (G1 ?_);refine .lN (Aa _) J J J Y184.h J Sz184 Z1 (Point.row_fX zP) (Point.rl_fX zP) ?_;refine G1 ?_;refine .lN (Aa _) J J J Y184.h J Sz184 Z1 (Point.row_fY zP) (Point.rl_fY zP) ?_;refine .cV J J J J Body230 (h1) tV (.cV J J J J Body230 (h2) tV (.cV J J J J Body237 (r_one) tV (.cV J J J J Body230 (h3) tV (.build (cs:=(⟨X,Y,Z⟩:far).cells) J J J (λw=>by kernel_rfl) ?_))));refine .sA J J J J (far.isCell (by exact⟨lX,lY,lZ⟩)) Sz253 (far.length (by exact⟨lX,lY,lZ⟩)) Z0 (far.length (by exact far.zero_ok)) zU ?_;refine G2 ?_;refine G2 ?_;refine⟨_,[],Ax J J Y253.h J Sz253 Z0 (by exact far.length (by exact⟨lX,lY,lZ⟩)),sP,sP,?_,rfl⟩;rfl
theorem r5_Neg(P:Pt Fp)(hP:cv.on P):Mv 183 [agg (ptc P).cells] (λ_=>True) (agg (ptc (neg P)).cells):=by
 intro W hW;refine Ae func183 J 13 ntmps183 J (.sr (.boxA J J ?_));intro n1 ac aa;refine .alloc (cs:=Point.zero.cells) J Point.zr J ?_;intro n2 ad ab;refine .na (.seq (.sr (.lA J J J Y187.h J Sz187 Z1 (Point.length zP) ?_)));refine .cV J J J J Body228 (r5_Check P hP) tV (.nei J J J J (show(!decide _)=false from congrArg not (decide_eq_true (rfl))) (.na (.cond_f J (rfl) (.skip (Df (.seq (.draw (oPq [0,101,3,104,302,5,406]) Au zK (.fld J J J Y187.h J Sz184 dE _ J (.lN (Aa _) J J J Y184.h J Sz184 Z1 (Point.row_fX zP) (Point.rl_fX zP) ?_)))))))));refine .fld J J J Y187.h J Sz184 dE _ J (.lN (Aa _) J J J Y184.h J Sz184 Z1 (Point.row_fY zP) (Point.rl_fY zP) ?_);refine .cV J J J J Body225 (r_neg P.x) tV (.build (cs:=(ptc (neg P)).cells) J J J (λw=>by kernel_rfl) ?_);refine .sA J J J J (Point.isCell zP) Sz187 (Point.length zP) Z0 (Point.length zZ) zU ?_;refine .na ?_;refine .ret (en_r ?_);refine⟨_,[],Ax J J Y187.h J Sz187 Z0 (by exact Point.length zP),sP,sP,?_,rfl⟩;rfl
theorem byte_low:∀b:UInt8,UInt8.ofNat (b.toNat%128)=b&&&127/\((128<=b.toNat)↔¬((b&&&128).toNat:Int)=0):=by
  intro b;have h:∀n,n<256->UInt8.ofNat ((UInt8.ofNat n).toNat%128)=UInt8.ofNat n&&&127/\((128<=(UInt8.ofNat n).toNat)↔¬((UInt8.ofNat n&&&128).toNat:Int)=0):=by decide
  have h2:=h b.toNat b.toNat_lt;rwa[Lfk]at h2
theorem byte_plus:∀b:UInt8,b.toNat<128->b+128=b|||128:=by
  intro b hb;have h:∀n,n<128->UInt8.ofNat n+128=UInt8.ofNat n|||128:=by decide
  have h2:=h b.toNat hb;rwa[Lfk]at h2
theorem top_t5(h:(128:Int)<=((b.getD 31 0).toNat:Int)):topB b=true:=by
  have h1:=(byte_low (b.getD 31 0)).2.1 oM;rw[topB,decide_eq_false h1];rfl
theorem top_f5(h:¬(128:Int)<=((b.getD 31 0).toNat:Int)):topB b=false:=by
  have h1:((b.getD 31 0&&&128).toNat:Int)=0:=by
    by_cases e:((b.getD 31 0&&&128).toNat:Int)=0
    .exact e
    .exact absurd ((byte_low (b.getD 31 0)).2.2 e) oM
  rw[topB,decide_eq_true h1];rfl
theorem r5_Read(b:List UInt8)(hb:b.length=32):Mv 178 [agg (Aa b)] (λ_=>True) (rdV b):=by
 intro W hW;have aq:=lowB_length hb;obtain⟨Y,hY⟩:∃Y,fe (le (lowB b))=Y:=⟨_,rfl⟩;have ak:=r3_Canon (lowB b) aq;have ah:=r5_root Y;obtain⟨xr,aj⟩:∃xr,xOf Y=xr:=⟨_,rfl⟩;rw[aj]at ah;rw[<-hY]at aj;rw[hY]at ak;refine Ae func178 J 42 ntmps178 J (G3 ?_);intro n1 aw ar;refine .alloc (cs:=Point.zero.cells) J Point.zr J ?_;intro n2 ax au;refine G5 ?_;refine .lA J J J Y28.h J Sz28 Z1 (by(simp[hb];done)) ?_;refine .alloc (cs:=(Aa (List.replicate 32 0))) J A9 J ?_;intro n4 ay av;refine .sA J J J J zE Sz184 (by(simp[hb];done)) Z0 sP zU ?_;refine G4 ?_;refine .i1 J J J J Y184.h Sz5 31 J dE (G1 ?_);refine two (λr hr k=>Tr.geq J J J J hr k) (λad=>?_) (λad=>?_)
 ·
  have ac:=of_decide_eq_true ad;refine G5 ?_;refine .i1 J J J J Y184.h Sz5 31 J dE (G1 ?_);refine .rem_u8 J J J J 128 J dE (.i1 J J J J Y184.h Sz5 31 J dE ?_);rw[(byte_low _).1];refine .s1 J J J J J Sz5 Z0 (by(simp[hb];done)) (by exact Bo _ _ _) zU ?_;refine G5 ?_;refine .lA J J J Y184.h J Sz184 Z0 (by(simp[hb];done)) ?_;refine .cV J J J J Body223 (ak) tV (G3 ?_);refine .cond J (λag=>?_) (λag=>?_)
  ·
   have an:¬fb Y=lowB b:=of_decide_eq_false (by simpa using ag);refine G2 ?_;refine .build (cs:=Point.zero.cells) J J J (λw=>by kernel_rfl) ?_;refine G4 ?_;refine G3 ?_;refine⟨_,[],Bg J J J Y187.h J Sz187 Z1 (by exact Point.length zZ),sP,sP,?_,rfl⟩;exact(rdV_none (rd_n1 (by rw[hY];exact an))).symm
  have am:fb Y=lowB b:=of_decide_eq_true (by simpa using ag);rw[show b.set 31 (b.getD 31 0&&&127)=fb Y from am.symm];refine G5 ?_;refine .cV J J J J Body224 (ah) tV (G2 ?_);refine .extractB J J J J (λaa=>?_) (λaa=>?_)
  ·
   have ab:=aa;refine .alloc (cs:=(Aa (List.replicate 32 0))) J A9 J ?_;intro n6 ap ao;refine .sA J J J J zE Sz184 zF Z0 sP zU ?_;refine G12 ?_;refine .build (cs:=Aa (List.replicate 32 0)) J J J (λw=>by kernel_rfl) ?_;refine two (λr hr k=>Tr.eql_bytes J J J J eqGuardType184 Y184.h Y5.h Sz5 zF sP hr k) (λae=>?_) (λae=>?_)
   ·
    have ai:=of_decide_eq_true ae;refine G4 ?_;refine .cond_t J J (G2 ?_);refine .build (cs:=Point.zero.cells) J J J (λw=>by kernel_rfl) ?_;refine G4 ?_;refine G3 ?_;refine⟨_,[],Bg J J J Y187.h J Sz187 Z2 (by exact Point.length zZ),sP,sP,?_,rfl⟩;exact(rdV_none (rd_n3 aj (top_t5 ac) ai)).symm
   have ai:=of_decide_eq_false ae;refine G4 ?_;refine .cond_f J J (G8 ?_);refine .cond_t J J (G2 ?_);refine .cV J J J J Body225 (r_neg xr.1) tV (G7 ?_);refine .build (cs:=(⟨fb (-xr.1),fb Y⟩:Point).cells) J J J (λw=>by kernel_rfl) ?_;refine .sA J J J J (Point.isCell (by exact⟨C3 _,C3 _⟩)) Sz187 (Point.length (by exact⟨C3 _,C3 _⟩)) Z2 (Point.length zZ) (by exact upd2) ?_;refine G3 ?_;refine G2 ?_;refine⟨_,[],Bg J J J Y187.h J Sz187 Z2 (by exact Point.length (by exact⟨C3 _,C3 _⟩)),sP,sP,?_,rfl⟩
   (rw[rdV_some (rd_s1 (by rw[hY];exact am) aj ab (top_t5 ac) ai),hY];rfl)
  have ab:=aa;refine .alloc (cs:=(Aa (List.replicate 32 0))) J A9 J ?_;intro n6 ap ao;refine .sA J J J J zE Sz184 zF Z0 sP zU ?_;refine G18 ?_;refine .cond_t J J (G2 ?_);refine .build (cs:=Point.zero.cells) J J J (λw=>by kernel_rfl) ?_;refine G4 ?_;refine G3 ?_;refine⟨_,[],Bg J J J Y187.h J Sz187 Z2 (by exact Point.length zZ),sP,sP,?_,rfl⟩;exact(rdV_none (rd_n2 aj ab)).symm
 have ac:=of_decide_eq_false ad;refine G5 ?_;refine .i1 J J J J Y184.h Sz5 31 J dE (G1 ?_);refine .rem_u8 J J J J 128 J dE (.i1 J J J J Y184.h Sz5 31 J dE ?_);rw[(byte_low _).1];refine .s1 J J J J J Sz5 Z0 (by(simp[hb];done)) (by exact Bo _ _ _) zU ?_;refine G5 ?_;refine .lA J J J Y184.h J Sz184 Z0 (by(simp[hb];done)) ?_;refine .cV J J J J Body223 (ak) tV (G3 ?_);refine .cond J (λag=>?_) (λag=>?_)
 ·
  have an:¬fb Y=lowB b:=of_decide_eq_false (by simpa using ag);refine G2 ?_;refine .build (cs:=Point.zero.cells) J J J (λw=>by kernel_rfl) ?_;refine G4 ?_;refine G3 ?_;refine⟨_,[],Bg J J J Y187.h J Sz187 Z1 (by exact Point.length zZ),sP,sP,?_,rfl⟩;exact(rdV_none (rd_n1 (by rw[hY];exact an))).symm
 have am:fb Y=lowB b:=of_decide_eq_true (by simpa using ag);rw[show b.set 31 (b.getD 31 0&&&127)=fb Y from am.symm];refine G5 ?_;refine .cV J J J J Body224 (ah) tV (G2 ?_);refine .extractB J J J J (λaa=>?_) (λaa=>?_)
 ·
  have ab:=aa;refine .alloc (cs:=(Aa (List.replicate 32 0))) J A9 J ?_;intro n6 ap ao;refine .sA J J J J zE Sz184 zF Z0 sP zU ?_;refine G18 ?_;refine .cond_f J J (G8 ?_);refine .cond_f J J (G6 ?_);refine .build (cs:=(⟨fb xr.1,fb Y⟩:Point).cells) J J J (λw=>by kernel_rfl) ?_;refine .sA J J J J (Point.isCell (by exact⟨C3 _,C3 _⟩)) Sz187 (Point.length (by exact⟨C3 _,C3 _⟩)) Z2 (Point.length zZ) (by exact upd2) ?_;refine G3 ?_;refine G2 ?_;refine⟨_,[],Bg J J J Y187.h J Sz187 Z2 (by exact Point.length (by exact⟨C3 _,C3 _⟩)),sP,sP,?_,rfl⟩
  (rw[rdV_some (rd_s2 (by rw[hY];exact am) aj ab (top_f5 ac)),hY];rfl)
 have ab:=aa;refine .alloc (cs:=(Aa (List.replicate 32 0))) J A9 J ?_;intro n6 ap ao;refine .sA J J J J zE Sz184 zF Z0 sP zU ?_;refine G18 ?_;refine .cond_t J J (G2 ?_);refine .build (cs:=Point.zero.cells) J J J (λw=>by kernel_rfl) ?_;refine G4 ?_;refine G3 ?_;refine⟨_,[],Bg J J J Y187.h J Sz187 Z2 (by exact Point.length zZ),sP,sP,?_,rfl⟩;exact(rdV_none (rd_n2 aj ab)).symm
theorem lin_d{a b j:Nat}(hj:j<256):a/2^(256-(j+1))=2*(a/2^(256-j))+a/2^(255-j)%2:=next_div a j hj
theorem frep_dbl{P Q:Pt Fp}(hd:Fit10 d)(aa:fe (v10 d)=fD)(hP:cv.on P)(hQ:cv.on Q)(h:FarRep p (cv.lin A B P Q)):FarRep (frT d p p) (cv.lin (2*A) (2*B) P Q):=by
  rw[cv.lin_two hP hQ];exact FarRep.add hd aa h h (cv.on_lin hP hQ _ _) (cv.on_lin hP hQ _ _)
theorem frep_l{P Q:Pt Fp}(hd:Fit10 d)(aa:fe (v10 d)=fD)(hP:cv.on P)(hQ:cv.on Q)(h:FarRep p (cv.lin A B P Q))(hx:FarRep x P)(ht:t=1):FarRep (frT d p x) (cv.lin (A+t) B P Q):=by
  rw[ht,cv.lin_left hP hQ];exact FarRep.add hd aa h hx (cv.on_lin hP hQ _ _) hP
theorem frep_r{P Q:Pt Fp}(hd:Fit10 d)(aa:fe (v10 d)=fD)(hP:cv.on P)(hQ:cv.on Q)(h:FarRep p (cv.lin A B P Q))(hx:FarRep x Q)(ht:t=1):FarRep (frT d p x) (cv.lin A (B+t) P Q):=by
  rw[ht,cv.lin_right hP hQ];exact FarRep.add hd aa h hx (cv.on_lin hP hQ _ _) hQ
theorem frep_first(a b:List UInt8)(ha:a.length=32)(hb:b.length=32)(P Q:Pt Fp):FarRep (awT (zero:Pt Fp)) (cv.lin (le a/2^(256-0)) (le b/2^(256-0)) P Q):=by
  have h1:=le32 ha;have h2:=le32 hb;rw[show 256-0=256 from rfl,Lbn h1,Lbn h2,cv.lin_zero];exact awT_rep zero
theorem bit_one(h:E.testBit j=true):E/2^j%2=1:=by have:=test_div E j true h;rwa[if_pos rfl]at this
theorem bit_nil(h:E.testBit j=false):E/2^j%2=0:=by have:=test_div E j false h;rwa[if_neg dE]at this
theorem r5_Mul2(a b:List UInt8)(P Q:Pt Fp)(ha:a.length=32)(hb:b.length=32)(hP:cv.on P)(hQ:cv.on Q):Mv 180 [agg (Aa a),agg (ptc P).cells,agg (Aa b),agg (ptc Q).cells] (λ_=>True) (agg (ptc (cv.lin (le a) (le b) P Q)).cells):=by
 intro W hW;have aa:=dT_fit;have aj:=dT_v;have ay:=r5_openD;revert aa aj ay;generalize dT=D;intro aa aj ay;have ao:=aa.len;have ae:=awT_rep P;have ah:=awT_rep Q;have an:=frep_first a b ha hb P Q;have cP:=r5_away P;have cQ:=r5_away Q;have cZ:=r5_away (zero:Pt Fp);revert ae ah an cP cQ cZ;generalize awT P=AP;generalize awT Q=AQ;generalize awT (zero:Pt Fp)=AZ;intro ae ah an cP cQ cZ;have ag:=ae.fit.ok;have ai:=ah.fit.ok;have au:=an.fit.ok;have ak:True:=trivial;have am:True:=trivial;have az:True:=trivial;refine Ae func180 J 55 ntmps180 J (.sr (.boxA J J ?_));intro n4 bq bi;refine .boxA J J ?_;intro n5 bt bj;refine .boxA J J ?_;intro n6 bu bk;refine .boxA J J ?_;intro n7 bv bm;refine .alloc (cs:=Point.zero.cells) J Point.zr J ?_;intro n8 bw bn;refine .na (.seq (.sr (.lA J J J Y187.h J Sz187 Z3 (Point.length zP) ?_)));refine .cV J J J J Body228 (r5_Check P hP) tV (.nei J J J J (show(!decide _)=false from congrArg not (decide_eq_true (rfl))) (.m J J J (.lA J J J Y187.h J Sz187 Z1 (Point.length zP) ?_)));refine .cV J J J J Body228 (r5_Check Q hQ) tV (.nei J J J J (show(!decide _)=false from congrArg not (decide_eq_true (rfl))) (.pick J J J J J J (.na (.cond_f J J (.skip (Df (.seq (.draw (oPq [104,106,300,301,302,303,305,307,208,209,210,211,412,413,414,415]) Au zK (.lA J J J Y187.h J Sz187 Z3 (Point.length zP) ?_)))))))));refine .lA J J J Y187.h J Sz187 Z1 (Point.length zP) ?_;refine .cV J J J J Body231 (r5_D) tV (.cV J J J J Body230 (ay) tV (.cV J J J J Body229 (r5_Zero) tV (.cV J J J J Body232 (cZ) tV (.cV J J J J Body232 (cP) tV (.cV J J J J Body232 (cQ) tV (.alloc (cs:=(Cg (List.replicate 10 0))) J Zr250 J ?_))))));intro n9 bz bo;refine .alloc (cs:=far.zero.cells) J far.zr J ?_;intro ab bc a7;refine .alloc (cs:=far.zero.cells) J far.zr J ?_;intro ac be a8;refine .alloc (cs:=far.zero.cells) J far.zr J ?_;intro ad bg ba;refine .sA J J J J (by exact Cr _) Sz250 (by(simp[Av,ao];done)) Z3 sP (by exact upd3) ?_;refine .sA J J J J (far.isCell (by exact au)) Sz253 (far.length (by exact au)) Z2 (far.length (by exact far.zero_ok)) (by exact upd2) ?_;refine .sA J J J J (far.isCell (by exact ag)) Sz253 (far.length (by exact ag)) Z1 (far.length (by exact far.zero_ok)) zV ?_;refine .sA J J J J (far.isCell (by exact ai)) Sz253 (far.length (by exact ai)) Z0 (far.length (by exact far.zero_ok)) zU ?_
 refine .na (.seq (.sr (.a J J J (.na (.block (.loop (ι:=Nat×far) (λp=>⟨[(4,ptr n4 0),(6,ptr n6 0),(8,ptr n8 0),(9,ptr n9 0),(10,ptr ab 0),(11,ptr ac 0),(12,ptr ad 0),(13,i64 (255-(p.1:Int)))],[⟨ad,(AQ).cells,253,30⟩,⟨ac,(AP).cells,253,30⟩,⟨ab,(p.2).cells,253,30⟩,⟨n9,Bs D,250,10⟩,⟨n8,Point.zero.cells,187,64⟩,⟨n6,Aa b,184,(Aa b).length⟩,⟨n4,Aa a,184,(Aa a).length⟩]⟩) (λp=>p.1<=256/\FarRep p.2 (cv.lin (le a/2^(256-p.1)) (le b/2^(256-p.1)) P Q)) (λp=>256-p.1) ((0,AZ)) ?_ ?_ ?_))))))
 .exact⟨Laf _,an⟩
 .exact Ah wN (wh1 Z0 (wh1 Z1 (wh1 Z2 (wh1 Z3 (wh1 Z4 (wh1 (by exact mem6) wM)))))) nD
 rintro p ⟨bp,hw⟩;have am:=hw.fit.ok;refine .seq (.sr (.m J J J (.geq J J J J J (.na (.condP J (λa2=>?_) (λa2=>?_))))))
 ·
  have ap:p.1<256:=by omega
  have hu:=frep_dbl aa aj hP hQ hw;have cd:=r5_plus D p.2 p.2 aa hw.fit hw.fit;revert hu cd;generalize frT D p.2 p.2=F1;intro hu cd;have ak:=hu.fit.ok;rw[show(255:Int)-(p.1:Int)=((255-p.1:Nat):Int) by omega];refine .skip (Df (.join (ι:=far) (λy=>⟨[(4,ptr n4 0),(6,ptr n6 0),(8,ptr n8 0),(9,ptr n9 0),(10,ptr ab 0),(11,ptr ac 0),(12,ptr ad 0),(13,i64 (((255-p.1:Nat):Int)))],[⟨ad,(AQ).cells,253,30⟩,⟨ac,(AP).cells,253,30⟩,⟨ab,(y).cells,253,30⟩,⟨n9,Bs D,250,10⟩,⟨n8,Point.zero.cells,187,64⟩,⟨n6,Aa b,184,(Aa b).length⟩,⟨n4,Aa a,184,(Aa a).length⟩]⟩) (λy=>FarRep y (cv.lin (le a/2^(256-(p.1+1))) (le b/2^(256-(p.1+1))) P Q)) ?_ ?_))
  ·
   refine .block (.sr (.lA J J J Cq J Sz250 Z3 (by(simp[Av,ao];done)) ?_));refine .lA J J J Y253.h J Sz253 Z2 (far.length (by exact am)) ?_;refine .lA J J J Y253.h J Sz253 Z2 (far.length (by exact am)) ?_;refine .cV J J J J Body233 (cd) tV (.sA J J J J (far.isCell (by exact ak)) Sz253 (far.length (by exact ak)) Z2 (far.length (by exact am)) (by exact upd2) ?_);refine .na (.join (ι:=far) (λx=>⟨[(4,ptr n4 0),(6,ptr n6 0),(8,ptr n8 0),(9,ptr n9 0),(10,ptr ab 0),(11,ptr ac 0),(12,ptr ad 0),(13,i64 (((255-p.1:Nat):Int)))],[⟨ad,(AQ).cells,253,30⟩,⟨ac,(AP).cells,253,30⟩,⟨ab,(x).cells,253,30⟩,⟨n9,Bs D,250,10⟩,⟨n8,Point.zero.cells,187,64⟩,⟨n6,Aa b,184,(Aa b).length⟩,⟨n4,Aa a,184,(Aa a).length⟩]⟩) (λx=>FarRep x (cv.lin (2*(le a/2^(256-p.1))+le a/2^(255-p.1)%2) (2*(le b/2^(256-p.1))) P Q)) ?_ ?_)
   ·
    refine .sr (.lA J J J Y184.h J Sz184 (by exact mem6) (by(simp[ha];done)) ?_);refine .m J J J (.cV J J J J Body234 (ref_bit_at a ha (255-p.1) oM) tV (.na (.cond J (λhc2=>?_) (λhc2=>?_))))
    ·
     have ca:=r5_plus D F1 AP aa hu.fit ae.fit;have aq:=frep_l aa aj hP hQ hu ae (bit_one hc2);revert ca aq;generalize frT D F1 AP=F2;intro ca aq;have av:=aq.fit.ok;refine .region (.lA J J J Cq J Sz250 Z3 (by(simp[Av,ao];done)) ?_);refine .lA J J J Y253.h J Sz253 Z2 (far.length (by exact ak)) ?_;refine .lA J J J Y253.h J Sz253 Z1 (far.length (by exact ag)) ?_;refine .cV J J J J Body233 (ca) tV (.sA J J J J (far.isCell (by exact av)) Sz253 (far.length (by exact av)) Z2 (far.length (by exact ak)) (by exact upd2) ?_);refine .na ?_;exact⟨F2,aq,Ah wN (wh1 Z0 (wh1 Z1 (wh1 Z2 (wh1 Z3 (wh1 Z4 (wh1 (by exact mem5) (wh1 (by exact mem6) wh0))))))) nD⟩
    refine .skip (Df ?_);exact⟨F1,(by rw[bit_nil hc2,Lc7];exact hu),Ah wN (wh1 Z0 (wh1 Z1 (wh1 Z2 (wh1 Z3 (wh1 Z4 (wh1 (by exact mem5) (wh1 (by exact mem6) wh0))))))) nD⟩
   intro x hj;have hx:=hj;have az:=hx.fit.ok;refine .sr (.lA J J J Y184.h J Sz184 (by exact mem5) (by(simp[hb];done)) ?_);refine .m J J J (.cV J J J J Body234 (ref_bit_at b hb (255-p.1) oM) tV (.na (.cond J (λax=>?_) (λax=>?_))))
   ·
    have cx:=r5_plus D x AQ aa hx.fit ah.fit;have ar:=frep_r aa aj hP hQ hx ah (bit_one ax);revert cx ar;generalize frT D x AQ=F3;intro cx ar;have aw:=ar.fit.ok;refine .region (.lA J J J Cq J Sz250 Z3 (by(simp[Av,ao];done)) ?_);refine .lA J J J Y253.h J Sz253 Z2 (far.length (by exact az)) ?_;refine .lA J J J Y253.h J Sz253 Z0 (far.length (by exact ai)) ?_;refine .cV J J J J Body233 (cx) tV (.sA J J J J (far.isCell (by exact aw)) Sz253 (far.length (by exact aw)) Z2 (far.length (by exact az)) (by exact upd2) ?_);refine .nil (bl_n (Df ?_));exact⟨F3,(by rw[lin_d (b:=0) ap,lin_d (b:=0) ap];exact ar),Ah wN (wh1 Z0 (wh1 Z1 (wh1 Z2 (wh1 Z3 (wh1 Z4 (wh1 (by exact mem5) (wh1 (by exact mem6) wh0))))))) nD⟩
   refine .skip (bl_n (Df ?_));exact⟨x,(by rw[lin_d (b:=0) ap,lin_d (b:=0) ap,bit_nil (E:=le b) ax,Lc7];exact hx),Ah wN (wh1 Z0 (wh1 Z1 (wh1 Z2 (wh1 Z3 (wh1 Z4 (wh1 (by exact mem5) (wh1 (by exact mem6) wh0))))))) nD⟩
  intro y hj;have hy:=hj;have b3:=hy.fit.ok;refine .region (.m J J J (.sub_i64 J J J J oM (.a J J J (.na ?_))));exact⟨(p.1+1,y),⟨by simp only[];omega,hy⟩,by simp only[];omega,Ah (wk1 rfl (wk1 rfl (wk1 rfl (wk1 rfl (wk1 rfl (wk1 rfl (wk1 rfl (wk1 (congrArg (λz=>some (i64 z)) (show((255-p.1:Nat):Int)-1=255-((p.1+1:Nat):Int) by omega)) wk0)))))))) (wh1 Z0 (wh1 Z1 (wh1 Z2 (wh1 Z3 (wh1 Z4 (wh1 (by exact mem5) (wh1 (by exact mem6) wh0))))))) nD⟩
 have a6:p.1=256:=by omega
 have a1:FarRep p.2 (cv.lin (le a) (le b) P Q):=by rw[a6,lin_last]at hw;exact hw
 refine .exit (at_x (at_x (bl_h (Df (.sr (.lA J J J Y253.h J Sz253 Z2 (far.length (by exact am)) ?_))))));refine .cV J J J J Body235 (r5_near p.2 _ a1) tV (.sA J J J J (Point.isCell zP) Sz187 (Point.length zP) Z4 (Point.length zZ) (by exact upd4) ?_);refine .na ?_;refine .ret (en_r ?_);refine⟨_,[],Ax J J Y187.h J Sz187 Z4 (by exact Point.length zP),sP,sP,?_,rfl⟩;rfl
theorem r5_Mul2z(a:List UInt8)(P:Pt Fp)(ha:a.length=32)(hP:cv.on P):Mv 180 [agg (Aa a),agg (ptc P).cells,agg (Aa (List.replicate 32 0)),agg (ptc (zero:Pt Fp)).cells] (λ_=>True) (agg (ptc (cv.mul (le a) P)).cells):=by
  have h:=r5_Mul2 a (List.replicate 32 0) P zero ha rfl hP cv.on_zero;rwa[le_zero32,lin_one]at h
theorem r5_Mul(a:List UInt8)(P:Pt Fp)(ha:a.length=32)(hP:cv.on P):Mv 185 [agg (Aa a),agg (ptc P).cells] (λ_=>True) (agg (ptc (cv.mul (le a) P)).cells):=by
 intro W hW;refine Ae func185 J 10 ntmps185 J (.sr (.boxA J J ?_));intro n2 ad aa;refine .boxA J J ?_;intro n3 ae ab;refine .alloc (cs:=Point.zero.cells) J Point.zr J ?_;intro n4 ag ac;refine .na (.seq (.draw (oPq [100,101,2,303,304,405]) Au zK (.lA J J J Y184.h J Sz184 Z2 (by(simp[ha];done)) ?_)));refine .lA J J J Y187.h J Sz187 Z1 (Point.length zP) ?_;refine .build (cs:=Aa (List.replicate 32 0)) J J J (λw=>by kernel_rfl) ?_;refine .cV J J J J Body229 (r5_Zero) tV (.cV J J J J Body180 (r5_Mul2z a P ha hP) tV (.sA J J J J (Point.isCell zP) Sz187 (Point.length zP) Z0 (Point.length zZ) zU ?_));refine .na ?_;refine .ret (en_r ?_);refine⟨_,[],Ax J J Y187.h J Sz187 Z0 (by exact Point.length zP),sP,sP,?_,rfl⟩;rfl
theorem r5_Bytes(P:Pt Fp)(hP:cv.on P):Mv 184 [agg (ptc P).cells] (λ_=>True) (.tuple #[agg (Aa (pb P)),i64 0]):=by
 intro W hW;refine Ae func184 J 19 ntmps184 J (.sr (.boxA J J ?_));intro n1 ae ab;refine .alloc (cs:=(Aa (List.replicate 32 0))) J Zr28 J ?_;intro n2 ag ac;refine .a J J J (.na (.seq (.sr (.lA J J J Y187.h J Sz187 Z1 (Point.length zP) ?_))));refine .cV J J J J Body228 (r5_Check P hP) tV (.nei J J J J (show(!decide _)=false from congrArg not (decide_eq_true (rfl))) (.na (.cond_f J (rfl) (.skip (Df (.sr (.fld J J J Y187.h J Sz184 dE _ J (.lN (Aa _) J J J Y184.h J Sz184 Z1 (Point.row_fY zP) (Point.rl_fY zP) ?_))))))));refine .alloc (cs:=(Aa (List.replicate 32 0))) J Zr28 J ?_;intro n4 ah ad;refine .sA J J J J zE Sz28 (by(simp[Aw,ptc_y];done)) Z0 sP zU ?_;refine .na (.join (ι:=Unit) (λ_u=>⟨[(2,ptr n2 0),(4,ptr n4 0)],[⟨n4,Aa (pb P),28,32⟩,⟨n2,Aa (List.replicate 32 0),28,32⟩]⟩) (λ_u=>True) ?_ ?_)
 ·
  refine .sr (.fld J J J Y187.h J Sz184 dE _ J (.lN (Aa _) J J J Y184.h J Sz184 Z2 (Point.row_fX zP) (Point.rl_fX zP) ?_));refine .cV J J J J Body239 (r_odd P.x) tV (.na (.condP J (λaa=>?_) (λaa=>?_)))
  ·
   refine .region (.i1 J J J J Y28.h Sz5 31 J dE (.load1 J J J Y5.h J Z0 (get_bytes (by show 31<(fb P.y).length;rw[Aw];decide)) ?_));refine .add_u8 J J J (show Ai _ _=some (u8 128)from rfl) (.i1 J J J J Y28.h Sz5 31 J dE ?_);rw[show((ptc P).fY.getD 31 0+128:UInt8)=(fb P.y).getD 31 0|||128 from byte_plus _ (fb_top P.y)];refine .s1 J J J J J Sz5 Z0 (by(simp[Aw,ptc_y];done)) (by exact Bo _ _ _) zU ?_;refine .na ?_
   (rw[show pb P=(fb P.y).set 31 ((fb P.y).getD 31 0|||128)from if_pos aa];exact⟨(),trivial,Ah wN (wh1 Z0 (wh1 Z1 wh0)) nD⟩)
  refine .skip (Df ?_)
  (rw[show pb P=fb P.y from if_neg aa];exact⟨(),trivial,Ah wN (wh1 Z0 (wh1 Z1 wh0)) nD⟩)
 intro _u hj;skip;refine .sr (.lA J J J Y28.h J Sz28 Z0 (by(simp[Cs];done)) ?_);refine .sA J J J J zE Sz28 (by(simp[Cs];done)) Z1 sP zV ?_;refine .a J J J (.na ?_);refine .ret (en_r ?_);refine⟨_,[],Bg J J J Y28.h J Sz28 Z1 (by simp[Cs]),sP,sP,?_,rfl⟩;rfl
end Go.Proofs.YtbdfihcjddbhaaaGreat
namespace Go.Proofs.YtbdfihcjddbhaaaGreat
open Go Hw _root_.Go.Proofs.Tryz
theorem ref_mul(a b:List UInt8)(ha:a.length=32)(hb:b.length=32):Mv 242 [agg (Aa a),agg (Aa b)] (λ_=>True) (agg (Aa (leb 32 (le a*le b%L)))):=by
 intro W hW;refine Ae func242 J 58 ntmps242 J (.sr (.boxA J J ?_));intro n2 au ak;refine .boxA J J ?_;intro n3 av am;refine .alloc (cs:=(Aa (List.replicate 32 0))) J A9 J ?_;intro n4 aw an;refine .nsr (.alloc (cs:=(Cg (List.replicate 64 0))) J Zr279 J ?_);intro n5 ax ao;refine .na (.join (ι:=Unit) (λ_u=>⟨[(2,ptr n2 0),(3,ptr n3 0),(4,ptr n4 0),(5,ptr n5 0)],[⟨n5,natsV (out a b 32),279,64⟩,⟨n4,Aa (List.replicate 32 0),184,32⟩]⟩) (λ_u=>True) ?_ ?_)
 ·
  refine .sr (.a J J J (.na (.block (.loop (ι:=Nat) (λp=>⟨[(2,ptr n2 0),(3,ptr n3 0),(4,ptr n4 0),(5,ptr n5 0),(6,i64 (p:Int))],[⟨n5,natsV (out a b p),279,64⟩,⟨n4,Aa (List.replicate 32 0),184,32⟩,⟨n3,Aa b,184,(Aa b).length⟩,⟨n2,Aa a,184,(Aa a).length⟩]⟩) (λp=>p<=32) (λp=>32-p) (0) ?_ ?_ ?_))))
  .omega
  .exact Ah wN (wh1 (by rw[out,natsV_zeros];exact Cf) (wh1 Z1 (wh1 Z2 (wh1 Z3 wh0)))) nD
  rintro p hp;refine .seq (.sr (.m J J J (.lss J J J J J (.na (.condP J (λac=>?_) (λac=>?_))))))
  ·
   have ay:p<32:=by omega
   refine .skip (Df (.seq (.block (.sr (.a J J J (.na (.block (.loop (ι:=Nat) (λq=>⟨[(2,ptr n2 0),(3,ptr n3 0),(4,ptr n4 0),(5,ptr n5 0),(6,i64 (p:Int)),(7,i64 (q:Int))],[⟨n5,natsV (inn a b p (out a b p) q),279,64⟩,⟨n4,Aa (List.replicate 32 0),184,32⟩,⟨n3,Aa b,184,(Aa b).length⟩,⟨n2,Aa a,184,(Aa a).length⟩]⟩) (λq=>q<=32) (λq=>32-q) (0) ?_ ?_ ?_))))))))
   .omega
   .exact Ah wN (wh1 Z0 (wh1 Z1 (wh1 Z2 (wh1 Z3 wh0)))) nD
   rintro q hq;refine .seq (.sr (.m J J J (.lss J J J J J (.na (.condP J (λad=>?_) (λad=>?_))))))
   ·
    have a1:q<32:=by omega
    obtain⟨aq,ar⟩:=natCast_mul_le (a.getD p 0).toNat_lt (b.getD q 0).toNat_lt;have ah:(inn a b p (out a b p) q).getD (p+q) 0<=2080800*p+65025*q:=inn_le a b p _ _ (out_le a b p) q (p+q);refine .skip (Df (.seq (.block (.draw (oPq [0,1,2,3,4,5,6,107,8,9,110,11,12,13,114,15,16,17,18,419]) Au zK (.m J J J (.m J J J (.aI J J J J oM (.m J J J (.m J J J (.aI J J J J oM (.i1 J J J J underlying279 Sz3 (p+q) oM oM (.load1 J J J Y3.h J Z0 (get_nats (by simp[inn_length,out_length];omega)) ?_))))))))))));refine .m J J J (.i1 J J J J Y184.h Sz5 _ J oM (.load1 J J J Y5.h J Z3 zG ?_));refine .conv J J J Y5.h Y3.h (cv_u8_i64 _) (.m J J J (.i1 J J J J Y184.h Sz5 _ J oM (.load1 J J J Y5.h J Z2 zG ?_)))
    refine .conv J J J Y5.h Y3.h (cv_u8_i64 _) (.mul_i64 J J J J oM (.aI J J J J oM (.i1 J J J J underlying279 Sz3 (p+q) oM oM (.s1 J J J J J Sz3 Z0 (by(simp[natsV_length,inn_length,out_length];omega)) (by rfl) zU ?_))))
    refine .nil (bl_n (Df (.region (.m J J J (.aI J J J J oM (.a J J J (.na ?_)))))));exact⟨q+1,by omega,by omega,Ah wN (wh1 (by rw[inn,addC_set];exact Cf) (wh1 Z1 (wh1 Z2 (wh1 Z3 wh0)))) nD⟩
   obtain rfl:q=32:=by omega
   refine .exit (at_x (at_x (bl_h (bl_n (Df (.region (.m J J J (.aI J J J J oM (.a J J J (.na ?_))))))))));exact⟨p+1,by omega,by omega,Ah wN (wh1 Z0 (wh1 Z1 (wh1 Z2 (wh1 Z3 wh0)))) nD⟩
  obtain rfl:p=32:=by omega
  refine .exit (at_x (at_x (bl_h (Df ?_))));refine⟨(),trivial,Ah wN (wh1 Z0 (wh1 Z1 wh0)) nD⟩
 intro _u hj;skip;refine .sr (.mkSlice (z:=u8 0) (by':=1) 64 J J J J Y33.h Sz5 Zr5 (by unfold By;kernel_rfl) J oM oM oM ?_);intro aa;refine .a J J J (.nsr (.a J J J (.na (.join (ι:=Unit) (λ_u=>⟨[(4,ptr n4 0),(8, .slice (some ⟨aa,0,none⟩) 64 64)],[⟨aa,Aa (leb 64 (le a*le b)),5,64⟩,⟨n4,Aa (List.replicate 32 0),184,32⟩]⟩) (λ_u=>True) ?_ ?_))))
 ·
  refine .sr (.a J J J (.na (.block (.loop (ι:=Nat) (λk=>⟨[(4,ptr n4 0),(5,ptr n5 0),(8, .slice (some ⟨aa,0,none⟩) 64 64),(9,i64 ((ev ((out a b 32).take k)/256^k:Nat):Int)),(10,i64 (k:Int))],[⟨aa,Aa (padW 64 (ev ((out a b 32).take k)) k),5,64⟩,⟨n5,natsV (out a b 32),279,64⟩,⟨n4,Aa (List.replicate 32 0),184,32⟩]⟩) (λk=>k<=64) (λk=>64-k) (0) ?_ ?_ ?_))))
  .omega
  .exact Ah (wk1 rfl (wk1 rfl (wk1 rfl (wk1 (by rw[Ld8];rfl) wN)))) (wh1 (by rw[padW_zero];exact Cf) (wh1 Z1 (wh1 Z2 wh0))) nD
  rintro k hk;have az:=padW_length 64 (ev ((out a b 32).take k)) k hk;have ae:=ev_take_le (out a b 32) _ (out_le a b 32) k;have ai:(0:Int)<=((ev ((out a b 32).take k)/256^k:Nat):Int):=Leo _;have ag:((ev ((out a b 32).take k)/256^k:Nat):Int)<=((2080800*32:Nat):Int):=Int.ofNat_le.2 ae;refine .seq (.sr (.m J J J (.lss J J J J J (.na (.condP J (λhc2=>?_) (λhc2=>?_))))))
  ·
   have ap:k<64:=by omega
   have aj:=out_le a b 32 k;have hs:((ev ((out a b 32).take k)/256^k:Nat):Int)+(((out a b 32).getD k 0:Nat):Int)=((ev ((out a b 32).take k)/256^k+(out a b 32).getD k 0:Nat):Int):=by rw[Lcd]
   refine .skip (Df (.seq (.block (.sr (.m J J J (.m J J J (.i1 J J J J underlying279 Sz3 _ J oM (.load1 J J J Y3.h J Z1 (get_nats (by simp[out_length];omega)) ?_))))))));refine .aI J J J J oM (.a J J J (.nsr (.m J J J (.m J J J (.m J J J (.rem_i64 J J J J oM (.conv J J J Y3.h Y5.h (cv_i64_u8 _) (.idxSl1 J J J J Y33.h Sz5 _ J oM (.s1 J J J J J Sz5 Z0 (by(simp;omega)) (by exact Bo _ _ _) zU ?_)))))))));refine .na (.region (.m J J J (.quo_i64 J J J J oM (.a J J J (.nil (bl_n (Df (.region (.m J J J (.aI J J J J oM (.a J J J (.na ?_))))))))))));have ab:=ev_take_succ (out a b 32) k (by rw[out_length];omega);exact⟨k+1,by omega,by omega,Ah (wk1 rfl (wk1 rfl (wk1 rfl (wk1 (by rw[ab,<-carry_step _ _ _ _ hs];rfl) wN)))) (wh1 (by rw[ab,<-padW_step 64 _ _ k oM _ hs,byteOf_mod];exact Cf) (wh1 Z1 (wh1 Z2 wh0))) nD⟩
  obtain rfl:k=64:=by omega
  refine .exit (at_x (at_x (bl_h (Df ?_))));refine⟨(),trivial,Ah wN (wh1 (by rw[<-padW_all,<-ev_all a b ha hb];exact Cf) (wh1 Z2 wh0)) nD⟩
 intro _u hj;skip;refine .sr (.m J J J (.cV J J J J Body240 (ref_rest _ 0 _ 64 (leb 64 (le a*le b)) (by simp[Am]) oM) (λW h=>Ar h Z0) ?_));refine .sA J J J J zB Sz184 (by(simp[Am];done)) Z1 sP zV ?_;refine .na ?_;refine .ret (en_r ?_);refine⟨_,[],Ax J J Y184.h J Sz184 Z1 (by simp[Am]),sP,sP,?_,rfl⟩;rw[le_leb,Lal (le512 ha hb)]
theorem ref_muladd(a b c:List UInt8)(ha:a.length=32)(hb:b.length=32)(hc:c.length=32):Mv 190 [agg (Aa a),agg (Aa b),agg (Aa c)] (λ_=>True) (agg (Aa (leb 32 ((le a*le b+le c)%L)))):=by
 intro W hW;refine Ae func190 J 13 ntmps190 J (.sr (.boxA J J ?_));intro n3 ae aa;refine .boxA J J ?_;intro n4 ag ab;refine .boxA J J ?_;intro n5 ah ac;refine .alloc (cs:=(Aa (List.replicate 32 0))) J A9 J ?_;intro n6 ai ad;refine .na (.seq (.draw (oPq [100,101,3,302,304,305,406]) Au zK (.lA J J J Y184.h J Sz184 Z3 (by(simp[ha];done)) ?_)));refine .lA J J J Y184.h J Sz184 Z2 (by(simp[hb];done)) ?_;refine .sliceArr J J J Y184.h Sz5 (.cV J J J J Body242 (ref_mul a b ha hb) tV (.cV J J J J Body240 (ref_rest _ 0 _ 32 c (by simp[hc]) oM) (λW h=>Ar h Z1) ?_));refine .cV J J J J Body241 (ref_plus_n _ _ (Lc3 _ L_pos) (Lc3 _ L_pos)) tV (.sA J J J J zB Sz184 (by(simp[Am];done)) Z0 sP zU ?_);refine .na ?_;refine .ret (en_r ?_);refine⟨_,[],Ax J J Y184.h J Sz184 Z0 (by simp[Am]),sP,sP,?_,rfl⟩;rw[<-Lf4]
open Ed
variable{D:DB}{W w:World}{b n:Nat}{l:List UInt8}{v:Value}
theorem byte_8:∀b:UInt8,b-UInt8.ofNat (b.toNat%8)=b&&&248/\UInt8.ofNat (b.toNat%64)+64=(b&&&127)|||64:=by
  intro b;have h:∀n,n<256->UInt8.ofNat n-UInt8.ofNat ((UInt8.ofNat n).toNat%8)=UInt8.ofNat n&&&248/\UInt8.ofNat ((UInt8.ofNat n).toNat%64)+64=(UInt8.ofNat n&&&127)|||64:=by decide
  have h2:=h b.toNat b.toNat_lt;rwa[Lfk]at h2
theorem clamp_ref(h:l.length=32):(l.set 0 (l.getD 0 0-UInt8.ofNat ((l.getD 0 0).toNat%8))).set 31 (UInt8.ofNat (((l.set 0 (l.getD 0 0-UInt8.ofNat ((l.getD 0 0).toNat%8))).getD 31 0).toNat%64)+64)=clampB l:=by
  have g:(l.set 0 (l.getD 0 0-UInt8.ofNat ((l.getD 0 0).toNat%8))).getD 31 0=l.getD 31 0:=by
    rw[La3,Leu dE,<-La3]
  rw[g,(byte_8 _).1,(byte_8 _).2];rfl
theorem upd_all{f:List UInt8}(h:f.length=32):upd (Aa (List.replicate 32 0)) 0 (Aa f)=Aa f:=by simp[upd,Aa,h]
theorem sees_take(h:Dd w b 0 (Aa l)):SeesP w (some ⟨b,0,none⟩) (Aa (l.take n)):=SeesP.of (λi v hv=>h i v (take_sees hv))
theorem sees_drop(h:Dd w b 0 (Aa l)):SeesP w (some ⟨b,n,none⟩) (Aa (l.drop n)):=SeesP.of (λi v hv=>by
  have e:(Aa l)[n+i]? =some v:=by rw[Aa,Leb,Lba]at hv;exact hv
  have:=h _ v e;rwa[Lb0]at this)
theorem r6_secret(ab:List UInt8)(ag:ab.length=32)(s:List UInt8)(hs:Hid (sha512 ab=s)):Meets prog 187 [agg (Aa ab)] [] (λ_=>True) (λv out=>∃q c,v= .tuple #[agg (Aa (clampB (s.take 32))), .slice (some ⟨q,0,none⟩) 32 c]/\32<=c/\out=[⟨q,Aa (s.drop 32),5,c*1⟩]):=by
 intro W hW;have ac:s.length=64:=by rw[<-hs.out];exact sha512_length ab
 have aa:(s.take 32).length=32:=by rw[Lac,ac];rfl
 have ah:(s.drop 32).length=32:=by rw[Laz,ac]
 have ad:=clampB_length aa;refine Ae func187 J 28 ntmps187 J (G3 ?_);intro n1 ap ak;refine .alloc (cs:=(Aa (List.replicate 32 0))) J A9 J ?_;intro n2 aq am;refine G6 ?_;refine .mkRow2 (z:= .slice none 0 0) [.slice (some ⟨n1,0,none⟩) 32 32] [.slice (some ⟨n1,0,none⟩) 32 32] rfl J Y158.h Sz33 Zr33 J J (by intro v hv;rw[La1.1 hv];rfl) dE J ?_;intro q7;refine .cV J J J J Body188 (r2_Sum512 (some ⟨q7,0,none⟩) 1 1 [⟨some ⟨n1,0,none⟩,32,32⟩] [ab] rfl J (λj hj=>(by
   rcases(show j=0 by omega)with rfl
   .exact⟨by show 32=List.length _;exact ag.symm,λe=>by cases e⟩)) (ab) sP (by(simp[ag];done)) dE s hs) (λw h=>⟨SeesP.of (Ar h Z0),(λj hj=>(by
   rcases(show j=0 by omega)with rfl
   .exact SeesP.of (Ar (cs:=Aa ab) h Z2)))⟩) ?_
 refine .alloc (cs:=(Aa (List.replicate 64 0))) J Zr34 J ?_;intro n4 ar an;refine .sA J J J J zE Sz34 (by(simp[ac];done)) Z0 sP zU ?_;refine G4 ?_;refine .alloc (cs:=(Aa (List.replicate 32 0))) J A9 J ?_;intro n5 au ao;refine G3 ?_;refine .draw (oPq [0,1,402]) Au zK (G1 ?_);refine .sliceArrHi 32 J J J J J dE dE Y34.h Sz5 (.copyP (Aa (s.take 32)) 32 J J J J J Y33.h Sz5 (λw h=>sees_take (Ar h Z1)) (λe=>by cases e) (by rw[Aa,La0];exact aa) J (by rw[Aa,<-Lbh,La5 (Ld5 aa)]) (Ay _) Z0 sP (by exact upd_all aa) zU ?_);refine G4 ?_;refine .i1 J J J J Y184.h Sz5 0 J dE (G1 ?_);refine .i1 J J J J Y184.h Sz5 0 J dE (G1 ?_);refine .rem_u8 J J J J 8 J dE (.sub_u8 J J J J (.i1 J J J J Y184.h Sz5 0 J dE (.s1 J J J J J Sz5 Z0 (by(simp[ac];done)) (by exact Bo _ _ _) zU ?_)));refine G4 ?_;refine .i1 J J J J Y184.h Sz5 31 J dE (.load1 J J J Y5.h J Z0 (by exact get_bytes (by(simp[aa];done))) ?_);refine .rem_u8 J J J J 64 J dE (.add_u8 J J J (show Ai _ _=some (u8 64)from rfl) (.i1 J J J J Y184.h Sz5 31 J dE (.s1 J J J J J Sz5 Z0 (by(simp[ac,aa];done)) (by exact Bo _ _ _) zU ?_)));refine G3 ?_;refine .withK (sp_k (sp_v (sp_v (sp_v (sp_v sp_n))))) J (.draw (oPq [0,2,201,403,404,5]) Au zK ?_);rw[clamp_ref aa];refine .kloadAll J J J Y184.h J Sz184 Z0 (by(simp[ad];done)) ?_;refine .sliceArrLo 32 J J J J J dE Y34.h Sz5 (.mkRow2 (z:=u8 0) [] [] rfl J Y33.h Sz5 Zr5 J J (by intro v hv;cases hv) dE J ?_);intro av;refine .appendSl (z:=u8 0) (by':=1) (Aa (s.drop 32)) J J J J J Y33.h Y33.h Sz5 Zr5 (by unfold By;kernel_rfl) J (λw h=>sees_drop (Ar h Z1)) (λe=>by cases e) (Ay _) rM J J oM oM oM (by rw[Aa,La0];exact ah) ?_;intro ai ae aj;refine .sA J J J J zE Sz184 (by(simp[ad];done)) Z3 sP (by exact upd3) ?_;refine G3 ?_;refine G2 ?_;simp only[Lan,Lah,Law];refine Ao (out:=(⟨ai,[]++Aa (s.drop 32),5,ae*1⟩::[])) (Bg J J J Y184.h J Sz184 Z3 (by simp[ad])) (Ab rM Ad) ?_;exact⟨ai,ae,rfl,by omega,rfl⟩
theorem r6_Secret(aa:List UInt8)(ae:aa.length=32)(s:List UInt8)(hs:Hid (sha512 aa=s)):Mv 186 [agg (Aa aa)] (λ_=>True) (agg (Aa (clampB (s.take 32)))):=by
 intro W hW;have ad:s.length=64:=by rw[<-hs.out];exact sha512_length aa
 have ag:(s.take 32).length=32:=by rw[Lac,ad];rfl
 have ah:(s.drop 32).length=32:=by rw[Laz,ad]
 have ab:=clampB_length ag;revert ab;have ac:=r6_secret aa ae s hs;revert ac;generalize clampB (s.take 32)=N;intro ac ab;refine Ae func186 J 11 ntmps186 J (G3 ?_);intro n1 ao ak;refine .alloc (cs:=(Aa (List.replicate 32 0))) J A9 J ?_;intro n2 ap am;refine G4 ?_;refine .lA J J J Y28.h J Sz28 Z1 (by(simp[ae];done)) ?_;refine .call4 J J J J J Body187 (ac) tV ?_;rintro v7 ai ⟨q7,c7,rfl,aj,rfl⟩;simp only[Lan,Lah];refine G3 ?_;refine .alloc (cs:=(Aa (List.replicate 32 0))) J A9 J ?_;intro n3 aq an;refine .sA J J J J zE Sz184 (by(simp[ab];done)) Z0 sP zU ?_;refine G5 ?_;refine .lA J J J Y184.h J Sz184 Z0 (by(simp[ab];done)) ?_;refine .sA J J J J zE Sz184 (by(simp[ab];done)) Z2 sP (by exact upd2) ?_;refine G2 ?_;refine G2 ?_;refine⟨_,[],Ax J J Y184.h J Sz184 Z2 (by simp[ab]),sP,sP,?_,rfl⟩;rfl
theorem r6_KeyQ(N:List UInt8)(hN:N.length=32)(Q:Pt Fp)(hQ:cv.mul (le N) bP=Q):cv.on Q/\Mv 185 [agg (Aa N),agg (ptc bP).cells] (λ_=>True) (agg (ptc Q).cells):=by
  rw[<-hQ];exact⟨cv.on_mul bP_on _,r5_Mul N bP hN bP_on⟩
theorem r6_Key(aa:List UInt8)(ag:aa.length=32)(s:List UInt8)(hs:Hid (sha512 aa=s)):Mv 153 [agg (Aa aa)] (λ_=>True) (agg (Aa (sgK s))):=by
 intro W hW;have ac:s.length=64:=by rw[<-hs.out];exact sha512_length aa
 have ai:(s.take 32).length=32:=by rw[Lac,ac];rfl
 have ak:(s.drop 32).length=32:=by rw[Laz,ac]
 have ad:=clampB_length ai;obtain⟨Q,hQ⟩:∃Q,cv.mul (le (clampB (s.take 32))) bP=Q:=⟨_,rfl⟩;have ab:=r6_Secret aa ag s hs;have ae:=r6_KeyQ (clampB (s.take 32)) ad Q hQ;rw[show sgK s=pb Q from by rw[sgK,hQ]];clear hQ;revert ad ab ae;generalize clampB (s.take 32)=N;intro ad ab ae;obtain⟨aj,ah⟩:=ae;refine Ae func153 J 14 ntmps153 J (G3 ?_);intro n1 ap am;refine .alloc (cs:=(Aa (List.replicate 32 0))) J Zr29 J ?_;intro n2 aq an;refine G4 ?_;refine .lA J J J Y28.h J Sz28 Z1 (by(simp[ag];done)) ?_;refine .cV J J J J Body186 (ab) tV (.cV J J J J Body181 (r5_Base) tV (.cV J J J J Body185 (ah) tV (.cV J J J J Body184 (r5_Bytes Q aj) tV (G3 ?_))));refine .alloc (cs:=(Aa (List.replicate 32 0))) J Zr28 J ?_;intro n3 ar ao;refine .sA J J J J zE Sz28 (by(simp[Cs];done)) Z0 sP zU ?_;refine G5 ?_;refine .lA J J J Y28.h J Sz28 Z0 (by(simp[Cs];done)) ?_;refine .sA J J J J zE Sz29 (by(simp[Cs];done)) Z1 sP zV ?_;refine G2 ?_;refine G2 ?_;refine⟨_,[],Ax J J Y29.h J Sz29 Z1 (by simp[Cs]),sP,sP,?_,rfl⟩;rfl
theorem r6_challenge(r k:List UInt8)(hr:r.length=32)(hk:k.length=32)(sb:Sl)(bb:List UInt8)(ae:bb.length<=80000)(s:List UInt8)(hs:Hid (sha512 (r++(k++bb))=s)):Mv 182 [agg (Aa r),agg (Aa k),sb.v] (λW=>BytesAt W sb bb) (agg (Aa (sgR s))):=by
 intro W hW;have ac:s.length=64:=by rw[<-hs.out];exact sha512_length _
 obtain⟨R,hR⟩:∃R,Hid (sgR s=R):=⟨_,⟨rfl⟩⟩;have aa:R.length=32:=by rw[<-hR.out];exact sgR_length s
 have ab:=λb=>ref_Rest b 0 64 64 s ac dE;rw[show leb 32 (le s%L)=R from hR.out]at ab;rw[hR.out];refine Ae func182 J 21 ntmps182 J (G3 ?_);intro n3 am ag;refine G1 ?_;intro n4 an ah;refine .alloc (cs:=(Aa (List.replicate 32 0))) J A9 J ?_;intro n6 ao ai;refine G3 ?_;refine .draw (oPq [0,1,2,203,304,205,406]) Au zK (G3 ?_);refine .mkRow2 (z:= .slice none 0 0) [.slice (some ⟨n3,0,none⟩) 32 32, .slice (some ⟨n4,0,none⟩) 32 32,sb.v] [.slice (some ⟨n3,0,none⟩) 32 32, .slice (some ⟨n4,0,none⟩) 32 32,sb.v] rfl J Y158.h Sz33 Zr33 J J (by intro v hv;simp only[Lam,Lc1,or_false]at hv;rcases hv with rfl|rfl|rfl<;>rfl) dE J ?_;intro ad;refine .cV J J J J Body188 (r2_Sum512 (some ⟨ad,0,none⟩) 3 3 [⟨some ⟨n3,0,none⟩,32,32⟩,⟨some ⟨n4,0,none⟩,32,32⟩,sb] [r,k,bb] rfl J (λj hj=>(by
   rcases(show j=0\/j=1\/j=2 by omega)with rfl|rfl|rfl
   .exact⟨by show 32=List.length _;exact hr.symm,λe=>by cases e⟩
   .exact⟨by show 32=List.length _;exact hk.symm,λe=>by cases e⟩
   .exact⟨by show sb.n=bb.length;exact hW.len.symm,λe=>by have h1:=hW.nil e;have h2:=hW.cap;show sb.n=0;omega⟩)) (r++(k++bb)) sP (by(simp[hr,hk];omega)) dE s hs) (λw h=>⟨SeesP.of (Ar h Z0),(λj hj=>(by
   rcases(show j=0\/j=1\/j=2 by omega)with rfl|rfl|rfl
   .exact SeesP.of (Ar (cs:=Aa r) h Z3)
   .exact SeesP.of (Ar (cs:=Aa k) h Z2)
   .exact A8 h rfl hW.see))⟩) ?_
 refine .alloc (cs:=(Aa (List.replicate 64 0))) J Zr34 J ?_;intro n7 ap aj;refine .sA J J J J zE Sz34 (by(simp[ac];done)) Z0 sP zU ?_;refine G5 ?_;refine .cV J J J J Body189 (ab n7) (λw h=>Ar h Z0) ?_;refine G3 ?_;refine .alloc (cs:=(Aa (List.replicate 32 0))) J A9 J ?_;intro n8 aq ak;refine .sA J J J J zE Sz184 (by(simp[aa];done)) Z0 sP zU ?_;refine G5 ?_;refine .lA J J J Y184.h J Sz184 Z0 (by(simp[aa];done)) ?_;refine .sA J J J J zE Sz184 (by(simp[aa];done)) Z3 sP (by exact upd3) ?_;refine G2 ?_;refine G2 ?_;refine⟨_,[],Ax J J Y184.h J Sz184 Z3 (by simp[aa]),sP,sP,?_,rfl⟩;rfl
theorem r6_Sign(aa:List UInt8)(aj:aa.length=32)(sb:Sl)(bb:List UInt8)(ax:bb.length<=80000)(s s1 s2:List UInt8)(hs:Hid (sha512 aa=s))(aq:Hid (sha512 (s.drop 32++bb)=s1))(ar:Hid (sha512 (sgF s1++(sgK s++bb))=s2)):Mv 154 [agg (Aa aa),sb.v] (λW=>BytesAt W sb bb) (agg (Aa (sgF s1++sgS s s1 s2))):=by
 intro W hW;have am:s.length=64:=by rw[<-hs.out];exact sha512_length aa
 have au:(s.take 32).length=32:=by rw[Lac,am];rfl
 have ak:(s.drop 32).length=32:=by rw[Laz,am]
 have ae:=clampB_length au;have ao:s1.length=64:=by rw[<-aq.out];exact sha512_length _
 have ad:=r6_secret aa aj s hs;have ac:=r6_Key aa aj s hs;have ah:=r6_challenge (sgF s1) (sgK s) (sgF_length s1) (sgK_length s) sb bb ax s2 ar;have ai:=ref_muladd (sgR s2) (clampB (s.take 32)) (sgR s1) (sgR_length s2) ae (sgR_length s1);rw[show leb 32 ((le (sgR s2)*le (clampB (s.take 32))+le (sgR s1))%L)=sgS s s1 s2 from rfl]at ai;obtain⟨Q,hQ⟩:∃Q,cv.mul (le (sgR s1)) bP=Q:=⟨_,rfl⟩;have an:=r6_KeyQ (sgR s1) (sgR_length s1) Q hQ;have hF:sgF s1=pb Q:=by rw[sgF,hQ]
 rw[hF]at ah ⊢;clear hQ ar hF;have ab:=λb=>ref_Rest b 0 64 64 s1 ao dE;rw[show leb 32 (le s1%L)=sgR s1 from rfl]at ab;have lK:=sgK_length s;have lS:=sgS_length s s1 s2;have ag:=sgR_length s1;have av:=sgR_length s2;revert ae ad ac ah ai an ab lK lS ag av;generalize sgS s s1 s2=S3;generalize sgK s=K;generalize sgR s1=r1;generalize sgR s2=r2;generalize clampB (s.take 32)=N;intro ae ad ac ai ah an ab lK lS ag av;obtain⟨aw,ap⟩:=an;have bt:=Cs Q;refine Ae func154 J 50 ntmps154 J (G3 ?_);intro n2 bm be;refine .alloc (cs:=(Aa (List.replicate 64 0))) J Zr35 J ?_;intro n4 bn bg;refine G4 ?_;refine .lA J J J Y28.h J Sz28 Z1 (by(simp[aj];done)) ?_;refine .call4 J J J J J Body187 (ad) tV ?_;rintro v7 ba ⟨q7,c7,rfl,bc,rfl⟩;simp only[Lan,Lah];refine G3 ?_;refine .alloc (cs:=(Aa (List.replicate 32 0))) J A9 J ?_;intro n5 bo bi;refine .sA J J J J zE Sz184 (by(simp[ae];done)) Z0 sP zU ?_;refine G7 ?_;refine .mkRow2 (z:= .slice none 0 0) [.slice (some ⟨q7,0,none⟩) 32 c7,sb.v] [.slice (some ⟨q7,0,none⟩) 32 c7,sb.v] rfl J Y158.h Sz33 Zr33 J J (by intro v hv;simp only[Lam,Lc1,or_false]at hv;rcases hv with rfl|rfl<;>rfl) dE J ?_;intro ay;refine .cV J J J J Body188 (r2_Sum512 (some ⟨ay,0,none⟩) 2 2 [⟨some ⟨q7,0,none⟩,32,c7⟩,sb] [s.drop 32,bb] rfl J (λj hj=>(by
   rcases(show j=0\/j=1 by omega)with rfl|rfl
   .exact⟨by show 32=List.length _;exact ak.symm,λe=>by cases e⟩
   .exact⟨by show sb.n=bb.length;exact hW.len.symm,λe=>by have h1:=hW.nil e;have h2:=hW.cap;show sb.n=0;omega⟩)) (s.drop 32++bb) sP (by(simp[ak];omega)) dE s1 aq) (λw h=>⟨SeesP.of (Ar h Z0),(λj hj=>(by
   rcases(show j=0\/j=1 by omega)with rfl|rfl
   .exact SeesP.of (Ar (cs:=Aa (s.drop 32)) h Z2)
   .exact A8 h rfl hW.see))⟩) ?_
 refine .alloc (cs:=(Aa (List.replicate 64 0))) J Zr34 J ?_;intro n7 bp bj;refine .sA J J J J zE Sz34 (by(simp[ao];done)) Z0 sP zU ?_;refine G5 ?_;refine .cV J J J J Body189 (ab n7) (λw h=>Ar h Z0) ?_;refine G3 ?_;refine .alloc (cs:=(Aa (List.replicate 32 0))) J A9 J ?_;intro n8 bq bk;refine .sA J J J J zE Sz184 (by(simp[ag];done)) Z0 sP zU ?_;refine G4 ?_;refine .draw (oPq [100,301,302,303,4,5,6,207,408,9]) Au zK (.lA J J J Y184.h J Sz184 Z0 (by(simp[ag];done)) ?_);refine .cV J J J J Body181 (r5_Base) tV (.cV J J J J Body185 (ap) tV (.cV J J J J Body184 (r5_Bytes Q aw) tV (G3 ?_)));refine .alloc (cs:=(Aa (List.replicate 32 0))) J Zr28 J ?_;intro bu a6 az;refine .sA J J J J zE Sz28 (by(simp[Cs];done)) Z0 sP zU ?_;refine G4 ?_;refine .draw (oPq [100,101,3,105,106,302,304,307,208,409]) Au zK (.lA J J J Y28.h J Sz28 Z0 (by(simp[Cs];done)) ?_);refine .lA J J J Y28.h J Sz28 (by exact mem7) (by(simp[aj];done)) ?_;refine G1 ?_;refine .lA J J J Y184.h J Sz184 Z4 (by(simp[ae];done)) ?_;refine .lA J J J Y184.h J Sz184 Z1 (by(simp[ag];done)) ?_;refine .cV J J J J Body153 (ac) tV (.cV J J J J Body182 (ah) (λw h=>bytes_ext h J hW) (.cV J J J J Body190 (ai) tV (.alloc (cs:=(Aa (List.replicate 32 0))) J A9 J ?_)));intro bv a7 a1;refine .sA J J J J zE Sz184 (by(simp[lS];done)) Z0 sP zU ?_;refine G4 ?_;refine .alloc (cs:=(Aa (List.replicate 64 0))) J Zr35 J ?_;intro bw a8 a2;refine G3 ?_;refine .draw (oPq [0,1,402]) Au zK (G2 ?_);refine .copyP (Aa (pb Q)) 32 J J J J J Y33.h Sz5 (λw h=>SeesP.of (Ar h Z2)) (λe=>by cases e) (by rw[Aa,La0];exact(Cs Q)) J (by rw[Aa,<-Lbh,La5 (Ld5 (Cs Q))]) (Ay _) Z0 sP (by exact upd_first (Cs Q)) zU ?_;refine G3 ?_;refine .draw (oPq [0,1,402]) Au zK (.sliceArrLo 32 J J J J J dE Y35.h Sz5 (G1 ?_));refine .copyP (Aa S3) 32 J J J J J Y33.h Sz5 (λw h=>SeesP.of (Ar h Z1)) (λe=>by cases e) (by rw[Aa,La0];exact lS) J (by rw[Aa,<-Lbh,La5 (Ld5 lS)]) (Ay _) Z0 (by(simp;omega)) (by exact upd_last (Cs Q) lS) zU ?_;refine G4 ?_;refine .lA J J J Y35.h J Sz35 Z0 (by(simp[Cs,lS];done)) ?_;refine .sA J J J J zE Sz35 (by(simp[Cs,lS];done)) mR sP (by(repeat(first|exact upd0|apply Upd.tail))) ?_;refine G2 ?_;refine G2 ?_;refine⟨_,[],Ax J J Y35.h J Sz35 mR (by simp[Cs,lS]),sP,sP,?_,rfl⟩;rfl
theorem r5_Read_none(b:List UInt8)(hb:b.length=32)(h:rdP b=none):Mv 178 [agg (Aa b)] (λ_=>True) (.tuple #[agg Point.zero.cells,i64 4]):=by
  have:=r5_Read b hb;rwa[rdV_none h]at this
theorem r5_Read_some(b:List UInt8)(P:Pt Fp)(hb:b.length=32)(h:rdP b=some P):Mv 178 [agg (Aa b)] (λ_=>True) (.tuple #[agg (ptc P).cells,i64 0]):=by
  have:=r5_Read b hb;rwa[rdV_some h]at this
theorem r6_Good_kr(k:List UInt8)(hk:k.length=32)(sb:Sl)(bb:List UInt8)(ag:bb.length<=80000)(sg:List UInt8)(ac:sg.length=64)(h1:rdP k=none)(h2:rdP (sg.take 32)=none):Mv 149 [agg (Aa k),sb.v,agg (Aa sg)] (λW=>BytesAt W sb bb) (.bool false):=by
 intro W hW;have ab:(sg.drop 32).length=32:=by rw[Laz,ac]
 have aa:(sg.take 32).length=32:=by rw[Lac,ac];rfl
 refine Ae func149 J 51 ntmps149 J (.sr (.boxA J J ?_));intro n3 an ah;refine .boxA J J ?_;intro n5 ao ai;refine .a J J J (.nsr (.alloc (cs:=(Aa (List.replicate 32 0))) J Zr28 J ?_));intro n7 ap aj;refine .nsr (.alloc (cs:=(Aa (List.replicate 32 0))) J A9 J ?_);intro n8 aq ak;refine .na (.seq (.draw (oPq [0,1,402]) Au zK (.sliceArr J J J Y28.h Sz5 (.sliceArrHi 32 J J J J J dE dE Y35.h Sz5 (.copyP (Aa (sg.take 32)) 32 J J J J J Y33.h Sz5 (λw h=>sees_take (Ar h Z2)) (λe=>by cases e) (by rw[Aa,La0];exact aa) J (by rw[Aa,<-Lbh,La5 (Ld5 aa)]) (Ay _) Z1 sP (by exact upd_all aa) zV ?_)))));refine .na (.seq (.draw (oPq [0,1,402]) Au zK (.sliceArr J J J Y184.h Sz5 (.sliceArrLo 32 J J J J J dE Y35.h Sz5 (.copyP (Aa (sg.drop 32)) 32 J J J J J Y33.h Sz5 (λw h=>sees_drop (Ar h Z2)) (λe=>by cases e) (by rw[Aa,La0];exact ab) J (by rw[Aa,<-Lbh,La5 (Ld5 ab)]) (Ay _) Z0 sP (by exact upd_all ab) zU ?_)))));refine .nsr (.lA J J J Y29.h J Sz29 Z3 (by(simp[hk];done)) ?_);refine .cV J J J J Body178 (r5_Read_none k hk h1) tV (.m J J J (.eX J J J J (.eX J J J J (.alloc (cs:=Point.zero.cells) J Point.zr J ?_))));intro n9 ar am;refine .sA J J J J (Point.isCell zZ) Sz187 (Point.length zZ) Z0 (Point.length zZ) zU ?_;refine .a J J J (.nsr (.lA J J J Y28.h J Sz28 Z2 (by(simp[ac];done)) ?_));refine .cV J J J J Body178 (r5_Read_none (sg.take 32) aa h2) tV (.m J J J (.eX J J J J (.eX J J J J (.alloc (cs:=Point.zero.cells) J Point.zr J ?_))));intro au ae ad;refine .sA J J J J (Point.isCell zZ) Sz187 (Point.length zZ) Z0 (Point.length zZ) zU ?_;refine .a J J J (.na (.seq (.sr (.m J J J (.nei J J J J (show(!decide _)=true from congrArg not (decide_eq_false dE)) (.m J J J (.skp J J (.skp J J (.pick J J J J J J (.m J J J (.skp J J (.skp J J (.skp J J (.pick J J J J J J (.na (.cond_t J J (.sr (.a J J J (.na ?_)))))))))))))))))));refine .ret (at_r (en_r ?_));refine⟨_,[],Ag J J,sP,sP,?_,rfl⟩;rfl
theorem r6_Good_k(k:List UInt8)(hk:k.length=32)(sb:Sl)(bb:List UInt8)(ag:bb.length<=80000)(sg:List UInt8)(ac:sg.length=64)(R:Pt Fp)(h1:rdP k=none)(h2:rdP (sg.take 32)=some R):Mv 149 [agg (Aa k),sb.v,agg (Aa sg)] (λW=>BytesAt W sb bb) (.bool false):=by
 intro W hW;have ab:(sg.drop 32).length=32:=by rw[Laz,ac]
 have aa:(sg.take 32).length=32:=by rw[Lac,ac];rfl
 refine Ae func149 J 51 ntmps149 J (.sr (.boxA J J ?_));intro n3 an ah;refine .boxA J J ?_;intro n5 ao ai;refine .a J J J (.nsr (.alloc (cs:=(Aa (List.replicate 32 0))) J Zr28 J ?_));intro n7 ap aj;refine .nsr (.alloc (cs:=(Aa (List.replicate 32 0))) J A9 J ?_);intro n8 aq ak;refine .na (.seq (.draw (oPq [0,1,402]) Au zK (.sliceArr J J J Y28.h Sz5 (.sliceArrHi 32 J J J J J dE dE Y35.h Sz5 (.copyP (Aa (sg.take 32)) 32 J J J J J Y33.h Sz5 (λw h=>sees_take (Ar h Z2)) (λe=>by cases e) (by rw[Aa,La0];exact aa) J (by rw[Aa,<-Lbh,La5 (Ld5 aa)]) (Ay _) Z1 sP (by exact upd_all aa) zV ?_)))));refine .na (.seq (.draw (oPq [0,1,402]) Au zK (.sliceArr J J J Y184.h Sz5 (.sliceArrLo 32 J J J J J dE Y35.h Sz5 (.copyP (Aa (sg.drop 32)) 32 J J J J J Y33.h Sz5 (λw h=>sees_drop (Ar h Z2)) (λe=>by cases e) (by rw[Aa,La0];exact ab) J (by rw[Aa,<-Lbh,La5 (Ld5 ab)]) (Ay _) Z0 sP (by exact upd_all ab) zU ?_)))));refine .nsr (.lA J J J Y29.h J Sz29 Z3 (by(simp[hk];done)) ?_);refine .cV J J J J Body178 (r5_Read_none k hk h1) tV (.m J J J (.eX J J J J (.eX J J J J (.alloc (cs:=Point.zero.cells) J Point.zr J ?_))));intro n9 ar am;refine .sA J J J J (Point.isCell zZ) Sz187 (Point.length zZ) Z0 (Point.length zZ) zU ?_;refine .a J J J (.nsr (.lA J J J Y28.h J Sz28 Z2 (by(simp[ac];done)) ?_));refine .cV J J J J Body178 (r5_Read_some (sg.take 32) R aa h2) tV (.m J J J (.eX J J J J (.eX J J J J (.alloc (cs:=Point.zero.cells) J Point.zr J ?_))));intro au ae ad;refine .sA J J J J (Point.isCell zP) Sz187 (Point.length zP) Z0 (Point.length zZ) zU ?_;refine .a J J J (.na (.seq (.sr (.m J J J (.nei J J J J (show(!decide _)=true from congrArg not (decide_eq_false dE)) (.m J J J (.skp J J (.skp J J (.pick J J J J J J (.m J J J (.skp J J (.skp J J (.skp J J (.pick J J J J J J (.na (.cond_t J J (.sr (.a J J J (.na ?_)))))))))))))))))));refine .ret (at_r (en_r ?_));refine⟨_,[],Ag J J,sP,sP,?_,rfl⟩;rfl
theorem r6_Good_r(k:List UInt8)(hk:k.length=32)(sb:Sl)(bb:List UInt8)(ag:bb.length<=80000)(sg:List UInt8)(ac:sg.length=64)(A:Pt Fp)(h1:rdP k=some A)(h2:rdP (sg.take 32)=none):Mv 149 [agg (Aa k),sb.v,agg (Aa sg)] (λW=>BytesAt W sb bb) (.bool false):=by
 intro W hW;have ab:(sg.drop 32).length=32:=by rw[Laz,ac]
 have aa:(sg.take 32).length=32:=by rw[Lac,ac];rfl
 refine Ae func149 J 51 ntmps149 J (.sr (.boxA J J ?_));intro n3 an ah;refine .boxA J J ?_;intro n5 ao ai;refine .a J J J (.nsr (.alloc (cs:=(Aa (List.replicate 32 0))) J Zr28 J ?_));intro n7 ap aj;refine .nsr (.alloc (cs:=(Aa (List.replicate 32 0))) J A9 J ?_);intro n8 aq ak;refine .na (.seq (.draw (oPq [0,1,402]) Au zK (.sliceArr J J J Y28.h Sz5 (.sliceArrHi 32 J J J J J dE dE Y35.h Sz5 (.copyP (Aa (sg.take 32)) 32 J J J J J Y33.h Sz5 (λw h=>sees_take (Ar h Z2)) (λe=>by cases e) (by rw[Aa,La0];exact aa) J (by rw[Aa,<-Lbh,La5 (Ld5 aa)]) (Ay _) Z1 sP (by exact upd_all aa) zV ?_)))));refine .na (.seq (.draw (oPq [0,1,402]) Au zK (.sliceArr J J J Y184.h Sz5 (.sliceArrLo 32 J J J J J dE Y35.h Sz5 (.copyP (Aa (sg.drop 32)) 32 J J J J J Y33.h Sz5 (λw h=>sees_drop (Ar h Z2)) (λe=>by cases e) (by rw[Aa,La0];exact ab) J (by rw[Aa,<-Lbh,La5 (Ld5 ab)]) (Ay _) Z0 sP (by exact upd_all ab) zU ?_)))));refine .nsr (.lA J J J Y29.h J Sz29 Z3 (by(simp[hk];done)) ?_);refine .cV J J J J Body178 (r5_Read_some k A hk h1) tV (.m J J J (.eX J J J J (.eX J J J J (.alloc (cs:=Point.zero.cells) J Point.zr J ?_))));intro n9 ar am;refine .sA J J J J (Point.isCell zP) Sz187 (Point.length zP) Z0 (Point.length zZ) zU ?_;refine .a J J J (.nsr (.lA J J J Y28.h J Sz28 Z2 (by(simp[ac];done)) ?_));refine .cV J J J J Body178 (r5_Read_none (sg.take 32) aa h2) tV (.m J J J (.eX J J J J (.eX J J J J (.alloc (cs:=Point.zero.cells) J Point.zr J ?_))));intro au ae ad;refine .sA J J J J (Point.isCell zZ) Sz187 (Point.length zZ) Z0 (Point.length zZ) zU ?_;refine .a J J J (.na (.seq (.sr (.m J J J (.nei J J J J (show(!decide _)=false from congrArg not (decide_eq_true (rfl))) (.m J J J (.m J J J (.nei J J J J (show(!decide _)=true from congrArg not (decide_eq_false dE)) (.pick J J J J J J (.m J J J (.skp J J (.skp J J (.skp J J (.pick J J J J J J (.na (.cond_t J J (.sr (.a J J J (.na ?_)))))))))))))))))));refine .ret (at_r (en_r ?_));refine⟨_,[],Ag J J,sP,sP,?_,rfl⟩;rfl
theorem r6_Good_c(k:List UInt8)(hk:k.length=32)(sb:Sl)(bb:List UInt8)(ah:bb.length<=80000)(sg:List UInt8)(ac:sg.length=64)(A R:Pt Fp)(h1:rdP k=some A)(h2:rdP (sg.take 32)=some R)(hc:¬le (sg.drop 32)<L):Mv 149 [agg (Aa k),sb.v,agg (Aa sg)] (λW=>BytesAt W sb bb) (.bool false):=by
 intro W hW;have aa:(sg.drop 32).length=32:=by rw[Laz,ac]
 have ab:(sg.take 32).length=32:=by rw[Lac,ac];rfl
 have ad:=ref_canon (sg.drop 32) aa;rw[decide_eq_false hc]at ad;refine Ae func149 J 51 ntmps149 J (.sr (.boxA J J ?_));intro n3 ao ai;refine .boxA J J ?_;intro n5 ap aj;refine .a J J J (.nsr (.alloc (cs:=(Aa (List.replicate 32 0))) J Zr28 J ?_));intro n7 aq ak;refine .nsr (.alloc (cs:=(Aa (List.replicate 32 0))) J A9 J ?_);intro n8 ar am;refine .na (.seq (.draw (oPq [0,1,402]) Au zK (.sliceArr J J J Y28.h Sz5 (.sliceArrHi 32 J J J J J dE dE Y35.h Sz5 (.copyP (Aa (sg.take 32)) 32 J J J J J Y33.h Sz5 (λw h=>sees_take (Ar h Z2)) (λe=>by cases e) (by rw[Aa,La0];exact ab) J (by rw[Aa,<-Lbh,La5 (Ld5 ab)]) (Ay _) Z1 sP (by exact upd_all ab) zV ?_)))));refine .na (.seq (.draw (oPq [0,1,402]) Au zK (.sliceArr J J J Y184.h Sz5 (.sliceArrLo 32 J J J J J dE Y35.h Sz5 (.copyP (Aa (sg.drop 32)) 32 J J J J J Y33.h Sz5 (λw h=>sees_drop (Ar h Z2)) (λe=>by cases e) (by rw[Aa,La0];exact aa) J (by rw[Aa,<-Lbh,La5 (Ld5 aa)]) (Ay _) Z0 sP (by exact upd_all aa) zU ?_)))));refine .nsr (.lA J J J Y29.h J Sz29 Z3 (by(simp[hk];done)) ?_);refine .cV J J J J Body178 (r5_Read_some k A hk h1) tV (.m J J J (.eX J J J J (.eX J J J J (.alloc (cs:=Point.zero.cells) J Point.zr J ?_))));intro n9 au an;refine .sA J J J J (Point.isCell zP) Sz187 (Point.length zP) Z0 (Point.length zZ) zU ?_;refine .a J J J (.nsr (.lA J J J Y28.h J Sz28 Z2 (by(simp[ac];done)) ?_));refine .cV J J J J Body178 (r5_Read_some (sg.take 32) R ab h2) tV (.m J J J (.eX J J J J (.eX J J J J (.alloc (cs:=Point.zero.cells) J Point.zr J ?_))));intro av ag ae;refine .sA J J J J (Point.isCell zP) Sz187 (Point.length zP) Z0 (Point.length zZ) zU ?_;refine .a J J J (.na (.seq (.sr (.m J J J (.nei J J J J (show(!decide _)=false from congrArg not (decide_eq_true (rfl))) (.m J J J (.m J J J (.nei J J J J (show(!decide _)=false from congrArg not (decide_eq_true (rfl))) (.pick J J J J J J (.m J J J (.lA J J J Y184.h J Sz184 Z2 (by(simp[ac];done)) ?_)))))))))));refine .cV J J J J Body179 (ad) tV (.not J J J (.pick J J J J J J (.na (.cond_t J J (.sr (.a J J J (.na ?_)))))));refine .ret (at_r (en_r ?_));refine⟨_,[],Ag J J,sP,sP,?_,rfl⟩;rfl
theorem r6_Good_ok(k:List UInt8)(hk:k.length=32)(sb:Sl)(bb:List UInt8)(ah:bb.length<=80000)(sg:List UInt8)(ac:sg.length=64)(A R:Pt Fp)(h1:rdP k=some A)(h2:rdP (sg.take 32)=some R)(hc:le (sg.drop 32)<L)(s r:List UInt8)(hs:Hid (sha512 (sg.take 32++(k++bb))=s))(hr:Hid (sgR s=r))(ai:r.length=32):Mv 149 [agg (Aa k),sb.v,agg (Aa sg)] (λW=>BytesAt W sb bb) (.bool (goodB k bb sg)):=by
 intro W hW;have aa:(sg.drop 32).length=32:=by rw[Laz,ac]
 have ab:(sg.take 32).length=32:=by rw[Lac,ac];rfl
 have ad:=ref_canon (sg.drop 32) aa;rw[decide_eq_true hc]at ad;have hA:=rdP_on h1;obtain⟨Q,hQ⟩:∃Q,cv.lin (le (sg.drop 32)) (le (sgR (sha512 (sg.take 32++(k++bb))))) bP (neg A)=Q:=⟨_,rfl⟩;have ae:=r5_Mul2 (sg.drop 32) r bP (neg A) aa ai bP_on (cv.on_neg hA);rw[show cv.lin (le (sg.drop 32)) (le r) bP (neg A)=Q from by rw[<-hr.out,<-hs.out];exact hQ]at ae;have ag:=r6_challenge (sg.take 32) k ab hk sb bb ah s hs;rw[hr.out]at ag;refine Ae func149 J 51 ntmps149 J (.sr (.boxA J J ?_));intro n3 ar am;refine .boxA J J ?_;intro n5 au an;refine .a J J J (.nsr (.alloc (cs:=(Aa (List.replicate 32 0))) J Zr28 J ?_));intro n7 av ao;refine .nsr (.alloc (cs:=(Aa (List.replicate 32 0))) J A9 J ?_);intro n8 aw ap;refine .na (.seq (.draw (oPq [0,1,402]) Au zK (.sliceArr J J J Y28.h Sz5 (.sliceArrHi 32 J J J J J dE dE Y35.h Sz5 (.copyP (Aa (sg.take 32)) 32 J J J J J Y33.h Sz5 (λw h=>sees_take (Ar h Z2)) (λe=>by cases e) (by rw[Aa,La0];exact ab) J (by rw[Aa,<-Lbh,La5 (Ld5 ab)]) (Ay _) Z1 sP (by exact upd_all ab) zV ?_)))));refine .na (.seq (.draw (oPq [0,1,402]) Au zK (.sliceArr J J J Y184.h Sz5 (.sliceArrLo 32 J J J J J dE Y35.h Sz5 (.copyP (Aa (sg.drop 32)) 32 J J J J J Y33.h Sz5 (λw h=>sees_drop (Ar h Z2)) (λe=>by cases e) (by rw[Aa,La0];exact aa) J (by rw[Aa,<-Lbh,La5 (Ld5 aa)]) (Ay _) Z0 sP (by exact upd_all aa) zU ?_)))));refine .nsr (.lA J J J Y29.h J Sz29 Z3 (by(simp[hk];done)) ?_);refine .cV J J J J Body178 (r5_Read_some k A hk h1) tV (.m J J J (.eX J J J J (.eX J J J J (.alloc (cs:=Point.zero.cells) J Point.zr J ?_))));intro n9 ax aq;refine .sA J J J J (Point.isCell zP) Sz187 (Point.length zP) Z0 (Point.length zZ) zU ?_;refine .a J J J (.nsr (.lA J J J Y28.h J Sz28 Z2 (by(simp[ac];done)) ?_));refine .cV J J J J Body178 (r5_Read_some (sg.take 32) R ab h2) tV (.m J J J (.eX J J J J (.eX J J J J (.alloc (cs:=Point.zero.cells) J Point.zr J ?_))));intro ay ak aj;refine .sA J J J J (Point.isCell zP) Sz187 (Point.length zP) Z0 (Point.length zZ) zU ?_;refine .a J J J (.na (.seq (.sr (.m J J J (.nei J J J J (show(!decide _)=false from congrArg not (decide_eq_true (rfl))) (.m J J J (.m J J J (.nei J J J J (show(!decide _)=false from congrArg not (decide_eq_true (rfl))) (.pick J J J J J J (.m J J J (.lA J J J Y184.h J Sz184 Z2 (by(simp[ac];done)) ?_)))))))))));refine .cV J J J J Body179 (ad) tV (.not J J J (.pick J J J J J J (.na (.cond_f J J (.skip (Df (.seq (.draw (oPq [100,102,103,4,106,109,301,305,307,308,10,11]) Au zK (.lA J J J Y184.h J Sz184 Z2 (by(simp[ac];done)) ?_)))))))));refine .lA J J J Y28.h J Sz28 Z3 (by(simp[ac];done)) ?_;refine .lA J J J Y29.h J Sz29 (by exact mem5) (by(simp[hk];done)) ?_;refine .m J J J (.lA J J J Y187.h J Sz187 Z1 (Point.length zP) ?_)
 refine .lA J J J Y187.h J Sz187 Z0 (Point.length zP) ?_;refine .cV J J J J Body181 (r5_Base) tV (.cV J J J J Body182 (ag) (λw h=>bytes_ext h J hW) (.cV J J J J Body183 (r5_Neg A hA) tV (.cV J J J J Body180 (ae) tV (.eql_rec J J J J Point.eg (λw=>Point.eq_runC (ptc_ok _) (ptc_ok _) w) (good_dec hc h1 h2 hQ) (.a J J J (.na ?_))))));refine .ret (en_r ?_);refine⟨_,[],Ag J J,sP,sP,?_,rfl⟩;rfl
theorem r6_Good(k:List UInt8)(hk:k.length=32)(sb:Sl)(bb:List UInt8)(aa:bb.length<=80000)(sg:List UInt8)(ab:sg.length=64):Mv 149 [agg (Aa k),sb.v,agg (Aa sg)] (λW=>BytesAt W sb bb) (.bool (goodB k bb sg)):=by
  cases h1:rdP k with
  | none=>
    rw[good_no (λe=>by obtain⟨_,⟨A,h⟩,_⟩:=e;rw[h1]at h;cases h)];cases h2:rdP (sg.take 32)with
    |none=>exact r6_Good_kr k hk sb bb aa sg ab h1 h2
    |some R=>exact r6_Good_k k hk sb bb aa sg ab R h1 h2
  | some A=>
    cases h2:rdP (sg.take 32)with
    | none=>
      rw[good_no (λe=>by obtain⟨_,_,⟨R,h⟩⟩:=e;rw[h2]at h;cases h)];exact r6_Good_r k hk sb bb aa sg ab A h1 h2
    | some R=>
      by_cases hc:le (sg.drop 32)<L
      .exact r6_Good_ok k hk sb bb aa sg ab A R h1 h2 hc _ _ ⟨rfl⟩ ⟨rfl⟩ (sgR_length _)
      . rw[good_no (λe=>hc e.1)]
        exact r6_Good_c k hk sb bb aa sg ab A R h1 h2 hc
def btag:List UInt8:=[98,108,111,99,107]
def btxt(D:DB):List UInt8:=btag++D.body
def bsg(D:DB)(K G:List UInt8):DB:={ D with w:=K,sg:=G }
theorem DB.body_small(hd:D.ok)(h1:D.ls.length<=40)(h2:D.ds.length<=2000):(btxt D).length<=4005:=by
  have ab:=C6 D.seq.toNat;have ac:=C6 (UInt64.ofNat D.ls.length).toNat;have ad:=C6 (UInt64.ofNat D.ds.length).toNat;have aa:=Cz hd.ls (Lag D.ls.length);rw[Lci]at aa;simp only[btxt,btag,DB.body,La2,Bw,hd.w,hd.prev,aa,Lax,Lew];omega
noncomputable def dgood(D:DB):Int:=if D.check=0 then(if goodB D.w (btxt D) D.sg=true then 0 else 9)else D.check
theorem cell_lt'{c o:Nat}(h:w.cell? ⟨c,o,none⟩=some v):c<w.heap.size:=by
  rcases Lb5 c w.heap.size with h1|h1
  .exact h1
  .simp[World.cell?,Lcr h1]at h
theorem acc_loose(cells:List Value)(E:TypeId)(n size:Nat)(hl:cells.length=n*size):Loose λv out=>∃s:Sl,v=s.v/\Hw.Acc s out cells E n size:=λl h=>by
  obtain⟨v,out,⟨q,c,h1,h2,h3⟩,h4⟩:=FreshRow.loose cells E n size l h;exact⟨v,out,⟨⟨some ⟨q,0,none⟩,n,c⟩,h1,by rw[h3];exact Acc.some h2 hl⟩,h4⟩
theorem lie_none{T:TypeId}(h:Lies [⟨n,[v],T,0⟩] W):False:=by
  obtain⟨full,fr,hb⟩:=h _ (La1.2 rfl);have h1:=hb.pre.length_le;have h2:=hb.size;simp at h1;simp only at h2;omega
structure SameB(B:Block)(D:DB):Prop where
  ok:B.ok
  w:B.fWriter=D.w
  seq:B.fSeq=D.seq
  prev:B.fPrev=D.prev
  sg:B.fSig=D.sg
  ln:B.fLinks.n=D.ls.length
  dn:B.fData.n=D.ds.length
theorem some_same(h:D.ok):SameB ⟨D.w,D.seq,D.prev,⟨none,D.ls.length,0⟩,⟨none,D.ds.length,0⟩,D.sg⟩ D:=⟨⟨h.w,h.prev,h.sg⟩,rfl,rfl,rfl,rfl,rfl,rfl⟩
def BlkR(e:Int)(D:DB)(v:Value)(out:List Blk):Prop:=∃B:Block,SameB B D/\v= .tuple #[agg B.cells,i64 e]/\∀W2,Lies out W2->BlockIs W2 B D
def BlkV(D:DB)(v:Value)(out:List Blk):Prop:=∃B:Block,SameB B D/\v=agg B.cells/\∀W2,Lies out W2->BlockIs W2 B D
theorem none_nodup{l:List Blk}(hl:(l.map (·.n)).Nodup)(hn:∀b∈l,b.n≠n)(v:Value):((([⟨n,[v],0,0⟩]:List Blk)++l).map (·.n)).Nodup:=by
  simp only[Lcg,Lar,Lb6];exact⟨λh2=>by obtain⟨b,hb,e⟩:=La6.1 h2;exact hn b hb e,hl⟩
theorem BlkR.loose(e:Int)(D:DB)(hD:D.ok):Loose (BlkR e D):=λl hl=>by
  obtain⟨n,_,hn⟩:=fresh_is 0 l;exact⟨_,[⟨n,[undef],0,0⟩],⟨_,some_same hD,rfl,λW2 h=>(lie_none h).elim⟩,none_nodup hl hn _⟩
theorem BlkV.loose(D:DB)(hD:D.ok):Loose (BlkV D):=λl hl=>by
  obtain⟨n,_,hn⟩:=fresh_is 0 l;exact⟨_,[⟨n,[undef],0,0⟩],⟨_,some_same hD,rfl,λW2 h=>(lie_none h).elim⟩,none_nodup hl hn _⟩
theorem own_btxt{q c:Nat}(hs:SeesP W (some ⟨q,0,none⟩) (Aa (btxt D)))(hc:(btxt D).length<=c)(hn:(btxt D).length<=4005):BytesAt W ⟨some ⟨q,0,none⟩,(btxt D).length,c⟩ (btxt D):=own_bytes hs rfl hc (by unfold maxLen;omega)
theorem db_text(B:Block)(D:DB)(hB:B.ok)(h1:D.ls.length<=40)(h2:D.ds.length<=2000):Meets prog 119 [agg B.cells] [] (λW=>BlockIs W B D) (λv out=>FreshRow v out (Aa (btxt D)) 5 (btxt D).length 1):=by
 intro W hW;have ag:=DB.body_small hW.dok h1 h2;have e1:=hW.ls.len;have e2:=hW.ds.len;have ab:(btxt D).length=5+D.body.length:=by rw[btxt,La2];rfl
 refine Ae func119 J 8 ntmps119 J (G3 ?_);intro n1 aj ai;refine G5 ?_;refine .mkRow (z:=u8 0) [u8 98,u8 108,u8 111,u8 99,u8 107] (Aa btag) J J J Y33.h Sz5 Zr5 J J (by intro v hv;simp only[Lam,Lc1,or_false]at hv;rcases hv with rfl|rfl|rfl|rfl|rfl<;>rfl) dE J ?_;intro q3;refine .constB J J J J Y33.h Y5.h Z0 ?_;refine G1 ?_;refine .call4 J J J J J Body161 (block_body B hB D.ls D.ds oM oM) (λw h=>⟨B4 h J hW.ls,bytes_ext h J hW.ds⟩) ?_;rintro v6 ae ⟨N6,aa,ad,q6,c6,rfl,ah,rfl⟩;rw[hW.body]at aa ⊢;subst aa;refine .appendSl (z:=u8 0) (by':=1) (Aa D.body) J J J J J Y33.h Y33.h Sz5 Zr5 (by unfold By;kernel_rfl) J (λw h=>SeesP.of (Ar (cs:=Aa D.body) h Z0)) (λe=>by cases e) (Ay _) rM J J dE oM oM (by rw[Aa,La0,Lbb]) ?_;intro q7 c7 ac;rw[<-bytesV_app];refine G3 ?_;refine G2 ?_;refine Ao (out:=(⟨q7,Aa (btag++D.body),5,c7*1⟩::[])) (Ag J J) (Ab rM Ad) ?_;exact⟨q7,c7,(by(rw[ab];done)),(by rw[ab];exact ac),rfl⟩
theorem cl_digs_nil  :Mv 46 [.slice none 0 0] (λ_=>True) (.slice none 0 0):=by
 intro W hW;refine Ae func46 J 8 ntmps46 J (G9 ?_);refine .eqNilS (r:=true) J J J J Y32.h J (G2 ?_);refine .cond_t J (rfl) (G5 ?_);refine G3 ?_;refine Ao (out:=[]) (Ag J J) Ad ?_;exact⟨rfl,rfl⟩
theorem cl_digs_some(a:Addr)(n c:Nat)(ls:List (List UInt8))(hl:ls.length=n)(hr:∀l∈ls,l.length=32)(hn:n<=90000):Meets prog 46 [.slice (some a) n c] [] (λW=>SeesP W (some a) (Aq ls)) (λv out=>FreshRow v out (Aq ls) 31 n 32):=by
 intro W hW;refine Ae func46 J 8 ntmps46 J (G9 ?_);refine .eqNilS (r:=false) J J J J Y32.h J (G2 ?_);refine .cond_f J (rfl) (G4 ?_);refine .mkRow (z:=agg (Aa (List.replicate 32 0))) [] [] rfl J J Y32.h Sz31 Bz J J (by intro v hv;cases hv) dE J ?_;intro q0;refine G1 ?_;refine .appendSl (z:=agg (Aa (List.replicate 32 0))) (by':=32) (Aq ls) J J J J J Y32.h Y32.h Sz31 Bz (by unfold By;kernel_rfl) J (λw h=>A8 h J hW) (λe=>by cases e) (Cu ls) A4 J J oM oM oM (by rw[As hr,hl]) ?_;intro q1 c1 aa;refine G3 ?_;refine G2 ?_;refine⟨_,[⟨q1,[]++Aq ls,31,c1*32⟩],Ag J J,(by intro b hb;rw[La1.1 hb];exact Cf),nodup1,⟨q1,c1,by rw[Lb0],by omega,rfl⟩⟩
theorem cl_byte_nil  :Mv 95 [.slice none 0 0] (λ_=>True) (.slice none 0 0):=by
 intro W hW;refine Ae func95 J 8 ntmps95 J (G9 ?_);refine .eqNilS (r:=true) J J J J Y33.h J (G2 ?_);refine .cond_t J (rfl) (G5 ?_);refine G3 ?_;refine Ao (out:=[]) (Ag J J) Ad ?_;exact⟨rfl,rfl⟩
theorem cl_digs(s:Sl)(ls:List (List UInt8))(hn:s.n<=90000):Meets prog 46 [s.v] [] (λW=>RowsAt W s 32 ls) (λv out=>∃s':Sl,v=s'.v/\Hw.Acc s' out (Aq ls) 31 s.n 32):=λW hW=>by
  obtain⟨p,n,c⟩:=s;cases p with
  | none=>
    obtain rfl:c=0:=hW.nil rfl;obtain rfl:n=0:=Nat.le_zero.1 hW.cap;obtain rfl:ls=[]:=Lg6.1 hW.len;exact(cl_digs_nil W trivial).mono λe W' ⟨v,out,h1,⟨h2,h3⟩,h4⟩=>⟨v,out,h1,⟨Sl.nil,h2,by subst h3;exact Acc.none⟩,h4⟩
  |some a=>exact(cl_digs_some a n c ls hW.len hW.row hn W hW.see).mono λe W' ⟨v,out,h1,⟨q,c',h2,h3,h5⟩,h4⟩=>⟨v,out,h1,⟨⟨some ⟨q,0,none⟩,n,c'⟩,h2,by rw[h5];exact Acc.some h3 (by rw[As hW.row,hW.len])⟩,h4⟩
theorem cl_byte(s:Sl)(l:List UInt8)(hn:s.n<=90000):Meets prog 95 [s.v] [] (λW=>BytesAt W s l) (λv out=>∃s':Sl,v=s'.v/\Hw.Acc s' out (Aa l) 5 s.n 1):=λW hW=>by
  obtain⟨p,n,c⟩:=s;cases p with
  | none=>
    obtain rfl:c=0:=hW.nil rfl;obtain rfl:n=0:=Nat.le_zero.1 hW.cap;obtain rfl:l=[]:=Lg6.1 hW.len;exact(cl_byte_nil W trivial).mono λe W' ⟨v,out,h1,⟨h2,h3⟩,h4⟩=>⟨v,out,h1,⟨Sl.nil,h2,by subst h3;exact Acc.none⟩,h4⟩
  |some a=>exact(clone_bytes a n c l hW.len hn W hW.see).mono λe W' ⟨v,out,h1,⟨q,c',h2,h3,h5⟩,h4⟩=>⟨v,out,h1,⟨⟨some ⟨q,0,none⟩,n,c'⟩,h2,by rw[h5];exact Acc.some h3 (by rw[Aa,La0];exact hW.len.trans (Lbb _).symm)⟩,h4⟩
theorem db_good(B:Block)(D:DB)(hB:B.ok):Mv 83 [agg B.cells] (λW=>BlockIs W B D) (i64 (dgood D)):=by
 intro W hW;refine Ae func83 J 17 ntmps83 J (G3 ?_);intro n1 ak aj;refine G7 ?_;refine .cV J J J J Body117 (db_check B D) (λw h=>hW.ext h J) (G9 ?_);refine .condNP J (λae=>?_) (λae=>?_)
 ·
  have aa:¬D.check=0:=by omega
  refine G6 ?_;refine G3 ?_;refine⟨_,[],Ag J J,sP,sP,?_,rfl⟩
  (unfold dgood;rw[if_neg aa];done)
 have aa:D.check=0:=by omega
 obtain⟨h1,h2⟩:=D.head_small aa;have ag:(btxt D).length<=4005:=DB.body_small hW.dok oM oM;refine G4 ?_;refine .draw (oPq [0,101,102,4,105,303,306,7]) Au zK (G1 ?_);refine .lN (Aa _) J J J Y29.h J Sz29 Z0 (Block.row_fWriter zA) (Block.rl_fWriter zA) ?_;refine G2 ?_;refine .lN (Aa _) J J J Y35.h J Sz35 Z0 (Block.row_fSig zA) (Block.rl_fSig zA) ?_;refine .call J J J J Body119 (db_text B D hB oM oM) (FreshRow.loose _ _ _ _) (λw h=>hW.ext h J) ?_;rintro am ah ⟨ai,ad,rfl,ac,rfl⟩;refine .cV J J J J Body118 (sign_Good B.fWriter hB.l_fWriter ⟨some ⟨ai,0,none⟩,_,ad⟩ (btxt D) oM B.fSig hB.l_fSig) (λw h=>own_btxt (SeesP.of (Ar h Z0)) ac ag) ?_;refine G3 ?_;refine .cond J (λab=>?_) (λab=>?_)
 ·
  refine G5 ?_;refine G3 ?_;refine⟨_,[],Ag J J,sP,sP,?_,rfl⟩
  (unfold dgood;rw[if_pos aa,<-hW.w,<-hW.sg,if_neg (by intro e;rw[e]at ab;cases ab)];done)
 refine G7 ?_;refine G2 ?_;refine⟨_,[],Ag J J,sP,sP,?_,rfl⟩
 (unfold dgood;rw[if_pos aa,<-hW.w,<-hW.sg,if_pos (by simpa using ab)];done)
theorem db_own(B:Block)(D:DB)(hn:D.ls.length<=500000)(hd:D.ds.length<=500000):Meets prog 44 [agg B.cells] [] (λW=>BlockIs W B D) (BlkV D):=λW hW=>by
  have e1:=hW.ls.len;have e2:=hW.ds.len;refine(kit_own_block B hW.ok D.ls D.ds oM oM W ⟨hW.ls,hW.ds⟩).mono λe W' ⟨v,out,h1,⟨q1,c1,q2,c2,h2,h3,h4,h5⟩,h6⟩=>⟨v,out,h1,⟨ownB B q1 c1 q2 c2,⟨ownB_ok hW.ok q1 c1 q2 c2,hW.w,hW.seq,hW.prev,hW.sg,e1.symm,e2.symm⟩,h2,λW2 hl=>?_⟩,h6⟩;subst h5;have hf:(Aq D.ls).length=B.fLinks.n*32:=by rw[As hW.ls.row,e1]
  have hb:(Aa D.ds).length=B.fData.n*1:=by rw[Aa,La0,e2,Lbb]
  refine⟨ownB_ok hW.ok q1 c1 q2 c2,hW.w,hW.seq,hW.prev,?_,?_,hW.sg⟩
  .exact acc_rows (Acc.some (E:=31) h3 hf) (hl.sub (λb hb=>by rw[La1.1 hb];exact mem1)) hW.ls.row e1 oM
  .exact acc_bytes (Acc.some (E:=5) h4 hb) (hl.sub (λb hb=>by rw[La1.1 hb];exact Cf)) e2 oM
end Go.Proofs.YtbdfihcjddbhaaaGreat
namespace Go.Proofs.YtbdfihcjddbhaaaGreat
open Go Hw _root_.Go.Proofs.Tryz
variable{k:Nat}{x:UInt64}
theorem room_go(hk:1<=k)(h9:k<9)(h:¬((Az x (7*k)).toNat:Int)=0):k+1<=szN x.toNat:=by
  rcases Lb5 k (szN x.toNat)with h1|h1
  .exact h1
  .exact absurd (show((Az x (7*k)).toNat:Int)=0 by rw[Be,Lbn ((szN_le hk oM).1 h1)];rfl) h
theorem room_end(hk:1<=k)(h9:k<9)(h:((Az x (7*k)).toNat:Int)=0):szN x.toNat<=k:=by
  refine(szN_le hk oM).2 ?_;rw[Be]at h;rcases Nat.div_eq_zero_iff.1 (show x.toNat/2^(7*k)=0 by omega)with h1|h1
  .exact absurd h1 (Nat.ne_of_gt (Lc5 dE))
  .exact h1
theorem head_or:∀r,r<9->1<=r->∀y,y<2^(8-r)->UInt8.ofNat (256-2^(9-r))+UInt8.ofNat y=shl8 255 (9-r)|||UInt8.ofNat y:=by decide
theorem head_9:shl8 255 0=255:=by decide
theorem headB_9(h:szN x.toNat=9):headB x=255:=by
  rw[headB,h,head_9];have:∀y:UInt8,255|||y=255:=by
    intro y;have hh:∀n,n<256->(255:UInt8)|||UInt8.ofNat n=255:=by decide
    have:=hh y.toNat y.toNat_lt;rwa[Lfk]at this
  exact this _
theorem headB_lt(h:szN x.toNat<9):((256:UInt64)-A7 1 (9-szN x.toNat)).toUInt8+(Az x (8*(szN x.toNat-1))).toUInt8=headB x:=by
  have hp:=C6 x.toNat;have hy:(Az x (8*(szN x.toNat-1))).toNat<2^(8-szN x.toNat):=by
    rw[Be,Le0 (Lc5 dE),<-Lbp,show 8-szN x.toNat+8*(szN x.toNat-1)=7*szN x.toNat by omega];exact szN_hi oM
  have h1:((256:UInt64)-A7 1 (9-szN x.toNat)).toUInt8=UInt8.ofNat (256-2^(9-szN x.toNat)):=by
    have:∀r,r<9->1<=r->((256:UInt64)-A7 1 (9-r)).toUInt8=UInt8.ofNat (256-2^(9-r)):=by decide
    exact this _ h hp.1
  have h2:(Az x (8*(szN x.toNat-1))).toUInt8=UInt8.ofNat (Az x (8*(szN x.toNat-1))).toNat:=rfl;rw[h1,headB,h2];exact head_or _ h hp.1 _ hy
theorem r1_room(x:UInt64):Mv 218 [u64 x] (λ_=>True) (i64 ((szN x.toNat:Nat):Int)):=by
 intro W hW;have hz:=C6 x.toNat;refine Ae func218 J 17 ntmps218 J (G12 ?_);refine .loop (ι:=Nat) (λk=>⟨[(0,u64 x),(3,i64 (k:Int))],[]⟩) (λk=>1<=k/\k<=szN x.toNat) (λk=>9-k) (1) ?_ ?_ ?_
 .exact⟨Lag _,hz.1⟩
 .exact Ah wN wh0 nD
 rintro k ⟨ac,ae⟩;refine G4 ?_;refine two (λr hr k=>Tr.lss J J J J hr k) (λaa=>?_) (λaa=>?_)
 ·
  have ab:=of_decide_eq_true aa;refine G3 ?_;refine .mul_i64 J J J J oM (G1 ?_);refine .shr_u64 J J J J (7*k) (by rw[show(7:Int)*(k:Int)=((7*k:Nat):Int) by omega,wordOf_id _ oM]) oM ?_;refine G4 ?_;refine .condNP J (λad=>?_) (λad=>?_)
  ·
   refine G10 ?_;exact⟨k+1,⟨by omega,room_go ac oM zA⟩,by omega,Ah (wk1 rfl (wk1 (by rw[Lcd];rfl) wk0)) wh0 nD⟩
  refine G11 ?_;refine G2 ?_;refine⟨_,[],Ag J J,sP,sP,?_,rfl⟩
  (have:=room_end ac oM zA;congr 1;omega)
 have ab:=of_decide_eq_false aa;refine G10 ?_;refine .cond_f J J (G11 ?_);refine G2 ?_;refine⟨_,[],Ag J J,sP,sP,?_,rfl⟩
 (congr 1;omega)
theorem r1_Number(p0:Option Addr)(n c:Nat)(l:List UInt8)(x:UInt64)(hl:l.length=n)(hp0:p0=none->n=0)(hn:n<=90000):Meets prog 165 [.slice p0 n c,u64 x] [] (λW=>SeesP W p0 (Aa l)) (λv out=>FreshRow v out (Aa (l++numB x)) 5 (n+szN x.toNat) 1):=by
 intro W hW;have hz:=C6 x.toNat;refine Ae func165 J 51 ntmps165 J (G7 ?_);refine .mkRow2 (z:=u8 0) [] [] rfl J Y33.h Sz5 Zr5 J J (by intro v hv;cases hv) dE J ?_;intro q8;refine G1 ?_;refine .appendSl (z:=u8 0) (by':=1) (Aa l) J J J J J Y33.h Y33.h Sz5 Zr5 (by unfold By;kernel_rfl) J (λw h=>A8 h J hW) hp0 (by simp[Aa,isCell,u8]) A4 J J oM oM oM (by simp[Aa,hl]) ?_;intro an aj ae;rw[Lb0 n]at ae ⊢;refine G6 ?_;refine .cV J J J J Body218 (r1_room _) tV (G3 ?_);refine .join (ι:=Nat×Nat) (λp=>⟨[(1,u64 x),(5, .slice (some ⟨p.1,0,none⟩) (n+1) p.2),(6,i64 ((szN x.toNat:Nat):Int))],[⟨p.1,Aa (l++[headB x]),5,p.2*1⟩]⟩) (λp=>n+1<=p.2) ?_ ?_
 ·
  refine G6 ?_;refine .condP J (λag=>?_) (λag=>?_)
  ·
   refine G2 ?_;refine .mkRow (z:=u8 0) [u8 (255)] (Aa [255]) J J J Y33.h Sz5 Zr5 J J (by intro v hv;rw[La1.1 hv];rfl) dE J ?_;intro ao;refine .appendSl (z:=u8 0) (by':=1) (Aa [255]) J J J J J Y33.h Y33.h Sz5 Zr5 (by unfold By;kernel_rfl) J (λw h=>SeesP.of (Ar h Cf)) (λe=>by cases e) (by simp[Aa,isCell,u8]) (rem_there A4) J (by simp[Aa,hl]) oM oM oM (by rfl) ?_;intro ac ab aa;refine G3 ?_;exact⟨(ac,ab),aa,Ah wN (wh1 (by(rw[headB_9 (x:=x) oM];simp only[Aa,Lae];exact Cf)) wh0) nD⟩
  refine G5 ?_;refine .shl_u64 J J (show Ai _ _=some (u64 1)from rfl) J (9-szN x.toNat) (by rw[show(9:Int)-((szN x.toNat:Nat):Int)=((9-szN x.toNat:Nat):Int) by omega,wordOf_id _ oM]) oM ?_;refine .sub_u64 J J (show Ai _ _=some (u64 256)from rfl) J (G4 ?_);refine .mul_i64 J J J J oM (G1 ?_);refine .shr_u64 J J J J (8*(szN x.toNat-1)) (by rw[show(8:Int)*(((szN x.toNat:Nat):Int)-1)=((8*(szN x.toNat-1):Nat):Int) by omega,wordOf_id _ oM]) oM ?_;refine G1 ?_;refine .add_u8 J J J J ?_;rw[headB_lt (x:=x) oM];refine .mkRow (z:=u8 0) [u8 (headB x)] (Aa [headB x]) J J J Y33.h Sz5 Zr5 J J (by intro v hv;rw[La1.1 hv];rfl) dE J ?_;intro ap;refine .appendSl (z:=u8 0) (by':=1) (Aa [headB x]) J J J J J Y33.h Y33.h Sz5 Zr5 (by unfold By;kernel_rfl) J (λw h=>SeesP.of (Ar h Cf)) (λe=>by cases e) (by simp[Aa,isCell,u8]) (rem_there A4) J (by simp[Aa,hl]) oM oM oM (by rfl) ?_;intro ac ab aa;refine G3 ?_;exact⟨(ac,ab),aa,Ah wN (wh1 (by(simp only[Aa,Lae];exact Cf)) wh0) nD⟩
 intro p hj;have ai:=hj;refine G9 ?_;refine .loop (ι:=Nat×Nat×Nat) (λr=>⟨[(1,u64 x),(5, .slice (some ⟨r.2.1,0,none⟩) (n+1+r.1) r.2.2),(7,i64 (((szN x.toNat:Nat):Int)-2-(r.1:Int)))],[⟨r.2.1,Aa (l++numUp x r.1),5,r.2.2*1⟩]⟩) (λr=>r.1<=szN x.toNat-1/\n+1+r.1<=r.2.2) (λr=>szN x.toNat-1-r.1) ((0,p.1,p.2)) ?_ ?_ ?_
 .exact⟨Laf _,ai⟩
 .exact Ah (wk1 rfl (wk1 rfl (wk1 (by rw[show(((szN x.toNat:Nat):Int)-2-((0:Nat):Int))=((szN x.toNat:Nat):Int)-2 by omega];rfl) wk0))) (wh1 (by rw[numUp_zero];exact Cf) wh0) nD
 rintro r ⟨hp1,ak⟩;refine G7 ?_;refine .condP J (λah=>?_) (λah=>?_)
 ·
  have ad:r.1<szN x.toNat-1:=by omega
  refine G8 ?_;refine .mul_i64 J J J J oM (G1 ?_);refine .shr_u64 J J J J (8*(szN x.toNat-2-r.1)) (by rw[show(8:Int)*(((szN x.toNat:Nat):Int)-2-(r.1:Int))=((8*(szN x.toNat-2-r.1):Nat):Int) by omega,wordOf_id _ oM]) oM ?_;refine G1 ?_;refine .mkRow (z:=u8 0) [u8 ((Az x (8*(szN x.toNat-2-r.1))).toUInt8)] (Aa [(Az x (8*(szN x.toNat-2-r.1))).toUInt8]) J J J Y33.h Sz5 Zr5 J J (by intro v hv;rw[La1.1 hv];rfl) dE J ?_;intro aq;refine .appendSl (z:=u8 0) (by':=1) (Aa [(Az x (8*(szN x.toNat-2-r.1))).toUInt8]) J J J J J Y33.h Y33.h Sz5 Zr5 (by unfold By;kernel_rfl) J (λw h=>SeesP.of (Ar h Cf)) (λe=>by cases e) (by simp[Aa,isCell,u8]) (rem_there A4) J (by rw[Aa,La0,La2,hl,numUp_length x r.1 oM];omega) oM oM oM (by rfl) ?_;intro q2 c2 am;refine G10 ?_;exact⟨(r.1+1,q2,c2),⟨by simp only[];omega,by simp only[];omega⟩,by simp only[];omega,Ah (wk1 rfl (wk1 (by rw[show n+1+(r.1+1)=n+1+r.1+1 by omega];rfl) (wk1 (by rw[show(((szN x.toNat:Nat):Int)-2-((r.1+1:Nat):Int))=((szN x.toNat:Nat):Int)-2-(r.1:Int)-1 by omega];rfl) wk0))) (wh1 (by rw[numUp_step x r.1 oM,<-Lab];simp only[Aa,Lae];exact Cf) wh0) nD⟩
 have ad:r.1=szN x.toNat-1:=by omega
 refine G11 ?_;refine G2 ?_;refine⟨_,[⟨r.2.1,Aa (l++numB x),5,r.2.2*1⟩],Ag J J,(by intro b hb;rw[La1.1 hb,<-numUp_all,<-ad];exact Cf),nodup1,⟨r.2.1,r.2.2,by rw[show n+1+r.1=n+szN x.toNat by omega],by omega,rfl⟩⟩
open Ed
variable{B:Block}{D:DB}{K:List UInt8}{W:World}
theorem cmpB_same(x:UInt8)(a b:List UInt8):Cn (x::a) (x::b)=Cn a b:=by simp[Cn,Go.Lib.compareBytes]
theorem cmpB_other{x y:UInt8}(h:x≠y)(a b:List UInt8):Cn (x::a) (y::b)=cmpI (x.toNat:Int) (y.toNat:Int):=by
  have h2:x.toNat≠y.toNat:=λe=>h (Ldc.1 e);simp only[Cn,Go.Lib.compareBytes,Lfe];unfold cmpI
  (repeat' split)<;>first|rfl|omega
theorem cmpB_at:∀(k:Nat) (a b:List UInt8),a.length=b.length->(∀j,j<k->a.getD j 0=b.getD j 0)->k<a.length->a.getD k 0≠b.getD k 0->Cn a b=cmpI ((a.getD k 0).toNat:Int) ((b.getD k 0).toNat:Int)
  |k,[],b,hl,hs,hk,hd=>absurd hk (Lcj _)
  |k,x::a,[],hl,hs,hk,hd=>by cases hl
  |0,x::a,y::b,hl,hs,hk,hd=>cmpB_other hd a b
  | k+1,x::a,y::b,hl,hs,hk,hd=>by
    have e:x=y:=hs 0 (Nat.succ_pos k);subst e;rw[cmpB_same];exact cmpB_at k a b (Nat.succ.inj hl) (λj hj=>hs (j+1) (Nat.succ_lt_succ hj)) (Lgd hk) hd
theorem cmpB_all{a b:List UInt8}(ha:a.length=32)(hb:b.length=32)(h:∀j,j<32->a.getD j 0=b.getD j 0):Cn a b=0:=by
  refine(cmpB_zero a b).2 (Le7 oM (λi h1 h2=>?_));have:=h i oM;simpa[List.getD,h1,h2]using this
theorem seesP_tk{w:World}{p:Option Addr}{l:List UInt8}{n:Nat}(h:SeesP w p (Aa l)):SeesP w p (Aa (l.take n)):=λj v hj=>by
  rw[Aa,Lbh,Lbz]at hj;split at hj
  .exact h j v hj
  .cases hj
theorem r2_StartShort(k s0 i0:List UInt64)(G:List UInt8)(hk:Hid (kW=k))(ab:k.length=80)(ai:Hid (xorUp 8=s0))(ac:s0.length=8)(hG:Hid (shaTag=G))(ad:G.length=11)(ag:Hid (allW k s0 G=i0))(aa:i0.length=8)  :Mv 125 [] (λ_=>True) (agg (Aj i0)):=by
 intro W hW;refine Ae func125 J 18 ntmps125 J (G2 ?_);refine .alloc (cs:=(Aj (List.replicate 8 0))) J Zr160 J ?_;intro n0 an ak;refine G4 ?_;refine .cV J J J J Body169 (r2_Start startW ⟨rfl⟩) tV (.alloc (cs:=(Aj (List.replicate 8 0))) J Zr160 J ?_);intro n1 ao am;refine .sA J J J J zB Sz160 (by(simp[startW_length];done)) Z0 sP zU ?_;refine G9 ?_;refine .loop (ι:=Nat) (λj=>⟨[(0,ptr n0 0),(1,ptr n1 0),(2,i64 (j:Int))],[⟨n1,Aj (xorUp j),160,8⟩,⟨n0,Aj (List.replicate 8 0),160,8⟩]⟩) (λj=>j<=8) (λj=>8-j) (0) ?_ ?_ ?_
 .omega
 .exact Af wN (Ab rM (Ab rM Ad))
 rintro j hi;have ah:=xorUp_length j;refine G7 ?_;refine .condP J (λae=>?_) (λae=>?_)
 ·
  refine G7 ?_;refine .i1 J J J J Y160.h Sz30 _ J oM (G1 ?_);refine .xor_u64 J J J (show Ai _ _=some (u64 11936128518282651045)from rfl) (.i1 J J J J Y160.h Sz30 _ J oM (.s1 J J J J J Sz30 Z0 (by(simp[xorUp_length];omega)) (by exact Bl _ _ _) zU ?_));refine G9 ?_;exact⟨j+1,by omega,by omega,Af wN (Ab rM (Ab rM Ad))⟩
 obtain rfl:j=8:=by omega
 rw[ai.out];clear ah;refine G7 ?_;refine .lA J J J Y160.h J Sz160 Z0 (by(simp[ac];done)) ?_;refine .mkRow (z:=u8 0) [u8 83,u8 72,u8 65,u8 45,u8 53,u8 49,u8 50,u8 47,u8 50,u8 53,u8 54] (Aa shaTag) J J J Y33.h Sz5 Zr5 J J (by intro v hv;simp only[Lam,Lc1,or_false]at hv;rcases hv with rfl|rfl|rfl|rfl|rfl|rfl|rfl|rfl|rfl|rfl|rfl<;>rfl) dE J ?_;intro aj;rw[hG.out];refine .constB J J J J Y33.h Y5.h Z0 ?_;refine .cV J J J J Body124 (r2_run s0 ac k hk ab ⟨some ⟨aj,0,none⟩,11,11⟩ G (by simp[ad]) (λe=>by cases e) oM) (λw h=>SeesP.of (Ar h Z0)) ?_;rw[ag.out];refine .sA J J J J zB Sz160 (by(simp[aa];done)) Z2 sP (by exact upd2) ?_;refine G2 ?_;refine G2 ?_;refine⟨_,[],Ax J J Y160.h J Sz160 Z2 (by simp[aa]),sP,sP,?_,rfl⟩;rfl
theorem r2_Sum(k s0 i0:List UInt64)(G:List UInt8)(hk:Hid (kW=k))(ac:k.length=80)(am:Hid (xorUp 8=s0))(an:s0.length=8)(hG:Hid (shaTag=G))(ah:G.length=11)(ai:Hid (allW k s0 G=i0))(ag:i0.length=8)(p:Option Addr)(n c:Nat)(ss:List Sl)(ls:List (List UInt8))(ap:ss.length=n)(aj:ls.length=n)(ao:∀j,j<n->(ss.getD j Sl.nil).n=(ls.getD j []).length/\((ss.getD j Sl.nil).p=none->(ss.getD j Sl.nil).n=0))(F:List UInt8)(hF:ls.flatten=F)(ae:F.length<=90000)(hn:n<=1000000)(r:List UInt64)(hr:Hid (allW k i0 F=r))(s:List UInt8)(hs:Hid (sumUp r 64=s))  :Mv 89 [.slice p n c] (λW=>SeesP W p (ss.map Sl.v)/\∀j,j<n->SeesP W (ss.getD j Sl.nil).p (Aa (ls.getD j []))) (agg (Aa (s.take 32))):=by
 intro W hW;have ak:r.length=8:=by rw[<-hr.out,allW_length];exact ag
 have aa:s.length=64:=by rw[<-hs.out];exact Cw r 64
 have aq:(s.take 32).length=32:=by rw[Lac,aa];rfl
 have ad:=λ(x:Sl) (h1:x.n=F.length) (h2:x.p=none->x.n=0)=>r2_run i0 ag k hk ac x F h1 h2 ae;rw[hr.out]at ad;refine Ae func89 J 14 ntmps89 J (G2 ?_);refine .alloc (cs:=(Aa (List.replicate 32 0))) J Bz J ?_;intro n2 ax au;refine G4 ?_;refine .cV J J J J Body125 (r2_StartShort k s0 i0 G hk ac am an hG ah ai ag) tV (G1 ?_);refine .call4 J J J J J Body126 (r2_join p n c ss ls ap aj ao F hF ae hn) (λw h=>⟨A8 h J hW.1,λj hj=>A8 h J (hW.2 j hj)⟩) ?_;rintro v7 ar ⟨s7,rfl,ab⟩;refine .cV J J J J Body124 (ad s7 ab.num ab.nil) (λw h=>ab.see (Lies.of h (by repeat(exact Ap)))) ?_;refine .cV J J J J Body123 (r2_bytes r ak s hs) tV (.alloc (cs:=(Aa (List.replicate 64 0))) J Zr34 J ?_);intro n3 ay av;refine .sA J J J J zE Sz34 (by(simp[aa];done)) Z0 sP zU ?_;refine G4 ?_;refine .alloc (cs:=(Aa (List.replicate 32 0))) J Bz J ?_;intro n4 az aw;refine G3 ?_;refine .draw (oPq [0,1,402]) Au zK (G1 ?_);refine .sliceArrHi 32 J J J J J dE dE Y34.h Sz5 (.copyP (Aa (s.take 32)) 32 J J J J J Y33.h Sz5 (λw h=>seesP_tk (SeesP.of (Ar h Z1))) (λe=>by cases e) (by simp[Aa,aa]) J (La5 (by simp[Aa,aa])) (Ay _) Z0 (by simp[Aa]) (show upd (Aa (List.replicate 32 0)) 0 (Aa (s.take 32))=Aa (s.take 32) by simp[upd,Aa,aa]) zU ?_);refine G4 ?_;refine .lA J J J Y31.h J Sz31 Z0 (by(simp[aa];done)) ?_;refine .sA J J J J zE Sz31 (by(simp[aa];done)) mR sP uU ?_;refine G2 ?_;refine G2 ?_;refine⟨_,[],Ax J J Y31.h J Sz31 mR (by simp[aa]),sP,sP,?_,rfl⟩;rfl
theorem dcheck_2(h:¬D.check=0):D.check=2:=by
  unfold DB.check at h ⊢;by_cases h1:D.head=true
  .rw[if_pos h1]
  . rw[if_neg h1]at h ⊢
    by_cases h2:linksBad D.prev D.ls=true
    .rw[if_pos h2]
    .rw[if_neg h2]at h;exact absurd rfl h
theorem r15_cmp(a b:List UInt8)(ha:a.length=32)(hb:b.length=32):Mv 10 [agg (Aa a),agg (Aa b)] (λ_=>True) (i64 (Cn a b)):=by
 intro W hW;refine Ae func10 J 24 ntmps10 J (G3 ?_);intro n2 ai ag;refine G1 ?_;intro n3 aj ah;refine G10 ?_;refine .loop (ι:=Nat) (λk=>⟨[(2,ptr n2 0),(3,ptr n3 0),(5,i64 (k:Int))],[⟨n3,Aa b,31,(Aa b).length⟩,⟨n2,Aa a,31,(Aa a).length⟩]⟩) (λk=>k<=32/\∀j,j<k->a.getD j 0=b.getD j 0) (λk=>32-k) (0) ?_ ?_ ?_
 .exact⟨Laf _,λj hj=>absurd hj (Lcj _)⟩
 .exact Ah wN (wh1 Z0 (wh1 Z1 wh0)) nD
 rintro k ⟨hk,ab⟩;refine G7 ?_;refine .condP J (λad=>?_) (λad=>?_)
 ·
  have ae:k<32:=by omega
  refine G6 ?_;refine .draw (oPq [0,1,102,3,4,105,6]) Au zK (G1 ?_);refine .i1 J J J J Y31.h Sz5 k J oM (G2 ?_);refine .i1 J J J J Y31.h Sz5 k J oM (G4 ?_);refine .condP J (λac=>?_) (λac=>?_)
  ·
   have aa:a.getD k 0≠b.getD k 0:=λe=>by rw[e]at ac;omega
   refine G5 ?_;refine G8 ?_;refine⟨_,[],Ag J J,sP,sP,?_,rfl⟩
   (rw[cmpB_at k a b oM ab oM aa];unfold cmpI;rw[if_pos oM];done)
  refine G3 ?_;refine .draw (oPq [0,1,102,3,4,105,6]) Au zK (G1 ?_);refine .i1 J J J J Y31.h Sz5 k J oM (G2 ?_);refine .i1 J J J J Y31.h Sz5 k J oM (G4 ?_);refine .condP J (λhc2=>?_) (λhc2=>?_)
  ·
   have aa:a.getD k 0≠b.getD k 0:=λe=>by rw[e]at hc2;omega
   refine G5 ?_;refine G7 ?_;refine⟨_,[],Ag J J,sP,sP,?_,rfl⟩
   (rw[cmpB_at k a b oM ab oM aa];unfold cmpI;rw[if_neg oM,if_pos oM];done)
  have aa:a.getD k 0=b.getD k 0:=Ldc.1 oM;refine G9 ?_;exact⟨k+1,⟨by omega,λj hj=>by rcases Lb5 j k with h1|h1;exact ab j h1;exact(show j=k by omega)▸aa⟩,by omega,Ah (wk1 rfl (wk1 rfl (wk1 (by rw[Lcd];rfl) wk0))) (wh1 Z0 (wh1 Z1 wh0)) nD⟩
 have ae:k=32:=by omega
 refine G10 ?_;refine G2 ?_;refine⟨_,[],Ag J J,sP,sP,?_,rfl⟩
 (rw[cmpB_all ha hb (λj hj=>ab j oM)];done)
theorem r15_check(B:Block)(hB:B.ok)(ls:List (List UInt8)):Mv 103 [agg B.cells] (λW=>RowsAt W B.fLinks 32 ls) (i64 (bcheck B ls)):=by
 intro W hW;have av:B.fLinks.n<=maxLen:=hW.max;simp only[maxLen]at av;have az:=hW.cap;refine Ae func103 J 74 ntmps103 J (G3 ?_);intro n1 a8 a1;refine G5 ?_;refine .build (cs:=Aa (List.replicate 32 0)) J J J (λw=>by kernel_rfl) ?_;refine .alloc (cs:=(Aa (List.replicate 32 0))) J Bz J ?_;intro n3 ba a2;refine .sA J J J J zE Sz31 sP Z0 sP zU ?_;refine G4 ?_;refine .draw (oPq [0,101,2,3,4,105,106,7,8,109,10,11,12,13,14,115,16,17,18,19,20,121,22,23,24]) Au zK (G2 ?_);refine two (λr hr k=>Tr.gtr J J J J hr k) (λae=>?_) (λae=>?_)
 ·
  have ap:=of_decide_eq_true ae;refine G24 ?_;refine .cond_t J J (G5 ?_);refine G3 ?_;refine⟨_,[],Ag J J,sP,sP,?_,rfl⟩;exact congrArg i64 (bcheck_head (by unfold bhead bheadB;simp_all)).symm
 have ap:=of_decide_eq_false ae;refine G2 ?_;refine .lN (Aa _) J J J Y31.h J Sz31 Z1 (Block.row_fPrev zA) (Block.rl_fPrev zA) ?_;refine .lA J J J Y31.h J Sz31 Z0 sP ?_;refine .eql_bytes J J J J eqGuardType31 Y31.h Y5.h Sz5 (by(simp[hB.l_fPrev];done)) sP J ?_;refine G3 ?_;refine two (λr hr k=>Tr.neb J J J J underlying4 hr k) (λaa=>?_) (λaa=>?_)
 ·
  have ak:=nd_t aa;refine G15 ?_;refine .cond_t J J (G5 ?_);refine G3 ?_;refine⟨_,[],Ag J J,sP,sP,?_,rfl⟩;exact congrArg i64 (bcheck_head (by unfold bhead bheadB;simp_all)).symm
 have ak:=nd_f aa;refine G5 ?_;refine two (λr hr k=>Tr.gtr J J J J hr k) (λab=>?_) (λab=>?_)
 ·
  have am:=of_decide_eq_true ab;refine G9 ?_;refine .cond_t J J (G5 ?_);refine G3 ?_;refine⟨_,[],Ag J J,sP,sP,?_,rfl⟩;exact congrArg i64 (bcheck_head (by unfold bhead bheadB;simp_all)).symm
 have am:=of_decide_eq_false ab;refine G9 ?_;refine .condP J (λar=>?_) (λar=>?_)
 ·
  refine G5 ?_;refine G3 ?_;refine⟨_,[],Ag J J,sP,sP,?_,rfl⟩;exact congrArg i64 (bcheck_head (by unfold bhead bheadB;simp_all)).symm
 have aj:¬bhead B:=by unfold bhead bheadB;simp_all
 refine G9 ?_;refine .loop (ι:=Nat) (λk=>⟨[(1,ptr n1 0),(3,ptr n3 0),(4,i64 (k:Int))],[⟨n3,Aa (List.replicate 32 0),31,32⟩,⟨n1,B.cells,37,B.cells.length⟩]⟩) (λk=>k<=B.fLinks.n/\∀j,j<k->badAt B.fPrev ls j=false) (λk=>B.fLinks.n-k) (0) ?_ ?_ ?_
 .exact⟨by omega,λj hj=>by omega⟩
 .exact Ah wN (wh1 Z0 (wh1 Z1 wh0)) nD
 rintro k ⟨hk,hg⟩;refine G10 ?_;refine .condP J (λau=>?_) (λau=>?_)
 ·
  have a6:k<B.fLinks.n:=by omega
  have a7:=hW.len;obtain⟨b,o,ah,ai⟩:=hW.see.at (by rw[As hW.row];omega);have ax:(ls.getD k []).length=32:=Bn hW.row oM;have ay:(ls.getD (k-1) []).length=32:=Bn hW.row oM;refine G2 ?_;refine .join (ι:=Unit) (λ_u=>⟨[(1,ptr n1 0),(3,ptr n3 0),(4,i64 (k:Int))],[⟨n3,Aa (List.replicate 32 0),31,32⟩,⟨n1,B.cells,37,B.cells.length⟩]⟩) (λ_u=>badAt B.fPrev ls k=false) ?_ ?_
  ·
   refine G2 ?_;refine .draw (oPq [0,101,2,3,104,105,6,7,8,109,10,11,112,13,114,15,16,17,18,19,20,21,122,23,24,25,126,27,128,29,30,131,332,33,34,35]) Au zK (G3 ?_);refine .idxSlP 32 J J J ah J Y32.h Sz31 k J oM (.loadEN (Aa (ls.getD (k) [])) J J J Y31.h J Sz31 sP (by rw[Aa,La0];exact Bn hW.row (by rw[hW.len];omega)) (Bk hW.row ai (by rw[hW.len];omega)) ?_);refine .lA J J J Y31.h J Sz31 Z0 sP ?_;refine two (λr hr k=>Tr.eql_bytes J J J J eqGuardType31 Y31.h Y5.h Sz5 zA sP hr k) (λag=>?_) (λag=>?_)
   ·
    have aq:=of_decide_eq_true ag;refine G31 ?_;refine .cond_t J J (G5 ?_);refine G7 ?_;refine⟨_,[],Ag J J,sP,sP,?_,rfl⟩;exact congrArg i64 (bcheck_bad aj (linksBad_at (k:=k) oM (by unfold badAt;simp_all))).symm
   have aq:=of_decide_eq_false ag;refine G4 ?_;refine .idxSlP 32 J J J ah J Y32.h Sz31 k J oM (.loadEN (Aa (ls.getD (k) [])) J J J Y31.h J Sz31 sP (by rw[Aa,La0];exact Bn hW.row (by rw[hW.len];omega)) (Bk hW.row ai (by rw[hW.len];omega)) ?_);refine G1 ?_;refine .lN (Aa _) J J J Y31.h J Sz31 Z1 (Block.row_fPrev zA) (Block.rl_fPrev zA) ?_;refine two (λr hr k=>Tr.eql_bytes J J J J eqGuardType31 Y31.h Y5.h Sz5 zA (by(simp[hB.l_fPrev];done)) hr k) (λac=>?_) (λac=>?_)
   ·
    have an:=of_decide_eq_true ac;refine G22 ?_;refine .cond_t J J (G5 ?_);refine G7 ?_;refine⟨_,[],Ag J J,sP,sP,?_,rfl⟩;exact congrArg i64 (bcheck_bad aj (linksBad_at (k:=k) oM (by unfold badAt;simp_all))).symm
   have an:=of_decide_eq_false ac;refine G3 ?_;refine two (λr hr k=>Tr.gtr J J J J hr k) (λad=>?_) (λad=>?_)
   ·
    have ao:=of_decide_eq_true ad;refine G5 ?_;refine .idxSlP 32 J J J ah J Y32.h Sz31 (k-1) oM oM (.loadEN (Aa (ls.getD (k-1) [])) J J J Y31.h J Sz31 sP (by rw[Aa,La0];exact Bn hW.row (by rw[hW.len];omega)) (Bk hW.row ai (by rw[hW.len];omega)) ?_);refine G3 ?_;refine .idxSlP 32 J J J ah J Y32.h Sz31 k J oM (.loadEN (Aa (ls.getD (k) [])) J J J Y31.h J Sz31 sP (by rw[Aa,La0];exact Bn hW.row (by rw[hW.len];omega)) (Bk hW.row ai (by rw[hW.len];omega)) ?_);refine .cV J J J J Body10 (r15_cmp _ _ ay ax) tV (G5 ?_);refine .condP J (λhc2=>?_) (λhc2=>?_)
    ·
     refine G5 ?_;refine G7 ?_;refine⟨_,[],Ag J J,sP,sP,?_,rfl⟩;exact congrArg i64 (bcheck_bad aj (linksBad_at (k:=k) oM (by unfold badAt;simp_all))).symm
    refine G3 ?_;refine⟨(),by unfold badAt;simp_all,Ah wN (wh1 Z0 (wh1 Z1 wh0)) nD⟩
   have ao:=of_decide_eq_false ad;refine G18 ?_;refine .cond_f J J (G3 ?_);refine⟨(),by unfold badAt;simp_all,Ah wN (wh1 Z0 (wh1 Z1 wh0)) nD⟩
  intro _u hj;have aw:=hj;refine G6 ?_;exact⟨k+1,⟨by omega,λj hj=>by rcases Lb4.1 hj with h|rfl;exact hg j h;exact aw⟩,by omega,Ah (wk1 rfl (wk1 rfl (wk1 (by rw[Lcd];rfl) wk0))) (wh1 Z0 (wh1 Z1 wh0)) nD⟩
 obtain rfl:k=B.fLinks.n:=by omega
 refine G10 ?_;refine G2 ?_;refine⟨_,[],Ag J J,sP,sP,?_,rfl⟩;exact congrArg i64 (bcheck_ok aj (linksBad_not (by rw[hW.len];exact hg))).symm
theorem r15_Check(B:Block)(D:DB):Mv 103 [agg B.cells] (λW=>BlockIs W B D) (i64 D.check):=
  λW hW=>by rw[<-hW.check];exact r15_check B hW.ok D.ls W hW.ls
theorem r1_Block(p r:Option Addr)(n c m d:Nat)(l ys:List UInt8)(hl:l.length=n)(hy:ys.length=m)(hp:p=none->n=0)(hr:r=none->m=0)(hn:n<=40000)(hm:m<=40000):Meets prog 166 [.slice p n c, .slice r m d] [] (λW=>SeesP W p (Aa l)/\SeesP W r (Aa ys)) (λv out=>FreshRow v out (Aa (l++numB (UInt64.ofNat m)++ys)) 5 (n+szN m+m) 1):=by
 intro W hW;have hz:=C6 m;have hw:wordOf (m:Int)=UInt64.ofNat m:=by simp only[wordOf];congr 1;omega
 have hmn:(UInt64.ofNat m).toNat=m:=by rw[Lc4,Lal oM]
 refine Ae func166 J 12 ntmps166 J (G11 ?_);rw[hw];refine .call4 J J J J J Body165 (r1_Number p n c l (UInt64.ofNat m) hl hp oM) (λw h=>A8 h J hW.1) ?_;rintro v9 ae ⟨q9,c9,rfl,ad,rfl⟩;rw[hmn]at ad ⊢;refine G1 ?_;refine .appendSl (z:=u8 0) (by':=1) (Aa ys) J J J J J Y33.h Y33.h Sz5 Zr5 (by unfold By;kernel_rfl) J (λw h=>A8 h J hW.2) hr (Ay _) rM J (by rw[Aa,La0,La2,Bw,hl,hmn,Lbb]) oM oM oM (by rw[Aa,La0,hy,Lbb]) ?_;intro ac aa ab;rw[<-bytesV_app];refine G3 ?_;refine G2 ?_;refine Ao (out:=(⟨ac,Aa (l++numB (UInt64.ofNat m)++ys),5,aa*1⟩::[])) (Ag J J) (Ab rM Ad) ?_;exact⟨ac,aa,rfl,ab,rfl⟩
theorem btag_length:btag.length=5:=rfl
theorem r15_Text(B:Block)(D:DB)(hB:B.ok)(h1:D.ls.length<=40)(h2:D.ds.length<=2000):Meets prog 122 [agg B.cells] [] (λW=>BlockIs W B D) (λv out=>FreshRow v out (Aa (btxt D)) 5 (btxt D).length 1):=by
 intro W hW;have ay:=DB.body_small hW.dok h1 h2;have e1:=hW.ls.len;have e2:=hW.ds.len;have bi:=C6 B.fSeq.toNat;have bj:=C6 (UInt64.ofNat B.fLinks.n).toNat;have bk:=C6 B.fData.n;have ap:=word_nat (n:=B.fLinks.n) oM;have aa:=hW.ls.row;refine Ae func122 J 41 ntmps122 J (G3 ?_);intro n1 bc ba;refine G5 ?_;refine .mkRow (z:=u8 0) [u8 98,u8 108,u8 111,u8 99,u8 107] (Aa btag) J J J Y33.h Sz5 Zr5 J J (by intro v hv;simp only[Lam,Lc1,or_false]at hv;rcases hv with rfl|rfl|rfl|rfl|rfl<;>rfl) dE J ?_;intro q5;refine .constB J J J J Y33.h Y5.h Z0 ?_;refine G2 ?_;refine .appendSl (z:=u8 0) (by':=1) (Aa B.fWriter) J J J J J Y33.h Y33.h Sz5 Zr5 (by unfold By;kernel_rfl) J (λw h=>SeesP.of (sees_part h Z1 (Block.see_fWriter hB))) (λe=>by cases e) (Ay _) rM J J dE dE dE (by simp[hB.l_fWriter]) ?_;intro q9 c9 bg;rw[<-bytesV_app];refine G4 ?_;refine .draw (oPq [0,1,102,4,5,403,406,7]) Au zK (G5 ?_);refine .call4 J J J J J Body165 (r1_Number (some ⟨q9,0,none⟩) (5+32) c9 (btag++B.fWriter) (B.fSeq) (by simp only[La2,Bw,hB.l_fWriter,hB.l_fPrev,btag_length]) (λe=>by cases e) oM) (λw h=>SeesP.of (Ar (cs:=Aa (btag++B.fWriter)) h Z0)) ?_;rintro bn aq ⟨bm,a8,rfl,az,rfl⟩;refine .appendSl (z:=u8 0) (by':=1) (Aa B.fPrev) J J J J J Y33.h Y33.h Sz5 Zr5 (by unfold By;kernel_rfl) J (λw h=>SeesP.of (sees_part h Z2 (Block.see_fPrev hB))) (λe=>by cases e) (Ay _) rM J (by rw[Aa,La0,Lbb];simp only[La2,Bw,hB.l_fWriter,hB.l_fPrev,btag_length]) oM oM oM (by simp[hB.l_fPrev]) ?_;intro av ag a6;rw[<-bytesV_app];refine G10 ?_;rw[ap];refine .call4 J J J J J Body165 (r1_Number (some ⟨av,0,none⟩) (5+32+szN B.fSeq.toNat+32) ag (btag++B.fWriter++numB B.fSeq++B.fPrev) (UInt64.ofNat B.fLinks.n) (by simp only[La2,Bw,hB.l_fWriter,hB.l_fPrev,btag_length]) (λe=>by cases e) oM) (λw h=>SeesP.of (Ar (cs:=Aa (btag++B.fWriter++numB B.fSeq++B.fPrev)) h Z0)) ?_;rintro v22 ar ⟨aw,ah,rfl,a1,rfl⟩;refine G10 ?_;refine .loop (ι:=Nat×Nat×Nat) (λp=>⟨[(1,ptr n1 0),(3, .slice (some ⟨p.2.1,0,none⟩) (5+32+szN B.fSeq.toNat+32+szN (UInt64.ofNat B.fLinks.n).toNat+32*p.1) p.2.2),(4,i64 (p.1:Int))],[⟨p.2.1,Aa (btag++B.fWriter++numB B.fSeq++B.fPrev++numB (UInt64.ofNat B.fLinks.n)++(D.ls.take p.1).flatten),5,p.2.2*1⟩,⟨n1,B.cells,37,B.cells.length⟩]⟩) (λp=>p.1<=B.fLinks.n/\5+32+szN B.fSeq.toNat+32+szN (UInt64.ofNat B.fLinks.n).toNat+32*p.1<=p.2.2) (λp=>B.fLinks.n-p.1) ((0,aw,ah)) ?_ ?_ ?_
 .exact⟨Laf _,by simp only[];omega⟩
 .exact Af wN (pm_consE rM (by simp only[Ld8,Lhc,Law]) rfl (Ab rM Ad))
 rintro p ⟨hp1,be⟩;refine G10 ?_;refine .condP J (λam=>?_) (λam=>?_)
 ·
  have an:p.1<B.fLinks.n:=by omega
  obtain⟨b,o,aj,ak⟩:=hW.ls.see.at (by rw[As aa];omega);have ao:(D.ls.getD p.1 []).length=32:=Bn aa oM;refine G9 ?_;refine .idxSlP 32 J J J aj J Y32.h Sz31 p.1 J oM (G1 ?_);refine .appendSl (z:=u8 0) (by':=1) (Aa (D.ls.getD p.1 [])) J J J J J Y33.h Y33.h Sz5 Zr5 (by unfold By;kernel_rfl) J (λw h=>SeesP.of (sees_ext h sP (Bk aa ak oM))) (λe=>by cases e) (Ay _) rM J (by simp only[Aa,La0,La2,Bw,hB.l_fWriter,hB.l_fPrev,btag_length,Cz aa (show p.1<=D.ls.length by omega)];omega) oM oM oM (by rw[Aa,La0,ao]) ?_;intro ax ai a7;rw[<-bytesV_app];refine G10 ?_;exact⟨(p.1+1,ax,ai),⟨by simp only[];omega,by simp only[];omega⟩,by simp only[];omega,Af (wk1 rfl (wk1 (by rw[show 5+32+szN B.fSeq.toNat+32+szN (UInt64.ofNat B.fLinks.n).toNat+32*(p.1+1)=5+32+szN B.fSeq.toNat+32+szN (UInt64.ofNat B.fLinks.n).toNat+32*p.1+32 by omega];rfl) (wk1 (by rw[Lcd];rfl) wk0))) (pm_consE rM (by rw[flatten_take_step oM,<-Lab]) rfl (Ab rM Ad))⟩
 have an:p.1=B.fLinks.n:=by omega
 refine G10 ?_;refine .call4 J J J J J Body166 (r1_Block (some ⟨p.2.1,0,none⟩) B.fData.p (5+32+szN B.fSeq.toNat+32+szN (UInt64.ofNat B.fLinks.n).toNat+32*p.1) p.2.2 B.fData.n B.fData.c (btag++B.fWriter++numB B.fSeq++B.fPrev++numB (UInt64.ofNat B.fLinks.n)++(D.ls.take p.1).flatten) D.ds (by simp only[La2,Bw,hB.l_fWriter,hB.l_fPrev,btag_length,Cz aa (show p.1<=D.ls.length by omega)];omega) e2 (λe=>by cases e) (λe=>by have h3:=hW.ds.nil e;have h4:=hW.ds.cap;omega) oM oM) (λw h=>⟨SeesP.of (Ar h Z0),A8 h J hW.ds.see⟩) ?_;rintro bo au ⟨ae,ac,rfl,a2,rfl⟩;refine G3 ?_;refine G2 ?_;refine Ao (out:=(⟨ae,Aa (btag++B.fWriter++numB B.fSeq++B.fPrev++numB (UInt64.ofNat B.fLinks.n)++(D.ls.take p.1).flatten++numB (UInt64.ofNat B.fData.n)++D.ds),5,ac*1⟩::[])) (Ag J J) (Ab rM Ad) ?_;have ab:btag++B.fWriter++numB B.fSeq++B.fPrev++numB (UInt64.ofNat B.fLinks.n)++(D.ls.take p.1).flatten++numB (UInt64.ofNat B.fData.n)++D.ds=btxt D:=by rw[btxt,DB.body,<-hW.w,<-hW.seq,<-hW.prev,e1,e2,La5 oM];simp only[Lab]
 have ad:5+32+szN B.fSeq.toNat+32+szN (UInt64.ofNat B.fLinks.n).toNat+32*p.1+szN B.fData.n+B.fData.n=(btxt D).length:=by rw[<-ab];simp only[La2,Bw,hB.l_fWriter,hB.l_fPrev,btag_length,Cz aa (show p.1<=D.ls.length by omega),e2,ofNat_nat (show B.fData.n<=1000000 by omega)];omega
 rw[ab];exact⟨ae,ac,by rw[ad],by omega,rfl⟩
theorem r15_Good(B:Block)(D:DB)(hB:B.ok):Mv 105 [agg B.cells] (λW=>BlockIs W B D) (i64 (dgood D)):=by
 intro W hW;refine Ae func105 J 14 ntmps105 J (.sr (.boxA J J ?_));intro n1 ai ah;refine .a J J J (.na (.seq (.sr (.lA J J J Y37.h J Sz37 Z0 (Block.length zA) ?_))));refine .cV J J J J Body103 (r15_Check B D) (λw h=>hW.ext h J) (.nei J J J J J (.na (.condNP J (λac=>?_) (λac=>?_))))
 ·
  have aa:¬D.check=0:=by omega
  refine .sr (.a J J J (.na ?_));refine .ret (at_r (en_r ?_));refine⟨_,[],Ag J J,sP,sP,?_,rfl⟩
  (unfold dgood;rw[if_neg aa,dcheck_2 aa];done)
 have aa:D.check=0:=by omega
 obtain⟨h1,h2⟩:=D.head_small aa;have ae:(btxt D).length<=4005:=DB.body_small hW.dok oM oM;refine .skip (Df (.seq (.seq (.draw (oPq [0,101,102,4,105,303,306,7]) Au zK (.fld J J J Y37.h J Sz29 dE _ J (.lN (Aa _) J J J Y29.h J Sz29 Z0 (Block.row_fWriter zA) (Block.rl_fWriter zA) ?_))))));refine .lA J J J Y37.h J Sz37 Z0 (Block.length zA) ?_;refine .fld J J J Y37.h J Sz35 dE _ J (.lN (Aa _) J J J Y35.h J Sz35 Z0 (Block.row_fSig zA) (Block.rl_fSig zA) ?_);refine .call J J J J Body122 (r15_Text B D hB oM oM) (FreshRow.loose _ _ _ _) (λw h=>hW.ext h J) ?_;rintro v9 ag ⟨q9,c9,rfl,ad,rfl⟩;refine .cV J J J J Body149 (r6_Good B.fWriter hB.l_fWriter ⟨some ⟨q9,0,none⟩,_,c9⟩ (btxt D) oM B.fSig hB.l_fSig) (λw h=>own_btxt (SeesP.of (Ar h Z0)) ad ae) ?_;refine .not J J J (.na (.cond J (λab=>?_) (λab=>?_)))
 ·
  refine .sr (.a J J J (.na ?_));refine .ret (at_r (en_r ?_));refine⟨_,[],Ag J J,sP,sP,?_,rfl⟩
  (unfold dgood;rw[if_pos aa,<-hW.w,<-hW.sg,if_neg (by intro e;rw[e]at ab;cases ab)];done)
 refine .skip (Df (.sr (.a J J J (.na ?_))));refine .ret (en_r ?_);refine⟨_,[],Ag J J,sP,sP,?_,rfl⟩
 (unfold dgood;rw[if_pos aa,<-hW.w,<-hW.sg,if_pos (by simpa using ab)];done)
theorem r15_Copy(B:Block)(D:DB)(hB:B.ok)(hn:D.ls.length<=500000)(hd:D.ds.length<=500000):Meets prog 102 [agg B.cells] [] (λW=>BlockIs W B D) (BlkV D):=by
 intro W hW;have e1:=hW.ls.len;have e2:=hW.ds.len;refine Ae func102 J 14 ntmps102 J (G3 ?_);intro n1 aj ah;refine .alloc (cs:=Block.zero.cells) J Block.zr J ?_;intro n2 ak ai;refine G3 ?_;refine .draw (oPq [1,102,5,106,200,303,8,204,307,409,10,411]) Au zK (G4 ?_);refine .mkRow2 (z:=agg (Aa (List.replicate 32 0))) [] [] rfl J Y32.h Sz31 Bz J J (by intro v hv;cases hv) dE J ?_;intro q3;refine .appendE (z:=agg (Aa (List.replicate 32 0))) (by':=32) (Aq D.ls) J J J J Y32.h Y32.h Sz31 Bz (by unfold By;kernel_rfl) J (λw h=>A8 h J hW.ls.see) (λe=>by have:=hW.ls.nil e;have:=hW.ls.cap;omega) (Cu _) oM oM (by rw[As hW.ls.row,e1]) ?_;intro s6 ag ab;refine G1 ?_;refine .mkRow2 (z:=u8 0) [] [] rfl J Y33.h Sz5 Zr5 J J (by intro v hv;cases hv) dE J ?_;intro q7;refine .appendE (z:=u8 0) (by':=1) (Aa D.ds) J J J J Y33.h Y33.h Sz5 Zr5 (by unfold By;kernel_rfl) J (λw h=>A8 h J hW.ds.see) (λe=>by have:=hW.ds.nil e;have:=hW.ds.cap;omega) (Ay _) oM oM (by rw[Aa,La0,e2,Lbb]) ?_;intro ae ad aa;refine .s1 J J J J J Sz32 mR (by rw[Block.length zA];decide) (by exact Block.set_fLinks zA _) uU ?_;refine G1 ?_;refine .s1 J J J J J Sz33 mR (by rw[Block.length (by exact⟨hB.l_fWriter,hB.l_fPrev,hB.l_fSig⟩)];decide) (by exact Block.set_fData (by exact⟨hB.l_fWriter,hB.l_fPrev,hB.l_fSig⟩) _) uU ?_;refine G4 ?_;refine .lA J J J Y37.h J Sz37 mR (Block.length (by exact⟨hB.l_fWriter,hB.l_fPrev,hB.l_fSig⟩)) ?_;refine .sA J J J J (Block.isCell (by exact⟨hB.l_fWriter,hB.l_fPrev,hB.l_fSig⟩)) Sz37 (Block.length (by exact⟨hB.l_fWriter,hB.l_fPrev,hB.l_fSig⟩)) mR (Block.length (by exact Block.zero_ok)) uU ?_;refine G2 ?_;refine G2 ?_;refine Ao (out:=(ad++(ag++[]))) (Ax J J Y37.h J Sz37 mR (by exact Block.length (by exact⟨hB.l_fWriter,hB.l_fPrev,hB.l_fSig⟩))) (Ac sG (Ac sG Ad)) ?_;have g6:=ab.num;have ac:=aa.num;exact⟨({ B with fLinks:=s6,fData:=ae }:Block),⟨⟨hB.l_fWriter,hB.l_fPrev,hB.l_fSig⟩,hW.w,hW.seq,hW.prev,hW.sg,g6.trans e1.symm,ac.trans e2.symm⟩,rfl,λW2 h2=>⟨⟨hB.l_fWriter,hB.l_fPrev,hB.l_fSig⟩,hW.w,hW.seq,hW.prev,⟨e1.trans g6.symm,hW.ls.row,ab.cap,ab.see W2 (h2.sub (A5 Ap)),by show s6.n<=maxLen;rw[g6];unfold maxLen;omega,ab.nil⟩,⟨e2.trans ac.symm,aa.cap,aa.see W2 (h2.sub Ap),by show ae.n<=maxLen;rw[ac];unfold maxLen;omega,aa.nil⟩,hW.sg⟩⟩
theorem with_w'(h:BlockIs W B D)(hK:K.length=32):BlockIs W { B with fWriter:=K } { D with w:=K }:=⟨⟨hK,h.ok.l_fPrev,h.ok.l_fSig⟩,rfl,h.seq,h.prev,h.ls,h.ds,h.sg⟩
theorem with_wg'(h:BlockIs W B D){K G:List UInt8}(hK:K.length=32)(hG:G.length=64):BlockIs W { B with fWriter:=K,fSig:=G } { D with w:=K,sg:=G }:=⟨⟨hK,h.ok.l_fPrev,hG⟩,rfl,h.seq,h.prev,h.ls,h.ds,rfl⟩
theorem r15_Sign(B:Block)(D:DB)(hB:B.ok)(hn:D.ls.length<=40)(hd:D.ds.length<=2000)(aa:List UInt8)(ab:aa.length=32)(s s1 s2:List UInt8)(hs:Hid (sha512 aa=s))(ah:Hid (sha512 (s.drop 32++btxt ({ D with w:=sgK s }:DB))=s1))(ai:Hid (sha512 (sgF s1++(sgK s++btxt ({ D with w:=sgK s }:DB)))=s2))(hc:D.check=0):Meets prog 115 [agg (Aa aa),agg B.cells] [] (λW=>BlockIs W B D) (BlkR 0 (bsg D (sgK s) (sgF s1++sgS s s1 s2))):=by
 intro W hW;have lG:(sgF s1++sgS s s1 s2).length=64:=by rw[La2,sgF_length,sgS_length]
 have lK:=sgK_length s;have cK:=r6_Key aa ab s hs;have e1:=hW.ls.len;have e2:=hW.ds.len;have ac:({ D with w:=sgK s }:DB).ok:=⟨lK,hW.dok.prev,hW.dok.sg,hW.dok.ls⟩;have ae:(btxt { D with w:=sgK s }).length<=4005:=DB.body_small ac oM oM;have cS:=λ(x:Sl)=>r6_Sign aa ab x (btxt { D with w:=sgK s }) oM s s1 s2 hs ah ai;clear hs ah ai;revert lG lK cK ac ae cS;generalize sgF s1++sgS s s1 s2=G;generalize sgK s=K;intro lG lK cK ac ae cS;refine Ae func115 J 21 ntmps115 J (G3 ?_);intro n2 au ap;refine G1 ?_;intro n3 av aq;refine .alloc (cs:=Block.zero.cells) J Block.zr J ?_;intro n4 aw ar;refine G6 ?_;refine .call4 J J J J J Body102 (r15_Copy B D hB oM oM) (λw h=>hW.ext h J) ?_;rintro v7 aj ⟨B7,h7,rfl,ad⟩;have am:({ B7 with fWriter:=K }:Block).ok:=⟨lK,h7.ok.l_fPrev,h7.ok.l_fSig⟩;have okG:({ B7 with fWriter:=K,fSig:=G }:Block).ok:=⟨lK,h7.ok.l_fPrev,lG⟩;have cC:=r15_Check ({ B7 with fWriter:=K }:Block) { D with w:=K };rw[show({ D with w:=K }:DB).check=D.check from rfl]at cC;have cT:=r15_Text ({ B7 with fWriter:=K }:Block) { D with w:=K } am hn hd
 try simp only[Lab,Lan,Lah]
 refine .sA J J J J (Block.isCell (by exact h7.ok)) Sz37 (Block.length (by exact h7.ok)) mR (Block.length zA) uU ?_;refine G4 ?_;refine .lA J J J Y28.h J Sz28 mR (by(simp[ab];done)) ?_;refine .cV J J J J Body153 (cK) tV (G1 ?_);refine .storeN (Aa _) J J J J J zE Sz29 (by simp[lK]) mR (by rw[Block.length (by exact h7.ok)];simp[lK]) (Block.upd_fWriter (by exact h7.ok) _ (by simp[lK])) uU ?_;refine G6 ?_;refine .cV J J J J Body103 (cC) (λw h=>with_w' (ad w (Lies.of h (by repeat(exact Ap)))) lK) ?_;refine G3 ?_;refine .cond_f J (by simpa using hc) ?_;refine G3 ?_;refine .draw (oPq [100,101,302,303,4,405]) Au zK (.lA J J J Y28.h J Sz28 mR (by(simp[ab];done)) ?_);refine G1 ?_;refine .call J J J J Body122 (cT) (FreshRow.loose _ _ _ _) (λw h=>with_w' (ad w (Lies.of h (by repeat(exact Ap)))) lK) ?_;rintro ax an ⟨ao,ak,rfl,ag,rfl⟩;refine .cV J J J J Body154 (cS ⟨some ⟨ao,0,none⟩,_,ak⟩) (λw h=>own_btxt (SeesP.of (Ar h Z0)) ag ae) ?_;refine G1 ?_;refine .storeN (Aa _) J J J J J zE Sz35 (by simp[lG]) mR (by rw[Block.length zA];simp[lG]) (Block.upd_fSig zA _ (by simp[lG])) uU ?_;refine G9 ?_;refine G2 ?_;refine Ao (out:=(aj++[])) (Bg J J J Y37.h J Sz37 mR (by exact Block.length zA)) (Ac sG Ad) ?_;rw[Law];exact⟨({ B7 with fWriter:=K,fSig:=G }:Block),⟨okG,rfl,h7.seq,h7.prev,rfl,h7.ln,h7.dn⟩,rfl,λW2 h2=>with_wg' (ad W2 h2) lK lG⟩
def ByR(e:Int)(l:List UInt8)(v:Value)(out:List Blk):Prop:=∃s:Sl,v= .tuple #[s.v,i64 e]/\s.n=l.length/\(s.p=none->s.n=0)/\∀W2,Lies out W2->SeesP W2 s.p (Aa l)
theorem body_pos(D:DB):0<D.body.length:=by
  have:=C6 D.seq.toNat;simp only[DB.body,La2,Bw];omega
theorem text_off{q c:Nat}{E:TypeId}(hc:(btxt D).length<=c)(hl:(btxt D).length=5+D.body.length):AccO ⟨some ⟨q,if c=5 then 0 else 0+5*1,none⟩,(btxt D).length-5,c-5⟩ [⟨q,Aa (btxt D),E,c*1⟩] (Aa D.body) E ((btxt D).length-5):=by
  refine .inr ⟨q,if c=5 then 0 else 0+5*1,c-5,c*1,Aa (if c=5 then[]else btag),Aa [],rfl,by omega,by rw[Aa,La0];omega,?_, .inl rfl,?_,?_⟩
  .split<;>rfl
  .split<;>omega
  . by_cases h5:c=5
    .exfalso;have hb:0<D.body.length:=body_pos D;omega
    .rw[if_neg h5,<-bytesV_app,<-bytesV_app,Law];rfl
theorem r15_Bytes(B:Block)(D:DB)(hB:B.ok):Meets prog 88 [agg B.cells] [] (λW=>BlockIs W B D) (ByR D.check (bytesR D)):=by
 intro W hW;have ae:=hB.l_fSig;have ai:=hW.sg;refine Ae func88 J 13 ntmps88 J (G3 ?_);intro n1 an am;refine G8 ?_;refine .cV J J J J Body103 (r15_Check B D) (λw h=>hW.ext h J) (G3 ?_);refine .condNP J (λag=>?_) (λag=>?_)
 ·
  have ab:¬D.check=0:=by omega
  refine G6 ?_;refine G3 ?_;refine Ao (out:=[]) (Bm J J J) Ad ?_;rw[dcheck_2 ab];exact⟨Sl.nil,rfl,by rw[show bytesR D=[]from if_neg ab];rfl,λ_=>rfl,λW2 _=>by rw[show bytesR D=[]from if_neg ab];exact SeesP.nil⟩
 have ab:D.check=0:=by omega
 obtain⟨h1,h2⟩:=D.head_small ab;have ao:(btxt D).length<=4005:=DB.body_small hW.dok oM oM;have ad:(btxt D).length=5+D.body.length:=by rw[btxt,La2];rfl
 refine G3 ?_;refine .draw (oPq [100,3,4,301,2,405,6,7]) Au zK (G3 ?_);refine .call J J J J Body122 (r15_Text B D hB oM oM) (FreshRow.loose _ _ _ _) (λw h=>hW.ext h J) ?_;rintro v8 ak ⟨q8,c8,rfl,ah,rfl⟩;refine .sliceLoN 5 J J J J J oM oM Y33.h Sz5 (.appendO (z:=u8 0) (by':=1) (Aa B.fSig) J J J J J Y33.h Y33.h Sz5 Zr5 (by unfold By;kernel_rfl) J (text_off ah ad) sG (λw h=>SeesP.of (sees_part h Z1 (Block.see_fSig hB))) dE (λe=>by cases e) (Ay _) oM oM (by simp[ae]) ?_);intro aj ac aa;refine G4 ?_;refine G2 ?_;refine Ao (out:=(ac++[])) (Bm J J J) (Ac sG Ad) ?_;rw[ab,show bytesR D=D.body++D.sg from if_pos ab,<-ai,Law];refine⟨aj,rfl,by rw[aa.num,La2,ae];omega,λe=>by have:=aa.nilc e;have:=aa.cap;omega,λW2 h2=>?_⟩;rw[bytesV_app];exact aa.see h2
theorem r15_Name(B:Block)(D:DB)(hB:B.ok):Mv 43 [agg B.cells] (λW=>BlockIs W B D) (agg (Aa (A6 D))):=by
 intro W hW;have ay:(bytesR D).length<=5000:=by
  unfold bytesR;split
  .rename_i h9;exact D.bytes_small h9 hW.dok
  .exact Laf _
 obtain⟨k,hk⟩:∃k,Hid (kW=k):=⟨_,⟨rfl⟩⟩;obtain⟨s0,ad⟩:∃s0,Hid (xorUp 8=s0):=⟨_,⟨rfl⟩⟩;obtain⟨G,hG⟩:∃G,Hid (shaTag=G):=⟨_,⟨rfl⟩⟩;obtain⟨i0,ac⟩:∃i0,Hid (allW k s0 G=i0):=⟨_,⟨rfl⟩⟩;have ae:k.length=80:=by rw[<-hk.out];rfl
 have ag:s0.length=8:=by rw[<-ad.out];exact xorUp_length 8
 have ah:G.length=11:=by rw[<-hG.out];rfl
 have aj:i0.length=8:=by rw[<-ac.out,allW_length];exact ag
 obtain⟨r,hr⟩:∃r,Hid (allW k i0 (bytesR D)=r):=⟨_,⟨rfl⟩⟩;obtain⟨s,hs⟩:∃s,Hid (sumUp r 64=s):=⟨_,⟨rfl⟩⟩;have ao:Hid (s.take 32=sha256 (bytesR D)):=⟨by rw[<-hs.out,<-hr.out,<-ac.out,<-hG.out,<-ad.out,<-hk.out];rfl⟩;have aa:s.length=64:=by rw[<-hs.out];exact Cw r 64
 have aq:(s.take 32).length=32:=by rw[Lac,aa];rfl
 refine Ae func43 J 16 ntmps43 J (G3 ?_);intro n1 aw au;refine .alloc (cs:=(Aa (List.replicate 32 0))) J Bz J ?_;intro n2 ax av;refine G5 ?_;refine .call4 J J J J J Body88 (r15_Bytes B D hB) (λw h=>hW.ext h J) ?_;rintro v7 ar ⟨s7,rfl,ak,am,an⟩;refine G14 ?_;refine .condNP J (λai=>?_) (λai=>?_)
 ·
  have ab:¬D.check=0:=by omega
  refine G2 ?_;refine .build (cs:=Aa (List.replicate 32 0)) J J J (λw=>by kernel_rfl) ?_;refine .sA J J J J zE Sz31 sP mR sP (by(repeat(first|exact upd0|apply Upd.seg))) ?_;refine G2 ?_;refine G3 ?_;refine⟨_,[],Ax J J Y31.h J Sz31 mR sP,sP,sP,?_,rfl⟩
  (rw[A6,if_neg ab];done)
 have ab:D.check=0:=by omega
 refine G5 ?_;refine .mkRow (z:= .slice none 0 0) [s7.v] [s7.v] rfl J J Y158.h Sz33 Zr33 J J (by intro v hv;rw[La1.1 hv];rfl) dE J ?_;intro ap;refine .cV J J J J Body89 (r2_Sum k s0 i0 G hk ae ad ag hG ah ac aj (some ⟨ap,0,none⟩) 1 1 [s7] [bytesR D] rfl J (λj hj=>(by obtain rfl:j=0:=oM;exact⟨by simp[ak],am⟩)) (bytesR D) sP oM dE r hr s hs) (λw h=>⟨SeesP.of (Ar h Z0),λj hj=>(by obtain rfl:j=0:=oM;exact an w (Lies.of h (by repeat(first|exact Ap|refine A1 ?_))))⟩) ?_;refine .sA J J J J zE Sz31 (by(simp[aa];done)) mR sP uU ?_;refine G2 ?_;refine G2 ?_;refine⟨_,[],Ax J J Y31.h J Sz31 mR (by simp[aa]),sP,sP,?_,rfl⟩
 (rw[A6,if_pos ab,<-show bytesR D=D.bytes from if_pos ab,ao.out];done)
theorem r15_parents_nil(B:Block)(hB:B.ok)(ls:List (List UInt8))(hn:B.fLinks.n<=500000)(hs:(B.fSeq.toNat:Int)=0)(h0:B.fLinks.n=0):Mv 80 [agg B.cells] (λW=>RowsAt W B.fLinks 32 ls) (.slice none 0 0):=by
 intro W hW;have ab:∃p c,B.fLinks.v= .slice p 0 c:=⟨_,_,by rw[Sl.v,h0]⟩;obtain⟨p9,c9,ac⟩:=ab;have aa:=Block.get_fLinks hB;rw[ac]at aa;refine Ae func80 J 16 ntmps80 J (G3 ?_);intro n1 ae ad;refine G13 ?_;refine .gtr J J J J (decide_eq_false oM) (G2 ?_);refine .cond_f J (rfl) (G6 ?_);refine .load1 J J J Y32.h J Z0 aa ?_;refine .appendNilNil J J J J Y32.h Y32.h Sz31 (G3 ?_);refine G2 ?_;refine⟨_,[],Ag J J,sP,sP,?_,rfl⟩;rfl
theorem r15_parents_0(B:Block)(hB:B.ok)(ls:List (List UInt8))(hn:B.fLinks.n<=500000)(hs:(B.fSeq.toNat:Int)=0)(h0:0<B.fLinks.n):Meets prog 80 [agg B.cells] [] (λW=>RowsAt W B.fLinks 32 ls) (λv out=>FreshRow v out (Aq ls) 31 B.fLinks.n 32):=by
 intro W hW;refine Ae func80 J 16 ntmps80 J (G3 ?_);intro n1 ac ab;refine G13 ?_;refine .gtr J J J J (decide_eq_false oM) (G2 ?_);refine .cond_f J (rfl) (G7 ?_);refine .appendToNil (z:=agg (Aa (List.replicate 32 0))) (by':=32) (Aq ls) J J J J Y32.h Y32.h Sz31 Bz (by unfold By;kernel_rfl) J (λw h=>A8 h J hW.see) h0 (λe=>by have:=hW.nil e;have:=hW.cap;omega) (Cu ls) oM oM (by rw[As hW.row,hW.len]) ?_;intro q1 c1 aa;refine G3 ?_;refine G2 ?_;refine⟨_,[⟨q1,Aq ls,31,c1*32⟩],Ag J J,(by intro b hb;rw[La1.1 hb];exact Cf),nodup1,⟨q1,c1,rfl,aa,rfl⟩⟩
theorem r15_parents_s(B:Block)(hB:B.ok)(ls:List (List UInt8))(hn:B.fLinks.n<=500000)(hs:¬(B.fSeq.toNat:Int)=0):Meets prog 80 [agg B.cells] [] (λW=>RowsAt W B.fLinks 32 ls) (λv out=>FreshRow v out (Aq (B.fPrev::ls)) 31 (1+B.fLinks.n) 32):=by
 intro W hW;refine Ae func80 J 16 ntmps80 J (G3 ?_);intro n1 ad ac;refine G13 ?_;refine .gtr J J J J (decide_eq_true oM) (G2 ?_);refine .cond_t J (rfl) (G3 ?_);refine .lN (Aa _) J J J Y31.h J Sz31 Z0 (Block.row_fPrev zA) (Block.rl_fPrev zA) ?_;refine .mkRow (z:=agg (Aa (List.replicate 32 0))) [agg (Aa B.fPrev)] (Aa B.fPrev) J J J Y32.h Sz31 Bz J J (by intro v hv;rw[La1.1 hv];simp[Value.cells,hB.l_fPrev]) dE (by simp[Value.cells]) ?_;intro q0;refine .appendToNil (z:=agg (Aa (List.replicate 32 0))) (by':=32) (Aa B.fPrev) J J J J Y32.h Y32.h Sz31 Bz (by unfold By;kernel_rfl) J (λw h=>SeesP.of (Ar h Cf)) dE (λe=>by cases e) (by simp[Aa,isCell,u8]) dE dE (by simp[hB.l_fPrev]) ?_;intro q1 c1 aa;refine G8 ?_;refine .appendSl (z:=agg (Aa (List.replicate 32 0))) (by':=32) (Aq ls) J J J J J Y32.h Y32.h Sz31 Bz (by unfold By;kernel_rfl) J (λw h=>A8 h J hW.see) (λe=>by have:=hW.nil e;have:=hW.cap;omega) (Cu ls) A4 J (by simp[hB.l_fPrev]) aa oM oM (by rw[As hW.row,hW.len]) ?_;intro q2 c2 ab;refine G3 ?_;refine G2 ?_;refine⟨_,[⟨q2,Aa B.fPrev++Aq ls,31,c2*32⟩],Ag J J,(by intro b hb;rw[La1.1 hb];exact Cf),nodup1,⟨q2,c2,rfl,ab,rfl⟩⟩
def Bj(D:DB):List (List UInt8):=if D.seq=0 then D.ls else D.prev::D.ls
theorem parL_row(h:D.ok):∀l∈Bj D,l.length=32:=by
  intro l hl;unfold Bj at hl;split at hl
  .exact h.ls l hl
  . rcases Lam.1 hl with rfl|hl
    .exact h.prev
    .exact h.ls l hl
end Go.Proofs.YtbdfihcjddbhaaaGreat
namespace Go.Proofs.YtbdfihcjddbhaaaGreat
open Go Hw _root_.Go.Proofs.Tryz
variable{W:World}{b c:Nat}{z:Value}{ν:Type}{ev:ν->Value}{fs:List (List UInt8×ν)}
theorem key_seqB(M:MOk prog 82 31 37 (Ak 32 ev) z)(hb:BlkOk W (A3 b (Ak 32 ev) fs))(hc:CapM W c b)(aa:c<W.heap.size):KeySeq prog 147 #[ptr c 0] (fs.map (·.1)) W:=by
  intro σ X vis s0 names l w1 hk hn hv hH hY;obtain⟨es,clock,h1,F⟩:=hb.map;have ad:w1.heap[b]? =some (.map es clock):=(hk.block b hb.lt sP).trans h1;have ae:b∉names:=λh=>by have:=hn b h;have:=hb.lt;simp only at this;omega
  have ah:c∉names:=λh=>by have:=hn c h;omega
  have ag:CapM w1 c b:=by
    unfold CapM World.cell? at hc ⊢;rw[hk.block c aa sP];exact hc
  have ab:c<w1.heap.size:=Lbs aa hk.size;refine callsIn_wide.2 ((keys_iterB M X vis s0 names l c b fs es clock w1 F hv ae ah w1 ⟨rfl,hH,ad,ag,ab,λs k ac ai W2 h=>hY s k ac (by simpa using ai) W2 h⟩).mono λe W' ⟨v,out,he,⟨_,s,hp,ho⟩,hr⟩=>⟨⟨v,he⟩,s,hp,?_⟩);subst ho;exact⟨hr.cells,hr.nodup,hr.own,hr.keeps,λ_ h=>(by cases h),λ_ _ _ h=>(by cases h)⟩
theorem key_seqU(M:MOk prog 81 31 105 (Ak 32 ev) z)(hb:BlkOk W (A3 b (Ak 32 ev) fs))(hc:CapM W c b)(aa:c<W.heap.size):KeySeq prog 148 #[ptr c 0] (fs.map (·.1)) W:=by
  intro σ X vis s0 names l w1 hk hn hv hH hY;obtain⟨es,clock,h1,F⟩:=hb.map;have ad:w1.heap[b]? =some (.map es clock):=(hk.block b hb.lt sP).trans h1;have ae:b∉names:=λh=>by have:=hn b h;have:=hb.lt;simp only at this;omega
  have ah:c∉names:=λh=>by have:=hn c h;omega
  have ag:CapM w1 c b:=by
    unfold CapM World.cell? at hc ⊢;rw[hk.block c aa sP];exact hc
  have ab:c<w1.heap.size:=Lbs aa hk.size;refine callsIn_wide.2 ((keys_iterU M X vis s0 names l c b fs es clock w1 F hv ae ah w1 ⟨rfl,hH,ad,ag,ab,λs k ac ai W2 h=>hY s k ac (by simpa using ai) W2 h⟩).mono λe W' ⟨v,out,he,⟨_,s,hp,ho⟩,hr⟩=>⟨⟨v,he⟩,s,hp,?_⟩);subst ho;exact⟨hr.cells,hr.nodup,hr.own,hr.keeps,λ_ h=>(by cases h),λ_ _ _ h=>(by cases h)⟩
theorem KeySeq.keep{P:Program}{gf:Nat}{lb:Array Value}{keys:List (List UInt8)}{C:Cx}{hp:List Blk}{w:World}(h:KeySeq P gf lb keys C.W0)(hh:HRep C hp w)(hl:C.lent=[]:=by rfl):KeySeq P gf lb keys w:=by
  intro σ X vis s0 names l w1 hk hn hv hH hY;have k0:=hh.keeps;rw[hl]at k0;exact h σ X vis s0 names l w1 (k0.trans hk) (λn hm=>Lbd k0.size (hn n hm)) hv hH hY
theorem append_keys(gf:Nat)(lb:Array Value)(keys:List (List UInt8))(am:A0 prog gf)(av:keys.length<=100000):Meets prog 138 [.slice none 0 0, .func (.func gf) #[] lb] [] (λW=>KeySeq prog gf lb keys W) (λv out=>∃(s:Sl) (ks:List (List UInt8)),ks.Perm keys/\v=s.v/\Hw.Acc s out (Aq ks) 31 ks.length 32):=by
  intro W hW;refine calls_rangeR (hp0:=[]) func138 rfl 13 ntmps138 rfl (HRep.nil _) ?_;refine Sat.region ?_;refine Tr.box1 rfl rfl rfl ?_;intro n2 an ar;refine G7 ?_;refine⟨gf,lb,{t:Sl×List Blk×List (List UInt8)//Hw.Acc t.1 t.2.1 (Aq t.2.2) 31 t.2.2.length 32},λt=>⟨n2,[t.1.1.v],32,1⟩::t.1.2.1,⟨(Sl.nil,[],[]),Acc.none⟩,[n2],(λt v=>∃k,v=agg (Aa k)/\k.length=32/\t.1.2.2.length<keys.length),(λt v t2=>∃k,v=agg (Aa k)/\t2.1.2.2=t.1.2.2++[k]),(λt=>t.1.2.2.Perm keys),(λsl t v st=>∃k n5 m5,v=agg (Aa k)/\st=⟨(5,ptr n5 0)::(7,v)::sl,⟨n5,Aa k,31,m5⟩::⟨n2,[t.1.1.v],32,1⟩::t.1.2.1⟩),rfl,rfl,am,dE,rfl,?_,?_,?_,?_⟩
  ·
    intro l w1 hk hh hy;refine(hW _ (λt: {t:Sl×List Blk×List (List UInt8)//Hw.Acc t.1 t.2.1 (Aq t.2.2) 31 t.2.2.length 32}=>⟨n2,[t.1.1.v],32,1⟩::t.1.2.1) (λt=>t.1.2.2) ⟨(Sl.nil,[],[]),Acc.none⟩ [n2] l w1 hk (λn hn=>by rw[La1.1 hn];exact an) rfl hh λs k aj ap W2 h=>?_);obtain⟨fn,tmps,ae,bd,ai,hR⟩:=hy s (agg (Aa k)) ⟨k,rfl,aj,ap⟩ W2 h;exact⟨fn,tmps,ae,bd,ai,RoundIn.mono hR λe W3 ⟨he,s2,⟨k2,e2,ao⟩,hr⟩=>⟨he,s2,by rw[agg_bytes_inj e2];exact ao,hr⟩⟩
  ·
    intro t v ac l W2 ns ah hh;obtain⟨k,rfl,aa,hlt⟩:=ac;refine SatI.region zK ?_;refine Tr.alloc (cs:=(Aa (List.replicate 32 0))) rfl Bz rfl ?_;intro n5 aw au;refine Tr.sA rfl rfl rfl rfl zE Sz31 (by(rw[Aa,La0];assumption)) Z0 sP zU ?_;refine Tr.nil ?_;exact⟨k,_,_,rfl,rfl⟩
  ·
    intro t v ac st ag l W2 ns ah hh;obtain⟨k,n5,m5,rfl,rfl⟩:=ag;obtain⟨k1,ek,aa,hlt⟩:=ac;obtain rfl:=agg_bytes_inj ek;refine SatI.block ?_;refine SatI.region zK ?_;refine G1 ?_;refine Tr.lA rfl rfl rfl Y31.h rfl Sz31 Z0 (by(rw[Aa,La0];assumption)) ?_;refine Tr.mkRow2 (z:=agg (Aa (List.replicate 32 0))) [agg (Aa k)] (Aa k) rfl rfl Y32.h Sz31 Bz rfl rfl (by intro v hv;rw[La1.1 hv];simp[Value.cells,Aa,aa]) dE (by simp[Value.cells,agg]) ?_;intro ax;refine Tr.appendAcc (z:=agg (Aa (List.replicate 32 0))) (by':=32) (Aa k) rfl rfl rfl rfl rfl Y32.h Y32.h Sz31 Bz (by unfold By;kernel_rfl) rfl t.2 (by repeat(first|exact C8|apply sg_there)) (λw h=>SeesP.of (Ar h Z0)) (λe=>by cases e) (Ay _) oM oM (by rw[Aa,La0,aa]) ?_;intro aq ad ab;refine Tr.s1 rfl rfl rfl rfl rfl Sz32 mR sP (by rfl) uU ?_;refine Tr.nil ?_;refine⟨⟨(aq,ad,t.1.2.2++[k]),by simpa[Br,Aq]using ab⟩,_,⟨k,rfl,rfl⟩,(Ab rM sG)⟩
  intro t ak D W2 ns ah;skip;refine G6 ?_;refine Sat.ret ?_;refine enA_r ?_;refine endA_perm (out:=(t.1.2.1++[])) (λW names=>Ag rfl rfl) (Ac (by repeat(first|exact C8|apply sg_there)) Ad) ?_;exact⟨t.1.1,t.1.2.2,ak,rfl,by simpa using t.2⟩
theorem collect_keys(gf:Nat)(lb:Array Value)(keys:List (List UInt8))(ac:A0 prog gf)(ad:keys.length<=100000):Meets prog 96 [.func (.func gf) #[] lb] [] (λW=>KeySeq prog gf lb keys W) (λv out=>∃(s:Sl) (ks:List (List UInt8)),ks.Perm keys/\v=s.v/\Hw.Acc s out (Aq ks) 31 ks.length 32):=by
 intro W hW;refine Ae func96 J 5 ntmps96 J (G8 ?_);refine .call4 J J J J J Body138 (append_keys gf lb keys ac ad) (λw h=>hW.keep h) ?_;rintro v4 aa ⟨s4,ks,hp,rfl,ab⟩;refine G3 ?_;refine G2 ?_;refine Ao (out:=(aa++[])) (Ag J J) (Ac sG Ad) ?_;exact⟨s4,ks,hp,rfl,by simpa using ab⟩
open Go.RowKit Go.Shelf Go.Lib Go.Sort
set_option maxHeartbeats 2000000
theorem bytes70(W:World){p q:Option Addr}{c1 c2 n m:Nat}{a b:List UInt8}(ha:a.length=n)(hb:b.length=m)(h1:SeesP W p (Aa a))(h2:SeesP W q (Aa b)):Calls prog 94 #[.slice p n c1, .slice q m c2] W λe w'=>e= .returned (i64 (Cn a b))/\w'=W:=by
  have hr:=bytealg_run (w:=W) (c1:=c1) (c2:=c2) ha hb h1 h2;rw[show[Value.slice p n c1,Value.slice q m c2].toArray= #[.slice p n c1, .slice q m c2]from rfl]at hr;generalize Cn a b=r at hr ⊢;clear h1 h2 ha hb
  go_enter func94,ntmps94
  go_wp2
  go_ret
  exact⟨rfl,rfl⟩
theorem cmp47(x y:List UInt8)(hx:x.length=32)(hy:y.length=32)(W:World):Calls prog 51 #[agg (Aa x),agg (Aa y)] W λe w'=>e= .returned (i64 (Cn x y))/\∃q os',w'=grow (W.drewN q) os':=by
  obtain⟨r,hr⟩:∃r,Cn x y=r:=⟨_,rfl⟩;rw[hr];have hs:∀W':World,(∀i,i<W.heap.size+2->W'.heap[i]? =((W.alloc (.cells (Aa x).toArray 31)).alloc (.cells (Aa y).toArray 31)).heap[i]?)->Calls prog 94 #[.slice (some ⟨W.heap.size,0,none⟩) 32 32, .slice (some ⟨W.heap.size+1,0,none⟩) 32 32] W' λe w'=>e= .returned (i64 r)/\w'=W':=λW' h=>by
    rw[<-hr];refine bytes70 W' hx hy (SeesP.of λj v hj=>?_) (SeesP.of λj v hj=>?_)
    . have e:=h W.heap.size oM
      have e2:((W.alloc (.cells (Aa x).toArray 31)).alloc (.cells (Aa y).toArray 31)).heap[W.heap.size]? =some (.cells (Aa x).toArray 31):=by
        show((W.heap.push _).push _)[W.heap.size]? =_;rw[Lc9,if_neg sP,Lc9,if_pos rfl]
      rw[e2]at e;simpa[World.cell?,e]using hj
    . have e:=h (W.heap.size+1) oM
      have e2:((W.alloc (.cells (Aa x).toArray 31)).alloc (.cells (Aa y).toArray 31)).heap[W.heap.size+1]? =some (.cells (Aa y).toArray 31):=by
        show((W.heap.push _).push _)[W.heap.size+1]? =_;rw[Lc9,if_pos sP]
      rw[e2]at e;simpa[World.cell?,e]using hj
  go_enter func51,ntmps51
  go_wp2
  generalize aa:(W.alloc (.cells (Aa x).toArray 31)).alloc (.cells (Aa y).toArray 31)=w2 at hs ⊢
  go_quiet ((go_at_call 94;exact Calls.quiet_of_same (hs _ (λi hi=>rfl))))
  go_wp2
  go_ret
  refine⟨rfl,nq, #[.cells (Aa x).toArray 31, .cells (Aa y).toArray 31],?_⟩;rw[<-aa,alloc_eq_grow,alloc_eq_grow,grow_grow];rfl
abbrev L32:={l:List UInt8//l.length=32}
instance:Inhabited L32:=⟨⟨List.replicate 32 0,by simp⟩⟩
def cf32(x y:L32):Int:=Cn x.1 y.1
theorem lt32(x y:L32):ltOf cf32 x y=decide (Cn x.1 y.1<0):=rfl
theorem swo32:SWO (ltOf cf32) where
  irrefl x:=by rw[lt32,cmpB_self];rfl
  trans x y z h1 h2:=by
    rw[lt32]at*;simp only[decide_eq_true_eq]at*;exact(cmpB_trans _ _ _ oM oM).2 (.inl h1)
  ntrans x y z h1 h2:=by
    rw[lt32]at*;simp only[decide_eq_false_iff_not]at*;have e1:=cmpB_neg x.1 y.1;have e2:=cmpB_neg y.1 z.1;have e3:=cmpB_neg x.1 z.1;have:=(cmpB_trans z.1 y.1 x.1 oM oM).1;omega
theorem enc32_cells(x:L32):∀v∈Aa x.1,v.oneCell'=true:=λv hv=>by
  obtain⟨u,_,rfl⟩:=La6.1 hv;rfl
def up32(ks:List (List UInt8))(h:∀l∈ks,l.length=32):List L32:=ks.attach.map λx=>⟨x.1,h x.1 x.2⟩
theorem up32_val(ks:List (List UInt8))(h:∀l∈ks,l.length=32):(up32 ks h).map (·.1)=ks:=by
  unfold up32;rw[Lgt];show ks.attach.map Subtype.val=ks;simp
theorem flatK_list(d:Array L32):∀(j:Nat) (v:Value),(Aq (d.toList.map (·.1)))[j]? =some v->j<d.size*32/\(flatK (λx:L32=>Aa x.1) 32 d)[j]! =v:=λj v hj=>by
  have ab:∀l∈d.toList.map (·.1),l.length=32:=λl hl=>by obtain⟨x,_,rfl⟩:=La6.1 hl;exact x.2
  have ac:=As ab;have hlt:=(Laa.1 hj).1;rw[ac]at hlt;have aa:j<d.size*32:=by simpa using hlt
  refine⟨aa,?_⟩;rw[get_flatK _ _ _ _ aa];have hi:j/32<d.size:=by omega
  have hc:((d.toList.map (·.1)).map Aa)[j/32]? =some (Aa d[j/32]!.1):=by
    rw[Lad,Lad];have:d.toList[j/32]? =some d[j/32]! :=by simp[hi]
    rw[this];rfl
  have hm:j%32<(Aa d[j/32]!.1).length:=by rw[Aa,La0,d[j/32]!.2];omega
  have:=flat_get (m:=32) (λl hl=>flatB_all ab l hl) hc hm;have e:j/32*32+j%32=j:=by omega
  rw[e]at this;have ad:((d.toList.map (·.1)).map Aa).flatten[j]? =some v:=hj;rw[ad]at this;rw[Lgl,<-this];rfl
def SortB(ks:List (List UInt8)):Prop:=ks.Pairwise λa b=>Cn a b<=0
theorem sort_digs(q n c m:Nat)(ks:List (List UInt8))(ae:∀l∈ks,l.length=32)(hl:ks.length=n)(a2:n<=1000000)(hm:n*32<=m):Meets prog 47 [.slice (some ⟨q,0,none⟩) n c, .func (.func 51) #[] #[]] [q] (λW=>BlkOk W ⟨q,Aq ks,31,m⟩)
    (λv out=>v= .tuple #[]/\∃ks':List (List UInt8),ks'.Perm ks/\SortB ks'/\out=[⟨q,Aq ks',31,m⟩]):=λW hb=>by
  obtain⟨d,hd⟩:∃d:Array L32,d=(up32 ks ae).toArray:=⟨_,rfl⟩;have ah:d.toList.map (·.1)=ks:=by rw[hd];exact up32_val ks ae
  have hds:d.size=n:=by rw[<-hl,<-ah];simp
  have aq:∃full fr,BlkAt W ⟨q,Aq ks,31,m⟩ full fr:=hb;obtain⟨full,fr,aa⟩:=aq;have ar:=As ae;have hH:HoldsK (λx:L32=>Aa x.1) 32 W q 0 d:=λj hj=>by
    rw[size_flatK]at hj;have ai:j<(Aq ks).length:=by rw[ar,hl,<-hds];exact hj
    have h1:=La4 ai;have h2:=(flatK_list d j _ (by rw[ah];exact h1)).2;rw[h2];exact⟨hb.cell (b:=⟨q,Aq ks,31,m⟩) (by simpa using h1),aa.unfrozen (by show 0+j<m;omega)⟩
  have eg:∀args w,(callFunc 51 args).run prog w= .ok (.enter 51 args) w:=enters_of func51 zK rfl;have am:CmpLays prog 51 #[] (λx:L32=>Aa x.1) 32 cf32 q 0 d.size W:=λk os dk hk x y=>cmp47 x.1 y.1 x.2 y.2 _;have ap:∀w,(Go.sizeOf (sortD_ren.t 24)).run prog w= .ok 32 w:=by
    intro w;have e:sortD_ren.t 24=31:=by rfl
    rw[e];exact Ch Sz31 w
  have an:=AnyQ.slices_SortFunc sortD 32 (λw=>run_isAgg_arr Y31.h rfl w) (λw=>ap w) (λx:L32=>Aa x.1) (λx=>by rw[Aa,La0,x.2]) enc32_cells cf32 swo32 51 #[] q 0 c d W eg am hH hb.lt oM;have ab:Calls prog 47 #[.slice (some ⟨q,0,none⟩) d.size c, .func (.func 51) #[] #[]] W _:=an;rw[hds]at ab;refine ab.mono λe W' ⟨he,d',k,os,hp,hs,hw⟩=>?_;subst hw;have ad:d'.size=d.size:=hp.1;obtain⟨ks',ac⟩:∃ks',ks'=d'.toList.map (·.1):=⟨_,rfl⟩;have a1:∀l∈ks',l.length=32:=λl hl=>by rw[ac]at hl;obtain⟨x,_,rfl⟩:=La6.1 hl;exact x.2
  have ax:ks'.length=n:=by rw[ac];simp[ad,hds]
  have aj:ks'.Perm ks:=by
    rw[ac,<-ah];refine List.Perm.map _ ?_;have h3:=hp.2.2;have e1:d.extract 0 d.size=d:=by simp
    have e2:d'.extract 0 d.size=d':=by rw[<-ad];simp
    rw[<-hds]at h3;rwa[e1,e2]at h3
  have ak:SortB ks':=by
    rw[ac];refine Lgx.2 (Lde.2 λi j hi hj av=>?_);have h4:=hs i j (Laf _) av (by rw[<-hds,<-ad];simpa using hj);rw[lt32,decide_eq_false_iff_not]at h4;have au:i<d'.size:=by simpa using hi
    have ai:j<d'.size:=by simpa using hj
    rw[getElem!_pos d' j ai,getElem!_pos d' i au]at h4;have:=cmpB_neg d'.toList[i].1 d'.toList[j].1;simp only[Array.getElem_toList]at this ⊢;omega
  refine⟨_,_,he,⟨rfl,ks',aj,ak,rfl⟩,⟨⟨rfl,rfl,rfl,?_,Lha W.drawn k,λi hi hn=>?_⟩,λb ag=>?_,by simp,λb ag=>?_⟩⟩
  .simp[sortWorldK,grow,putRowK]
  . have ay:i≠q:=by simpa using hn
    simp only[sortWorldK,grow,putRowK,putRow,mapBlock];rw[Ldv (by simpa using hi),Le4];rw[if_neg (λe:q=i=>ay e.symm)];rfl
  . rw[La1.1 ag]
    have hq:W.heap[q]? =some (.cells full 31 fr):=aa.heap;have az:q<W.heap.size:=hb.lt;refine⟨putCells id 0 (flatK (λx:L32=>Aa x.1) 32 d') full,fr,?_,by simpa[putCells]using aa.size,?_,aa.free⟩
    . simp only[sortWorldK,grow,putRowK,putRow,mapBlock]
      rw[Ldv (by simpa using az),Le4,if_pos rfl,show(Go.Sort.ahead W k).heap[q]? =some (Obj.cells full 31 fr)from hq];rfl
    . have ao:=aa.size
      simp only at ao;rw[prefix_iff];intro j v hj;simp only at hj;have hf:=flatK_list d' j v (by rw[<-ac];exact hj);simp only[putCells,Le3,Array.getElem?_mapIdx];have aw:j<full.size:=by rw[ao];have:=hf.1;omega
      rw[Ld3 aw];simp only[Lbj,La7,Laf,true_and,Lb0,size_flatK,Lgk];rw[if_pos hf.1,hf.2];rfl
  .rw[La1.1 ag];exact .inr sP
theorem sort_none(p:Option Addr)(c:Nat):Mv 47 [.slice p 0 c, .func (.func 51) #[] #[]] (λ_=>True) (.tuple #[]):=λW _=>by
  have ab:=AnyF.slices_SortFunc_none sortD p c (.func (.func 51) #[] #[]) W;have aa:Calls prog 47 #[.slice p 0 c, .func (.func 51) #[] #[]] W _:=ab;refine aa.mono λe W' h=>?_;obtain⟨he,hw⟩:=h;subst hw;exact⟨_,[],he,⟨rfl,rfl⟩,⟨Keeps.refl _ _,λb hb=>(by cases hb),Lch,λb hb=>(by cases hb)⟩⟩
end Go.Proofs.YtbdfihcjddbhaaaGreat
namespace Go.Proofs.YtbdfihcjddbhaaaGreat
open Go Hw _root_.Go.Proofs.Tryz
variable{C:Cx}{T:TypeId}{hp:List Blk}{w:World}{z:Value}{ν:Type}{ev:ν->Value}
theorem sort_acc(s:Sl)(bl:List Blk)(ks:List (List UInt8))(ab:∀l∈ks,l.length=32)(ad:ks.length<=1000000)(ag:Hw.Acc s bl (Aq ks) 31 ks.length 32):Meets prog 47 [s.v, .func (.func 51) #[] #[]] (bl.map (·.n)) (λW=>Lies bl W)
    (λv out=>v= .tuple #[]/\∃aa:List (List UInt8),aa.Perm ks/\SortB aa/\Hw.Acc s out (Aq aa) 31 ks.length 32):=by
  rcases ag with ⟨rfl,rfl,hz,hn⟩|⟨q,c,rfl,ae,ah,rfl⟩
  . obtain rfl:=Lai hn
    intro W _;exact(sort_none none 0 W trivial).mono λe W' ⟨v,out,he,⟨hv,ho⟩,hr⟩=>⟨v,out,he,⟨hv,[],Lco _,List.Pairwise.nil, .inl ⟨rfl,ho,rfl,rfl⟩⟩,hr⟩
  . intro W hW
    have hb:BlkOk W ⟨q,Aq ks,31,c*32⟩:=hW _ (La1.2 rfl);refine(sort_digs q ks.length c (c*32) ks ab rfl ad (Les 32 ae) W hb).mono λe W' ⟨v,out,he,⟨hv,aa,hp,hs,ho⟩,hr⟩=>⟨v,out,he,⟨hv,aa,hp,hs,?_⟩,hr⟩;have ac:∀l∈aa,l.length=32:=λl hl=>ab l (hp.mem_iff.1 hl);exact .inr ⟨q,c,rfl,ae,by rw[As ac,hp.length_eq],ho⟩
theorem mblk_keep{B:Blk}(h:BlkOk C.W0 B)(hh:HRep C hp w)(hl:C.lent=[]:=by rfl):BlkOk w B:=
  h.of_heap (hh.keeps.block B.n h.lt (by rw[hl];simp))
theorem CapM.of_own{c b:Nat}(hh:HRep C hp w)(hc:(⟨c,[.map (some b)],T,1⟩:Blk)∈hp):CapM w c b/\c<w.heap.size:=
  ⟨(hh.cells _ hc).cell (o:=0) rfl,(hh.cells _ hc).lt⟩
theorem sorted_keys(gf:Nat)(lb:Array Value)(keys:List (List UInt8))(ah:A0 prog gf)(ai:keys.length<=100000)(ad:∀l∈keys,l.length=32):Meets prog 53 [.func (.func gf) #[] lb, .func (.func 51) #[] #[]] [] (λW=>KeySeq prog gf lb keys W) (λv out=>∃(s:Sl) (ks:List (List UInt8)),ks.Perm keys/\SortB ks/\v=s.v/\Hw.Acc s out (Aq ks) 31 ks.length 32):=by
 intro W hW;refine Ae func53 J 12 ntmps53 J (G8 ?_);refine .call4 J J J J J Body96 (collect_keys gf lb keys ah ai) (λw h=>hW.keep h) ?_;rintro v7 aa ⟨s7,ks,hp,rfl,ag⟩;refine G7 ?_;refine .callL (L:=aa) J J J J J Body47 (sort_acc s7 aa ks (λl hl=>ad l (hp.mem_iff.1 hl)) (by have:=hp.length_eq;omega) ag) sG (lent_ok J) (λw h=>Lies.of h (by repeat(exact Ap))) ?_;rintro v10 ab ⟨rfl,ak,ae,aj,ac⟩;refine G8 ?_;refine G2 ?_;refine Ao (out:=(ab++[])) (Ag J J) (Ac sG Ad) ?_;exact⟨s7,ak,ae.trans hp,aj,rfl,by rw[ae.length_eq];simpa using ac⟩
theorem dag_sortedB(M:MOk prog 82 31 37 (Ak 32 ev) z)(b:Nat)(fs:List (List UInt8×ν))(ab:∀p∈fs,p.1.length=32)(hn:fs.length<=100000):Meets prog 57 [.map (some b)] [] (λW=>BlkOk W (A3 b (Ak 32 ev) fs)) (λv out=>∃(s:Sl) (ks:List (List UInt8)),ks.Perm (fs.map (·.1))/\SortB ks/\v=s.v/\Hw.Acc s out (Aq ks) 31 ks.length 32):=by
 intro W hW;refine Ae func57 J 6 ntmps57 J (G8 ?_);refine .call4 J J J J J Body99 (mk_keysB b) tV ?_;rintro v4 ad ⟨c,rfl,rfl⟩;refine .call4 J J J J J Body53 (sorted_keys 147 #[ptr c 0] (fs.map (·.1)) Body147 (by simpa using hn) (λl hl=>by obtain⟨p,hp,rfl⟩:=La6.1 hl;exact ab p hp)) (λw h=>key_seqB M (mblk_keep (B:=A3 b (Ak 32 ev) fs) hW h) (CapM.of_own h Z0).1 (CapM.of_own h Z0).2) ?_;rintro v5 aa ⟨s5,ks,hp,hs,rfl,ac⟩;refine G3 ?_;refine G2 ?_;refine Ao (out:=(aa++[])) (Ag J J) (Ac sG Ad) ?_;exact⟨s5,ks,hp,hs,rfl,by simpa using ac⟩
theorem dag_sortedU(M:MOk prog 81 31 105 (Ak 32 ev) z)(b:Nat)(fs:List (List UInt8×ν))(ab:∀p∈fs,p.1.length=32)(hn:fs.length<=100000):Meets prog 60 [.map (some b)] [] (λW=>BlkOk W (A3 b (Ak 32 ev) fs)) (λv out=>∃(s:Sl) (ks:List (List UInt8)),ks.Perm (fs.map (·.1))/\SortB ks/\v=s.v/\Hw.Acc s out (Aq ks) 31 ks.length 32):=by
 intro W hW;refine Ae func60 J 6 ntmps60 J (G8 ?_);refine .call4 J J J J J Body100 (mk_keysU b) tV ?_;rintro v4 ad ⟨c,rfl,rfl⟩;refine .call4 J J J J J Body53 (sorted_keys 148 #[ptr c 0] (fs.map (·.1)) Body148 (by simpa using hn) (λl hl=>by obtain⟨p,hp,rfl⟩:=La6.1 hl;exact ab p hp)) (λw h=>key_seqU M (mblk_keep (B:=A3 b (Ak 32 ev) fs) hW h) (CapM.of_own h Z0).1 (CapM.of_own h Z0).2) ?_;rintro v5 aa ⟨s5,ks,hp,hs,rfl,ac⟩;refine G3 ?_;refine G2 ?_;refine Ao (out:=(aa++[])) (Ag J J) (Ac sG Ad) ?_;exact⟨s5,ks,hp,hs,rfl,by simpa using ac⟩
abbrev EV:=DEnt×DB
abbrev BV:=Block×DB
structure RV where
  s:Sl
  bl:List Blk
  ks:List (List UInt8)
def RV.none:RV:=⟨Sl.nil,[],[]⟩
structure RV.ok(r:RV):Prop where
  acc:Hw.Acc r.s r.bl (Aq r.ks) 31 r.ks.length 32
  r32:∀l∈r.ks,l.length=32
theorem RV.none_ok:RV.none.ok:=⟨.inl ⟨rfl,rfl,rfl,rfl⟩,λl h=>by cases h⟩
abbrev evE(x:EV):Value:=agg x.1.cells
abbrev evB(x:BV):Value:=agg x.1.cells
abbrev evU(_:Unit):Value:=agg []
abbrev evR(r:RV):Value:=r.s.v
theorem A25:WideMaps.ArrKey prog 31 5 32:=⟨Y31.h,by kernel_rfl,by kernel_rfl,by kernel_rfl⟩
theorem A23:WideMaps.ArrKey prog 29 5 32:=⟨Y29.h,by kernel_rfl,by kernel_rfl,by kernel_rfl⟩
theorem K25:Maps.Keyed prog 31:= .of_law (deep_law (m:=3) dE zK zK (by rw[Y31.h]))
theorem K23:Maps.Keyed prog 29:= .of_law (deep_law (m:=3) dE zK zK (by rw[Y29.h]))
theorem K87:Maps.Keyed prog 94:= .of_law (deep_law (m:=4) dE zK zK (by rw[underlying94]))
theorem size_pos:∃m,prog.types.size=m+1:=⟨prog.types.size-1,by kernel_rfl⟩
theorem size_two:∃m,prog.types.size=m+2:=⟨prog.types.size-2,by kernel_rfl⟩
theorem zr_run{v:Value}(h:Zr prog T v)(w:World):(zeroValue T).run prog w= .ok v w:=by
  unfold Zr at h;cases hi:prog.info? T with
  |none=>rw[hi]at h;cases h
  | some i=>
    rw[hi]at h;simp only[Lbx]at h;simp[zeroValue,typeInfo,hi,h]
theorem ME:MOk prog 80 31 91 (Ak 32 evE) (agg DEnt.zero.cells):=bytesT_ok _ Y80.h A25 Y5.h size_pos K25 (zr_run DEnt.zr)
theorem MH:MOk prog 81 31 105 (Ak 32 evU) (agg []):=bytesT_ok _ Y81.h A25 Y5.h size_pos K25 (zr_run Zr105)
theorem MO:MOk prog 82 31 37 (Ak 32 evB) (agg Block.zero.cells):=bytesT_ok _ Y82.h A25 Y5.h size_pos K25 (zr_run Block.zr)
theorem MW:MOk prog 84 29 32 (Ak 32 evR) (.slice none 0 0):=bytesT_ok _ underlying84 A23 Y5.h size_pos K23 (zr_run Zr32)
theorem MP:MOk prog 83 94 32 (placeT 32 evR) (.slice none 0 0):=
  placeT_ok _ underlying83 (λl x hl=>keyOf_place underlying94 rfl zK rfl rfl zK zK zK A23 Y5.h Y30.h zK size_two hl x) K87 (zr_run Zr32)
section
variable{κ ν μ:Type}[DecidableEq κ]
variable{fs:List (κ×ν)}{k:κ}{p:κ×ν}{v:ν}
theorem Bi(h:An fs k=some v):(k,v)∈fs:=by
  unfold An at h;cases hf:fs.find? (λp=>decide (p.1=k))with
  |none=>rw[hf]at h;cases h
  | some p=>
    rw[hf]at h;simp only[Lbj,La7]at h;have h1:=Lfs hf;have h2:=List.find?_some hf;simp only[decide_eq_true_eq]at h2;rw[<-h2,<-h];exact h1
theorem mput_mem(h:p∈Bh fs k v):p∈fs\/p=(k,v):=by
  unfold Bh at h;split at h
  .exact Ldy h
  . rcases La8.1 h with h|h
    .exact .inl h
    .exact .inr (La1.1 h)
theorem mdel_mem(h:p∈mdel fs k):p∈fs:=by
  unfold mdel at h;split at h
  .exact(Ldo _ _).subset h
  .exact h
theorem mput_len(fs:List (κ×ν))(k:κ)(v:ν):(Bh fs k v).length<=fs.length+1:=by
  unfold Bh;split
  .rw[Lbc];omega
  .simp
theorem mdel_len(fs:List (κ×ν))(k:κ):(mdel fs k).length<=fs.length:=by
  unfold mdel;split
  .exact(Ldo _ _).length_le
  .exact Lag _
theorem midx_map(f:ν->μ)(fs:List (κ×ν))(k:κ):midx (fs.map λp=>(p.1,f p.2)) k=midx fs k:=by
  unfold midx;rw[List.findIdx?_map];rfl
theorem mget_map(f:ν->μ)(fs:List (κ×ν))(k:κ):An (fs.map λp=>(p.1,f p.2)) k=(An fs k).map f:=by
  unfold An;rw[List.find?_map];cases h:fs.find? (λp=>decide (p.1=k))with
  | none=>
    have:List.find? ((λp:κ×μ=>decide (p.1=k))∘λp:κ×ν=>(p.1,f p.2)) fs=none:=h;rw[this];rfl
  | some p=>
    have:List.find? ((λp:κ×μ=>decide (p.1=k))∘λp:κ×ν=>(p.1,f p.2)) fs=some p:=h;rw[this];rfl
theorem mput_map(f:ν->μ)(fs:List (κ×ν))(k:κ)(v:ν):(Bh fs k v).map (λp=>(p.1,f p.2))=Bh (fs.map λp=>(p.1,f p.2)) k (f v):=by
  unfold Bh;rw[midx_map];split
  .rw[Leg]
  .rw[Lae];rfl
theorem mdel_map(f:ν->μ)(fs:List (κ×ν))(k:κ):(mdel fs k).map (λp=>(p.1,f p.2))=mdel (fs.map λp=>(p.1,f p.2)) k:=by
  unfold mdel;rw[midx_map];split
  .exact(ChangeMaps.map_eraseIdx ..)
  .rfl
theorem mput_mput(k:κ)(v v2:ν):Bh (Bh fs k v) k v2=Bh fs k v2:=by
  cases h:midx fs k with
  | some j=>
    have e1:Bh fs k v=fs.set j (k,v):=by unfold Bh;rw[h]
    have e2:Bh fs k v2=fs.set j (k,v2):=by unfold Bh;rw[h]
    have h2:midx (fs.set j (k,v)) k=some j:=by
      unfold midx at h ⊢;rw[Lbu]at h ⊢;obtain⟨hl,he,hn⟩:=h;refine⟨by simpa using hl,by simp,λi hi=>?_⟩;rw[List.getElem_set_ne oM];exact hn i hi
    rw[e1,e2];unfold Bh;rw[h2];simp
  | none=>
    have e1:Bh fs k v=fs++[(k,v)]:=by unfold Bh;rw[h]
    have e2:Bh fs k v2=fs++[(k,v2)]:=by unfold Bh;rw[h]
    have h2:midx (fs++[(k,v)]) k=some fs.length:=by
      unfold midx at h ⊢;rw[List.findIdx?_append,h];simp[List.findIdx?_cons]
    rw[e1,e2];unfold Bh;rw[h2];simp
theorem flat_set{α:Type}(f:α->List Blk){l:List α}{j:Nat}{x:α}(h:l[j]? =some x):∃R,(l.map f).flatten.Perm (f x++R)/\∀y,((l.set j y).map f).flatten.Perm (f y++R):=by
  obtain⟨hl,he⟩:=Laa.1 h;refine⟨((l.take j).map f).flatten++((l.drop (j+1)).map f).flatten,?_,?_⟩
  . have e:l=l.take j++x::l.drop (j+1):=by rw[<-he,<-Lbo hl,Lbt]
    have e2:(l.map f).flatten=((l.take j).map f).flatten++(f x++((l.drop (j+1)).map f).flatten):=by
      conv=>lhs;rw[e]
      simp[Lae,Lcb]
    rw[e2,<-Lab,<-Lab];exact Lcm _ Lcy
  . intro y
    have e:l.set j y=l.take j++y::l.drop (j+1):=Ldr .. |>.trans (by rw[if_pos hl]);have e2:((l.set j y).map f).flatten=((l.take j).map f).flatten++(f y++((l.drop (j+1)).map f).flatten):=by
      rw[e];simp[Lae,Lcb]
    rw[e2,<-Lab,<-Lab];exact Lcm _ Lcy
end
def rbl{κ:Type}(fs:List (κ×RV)):List Blk:=(fs.map λp=>p.2.bl).flatten
variable{B:Block}{C:Cx}{D:DB}{L ks l:List (List UInt8)}{a k kk n:List UInt8}{bl hp:List Blk}{e:EV}{hds:List (List UInt8×Unit)}{ob:BV}{p:Nat}{rp rw:RV}{s:Sl}{v:Value}{w:World}{κ ν:Type}{fs:List (κ×ν)}
theorem rbl_put[DecidableEq κ](fs:List (κ×RV))(k:κ):∃R,(rbl fs).Perm (((An fs k).getD RV.none).bl++R)/\∀r,(rbl (Bh fs k r)).Perm (r.bl++R):=by
  cases h:midx fs k with
  | some j=>
    have e:∀r,Bh fs k r=fs.set j (k,r):=λr=>by unfold Bh;rw[h]
    unfold midx at h;have hg:∃x,fs[j]? =some x/\An fs k=some x.2:=by
      have h2:=h;rw[Lbu]at h2;obtain⟨hl,he,hn⟩:=h2;refine⟨fs[j],La4 hl,?_⟩;unfold An;have h3:fs.find? (λq=>decide (q.1=k))=some fs[j]:=Ldb.2 ⟨he,j,hl,rfl,λi hi=>by simpa using hn i hi⟩;rw[h3];rfl
    obtain⟨x,hx,hm⟩:=hg;rw[hm];obtain⟨R,h1,h2⟩:=flat_set (λp:κ×RV=>p.2.bl) hx;exact⟨R,h1,λr=>by rw[e r];exact h2 (k,r)⟩
  | none=>
    have e:∀r,Bh fs k r=fs++[(k,r)]:=λr=>by unfold Bh;rw[h]
    have hm:An fs k=none:=by
      refine mget_none λp hp e2=>?_;unfold midx at h;rw[Ldg]at h;have:=h p hp;simp[e2]at this
    rw[hm];refine⟨rbl fs,Lco _,λr=>?_⟩;rw[e r];unfold rbl;simp only[Lae,Lcb,Lar,Lem,Lcv,Lhc,Law];exact Lcy
structure DD where
  nm:Sl
  nb:List Blk
  names:List (List UInt8)
  ent:List (List UInt8×EV)
  hds:List (List UInt8×Unit)
  orp:List (List UInt8×BV)
  pls:List ((List UInt8×UInt64)×RV)
  wrs:List (List UInt8×RV)
  cb:List Blk
  bE:Nat
  bH:Nat
  bO:Nat
  bP:Nat
  bW:Nat
def DD.blks(x:DD)(p:Nat):List Blk:=
  ⟨p,[ptr p 0,x.nm.v, .map (some x.bE), .map (some x.bH), .map (some x.bO), .map (some x.bP), .map (some x.bW)],86,7⟩::A3 x.bE (Ak 32 evE) x.ent::A3 x.bH (Ak 32 evU) x.hds::A3 x.bO (Ak 32 evB) x.orp::A3 x.bP (placeT 32 evR) x.pls::A3 x.bW (Ak 32 evR) x.wrs::(x.nb++(x.cb++(rbl x.pls++(rbl x.wrs++[]))))
def Held(cb:List Blk)(B:Block)(D:DB):Prop:=SameB B D/\∀W,Lies cb W->BlockIs W B D
structure DD.ok(x:DD):Prop where
  nm:Hw.Acc x.nm x.nb (Aq x.names) 31 x.names.length 32
  n32:∀l∈x.names,l.length=32
  big:x.names.length+x.orp.length<=20000
  orpn:x.orp.length<=64
  ent:∀p∈x.ent,p.1.length=32/\Held x.cb p.2.1.fBlock p.2.2/\0<=p.2.1.fDepth/\p.2.1.fDepth<=x.names.length
  entn:x.ent.length<=x.names.length
  hds:∀p∈x.hds,p.1.length=32
  hdsn:x.hds.length<=x.names.length
  orp:∀p∈x.orp,p.1.length=32/\Held x.cb p.2.1 p.2.2/\p.2.2.ls.length<=16
  pls:∀p∈x.pls,p.1.1.length=32/\p.2.ok/\p.2.ks.length<=x.names.length
  wrs:∀p∈x.wrs,p.1.length=32/\p.2.ok/\p.2.ks.length<=x.names.length
theorem DD.ok.entOk{x:DD}(h:x.ok)(hg:An x.ent k=some e):e.1.ok:=⟨(h.ent _ (Bi hg)).2.1.1.ok⟩
theorem DD.ok.orpOk{x:DD}(h:x.ok){e:BV}(hg:An x.orp k=some e):e.1.ok:=(h.orp _ (Bi hg)).2.1.1.ok
theorem DEnt.part{e:DEnt}(h:e.ok)(o n:Nat)(hn:o+n<=131):(e.cells.drop o).take n=(e.fBlock.cells.drop o).take n:=by
  have hl:=Block.length h.o_fBlock;unfold DEnt.cells;rw[Le8 oM,Lcp (by rw[Laz];omega)]
theorem Held.more{cb aa:List Blk}(h:Held cb B D)(hs:∀b∈cb,b∈aa):Held aa B D:=⟨h.1,λW hW=>h.2 W (hW.sub hs)⟩
def RowA(L:List (List UInt8))(v:Value)(out:List Blk):Prop:=∃s:Sl,v=s.v/\Hw.Acc s out (Aq L) 31 L.length 32
theorem fresh_rowA{n:Nat}(hr:∀l∈L,l.length=32)(hn:L.length=n){out:List Blk}(h:FreshRow v out (Aq L) 31 n 32):RowA L v out:=by
  obtain⟨q,c,h1,h2,h3⟩:=h;subst h3;subst hn;exact⟨⟨some ⟨q,0,none⟩,L.length,c⟩,h1,Acc.some h2 (As hr)⟩
theorem db_parA(B:Block)(D:DB)(hn:D.ls.length<=500000):Meets prog 58 [agg B.cells] [] (λW=>BlockIs W B D) (RowA (Bj D)):=λW hW=>by
  have e1:=hW.ls.len;have aa:=hW.seq;have hL:=parL_row hW.dok;by_cases hs:(B.fSeq.toNat:Int)=0
  . have hp:Bj D=D.ls:=if_pos (by rw[<-aa];exact Lbq.1 (by show B.fSeq.toNat=0;omega))
    rw[hp]at hL ⊢;by_cases h0:B.fLinks.n=0
    . have ab:D.ls=[]:=Lai oM
      exact(parents_nil B hW.ok D.ls oM hs h0 W hW.ls).mono λe W' ⟨v,out,h1,⟨h2,h3⟩,h4⟩=>⟨v,out,h1,⟨Sl.nil,h2,by rw[ab,h3];exact Acc.none⟩,h4⟩
    .exact(parents_0 B hW.ok D.ls oM hs oM W hW.ls).mono λe W' ⟨v,out,h1,h2,h4⟩=>⟨v,out,h1,fresh_rowA hL e1 h2,h4⟩
  . have hp:Bj D=D.prev::D.ls:=if_neg (λe=>hs (by rw[aa,e];rfl))
    rw[hp]at hL ⊢;rw[<-hW.prev]at hL ⊢;exact(parents_s B hW.ok D.ls oM hs W hW.ls).mono λe W' ⟨v,out,h1,h2,h4⟩=>⟨v,out,h1,fresh_rowA hL (by rw[Lax];omega) h2,h4⟩
def DD.P(x:DD):List (List UInt8×DB):=x.ent.map λp=>(p.1,p.2.2)
theorem DD.getP(x:DD)(k:List UInt8):An x.P k=(An x.ent k).map (·.2):=mget_map (λe:EV=>e.2) x.ent k
def wrongB(P:List (List UInt8×DB))(D:DB):Bool:=decide (D.seq≠0)&&(match An P D.prev with|none=>false|some e=>decide (e.w≠D.w)||decide (e.seq≠D.seq-1))
def readyB(P:List (List UInt8×DB))(D:DB):Bool:=(Bj D).all λn=>(An P n).isSome
def Bv(P:List (List UInt8×DB))(D:DB):Int:=if wrongB P D=true then 2 else if readyB P D=true then 1 else 0
theorem parL_len(D:DB):(Bj D).length<=D.ls.length+1:=by unfold Bj;split<;>simp
theorem judge_wrong{P:List (List UInt8×DB)}(h:wrongB P D=true):Bv P D=2:=if_pos h
theorem judge_waits{P:List (List UInt8×DB)}(h:wrongB P D=false){k:Nat}(hk:k<(Bj D).length)(hn:An P ((Bj D).getD k [])=none):Bv P D=0:=by
  have h2:readyB P D=false:=by
    unfold readyB;rw[Lh0];refine⟨(Bj D)[k],Lcq hk,?_⟩;rw[La3,La4 hk]at hn;simp only[Lbw]at hn;rw[hn];simp
  unfold Bv;rw[h,h2];rfl
theorem judge_fits{P:List (List UInt8×DB)}(h:wrongB P D=false)(aa:∀j,j<(Bj D).length->(An P ((Bj D).getD j [])).isSome=true):Bv P D=1:=by
  have h2:readyB P D=true:=by
    unfold readyB;rw[Lbf];intro n hn;obtain⟨j,hj,rfl⟩:=Lb8 hn;have:=aa j hj;rwa[La3,La4 hj]at this
  unfold Bv;rw[h,h2];rfl
theorem u64_ne{a b:UInt64}(h:¬((a.toNat:Int)=(b.toNat:Int))):a≠b:=λe=>h (by rw[e])
theorem u64_eq{a b:UInt64}(h:(a.toNat:Int)=(b.toNat:Int)):a=b:=Lbq.1 oM
theorem wrong_seq{P:List (List UInt8×DB)}(h:D.seq=0):wrongB P D=false:=by simp[wrongB,h]
theorem wrong_none{P:List (List UInt8×DB)}(h:An P D.prev=none):wrongB P D=false:=by simp[wrongB,h]
theorem wrong_some{P:List (List UInt8×DB)}{D e:DB}(hs:D.seq≠0)(h:An P D.prev=some e):wrongB P D=(decide (e.w≠D.w)||decide (e.seq≠D.seq-1)):=by simp[wrongB,h,hs]
def DagSee(x:DD)(p:Nat)(W:World):Prop:=BlkOk W ⟨p,[ptr p 0,x.nm.v, .map (some x.bE), .map (some x.bH), .map (some x.bO), .map (some x.bP), .map (some x.bW)],86,7⟩/\BlkOk W (A3 x.bE (Ak 32 evE) x.ent)
theorem DagSee.of{x:DD}(hh:HRep C hp w)(h1:⟨p,[ptr p 0,x.nm.v, .map (some x.bE), .map (some x.bH), .map (some x.bO), .map (some x.bP), .map (some x.bW)],86,7⟩∈hp)(h2:A3 x.bE (Ak 32 evE) x.ent∈hp):DagSee x p w:=⟨hh.cells _ h1,hh.cells _ h2⟩
theorem DagSee.at{x:DD}{W:World}(h:DagSee x p W){o:Nat}(hv:[ptr p 0,x.nm.v, .map (some x.bE), .map (some x.bH), .map (some x.bO), .map (some x.bP), .map (some x.bW)][o]? =some v):W.cell? ⟨p,o,none⟩=some v:=h.1.cell hv
theorem DagSee.ext{x:DD}(hh:HRep C hp w)(h:DagSee x p C.W0)(hl:C.lent=[]:=by rfl):DagSee x p w:=⟨mblk_keep h.1 hh hl,mblk_keep h.2 hh hl⟩
theorem dag_new  :Meets prog 41 [] [] (λ_=>True) (λv out=>∃p bE bH bO bP bW,v=ptr p 0/\out=(⟨Sl.nil,[],[],[],[],[],[],[],[],bE,bH,bO,bP,bW⟩:DD).blks p):=by
 intro W hW;refine Ae func41 J 14 ntmps41 J (G7 ?_);refine .mkMap (Ak 32 evE) J J ?_;intro bE;refine .mkMap (Ak 32 evU) J J ?_;intro bH;refine .mkMap (Ak 32 evB) J J ?_;intro bO;refine .mkMap (placeT 32 evR) J J ?_;intro bP;refine .mkMap (Ak 32 evR) J J ?_;intro bW;refine .build (cs:=[.pointer none, .slice none 0 0, .map (some bE), .map (some bH), .map (some bO), .map (some bP), .map (some bW)]) J J J (λw=>by kernel_rfl) ?_;refine G1 ?_;intro n8 ab aa;refine G9 ?_;refine .s1 J J J J J Sz25 Z0 sP (by rfl) zU ?_;refine G8 ?_;refine G2 ?_;refine Ao (out:=(⟨n8,[ptr n8 0, .slice none 0 0, .map (some bE), .map (some bH), .map (some bO), .map (some bP), .map (some bW)],86,7⟩::(A3 bE (Ak 32 evE) []::(A3 bH (Ak 32 evU) []::(A3 bO (Ak 32 evB) []::(A3 bP (placeT 32 evR) []::(A3 bW (Ak 32 evR) []::[]))))))) (Ag J J) (Ab rM (Ab rM (Ab rM (Ab rM (Ab rM (Ab rM Ad)))))) ?_;exact⟨n8,bE,bH,bO,bP,bW,rfl,rfl⟩
theorem dag_valid(x:DD)(p:Nat):Mv 45 [ptr p 0] (λW=>DagSee x p W) (.bool true):=by
 intro W hW;refine Ae func45 J 13 ntmps45 J (G8 ?_);refine .neqNilP J J J J Y25.h (G4 ?_);refine .loadE J J J Y25.h J sP (hW.at (o:=0) J) (G1 ?_);refine .eqSameP J J J J Y25.h Sz86 (G4 ?_);refine G2 ?_;refine⟨_,[],Ag J J,sP,sP,?_,rfl⟩;rfl
theorem dag_has(x:DD)(hx:x.ok)(p:Nat)(n:List UInt8)(aa:n.length=32):Mv 59 [ptr p 0,agg (Aa n)] (λW=>DagSee x p W) (.bool (An x.ent n).isSome):=by
 intro W hW;refine Ae func59 J 20 ntmps59 J (G3 ?_);intro n3 ae ad;refine G7 ?_;refine .cV J J J J Body45 (dag_valid x p) (λw h=>hW.ext h) (G3 ?_);refine .cond_f J J (G3 ?_);refine .draw (oPq [0,1,2,103,104,105,6,7,8,209,410,11]) Au zK (G3 ?_);refine .loadE J J J Y80.h J sP (hW.at (o:=2) J) (.lA J J J Y31.h J Sz31 Z0 (by(simp[aa];done)) ?_);refine .lookFC evE ME hW.2 sP J J J J aa (λhg=>?_) (λe hg=>?_)
 ·
  skip;refine G3 ?_;refine .alloc (cs:=DEnt.zero.cells) J DEnt.zr J ?_;intro n5 ac ab;refine G10 ?_;refine G2 ?_;refine⟨_,[],Ag J J,sP,sP,?_,rfl⟩;rw[hg];rfl
 skip;refine G3 ?_;refine .alloc (cs:=DEnt.zero.cells) J DEnt.zr J ?_;intro n5 ac ab;refine .sA J J J J (DEnt.isCell (by exact hx.entOk hg)) Sz91 (DEnt.length (by exact hx.entOk hg)) Z0 (DEnt.length (by exact DEnt.zero_ok)) zU ?_;refine G9 ?_;refine G2 ?_;refine⟨_,[],Ag J J,sP,sP,?_,rfl⟩;rw[hg];rfl
theorem dag_judge(x:DD)(hx:x.ok)(p:Nat)(B:Block)(D:DB)(hB:SameB B D)(hs:D.ls.length<=500000):Mv 85 [ptr p 0,agg B.cells] (λW=>DagSee x p W/\BlockIs W B D) (i64 (Bv x.P D)):=by
 intro W hW;have aj:=parL_row hW.2.dok;refine Ae func85 J 61 ntmps85 J (G3 ?_);intro n3 a6 ay;refine G3 ?_;refine .join (ι:=Unit) (λu=>⟨[(0,ptr p 0),(3,ptr n3 0)],[⟨n3,B.cells,37,B.cells.length⟩]⟩) (λu=>wrongB x.P D=false) ?_ ?_
 ·
  refine G3 ?_;refine .load1 J J J Y30.h J Z0 (by exact Block.get_fSeq (by exact hB.ok)) ?_;refine G3 ?_;refine .condP J (λah=>?_) (λah=>?_)
  ·
   refine .seq (.draw (oPq [0,1,2,103,4,105,106,7,8,9,210,411,12]) Au zK (G3 ?_));refine .loadE J J J Y80.h J sP (hW.1.at (o:=2) J) (G1 ?_);refine .lN (Aa _) J J J Y31.h J Sz31 Z0 (Block.row_fPrev (by exact hB.ok)) (Block.rl_fPrev (by exact hB.ok)) ?_;refine .lookFC evE ME hW.1.2 sP J J J J hB.ok.l_fPrev (λhg=>?_) (λe hg=>?_)
   ·
    skip;refine G3 ?_;refine .alloc (cs:=DEnt.zero.cells) J DEnt.zr J ?_;intro n5 au ap;refine G26 ?_;refine .cond_f J J (G2 ?_);exact⟨(),wrong_none (by rw[x.getP,<-hB.prev,hg];rfl),Af wN (Ab rM Ad)⟩
   have he:=(hx.ent _ (Bi hg)).2.1.1;have hP:An x.P D.prev=some e.2:=by rw[x.getP,<-hB.prev,hg];rfl
   have ak:D.seq≠0:=λh=>by rw[hB.seq,h]at ah;simp at ah
   refine G3 ?_;refine .alloc (cs:=DEnt.zero.cells) J DEnt.zr J ?_;intro n5 au ap;refine .sA J J J J (DEnt.isCell (by exact hx.entOk hg)) Sz91 (DEnt.length (by exact hx.entOk hg)) Z0 (DEnt.length (by exact DEnt.zero_ok)) zU ?_;refine G9 ?_;have aw:=(hx.entOk hg).o_fBlock.l_fWriter;refine .lN (Aa e.1.fBlock.fWriter) J J J Y29.h J Sz29 Z0 ((DEnt.part (hx.entOk hg) 0 32 dE).trans (Block.row_fWriter (hx.entOk hg).o_fBlock)) (by rw[Aa,La0];exact aw) ?_;refine G1 ?_;refine .lN (Aa _) J J J Y29.h J Sz29 Z1 (Block.row_fWriter (by exact hB.ok)) (Block.rl_fWriter (by exact hB.ok)) ?_;refine two (λr hr k=>Tr.neq_bytes J J J J eqGuardType29 Y29.h Y5.h Sz5 zA (by(simp[hB.ok.l_fWriter];done)) hr k) (λaa=>?_) (λaa=>?_)
   ·
    have ab:=nd_t aa;refine G12 ?_;refine .cond_t J J (G5 ?_);refine G3 ?_;refine⟨_,[],Ag J J,sP,sP,?_,rfl⟩;rw[judge_wrong (by rw[wrong_some ak hP,<-he.w,<-hB.w];simp[ab])]
   have ab:=nd_f aa;refine G3 ?_;refine .load1 J J J Y30.h J Z0 (DEnt.see_fBlock (hx.entOk hg) 32 _ (Block.get_fSeq (hx.entOk hg).o_fBlock)) ?_;refine G1 ?_;refine .load1 J J J Y30.h J Z1 (by exact Block.get_fSeq (by exact hB.ok)) ?_;refine .sub_u64 J J J (show Ai _ _=some (u64 1)from rfl) (G5 ?_);refine .condNP J (λai=>?_) (λai=>?_)
   ·
    refine G5 ?_;refine G3 ?_;refine⟨_,[],Ag J J,sP,sP,?_,rfl⟩;rw[judge_wrong (by have h9:=u64_ne ai;rw[wrong_some ak hP,<-he.seq,<-hB.seq];simp[h9])]
   refine G2 ?_;exact⟨(),(by have h9:=u64_eq ai;rw[wrong_some ak hP,<-he.w,<-he.seq,<-hB.w,<-hB.seq,ab,h9];simp),Af wN (Ab rM Ad)⟩
  refine G2 ?_;exact⟨(),wrong_seq (by rw[<-hB.seq];exact u64_eq (b:=0) (by have h9:((0:UInt64).toNat:Int)=0:=rfl;omega)),Af wN (Ab rM Ad)⟩
 intro u hj;skip;refine G3 ?_;refine .lA J J J Y37.h J Sz37 Z0 (Block.length (by exact hB.ok)) ?_;refine .call4 J J J J J Body58 (db_parA B D hs) (λw h=>hW.2.ext h J) ?_;rintro ba am ⟨an,rfl,ao⟩;have ax:an.n=(Bj D).length:=ao.num;refine G5 ?_;refine .loop (ι:=Nat) (λk=>⟨[(0,ptr p 0),(3,ptr n3 0),(43,an.v),(44,i64 (an.n:Int)),(45,i64 (k:Int))],(⟨n3,B.cells,37,B.cells.length⟩::(am++[]))⟩) (λk=>k<=(Bj D).length/\∀j,j<k->(An x.P ((Bj D).getD j [])).isSome=true) (λk=>(Bj D).length-k) (0) ?_ ?_ ?_
 .exact⟨Laf _,λj hj=>by omega⟩
 .exact Af wN (Ab (by repeat(first|exact A4|apply Bq)) (Ac sG Ad))
 rintro k ⟨ar,ac⟩;refine G6 ?_;refine .condP J (λhc2=>?_) (λhc2=>?_)
 ·
  refine G6 ?_;have hk:k<(Bj D).length:=by omega
  have a2:k<=600000:=by have:=parL_len D;omega
  rcases ao with ⟨_,_,_,h0⟩|⟨qr,cr,rfl,a8,a1,rfl⟩
  .exfalso;omega
  have ag:=aj;obtain⟨kk,ad⟩:∃kk,kk=(Bj D).getD k []:=⟨_,rfl⟩;have ae:kk.length=32:=by rw[ad,La3,La4 hk];exact ag _ (Lcq hk)
  refine .idxSlP 32 J J J J J Y32.h Sz31 k J oM (.loadSN (n:=32) (Aa kk) J J J Y31.h J Sz31 (by rw[Aa,La0];exact ae) (λw h=>by rw[ad];simpa using Bk ag (Ar h Z1) hk) ?_);refine .alloc (cs:=(Aa (List.replicate 32 0))) J Bz J ?_;intro n8 a7 az;refine .sA J J J J zE Sz31 (by(rw[Aa,La0];assumption)) Z0 sP zU ?_;refine G3 ?_;refine .draw (oPq [0,1,2,103,104,105,6,7,8,209,410,11]) Au zK (G3 ?_);refine .loadE J J J Y80.h J sP (hW.1.at (o:=2) J) (.lA J J J Y31.h J Sz31 Z0 (by(rw[Aa,La0];assumption)) ?_);refine .lookFC evE ME hW.1.2 sP J J J J ae (λhg=>?_) (λe hg=>?_)
  ·
   skip;refine G3 ?_;refine .alloc (cs:=DEnt.zero.cells) J DEnt.zr J ?_;intro n9 av aq;refine G10 ?_;refine .cond_t J J (G5 ?_);refine G7 ?_;refine⟨_,[],Ag J J,sP,sP,?_,rfl⟩;rw[judge_waits hj hk (by rw[<-ad,x.getP,hg];rfl)]
  skip;refine G3 ?_;refine .alloc (cs:=DEnt.zero.cells) J DEnt.zr J ?_;intro n9 av aq;refine .sA J J J J (DEnt.isCell (by exact hx.entOk hg)) Sz91 (DEnt.length (by exact hx.entOk hg)) Z0 (DEnt.length (by exact DEnt.zero_ok)) zU ?_;refine G9 ?_;refine .cond_f J J (G8 ?_);exact⟨k+1,⟨hk,λj hj=>by rcases Lfb (Lgv hj)with h|h;exact ac j h;rw[h,<-ad,x.getP,hg];rfl⟩,by omega,Af wN (Ab rM (Ac sG Ad))⟩
 refine G10 ?_;refine G2 ?_;refine⟨_,[],Ag J J,sP,sP,?_,rfl⟩;rw[judge_fits hj (by rw[Nat.le_antisymm ar oM]at ac;exact ac)]
theorem dag_clone(B:Block)(D:DB)(hB:SameB B D)(h1:D.ls.length<=90000)(h2:D.ds.length<=90000):Meets prog 52 [agg B.cells] [] (λW=>BlockIs W B D) (BlkV D):=by
 intro W hW;have f1:(Aq D.ls).length=B.fLinks.n*32:=by rw[As hW.ls.row,hW.ls.len]
 have f2:(Aa D.ds).length=B.fData.n*1:=by rw[Aa,La0,hB.dn];omega
 have g1:=hB.ln;have g2:=hB.dn;refine Ae func52 J 12 ntmps52 J (G3 ?_);intro n1 aj ah;refine .alloc (cs:=Block.zero.cells) J Block.zr J ?_;intro n2 ak ai;refine G3 ?_;refine .draw (oPq [0,101,3,104,302,6,305,407,8,409]) Au zK (G1 ?_);refine .load1 J J J Y32.h J Z1 (by exact Block.get_fLinks (by exact hB.ok)) ?_;refine G1 ?_;refine .load1 J J J Y33.h J Z1 (by exact Block.get_fData (by exact hB.ok)) ?_;refine .call J J J J Body46 (cl_digs B.fLinks D.ls oM) (acc_loose _ _ _ _ f1) (λw h=>(hW.ext h J).ls) ?_;rintro v5 ac ⟨⟨p5,n5,c5⟩,rfl,aa⟩;have ae:=aa.num;refine G1 ?_;refine .call J J J J Body95 (cl_byte B.fData D.ds oM) (acc_loose _ _ _ _ f2) (λw h=>(hW.ext h J).ds) ?_;rintro v8 ad ⟨⟨p8,n8,c8⟩,rfl,ab⟩;have ag:=ab.num;refine .s1 J J J J J Sz32 mR (by rw[Block.length (by exact hB.ok)];decide) (by exact Block.set_fLinks (by exact hB.ok) _) uU ?_;refine G1 ?_;refine .s1 J J J J J Sz33 mR (by rw[Block.length (by exact⟨hB.ok.l_fWriter,hB.ok.l_fPrev,hB.ok.l_fSig⟩)];decide) (by exact Block.set_fData (by exact⟨hB.ok.l_fWriter,hB.ok.l_fPrev,hB.ok.l_fSig⟩) _) uU ?_;refine G4 ?_;refine .lA J J J Y37.h J Sz37 mR (Block.length (by exact⟨hB.ok.l_fWriter,hB.ok.l_fPrev,hB.ok.l_fSig⟩)) ?_;refine .sA J J J J (Block.isCell (by exact⟨hB.ok.l_fWriter,hB.ok.l_fPrev,hB.ok.l_fSig⟩)) Sz37 (Block.length (by exact⟨hB.ok.l_fWriter,hB.ok.l_fPrev,hB.ok.l_fSig⟩)) mR (Block.length (by exact Block.zero_ok)) (by(repeat(first|exact upd0|apply Upd.seg))) ?_;refine G2 ?_;refine G2 ?_;refine Ao (out:=(ad++(ac++[]))) (Ax J J Y37.h J Sz37 mR (by exact Block.length (by exact⟨hB.ok.l_fWriter,hB.ok.l_fPrev,hB.ok.l_fSig⟩))) (Ac sG (Ac sG Ad)) ?_;exact⟨{ B with fLinks:=⟨p5,n5,c5⟩,fData:=⟨p8,n8,c8⟩ },⟨⟨hB.ok.l_fWriter,hB.ok.l_fPrev,hB.ok.l_fSig⟩,hB.w,hB.seq,hB.prev,hB.sg,ae.trans g1,ag.trans g2⟩,rfl,λW2 hl=>⟨⟨hB.ok.l_fWriter,hB.ok.l_fPrev,hB.ok.l_fSig⟩,hB.w,hB.seq,hB.prev,acc_rows aa (hl.sub (by repeat(first|exact Ap|refine A5 ?_))) hW.ls.row hW.ls.len oM,acc_bytes ab (hl.sub (by repeat(exact Ap))) g2.symm oM,hB.sg⟩⟩
def stepD(ent:List (List UInt8×EV))(d:Int)(n:List UInt8):Int:=if((An ent n).map λe=>e.1.fDepth).getD 0+1>d then((An ent n).map λe=>e.1.fDepth).getD 0+1 else d
def depL(ent:List (List UInt8×EV))(L:List (List UInt8)):Int:=L.foldl (stepD ent) 0
def delL(hds:List (List UInt8×Unit))(L:List (List UInt8)):List (List UInt8×Unit):=L.foldl mdel hds
theorem take_one{α:Type}{L:List α}{k:Nat}{a:α}{d:α}(hk:k<L.length)(ha:a=L.getD k d):L.take (k+1)=L.take k++[a]:=by
  rw[ha,La3,La4 hk,Las hk];rfl
theorem depL_none{x:DD}{k:Nat}(hk:k<L.length)(ha:a=L.getD k [])(h:An x.ent a=none):depL x.ent (L.take (k+1))=if(0:Int)+1>depL x.ent (L.take k)then 0+1 else depL x.ent (L.take k):=by
  unfold depL;rw[take_one hk ha,Ldx];simp only[Le2,Lgj,stepD,h,Option.map_none,Lh9]
theorem depL_some{x:DD}{k:Nat}(hk:k<L.length)(ha:a=L.getD k [])(h:An x.ent a=some e):depL x.ent (L.take (k+1))=if e.1.fDepth+1>depL x.ent (L.take k)then e.1.fDepth+1 else depL x.ent (L.take k):=by
  unfold depL;rw[take_one hk ha,Ldx];simp only[Le2,Lgj,stepD,h,Lbj,Lbw]
theorem delL_one{k:Nat}(hk:k<L.length)(ha:a=L.getD k []):delL hds (L.take (k+1))=mdel (delL hds (L.take k)) a:=by
  unfold delL;rw[take_one hk ha,Ldx];rfl
theorem delL_mem:∀p∈delL hds L,p∈hds:=by
  unfold delL
  induction L generalizing hds with
  |nil=>intro p h;exact h
  |cons a L ih=>intro p h;exact mdel_mem (ih p h)
theorem delL_len{hds:List (List UInt8×Unit)}{L:List (List UInt8)}:(delL hds L).length<=hds.length:=by
  unfold delL
  induction L generalizing hds with
  |nil=>exact Lag _
  |cons a L ih=>exact Lbd ih (mdel_len _ _)
def DD.adm(x:DD)(s:Sl)(bl:List Blk)(n:List UInt8)(B:Block)(D:DB)(rp rw:RV):DD:=
  { x with nm:=s,nb:=bl,names:=x.names++[n],ent:=Bh x.ent n (⟨B,depL x.ent (Bj D)⟩,D),hds:=Bh (delL x.hds (Bj D)) n (),pls:=Bh x.pls (B.fWriter,B.fSeq) rp,wrs:=Bh x.wrs B.fWriter rw }
def MoreR(old:Option RV)(n:List UInt8)(r:RV):Prop:=r.ok/\r.ks=(old.getD RV.none).ks++[n]
theorem DD.ok.plsR{x:DD}(hx:x.ok)(k:List UInt8×UInt64):((An x.pls k).getD RV.none).ok/\((An x.pls k).getD RV.none).ks.length<=x.names.length:=by
  cases h:An x.pls k with
  |none=>exact⟨RV.none_ok,Laf _⟩
  |some r=>exact(hx.pls _ (Bi h)).2
theorem DD.ok.wrsR{x:DD}(hx:x.ok)(k:List UInt8):((An x.wrs k).getD RV.none).ok/\((An x.wrs k).getD RV.none).ks.length<=x.names.length:=by
  cases h:An x.wrs k with
  |none=>exact⟨RV.none_ok,Laf _⟩
  |some r=>exact(hx.wrs _ (Bi h)).2
theorem depL_le{x:DD}(hx:x.ok)(L:List (List UInt8)):0<=depL x.ent L/\depL x.ent L<=x.names.length+1:=by
  have key:∀(L:List (List UInt8)) (d:Int),0<=d->d<=x.names.length+1->0<=L.foldl (stepD x.ent) d/\L.foldl (stepD x.ent) d<=x.names.length+1:=by
    intro L
    induction L with
    |nil=>intro d h0 h1;exact⟨h0,h1⟩
    | cons a L ih=>
      intro d h0 h1;refine ih _ ?_ ?_<;>unfold stepD<;>cases h:An x.ent a with
      |none=>simp only[Option.map_none,Lh9];split<;>omega
      | some e=>
        have:=(hx.ent _ (Bi h)).2.2;simp only[Lbj,Lbw];simp only at this;split<;>omega
  exact key L 0 (Int.le_refl _) oM
theorem DD.ok.adm{x:DD}(hx:x.ok)(aa:n.length=32)(hB:Held x.cb B D)(ab:x.names.length+x.orp.length<20000)
    (hs:Hw.Acc s bl (Aq x.names++Aa n) 31 (x.names.length+1) 32) (hp:MoreR (An x.pls (B.fWriter,B.fSeq)) n rp) (hw:MoreR (An x.wrs B.fWriter) n rw):(x.adm s bl n B D rp rw).ok where
  nm:=by
    show Hw.Acc s bl (Aq (x.names++[n])) 31 (x.names++[n]).length 32;rw[La2,Br];simpa[Aq]using hs
  n32:=λl hl=>by rcases La8.1 hl with h|h;exact hx.n32 l h;rw[La1.1 h];exact aa
  big:=by show(x.names++[n]).length+x.orp.length<=20000;rw[La2,Laq];omega
  ent :=λp hp=>by
    have e:((x.names++[n]).length:Int)=x.names.length+1:=by rw[La2,Laq];rfl
    show p.1.length=32/\Held x.cb p.2.1.fBlock p.2.2/\0<=p.2.1.fDepth/\p.2.1.fDepth<=((x.names++[n]).length:Int);rw[e];rcases mput_mem hp with h|h
    . have:=hx.ent p h
      exact⟨this.1,this.2.1,this.2.2.1,by omega⟩
    . subst h
      exact⟨aa,hB,depL_le hx _⟩
  entn:=by
    show(Bh x.ent n _).length<=(x.names++[n]).length;rw[La2,Laq];exact Lbd (mput_len ..) (by have:=hx.entn;omega)
  hds:=λp hp=>by
    rcases mput_mem hp with h|h
    .exact hx.hds p (delL_mem p h)
    .subst h;exact aa
  hdsn:=by
    show(Bh _ n _).length<=(x.names++[n]).length;rw[La2,Laq];exact Lbd (mput_len ..) (by have:=hx.hdsn;have:= @delL_len x.hds (Bj D);omega)
  orp:=hx.orp
  orpn:=hx.orpn
  pls :=λp h=>by
    show p.1.1.length=32/\p.2.ok/\p.2.ks.length<=(x.names++[n]).length;rw[La2,Laq];rcases mput_mem h with h|h
    . have:=hx.pls p h
      exact⟨this.1,this.2.1,by omega⟩
    . subst h
      refine⟨hB.1.ok.l_fWriter,hp.1,?_⟩;show rp.ks.length<=_;rw[hp.2,La2,Laq];have:=(hx.plsR (B.fWriter,B.fSeq)).2;omega
  wrs :=λp h=>by
    show p.1.length=32/\p.2.ok/\p.2.ks.length<=(x.names++[n]).length;rw[La2,Laq];rcases mput_mem h with h|h
    . have:=hx.wrs p h
      exact⟨this.1,this.2.1,by omega⟩
    . subst h
      refine⟨hB.1.ok.l_fWriter,hw.1,?_⟩;show rw.ks.length<=_;rw[hw.2,La2,Laq];have:=(hx.wrsR B.fWriter).2;omega
theorem dag_admit(x:DD)(hx:x.ok)(p:Nat)(n:List UInt8)(aa:n.length=32)(B:Block)(D:DB)(hB:Held x.cb B D)(hs:D.ls.length<=500000)(a2:x.names.length+x.orp.length<20000):Meets prog 86 [ptr p 0,agg (Aa n),agg B.cells] ((x.blks p).map (·.n)) (λW=>Lent (x.blks p) W) (λv out=>v= .tuple #[]/\∃s bl rp rw,out=(x.adm s bl n B D rp rw).blks p/\(x.adm s bl n B D rp rw).ok/\MoreR (An x.pls (B.fWriter,B.fSeq)) n rp/\MoreR (An x.wrs B.fWriter) n rw):=by
 intro W hW;have bg:=hB.2 W (hW.1.sub (by unfold DD.blks;exact(by repeat(first|exact Ap|refine A1 ?_|refine A5 ?_))));have ay:=parL_row bg.dok;have a6:((⟨B.fWriter,B.fSeq⟩:DPl)).ok:=⟨hB.1.ok.l_fWriter⟩;have bo:=hx.big;refine calls_of (hp0:=(⟨p,[ptr p 0,x.nm.v, .map (some x.bE), .map (some x.bH), .map (some x.bO), .map (some x.bP), .map (some x.bW)],86,7⟩::A3 x.bE (Ak 32 evE) (x.ent)::A3 x.bH (Ak 32 evU) (x.hds)::A3 x.bO (Ak 32 evB) (x.orp)::A3 x.bP (placeT 32 evR) (x.pls)::A3 x.bW (Ak 32 evR) (x.wrs)::(x.nb++(x.cb++(rbl x.pls++(rbl x.wrs++[])))))) func86 J 85 ntmps86 J hW.rep (G3 ?_);intro n4 b5 bu;refine G1 ?_;intro n5 b6 bv;refine G10 ?_;refine .lA J J J Y37.h J Sz37 Z0 (Block.length (by exact hB.1.ok)) ?_;refine .call4 J J J J J Body58 (db_parA B D hs) (λw h=>hB.2 w (Lies.of h (by repeat(first|exact Ap|refine A1 ?_|refine A5 ?_)))) ?_;rintro ce a7 ⟨a8,rfl,be⟩;have bp:a8.n=(Bj D).length:=be.num;refine G5 ?_;refine .loop (ι:=Nat×Int×List (List UInt8×Unit)) (λq=>⟨[(0,ptr p 0),(4,ptr n4 0),(5,ptr n5 0),(6,i64 q.2.1),(11,a8.v),(12,i64 (a8.n:Int)),(13,i64 (q.1:Int))],(⟨n5,B.cells,37,B.cells.length⟩::(⟨n4,Aa n,31,(Aa n).length⟩::(⟨p,[ptr p 0,x.nm.v, .map (some x.bE), .map (some x.bH), .map (some x.bO), .map (some x.bP), .map (some x.bW)],86,7⟩::(A3 x.bE (Ak 32 evE) (x.ent)::(A3 x.bH (Ak 32 evU) (q.2.2)::(A3 x.bO (Ak 32 evB) (x.orp)::(A3 x.bP (placeT 32 evR) (x.pls)::(A3 x.bW (Ak 32 evR) (x.wrs)::(x.nb++(x.cb++(rbl x.pls++(rbl x.wrs++(a7++[])))))))))))))⟩) (λq=>q.1<=(Bj D).length/\q.2.1=depL x.ent ((Bj D).take q.1)/\q.2.2=delL x.hds ((Bj D).take q.1)) (λq=>(Bj D).length-q.1) ((0,0,x.hds)) ?_ ?_ ?_
 .exact⟨Laf _,rfl,rfl⟩
 .exact Af wN (Ab (by repeat(first|exact A4|apply Bq)) (Ab (by repeat(first|exact A4|apply Bq)) (Ab (by repeat(first|exact A4|apply Bq)) (Ab (by repeat(first|exact A4|apply Bq)) (Ab (by repeat(first|exact A4|apply Bq)) (Ab (by repeat(first|exact A4|apply Bq)) (Ab (by repeat(first|exact A4|apply Bq)) (Ab (by repeat(first|exact A4|apply Bq)) (Ac (by repeat(first|exact B9|apply Cj)) (Ac (by repeat(first|exact B9|apply Cj)) (Ac (by repeat(first|exact B9|apply Cj)) (Ac (by repeat(first|exact B9|apply Cj)) (Ac sG Ad)))))))))))))
 rintro⟨k,dp,hd⟩ ⟨bm,am,ar⟩;simp only at bm am ar ⊢;have bj:=depL_le hx ((Bj D).take k);rw[<-am]at bj;refine G6 ?_;refine .condP J (λbi=>?_) (λbi=>?_)
 ·
  refine G6 ?_;have hk:k<(Bj D).length:=by omega
  have b4:k<=600000:=by have:=parL_len D;omega
  rcases be with ⟨_,_,_,h0⟩|⟨qr,cr,rfl,b9,b3,rfl⟩
  .exfalso;omega
  obtain⟨kk,an⟩:∃kk,kk=(Bj D).getD (k) []:=⟨_,rfl⟩;have ai:kk.length=32:=by rw[an,La3,La4 hk];exact ay _ (Lcq hk)
  refine .idxSlP 32 J J J J J Y32.h Sz31 (k) J oM (.loadSN (n:=32) (Aa kk) J J J Y31.h J Sz31 (by rw[Aa,La0];exact ai) (λw h=>by rw[an];simpa using Bk ay (Ar h mR) hk) ?_);refine .alloc (cs:=(Aa (List.replicate 32 0))) J Bz J ?_;intro n8 b7 bw;refine .sA J J J J zE Sz31 (by(rw[Aa,La0];assumption)) Z0 sP zU ?_;refine G3 ?_;refine .draw (oPq [0,1,2,3,104,105,106,7,8,9,10]) Au zK (G5 ?_);refine .lA J J J Y31.h J Sz31 Z0 (by(rw[Aa,La0];assumption)) ?_;refine .lookG evE ME J J J J ai Z4 (λhg=>?_) (λe hg=>?_)
  ·
   have bk:DEnt.zero.fDepth=0:=rfl;refine .field1 J J J Y91.h J Y3.h J (DEnt.get_fDepth DEnt.zero_ok) (G1 ?_);refine .max2 J J J J (rfl) (G3 ?_);refine .draw (oPq [0,1,2,103,104,405]) Au zK (G4 ?_);refine .lA J J J Y31.h J Sz31 Z0 (by(rw[Aa,La0];assumption)) ?_;refine .mapDel MH J J J J ai rM ?_;refine G8 ?_;refine⟨(k+1,_,_),⟨hk,?_,?_⟩,by simp only;omega,Af wN (Ab rM (Ab rM (Ab rM (Ab rM (Ab rM (Ab rM (Ab rM (Ab rM (Ac sG (Ac sG (Ac sG (Ac sG (Ac sG Ad)))))))))))))⟩
   .rw[depL_none hk an hg,<-am];rfl
   .rw[delL_one hk an,<-ar];rfl
  have bk:0<=e.1.fDepth/\e.1.fDepth<=(x.names.length:Int):=(hx.ent _ (Bi hg)).2.2;refine .field1 J J J Y91.h J Y3.h J (DEnt.get_fDepth (hx.entOk hg)) (G1 ?_);refine .max2 J J J J (rfl) (G3 ?_);refine .draw (oPq [0,1,2,103,104,405]) Au zK (G4 ?_);refine .lA J J J Y31.h J Sz31 Z0 (by(rw[Aa,La0];assumption)) ?_;refine .mapDel MH J J J J ai rM ?_;refine G8 ?_;refine⟨(k+1,_,_),⟨hk,?_,?_⟩,by simp only;omega,Af wN (Ab rM (Ab rM (Ab rM (Ab rM (Ab rM (Ab rM (Ab rM (Ab rM (Ac sG (Ac sG (Ac sG (Ac sG (Ac sG Ad)))))))))))))⟩
  .rw[depL_some hk an hg,<-am];rfl
  .rw[delL_one hk an,<-ar];rfl
 have bn:k=(Bj D).length:=by omega
 rw[bn,Lci]at am ar;refine G6 ?_;refine .draw (oPq [0,1,2,103,104,105,6,7,408]) Au zK (G4 ?_);refine .lA J J J Y31.h J Sz31 Z1 (by(simp[aa];done)) ?_;refine .lA J J J Y37.h J Sz37 Z0 (Block.length (by exact hB.1.ok)) ?_;refine G1 ?_;refine .build (cs:=(⟨B,dp⟩:DEnt).cells) J J J (λw=>run_build2 (a:=agg B.cells) (b:=i64 dp) (ca:=B.cells) (cb:=[i64 dp]) DEnt.zr Y91.h J J Sz37 Sz3 (DEnt.length DEnt.zero_ok) J J (Block.length hB.1.ok) J w) (.mapPut (v:=((⟨B,dp⟩,D):EV)) ME J J J J J aa rM ?_);refine G3 ?_;refine .draw (oPq [0,1,2,3,104,105,206,407,8,9,410]) Au zK (G5 ?_);refine .lA J J J Y31.h J Sz31 Z2 (by(simp[aa];done)) ?_;refine .mkRow2 (z:=agg (Aa (List.replicate 32 0))) [agg (Aa n)] (Aa n) J J Y32.h Sz31 Bz J J (by intro v hv;rw[La1.1 hv];simp[Value.cells,Aa,aa]) dE (by simp[Value.cells,agg]) ?_;intro q9;refine .appendAcc (z:=agg (Aa (List.replicate 32 0))) (by':=32) (Aa n) J J J J J Y32.h Y32.h Sz31 Bz (by unfold By;kernel_rfl) J hx.nm sG (λw h=>SeesP.of (Ar h Z0)) (λe=>by cases e) (Ay _) oM oM (by rw[Aa,La0,aa]) ?_;intro s9 ap aq;refine G2 ?_;refine .s1 J J J J J Sz32 mR sP (by rfl) uU ?_;refine G3 ?_;refine .draw (oPq [0,1,2,103,104,5,406]) Au zK (G4 ?_);refine .lA J J J Y31.h J Sz31 mR (by(simp[aa];done)) ?_;refine .build (cs:=[]) J J J (λw=>by kernel_rfl) ?_;refine .mapPut (v:=()) MH J J J J J aa rM ?_;refine G2 ?_;refine .join (ι:=Nat×Sl×List Blk) (λj=>⟨[(0,ptr p 0),(4,ptr n4 0),(5,ptr n5 0),(9,ptr j.1 0)],(⟨n5,B.cells,37,B.cells.length⟩::(⟨n4,Aa n,31,(Aa n).length⟩::(⟨j.1,(⟨B.fWriter,B.fSeq⟩:DPl).cells,94,33⟩::(⟨p,[ptr p 0,j.2.1.v, .map (some x.bE), .map (some x.bH), .map (some x.bO), .map (some x.bP), .map (some x.bW)],86,7⟩::(A3 x.bE (Ak 32 evE) (Bh x.ent n (⟨B,dp⟩,D))::(A3 x.bH (Ak 32 evU) (Bh hd n ())::(A3 x.bO (Ak 32 evB) (x.orp)::(A3 x.bP (placeT 32 evR) (x.pls)::(A3 x.bW (Ak 32 evR) (x.wrs)::(j.2.2++(x.cb++(rbl x.pls++(rbl x.wrs++[])))))))))))))⟩) (λj=>Hw.Acc j.2.1 j.2.2 (Aq x.names++Aa n) 31 (x.names.length+1) 32) ?_ ?_
 ·
  refine G2 ?_;refine .lN (Aa _) J J J Y29.h J Sz29 mR (Block.row_fWriter (by exact hB.1.ok)) (Block.rl_fWriter (by exact hB.1.ok)) ?_;refine G1 ?_;refine .load1 J J J Y30.h J mR (by exact Block.get_fSeq (by exact hB.1.ok)) ?_;refine .build (cs:=(⟨B.fWriter,B.fSeq⟩:DPl).cells) J J J (λw=>run_build2 (a:=agg (Aa B.fWriter)) (b:=u64 B.fSeq) (ca:=Aa B.fWriter) (cb:=[u64 B.fSeq]) DPl.zr underlying94 J J Sz29 Sz30 (DPl.length DPl.zero_ok) J J (by rw[Aa,La0];exact hB.1.ok.l_fWriter) J w) ?_;refine .alloc (cs:=DPl.zero.cells) J DPl.zr J ?_;intro n9 b8 bz;refine .sA J J J J (DPl.isCell (by exact a6)) Sz94 (DPl.length (by exact a6)) Z0 (DPl.length (by exact DPl.zero_ok)) zU ?_;refine G2 ?_;exact⟨(n9,s9,ap),aq,Af wN (Ab rM (Ab rM (Ab rM (Ab rM (Ab rM (Ab rM (Ab rM (Ab rM (Ab rM (Ac sG (Ac sG (Ac sG (Ac sG Ad)))))))))))))⟩
 intro j hj;obtain⟨m9,s9,ap⟩:=j;simp only at hj ⊢;have aq:=hj;refine .join (ι:=RV) (λr=>⟨[(0,ptr p 0),(4,ptr n4 0),(5,ptr n5 0)],(⟨n5,B.cells,37,B.cells.length⟩::(⟨n4,Aa n,31,(Aa n).length⟩::(⟨p,[ptr p 0,s9.v, .map (some x.bE), .map (some x.bH), .map (some x.bO), .map (some x.bP), .map (some x.bW)],86,7⟩::(A3 x.bE (Ak 32 evE) (Bh x.ent n (⟨B,dp⟩,D))::(A3 x.bH (Ak 32 evU) (Bh hd n ())::(A3 x.bO (Ak 32 evB) (x.orp)::(A3 x.bP (placeT 32 evR) (Bh x.pls (B.fWriter,B.fSeq) r)::(A3 x.bW (Ak 32 evR) (x.wrs)::(ap++(x.cb++(rbl (Bh x.pls (B.fWriter,B.fSeq) r)++(rbl x.wrs++[]))))))))))))⟩) (λr=>MoreR (An x.pls (B.fWriter,B.fSeq)) n r) ?_ ?_
 ·
  refine .withK (sp_k (sp_k (sp_k (sp_k (sp_v (sp_v (sp_v (sp_v (sp_v (sp_x (sp_x (sp_x (sp_x sp_n))))))))))))) J (.draw (oPq [0,1,2,3,4,5,206,407,8,10,409,411]) Au zK (G3 ?_));refine .kload1 J J J underlying83 J Z3 (by rfl) ?_;refine .kloadAll J J J underlying94 J Sz94 Z2 (DPl.length (by exact a6)) ?_;refine .kloadAll J J J Y31.h J Sz31 Z1 (by(simp[aa];done)) ?_;refine .mkRow2 (z:=agg (Aa (List.replicate 32 0))) [agg (Aa n)] (Aa n) J J Y32.h Sz31 Bz J J (by intro v hv;rw[La1.1 hv];simp[Value.cells,Aa,aa]) dE (by simp[Value.cells,agg]) ?_;intro cc;obtain⟨R12,av,ba⟩:=rbl_put x.pls (B.fWriter,B.fSeq);have ae:=hx.plsR (B.fWriter,B.fSeq);refine .mapEntry (d0:=RV.none) (k:=(B.fWriter,B.fSeq)) MP J J J J J J hB.1.ok.l_fWriter rM ?_;intro bq;obtain⟨ad,aj⟩:∃r,r=(An x.pls (B.fWriter,B.fSeq)).getD RV.none:=⟨_,rfl⟩;rw[<-aj]at av ae ⊢;refine G2 ?_;refine .appendAcc (z:=agg (Aa (List.replicate 32 0))) (by':=32) (Aa n) J J J J J Y32.h Y32.h Sz31 Bz (by unfold By;kernel_rfl) J ae.1.acc (perm_open sG av) (λw h=>SeesP.of (Ar h Z1)) (λe=>by cases e) (Ay _) oM oM (by rw[Aa,La0,aa]) ?_;intro au ah az;refine .entryStore (k:=(B.fWriter,B.fSeq)) (v:=(⟨au,ah,ad.ks++[n]⟩:RV)) J J J J J hB.1.ok.l_fWriter (by repeat(first|exact A4|apply Bq)) ?_;rw[mput_mput];refine G2 ?_;refine⟨(⟨au,ah,ad.ks++[n]⟩:RV),(⟨⟨by rw[Br,La2];simpa[Aq]using az,λl hl=>by rcases La8.1 hl with h|h;exact ae.1.r32 l h;rw[La1.1 h];exact aa⟩,by rw[<-aj]⟩:MoreR _ n (⟨au,ah,ad.ks++[n]⟩:RV)),?_⟩;refine wk_norm (by simp only[Lan,Lah,Law,Lab];exact rfl) ?_;exact Af wN (Ab rM (Ab rM (Ab rM (Ab rM (Ab rM (Ab rM (Ab rM (Ab rM (Ac sG (Ac sG (pm_join sG sG (ba (⟨au,ah,ad.ks++[n]⟩:RV)) (Ac sG Ad))))))))))))
 intro r hj;have hr:=hj;refine .withK (sp_k (sp_k (sp_k (sp_v (sp_v (sp_v (sp_v (sp_v (sp_x (sp_x (sp_x (sp_x sp_n)))))))))))) J (.draw (oPq [0,1,2,3,4,5,6,207,408,9,11,410,412]) Au zK (G3 ?_));refine .kload1 J J J underlying84 J Z2 (by rfl) ?_;refine G1 ?_;refine .kloadN (Aa _) J J J Y29.h J Sz29 Z0 (Block.row_fWriter (by exact hB.1.ok)) (Block.rl_fWriter (by exact hB.1.ok)) ?_;refine .kloadAll J J J Y31.h J Sz31 Z1 (by(simp[aa];done)) ?_;refine .mkRow2 (z:=agg (Aa (List.replicate 32 0))) [agg (Aa n)] (Aa n) J J Y32.h Sz31 Bz J J (by intro v hv;rw[La1.1 hv];simp[Value.cells,Aa,aa]) dE (by simp[Value.cells,agg]) ?_;intro cd;obtain⟨R13,aw,bc⟩:=rbl_put x.wrs B.fWriter;have ag:=hx.wrsR B.fWriter;refine .mapEntry (d0:=RV.none) (k:=B.fWriter) MW J J J J J J hB.1.ok.l_fWriter rM ?_;intro bt;obtain⟨ab,ak⟩:∃r,r=(An x.wrs B.fWriter).getD RV.none:=⟨_,rfl⟩;rw[<-ak]at aw ag ⊢;refine G2 ?_;refine .appendAcc (z:=agg (Aa (List.replicate 32 0))) (by':=32) (Aa n) J J J J J Y32.h Y32.h Sz31 Bz (by unfold By;kernel_rfl) J ag.1.acc (perm_open sG aw) (λw h=>SeesP.of (Ar h Z1)) (λe=>by cases e) (Ay _) oM oM (by rw[Aa,La0,aa]) ?_;intro ao ac a1;refine .entryStore (k:=B.fWriter) (v:=(⟨ao,ac,ab.ks++[n]⟩:RV)) J J J J J hB.1.ok.l_fWriter (by repeat(first|exact A4|apply Bq)) ?_;rw[mput_mput];refine G2 ?_;simp only[Lan,Lah,Law,Lab];refine Ao (out:=(⟨p,[ptr p 0,s9.v, .map (some x.bE), .map (some x.bH), .map (some x.bO), .map (some x.bP), .map (some x.bW)],86,7⟩::(A3 x.bE (Ak 32 evE) (Bh x.ent n (⟨B,dp⟩,D))::(A3 x.bH (Ak 32 evU) (Bh hd n ())::(A3 x.bO (Ak 32 evB) (x.orp)::(A3 x.bP (placeT 32 evR) (Bh x.pls (B.fWriter,B.fSeq) r)::(A3 x.bW (Ak 32 evR) (Bh x.wrs B.fWriter (⟨ao,ac,ab.ks++[n]⟩:RV))::(ap++(x.cb++(rbl (Bh x.pls (B.fWriter,B.fSeq) r)++(rbl (Bh x.wrs B.fWriter (⟨ao,ac,ab.ks++[n]⟩:RV))++[]))))))))))) (res_none J) (Ab rM (Ab rM (Ab rM (Ab rM (Ab rM (Ab rM (Ac sG (Ac sG (Ac sG (pm_join sG sG (bc (⟨ao,ac,ab.ks++[n]⟩:RV)) Ad)))))))))) ?_;have ax:=(⟨⟨by rw[Br,La2];simpa[Aq]using a1,λl hl=>by rcases La8.1 hl with h|h;exact ag.1.r32 l h;rw[La1.1 h];exact aa⟩,by rw[<-ak]⟩:MoreR _ n (⟨ao,ac,ab.ks++[n]⟩:RV));subst am;subst ar;exact⟨rfl,s9,ap,r,(⟨ao,ac,ab.ks++[n]⟩:RV),(by simp only[DD.blks,DD.adm,Law]),hx.adm aa hB a2 aq hr ax,hr,ax⟩
def insB(a:List UInt8):List (List UInt8)->List (List UInt8)
  | []=>[a]
  |b::l=>if Cn a b<=0 then a::b::l else b::insB a l
def isort(l:List (List UInt8)):List (List UInt8):=l.foldr insB []
theorem insB_perm(a:List UInt8):∀l,(insB a l).Perm (a::l)
  | []=>Lco _
  | b::l=>by
    unfold insB;split
    .exact Lco _
    .exact(List.Perm.cons b (insB_perm a l)).trans (List.Perm.swap a b l)
theorem isort_perm:∀l,(isort l).Perm l
  | []=>Lco _
  |a::l=>(insB_perm a (isort l)).trans (List.Perm.cons a (isort_perm l))
theorem insB_sort(a:List UInt8):∀l,SortB l->SortB (insB a l)
  | [],_=>by simp[insB,SortB]
  | b ::l,h=>by
    obtain⟨h1,h2⟩:=Ld4.1 h;unfold insB;split
    . rename_i aa
      refine Ld4.2 ⟨λc hc=>?_,h⟩;rcases Lam.1 hc with rfl|hc
      .exact aa
      .exact(cmpB_trans a b c aa (h1 c hc)).1
    . rename_i aa
      refine Ld4.2 ⟨λc hc=>?_,insB_sort a l h2⟩;rcases Lam.1 ((insB_perm a l).mem_iff.1 hc)with rfl|hc
      .have:=cmpB_neg c b;omega
      .exact h1 c hc
theorem isort_sort:∀l,SortB (isort l)
  | []=>List.Pairwise.nil
  |a::l=>insB_sort a _ (isort_sort l)
theorem sort_unique:∀ {a b:List (List UInt8)},a.Perm b->SortB a->SortB b->a=b
  | [],b,hp,_,_=>(List.nil_perm.1 hp).symm
  |x::a,[],hp,_,_=>by have:=hp.length_eq;simp at this
  | x ::a,y::b,hp,ha,hb=>by
    obtain⟨h1,h2⟩:=Ld4.1 ha;obtain⟨h3,h4⟩:=Ld4.1 hb;have e:x=y:=by
      have hx:=hp.mem_iff.1 (La9 (a:=x) (l:=a));have hy:=hp.mem_iff.2 (La9 (a:=y) (l:=b));rcases Lam.1 hx with h|h
      .exact h
      . rcases Lam.1 hy with h5|h5
        .exact h5.symm
        . have u1:=h3 x h
          have u2:=h1 y h5;have u3:=cmpB_neg x y;exact(cmpB_zero x y).1 oM
    subst e;rw[sort_unique (List.Perm.cons_inv hp) h2 h4]
theorem isort_eq(hp:ks.Perm l)(hs:SortB ks):ks=isort l:=sort_unique (hp.trans (isort_perm l).symm) hs (isort_sort l)
structure PD where
  names:List (List UInt8)
  P:List (List UInt8×DB)
  dep:List (List UInt8×Int)
  hds:List (List UInt8×Unit)
  orp:List (List UInt8×DB)
  pls:List ((List UInt8×UInt64)×List (List UInt8))
  wrs:List (List UInt8×List (List UInt8))
def DD.pl(x:DD):PD:=⟨x.names,x.P,x.ent.map λp=>(p.1,p.2.1.fDepth),x.hds,x.orp.map λp=>(p.1,p.2.2),x.pls.map λp=>(p.1,p.2.ks),x.wrs.map λp=>(p.1,p.2.ks)⟩
def stepP(dep:List (List UInt8×Int))(d:Int)(n:List UInt8):Int:=if(An dep n).getD 0+1>d then(An dep n).getD 0+1 else d
def PD.adm(X:PD)(n:List UInt8)(D:DB):PD:=
  ⟨X.names++[n],Bh X.P n D,Bh X.dep n ((Bj D).foldl (stepP X.dep) 0),Bh (delL X.hds (Bj D)) n (),X.orp,Bh X.pls (D.w,D.seq) ((An X.pls (D.w,D.seq)).getD []++[n]),Bh X.wrs D.w ((An X.wrs D.w).getD []++[n])⟩
theorem get_ks[DecidableEq κ](fs:List (κ×RV))(k:κ):((An fs k).getD RV.none).ks=(An (fs.map λp=>(p.1,p.2.ks)) k).getD []:=by
  rw[mget_map (λr:RV=>r.ks)];cases An fs k<;>rfl
theorem adm_pl{x:DD}(hB:SameB B D)(hp:MoreR (An x.pls (B.fWriter,B.fSeq)) n rp)(hw:MoreR (An x.wrs B.fWriter) n rw):(x.adm s bl n B D rp rw).pl=x.pl.adm n D:=by
  have e1:(Bh x.ent n ((⟨B,depL x.ent (Bj D)⟩,D):EV)).map (λp=>(p.1,p.2.2))=Bh x.P n D:=mput_map (λe:EV=>e.2) x.ent n (⟨B,depL x.ent (Bj D)⟩,D);have ed:∀m,((An x.ent m).map λe=>e.1.fDepth)=An (x.ent.map λp=>(p.1,p.2.1.fDepth)) m:=λm=>(mget_map (λe:EV=>e.1.fDepth) x.ent m).symm;have es:depL x.ent (Bj D)=(Bj D).foldl (stepP (x.ent.map λp=>(p.1,p.2.1.fDepth))) 0:=by
    unfold depL;congr 1;funext d m;unfold stepD stepP;rw[ed m]
  have e2:(Bh x.ent n ((⟨B,depL x.ent (Bj D)⟩,D):EV)).map (λp=>(p.1,p.2.1.fDepth))=Bh (x.ent.map λp=>(p.1,p.2.1.fDepth)) n (depL x.ent (Bj D)):=mput_map (λe:EV=>e.1.fDepth) x.ent n (⟨B,depL x.ent (Bj D)⟩,D);have e3:(Bh x.pls (B.fWriter,B.fSeq) rp).map (λp=>(p.1,p.2.ks))=Bh (x.pls.map λp=>(p.1,p.2.ks)) (B.fWriter,B.fSeq) rp.ks:=mput_map (λr:RV=>r.ks) x.pls (B.fWriter,B.fSeq) rp;have e4:(Bh x.wrs B.fWriter rw).map (λp=>(p.1,p.2.ks))=Bh (x.wrs.map λp=>(p.1,p.2.ks)) B.fWriter rw.ks:=mput_map (λr:RV=>r.ks) x.wrs B.fWriter rw;unfold DD.pl PD.adm DD.adm DD.P;simp only;rw[e1,e2,es,e3,e4,hp.2,hw.2,get_ks,get_ks,hB.w,hB.seq];rfl
def PD.drop1(X:PD)(n:List UInt8):PD:={ X with orp:=mdel X.orp n }
def DD.drop1(x:DD)(n:List UInt8):DD:={ x with orp:=mdel x.orp n }
theorem drop1_pl(x:DD)(n:List UInt8):(x.drop1 n).pl=x.pl.drop1 n:=by
  unfold DD.pl DD.drop1 PD.drop1;simp only;rw[mdel_map (λb:BV=>b.2)];rfl
theorem mdel_one[DecidableEq κ]{k:κ}{v:ν}(h:An fs k=some v):(mdel fs k).length+1=fs.length:=by
  have hi:∃j,midx fs k=some j/\j<fs.length:=by
    unfold An at h;unfold midx;cases hf:fs.find? (λp=>decide (p.1=k))with
    |none=>rw[hf]at h;cases h
    | some p=>
      obtain⟨hp,j,hj,_,hn⟩:=Ldb.1 hf
      rename_i e1
      exact⟨j,by rw[Lbu];exact⟨hj,by rw[e1];exact hp,λi hi=>by simpa using hn i hi⟩,hj⟩
  obtain⟨j,hj,hl⟩:=hi;unfold mdel;rw[hj];simp only[Lgm,hl,if_true];omega
theorem DD.ok.drop1{x:DD}(h:x.ok)(n:List UInt8):(x.drop1 n).ok:={ h with
  big:=Lbd (Nat.add_le_add_left (mdel_len _ _) _) h.big
  orpn:=Lbd (mdel_len _ _) h.orpn
  orp:=λp hp=>h.orp p (mdel_mem hp) }
def PD.first(X:PD):Option (List UInt8):=(isort (X.orp.map (·.1))).find? λn=>Bv X.P ((An X.orp n).getD DB.zero) !=0
def PD.settle:Nat->PD->PD×List (List UInt8)
  |0,X=>(X,[])
  | f+1,X=>match X.first with
    |none=>(X,[])
    |some n=>if Bv X.P ((An X.orp n).getD DB.zero)=1 then(let r:=PD.settle f ((X.drop1 n).adm n ((An X.orp n).getD DB.zero));(r.1,n::r.2))else PD.settle f (X.drop1 n)
theorem settle_done{X:PD}(h:X.first=none)(f:Nat):PD.settle f X=(X,[]):=by
  cases f with
  |zero=>rfl
  |succ f=>rw[PD.settle,h]
theorem settle_fit{X:PD}(h:X.first=some n)(hD:An X.orp n=some D)(hj:Bv X.P D=1)(f:Nat):PD.settle (f+1) X=((PD.settle f ((X.drop1 n).adm n D)).1,n::(PD.settle f ((X.drop1 n).adm n D)).2):=by
  rw[PD.settle,h];simp only[hD,Lbw];rw[if_pos hj]
theorem settle_wrong{X:PD}(h:X.first=some n)(hD:An X.orp n=some D)(hj:Bv X.P D≠1)(f:Nat):PD.settle (f+1) X=PD.settle f (X.drop1 n):=by
  rw[PD.settle,h];simp only[hD,Lbw];rw[if_neg hj]
theorem first_at{X:PD}(ab:ks=isort (X.orp.map (·.1))){k:Nat}(hk:k<ks.length)(aa:∀j,j<k->Bv X.P ((An X.orp (ks.getD j [])).getD DB.zero)=0)(h:Bv X.P ((An X.orp (ks.getD k [])).getD DB.zero)≠0):X.first=some (ks.getD k []):=by
  unfold PD.first;rw[<-ab,Ldb];have e:∀j (hj:j<ks.length),ks.getD j []=ks[j]:=λj hj=>by rw[La3,La4 hj];rfl
  refine⟨by simpa using h,k,hk,(e k hk).symm,λj hj=>?_⟩;have:=aa j hj;rw[e j oM]at this;rw[this];rfl
theorem first_none{X:PD}(ab:ks=isort (X.orp.map (·.1)))(aa:∀j,j<ks.length->Bv X.P ((An X.orp (ks.getD j [])).getD DB.zero)=0):X.first=none:=by
  unfold PD.first;rw[<-ab,Lg7];intro n hn;obtain⟨j,hj,rfl⟩:=Lb8 hn;have:=aa j hj;rw[La3,La4 hj]at this;simp only[Lbw]at this;rw[this];simp
theorem DD.getO(x:DD)(k:List UInt8):An x.pl.orp k=(An x.orp k).map (·.2):=mget_map (λb:BV=>b.2) x.orp k
theorem orp_keys(x:DD):x.pl.orp.map (·.1)=x.orp.map (·.1):=by unfold DD.pl;simp only[Lgt];rfl
theorem C2[DecidableEq κ]{k:κ}(h:k∈fs.map (·.1)):∃v,An fs k=some v:=by
  obtain⟨p,hp,rfl⟩:=La6.1 h;unfold An;cases hf:fs.find? (λq=>decide (q.1=p.1))with
  |none=>rw[Lg7]at hf;have:=hf p hp;simp at this
  |some q=>exact⟨q.2,rfl⟩
def AdmR(x:DD)(p:Nat)(n:List UInt8)(D:DB)(v:Value)(out:List Blk):Prop:=v= .tuple #[]/\∃x':DD,out=x'.blks p/\x'.ok/\x'.pl=x.pl.adm n D/\x'.names.length=x.names.length+1/\x'.orp.length=x.orp.length
theorem dag_admit2(x:DD)(hx:x.ok)(p:Nat)(n:List UInt8)(ab:n.length=32)(B:Block)(D:DB)(hB:Held x.cb B D)(hs:D.ls.length<=500000)(aa:x.names.length+x.orp.length<20000):
    Meets prog 86 [ptr p 0,agg (Aa n),agg B.cells] ((x.blks p).map (·.n)) (λW=>Lent (x.blks p) W) (AdmR x p n D):=
  (dag_admit x hx p n ab B D hB hs aa).imp (λw h=>h) λv out ⟨h1,s,bl,rp,rw,h2,h3,h4,h5⟩=>⟨h1,_,h2,h3,adm_pl hB.1 h4 h5,by show(x.names++[n]).length=_;rw[La2,Laq],rfl⟩
theorem judge_cases(P:List (List UInt8×DB))(D:DB):Bv P D=0\/Bv P D=1\/Bv P D=2:=by
  unfold Bv;split
  .exact .inr (.inr rfl)
  . split
    .exact .inr (.inl rfl)
    .exact .inl rfl
theorem settle_go{x x2:DD}(hf:x.pl.first=some kk)(aa:An x.orp kk=some ob)(hj:Bv x.P ob.2=1)(hp:x2.pl=(x.drop1 kk).pl.adm kk ob.2)(ho:x2.orp.length=(x.drop1 kk).orp.length):
    PD.settle x.orp.length x.pl=((PD.settle x2.orp.length x2.pl).1,kk::(PD.settle x2.orp.length x2.pl).2):=by
  have h1:=mdel_one aa;have h2:x2.orp.length=(mdel x.orp kk).length:=ho;rw[<-h1,settle_fit hf (by rw[x.getO,aa];rfl) hj,h2,hp,drop1_pl]
theorem settle_no{x:DD}(hf:x.pl.first=some kk)(aa:An x.orp kk=some ob)(hj:Bv x.P ob.2≠1):PD.settle x.orp.length x.pl=PD.settle (x.drop1 kk).orp.length (x.drop1 kk).pl:=by
  have h1:=mdel_one aa;have h2:(x.drop1 kk).orp.length=(mdel x.orp kk).length:=rfl;rw[<-h1,settle_wrong hf (by rw[x.getO,aa];rfl) hj,h2,drop1_pl]
def SetR(x0:DD)(p:Nat)(v:Value)(out:List Blk):Prop:=∃(x:DD) (s:Sl) (bl:List Blk) (l:List (List UInt8)),v=s.v/\out=x.blks p++bl/\x.ok/\Hw.Acc s bl (Aq l) 31 l.length 32/\(∀n∈l,n.length=32)/\x.names.length+x.orp.length<=x0.names.length+x0.orp.length/\l.length<=x0.orp.length/\x.pl=(PD.settle x0.orp.length x0.pl).1/\l=(PD.settle x0.orp.length x0.pl).2
theorem acc_one{E:TypeId}{m:Nat}(h:Hw.Acc s bl (Aq l++Aa k) E (m+1) 32)(hm:l.length=m):Hw.Acc s bl (Aq (l++[k])) E (l++[k]).length 32:=by
  rw[La2,Laq,Br,hm];simpa[Aq]using h
theorem all_snoc(h:∀n∈l,n.length=32)(hk:k.length=32):∀n∈l++[k],n.length=32:=λn hn=>by rcases La8.1 hn with h1|h1;exact h n h1;rw[La1.1 h1];exact hk
theorem dag_settle(x0:DD)(a7:x0.ok)(p:Nat):Meets prog 87 [ptr p 0] ((x0.blks p).map (·.n)) (λW=>Lent (x0.blks p) W) (SetR x0 p):=by
 intro W hW;have ba:=a7.big;refine calls_of (hp0:=(⟨p,[ptr p 0,x0.nm.v, .map (some x0.bE), .map (some x0.bH), .map (some x0.bO), .map (some x0.bP), .map (some x0.bW)],86,7⟩::(A3 x0.bE (Ak 32 evE) x0.ent::(A3 x0.bH (Ak 32 evU) x0.hds::(A3 x0.bO (Ak 32 evB) x0.orp::(A3 x0.bP (placeT 32 evR) x0.pls::(A3 x0.bW (Ak 32 evR) x0.wrs::(x0.nb++(x0.cb++(rbl x0.pls++(rbl x0.wrs++[]))))))))))) func87 J 50 ntmps87 J hW.rep (G5 ?_);refine .again (l:=0) (ι:=DD×Sl×List Blk×List (List UInt8)) (λi=>⟨[(0,ptr p 0),(3,i.2.1.v)],(⟨p,[ptr p 0,i.1.nm.v, .map (some i.1.bE), .map (some i.1.bH), .map (some i.1.bO), .map (some i.1.bP), .map (some i.1.bW)],86,7⟩::(A3 i.1.bE (Ak 32 evE) i.1.ent::(A3 i.1.bH (Ak 32 evU) i.1.hds::(A3 i.1.bO (Ak 32 evB) i.1.orp::(A3 i.1.bP (placeT 32 evR) i.1.pls::(A3 i.1.bW (Ak 32 evR) i.1.wrs::(i.1.nb++(i.1.cb++(rbl i.1.pls++(rbl i.1.wrs++(i.2.2.1++[])))))))))))⟩) (λi=>i.1.ok/\Hw.Acc i.2.1 i.2.2.1 (Aq i.2.2.2) 31 i.2.2.2.length 32/\(∀n∈i.2.2.2,n.length=32)/\i.1.names.length+i.1.orp.length<=x0.names.length+x0.orp.length/\i.2.2.2.length+i.1.orp.length<=x0.orp.length/\(PD.settle i.1.orp.length i.1.pl).1=(PD.settle x0.orp.length x0.pl).1/\i.2.2.2++(PD.settle i.1.orp.length i.1.pl).2=(PD.settle x0.orp.length x0.pl).2) (λi=>i.1.orp.length) J ?_ ?_
 ·
  refine G4 ?_;exact⟨(x0,Sl.nil,[],[]),⟨a7,Acc.none,λn (h:n∈([]:List (List UInt8)))=>(by cases h),Lag _,(by show 0+x0.orp.length<=_;omega),rfl,Lah _⟩,Af wN (Ab rM (Ab rM (Ab rM (Ab rM (Ab rM (Ab rM (Ac sG (Ac sG (Ac sG (Ac sG (Ac (by repeat(exact C8)) Ad)))))))))))⟩
 rintro⟨x,s,bl,l⟩ hi;simp only at hi ⊢;obtain⟨hx,ah,aj,bi,bz,ac,ad⟩:=hi;have bc:=hx.big;have bv:=ah.num;refine G7 ?_;refine .call4 J J J J J Body57 (dag_sortedB MO x.bO x.orp (λp hp=>(hx.orp p hp).1) oM) (λw h=>h.cells _ Z3) ?_;rintro b7 au ⟨a8,ks,ak,bg,rfl,aw⟩;have bn:=aw.num;have aq:ks=isort (x.pl.orp.map (·.1)):=isort_eq (by rw[orp_keys];exact ak) bg;have an:∀l∈ks,l.length=32:=λl hl=>by obtain⟨q,hq,rfl⟩:=La6.1 (ak.mem_iff.1 hl);exact(hx.orp q hq).1
 refine G5 ?_;refine .loop (ι:=Nat) (λk=>⟨[(0,ptr p 0),(3,s.v),(11,a8.v),(12,i64 (a8.n:Int)),(13,i64 (k:Int))],(⟨p,[ptr p 0,x.nm.v, .map (some x.bE), .map (some x.bH), .map (some x.bO), .map (some x.bP), .map (some x.bW)],86,7⟩::(A3 x.bE (Ak 32 evE) x.ent::(A3 x.bH (Ak 32 evU) x.hds::(A3 x.bO (Ak 32 evB) x.orp::(A3 x.bP (placeT 32 evR) x.pls::(A3 x.bW (Ak 32 evR) x.wrs::(x.nb++(x.cb++(rbl x.pls++(rbl x.wrs++(bl++(au++[]))))))))))))⟩) (λk=>k<=ks.length/\∀j,j<k->Bv x.pl.P ((An x.pl.orp (ks.getD j [])).getD DB.zero)=0) (λk=>ks.length-k) (0) ?_ ?_ ?_
 .exact⟨Laf _,λj hj=>by omega⟩
 .exact Af wN (Ab (by repeat(first|exact A4|apply Bq)) (Ab (by repeat(first|exact A4|apply Bq)) (Ab (by repeat(first|exact A4|apply Bq)) (Ab (by repeat(first|exact A4|apply Bq)) (Ab (by repeat(first|exact A4|apply Bq)) (Ab (by repeat(first|exact A4|apply Bq)) (Ac (by repeat(first|exact B9|apply Cj)) (Ac (by repeat(first|exact B9|apply Cj)) (Ac (by repeat(first|exact B9|apply Cj)) (Ac (by repeat(first|exact B9|apply Cj)) (Ac (by repeat(first|exact B9|apply Cj)) (Ac sG Ad))))))))))))
 rintro k ⟨bt,ae⟩;refine G6 ?_;refine .condP J (λbe=>?_) (λbe=>?_)
 ·
  refine G6 ?_;have hk:k<ks.length:=by omega
  have bu:k<=600000:=by have:=ak.length_eq;simp only[La0]at this;omega
  rcases aw with ⟨_,_,_,h0⟩|⟨qr,cr,rfl,b5,bq,rfl⟩
  .exfalso;omega
  obtain⟨kk,ag⟩:∃kk,kk=ks.getD k []:=⟨_,rfl⟩;have ay:kk∈ks:=by rw[ag,La3,La4 hk];exact Lcq hk
  have ab:kk.length=32:=an _ ay;obtain⟨ob,ai⟩:=C2 (fs:=x.orp) (ak.mem_iff.1 ay);have aa:=hx.orp _ (Bi ai);simp only at aa;have ap:An x.pl.orp kk=some ob.2:=by rw[x.getO,ai];rfl
  have bw:=mdel_one ai;refine .idxSlP 32 J J J J J Y32.h Sz31 k J oM (.loadSN (n:=32) (Aa kk) J J J Y31.h J Sz31 (by rw[Aa,La0];exact ab) (λw h=>by rw[ag];simpa using Bk an (Ar h mR) hk) ?_);refine .alloc (cs:=(Aa (List.replicate 32 0))) J Bz J ?_;intro n5 b3 bo;refine .sA J J J J zE Sz31 (by(rw[Aa,La0];assumption)) Z0 sP zU ?_;refine G3 ?_;refine .draw (oPq [0,1,2,103,104,105,206,407]) Au zK (G4 ?_);refine .lA J J J Y31.h J Sz31 Z0 (by(rw[Aa,La0];assumption)) ?_;refine .lookS evB MO ai J J J J ab Z4 ?_;refine .alloc (cs:=Block.zero.cells) J Block.zr J ?_;intro n6 b4 bp;refine .sA J J J J (Block.isCell (by exact aa.2.1.1.ok)) Sz37 (Block.length (by exact aa.2.1.1.ok)) Z0 (Block.length (by exact Block.zero_ok)) zU ?_;refine G5 ?_;refine .lA J J J Y37.h J Sz37 Z0 (Block.length (by exact aa.2.1.1.ok)) ?_;refine .cV J J J J Body85 (dag_judge x hx p ob.1 ob.2 aa.2.1.1 oM) (λw h=>⟨DagSee.of h Z2 Z3,aa.2.1.2 w (Lies.of h (by repeat(first|exact Ap|refine A1 ?_|refine A5 ?_)))⟩) ?_;refine G9 ?_;refine .condP J (λax=>?_) (λax=>?_)
  ·
   refine .seq (.draw (oPq [0,1,2,103,104,405]) Au zK (G4 ?_));refine .lA J J J Y31.h J Sz31 Z1 (by(rw[Aa,La0];assumption)) ?_;refine .mapDel MO J J J J ab rM ?_;refine G5 ?_;refine .lA J J J Y31.h J Sz31 Z2 (by(rw[Aa,La0];assumption)) ?_;refine .lA J J J Y37.h J Sz37 Z1 (Block.length (by exact aa.2.1.1.ok)) ?_;refine .callL (L:=((x.drop1 kk).blks p)) J J J J J Body86 (dag_admit2 (x.drop1 kk) (hx.drop1 kk) p kk ab ob.1 ob.2 aa.2.1 oM (by show x.names.length+(mdel x.orp kk).length<20000;omega)) (Ab rM (Ab rM (Ab rM (Ab rM (Ab rM (Ab rM (Ac sG (Ac sG (Ac sG (Ac sG Ad)))))))))) (lent_ok J) (λw h=>Lent.of h (Ab rM (Ab rM (Ab rM (Ab rM (Ab rM (Ab rM (Ac sG (Ac sG (Ac sG (Ac sG Ad))))))))))) ?_;rintro b8 bk ⟨rfl,x2,rfl,bj,a6,a1,am⟩;simp only[DD.blks,Lan,Lah,Lab];refine G5 ?_;refine .lA J J J Y31.h J Sz31 mR (by(rw[Aa,La0];assumption)) ?_;refine .mkRow2 (z:=agg (Aa (List.replicate 32 0))) [agg (Aa kk)] (Aa kk) J J Y32.h Sz31 Bz J J (by intro v hv;rw[La1.1 hv];simp[Value.cells,Aa,ab]) dE (by simp[Value.cells,agg]) ?_;intro b6;refine .appendAcc (z:=agg (Aa (List.replicate 32 0))) (by':=32) (Aa kk) J J J J J Y32.h Y32.h Sz31 Bz (by unfold By;kernel_rfl) J ah sG (λw h=>SeesP.of (Ar h Z0)) (λe=>by cases e) (Ay _) oM oM (by rw[Aa,La0,ab]) ?_;intro bm av ao;refine G3 ?_;refine .goto (bl_g (bl_g (at_g (at_g (bl_g (at_g (jm_g ?_)))))));have hf:x.pl.first=some kk:=by rw[ag];exact first_at aq hk ae (by rw[<-ag,ap];show Bv x.P ob.2≠0;omega)
   have ar:=settle_go (x2:=x2) hf ai ax a6 am;rw[ar]at ac ad;have a2:x2.orp.length=(mdel x.orp kk).length:=am;have az:x2.names.length=x.names.length+1:=a1;exact⟨(x2,bm,av,l++[kk]),⟨bj,acc_one ao rfl,all_snoc aj ab,by simp only;omega,by simp only[La2,Laq];omega,ac,by simp only[Lab,Lcg];exact ad⟩,by simp only;omega,Af wN (Ab rM (Ab rM (Ab rM (Ab rM (Ab rM (Ab rM (Ac sG (Ac sG (Ac sG (Ac sG (Ac sG Ad)))))))))))⟩
  refine G6 ?_;refine .condP J (λhc2=>?_) (λhc2=>?_)
  ·
   refine .seq (.draw (oPq [0,1,2,103,104,405]) Au zK (G4 ?_));refine .lA J J J Y31.h J Sz31 Z1 (by(rw[Aa,La0];assumption)) ?_;refine .mapDel MO J J J J ab rM ?_;refine G2 ?_;refine .goto (bl_g (bl_g (at_g (at_g (bl_g (at_g (jm_g ?_)))))));have hf:x.pl.first=some kk:=by rw[ag];exact first_at aq hk ae (by rw[<-ag,ap];show Bv x.P ob.2≠0;omega)
   have ar:=settle_no hf ai oM;rw[ar]at ac ad;have a2:(x.drop1 kk).orp.length=(mdel x.orp kk).length:=rfl;have az:(x.drop1 kk).names.length=x.names.length:=rfl;exact⟨(x.drop1 kk,s,bl,l),⟨hx.drop1 kk,ah,aj,by simp only;omega,by simp only;omega,ac,ad⟩,by simp only;omega,Af wN (Ab rM (Ab rM (Ab rM (Ab rM (Ab rM (Ab rM (Ac sG (Ac sG (Ac sG (Ac sG (Ac sG Ad)))))))))))⟩
  refine G9 ?_;exact⟨k+1,⟨hk,λj hj=>by rcases Lfb (Lgv hj)with h|h;exact ae j h;rw[h,<-ag,ap];show Bv x.P ob.2=0;rcases judge_cases x.P ob.2 with h9|h9|h9<;>omega⟩,by omega,Af wN (Ab rM (Ab rM (Ab rM (Ab rM (Ab rM (Ab rM (Ac sG (Ac sG (Ac sG (Ac sG (Ac sG (Ac sG Ad))))))))))))⟩
 refine G11 ?_;refine .ret (jm_r (en_r (Ao (out:=(⟨p,[ptr p 0,x.nm.v, .map (some x.bE), .map (some x.bH), .map (some x.bO), .map (some x.bP), .map (some x.bW)],86,7⟩::(A3 x.bE (Ak 32 evE) x.ent::(A3 x.bH (Ak 32 evU) x.hds::(A3 x.bO (Ak 32 evB) x.orp::(A3 x.bP (placeT 32 evR) x.pls::(A3 x.bW (Ak 32 evR) x.wrs::(x.nb++(x.cb++(rbl x.pls++(rbl x.wrs++(bl++[])))))))))))) (Ag J J) (Ab rM (Ab rM (Ab rM (Ab rM (Ab rM (Ab rM (Ac sG (Ac sG (Ac sG (Ac sG (Ac sG Ad))))))))))) ?_)));rw[settle_done (first_none aq (by rw[show k=ks.length by omega]at ae;exact ae))]at ac ad;exact⟨x,s,bl,l,rfl,(by simp only[DD.blks,Lan,Lah,Law,Lab]),hx,ah,aj,bi,by omega,ac,by simpa using ad⟩
end Go.Proofs.YtbdfihcjddbhaaaGreat
end
