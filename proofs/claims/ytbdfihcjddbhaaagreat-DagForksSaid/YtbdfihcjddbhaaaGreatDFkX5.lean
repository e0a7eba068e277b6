/- Contracts of functions of the loaded program, and the lemmas that they need (part 5). It proves no statement by itself; it has no conditions. -/
import Derived.WalkKit
import Derived.Orders
import Derived.Deep.LoopGhost
import Derived.IntWalk
import Derived.Laws.StructEq
import Derived.ArgAppend
import Derived.Deep.AppendSrc
import Derived.Lib.Bytealg
import Derived.Lib.BytesEntry
import Derived.Laws.IdiomStrings
import Derived.WideKeyArr2
import Derived.ProofKit
import Derived.OpenShut
import Derived.Deep.Slices
import Derived.Laws.Pointers
import Derived.Laws.Cover3
import Derived.LaidEqlPtr
import Derived.LoopN
import Derived.RangeFuncLeaves
import Derived.RangeFuncSeq
import Derived.OrdersIn
import Derived.Maps.Keyed
import Derived.Maps.RangeRun
import Derived.DeepKeys4
import Derived.Below
import Derived.Test.YtbdfihcjddbhaaaGreatRows
import Derived.KernelRfl
import Derived.Laws.Externs
import Derived.Defers
import Derived.Laws.MathBits
import Derived.Shelf.SlSortCmp.WholeK
import Derived.Shelf.SlGeneric
import Derived.Test.YtbdfihcjddbhaaaGreatProg
import Derived.Shelf.SlSortCmp.NoneTotal
import Derived.Deep.QuietTactic
import Derived.BigQuiet
import Derived.ScopeJumps
import Derived.DeepKeys3
import Derived.ChangeOld
import Derived.JoinedOf
import Derived.Test.YtbdfihcjddbhaaaGreatDFkX4
set_option maxRecDepth 100000
set_option maxHeartbeats 8000000
set_option linter.unusedVariables false
set_option linter.unusedSimpArgs false
set_option linter.unusedSectionVars false
set_option linter.unnecessarySimpa false
section
namespace Go.Proofs.YtbdfihcjddbhaaaGreat
open Go Hw _root_.Go.Proofs.Tryz
open Ed
variable{A B E j t:Nat}{d:List Nat}{p x:far}
theorem lin_d{a b j:Nat}(hj:j<256):a/2^(256-(j+1))=2*(a/2^(256-j))+a/2^(255-j)%2:=next_div a j hj
theorem frep_dbl{P Q:Pt Fp}(hd:Fit10 d)(hdv:fe (v10 d)=fD)(hP:cv.on P)(hQ:cv.on Q)(h:FarRep p (cv.lin A B P Q)):FarRep (frT d p p) (cv.lin (2*A) (2*B) P Q):=by
  rw[cv.lin_two hP hQ];exact FarRep.add hd hdv h h (cv.on_lin hP hQ _ _) (cv.on_lin hP hQ _ _)
theorem frep_l{P Q:Pt Fp}(hd:Fit10 d)(hdv:fe (v10 d)=fD)(hP:cv.on P)(hQ:cv.on Q)(h:FarRep p (cv.lin A B P Q))(hx:FarRep x P)(ht:t=1):FarRep (frT d p x) (cv.lin (A+t) B P Q):=by
  rw[ht,cv.lin_left hP hQ];exact FarRep.add hd hdv h hx (cv.on_lin hP hQ _ _) hP
theorem frep_r{P Q:Pt Fp}(hd:Fit10 d)(hdv:fe (v10 d)=fD)(hP:cv.on P)(hQ:cv.on Q)(h:FarRep p (cv.lin A B P Q))(hx:FarRep x Q)(ht:t=1):FarRep (frT d p x) (cv.lin A (B+t) P Q):=by
  rw[ht,cv.lin_right hP hQ];exact FarRep.add hd hdv h hx (cv.on_lin hP hQ _ _) hQ
theorem frep_first(a b:List UInt8)(ha:a.length=32)(hb:b.length=32)(P Q:Pt Fp):FarRep (awT (zero:Pt Fp)) (cv.lin (le a/2^(256-0)) (le b/2^(256-0)) P Q):=by
  have h1:=le32 ha;have h2:=le32 hb;rw[show 256-0=256 from rfl,Lb7 h1,Lb7 h2,cv.lin_zero];exact awT_rep zero
theorem bit_one(h:E.testBit j=true):E/2^j%2=1:=by have:=test_div E j true h;rwa[if_pos rfl]at this
theorem bit_nil(h:E.testBit j=false):E/2^j%2=0:=by have:=test_div E j false h;rwa[if_neg dE]at this
theorem r5_Mul2(a b:List UInt8)(P Q:Pt Fp)(ha:a.length=32)(hb:b.length=32)(hP:cv.on P)(hQ:cv.on Q):Mv 180 [agg (Aa a),agg (ptc P).cells,agg (Aa b),agg (ptc Q).cells] (fun _=>True) (agg (ptc (cv.lin (le a) (le b) P Q)).cells):=by
 intro W hW;have hDf:=dT_fit;have hDv:=dT_v;have hod:=r5_openD;revert hDf hDv hod;generalize dT=D;intro hDf hDv hod;have hDl:=hDf.len;have hAP:=awT_rep P;have hAQ:=awT_rep Q;have hAZ:=frep_first a b ha hb P Q;have cP:=r5_away P;have cQ:=r5_away Q;have cZ:=r5_away (zero:Pt Fp);revert hAP hAQ hAZ cP cQ cZ;generalize awT P=AP;generalize awT Q=AQ;generalize awT (zero:Pt Fp)=AZ;intro hAP hAQ hAZ cP cQ cZ;have hAPo:=hAP.fit.ok;have hAQo:=hAQ.fit.ok;have hAZo:=hAZ.fit.ok;have huo:True:=trivial;have hwo:True:=trivial;have hxo:True:=trivial;refine Ac func180 J 55 ntmps180 J (.sr (.boxA J J ?_));intro n4 hn4 hf4;refine .boxA J J ?_;intro n5 hn5 hf5;refine .boxA J J ?_;intro n6 hn6 hf6;refine .boxA J J ?_;intro n7 hn7 hf7;refine .alloc (cs:=Point.zero.cells) J Point.zr J ?_;intro n8 hn8 hf8;refine .na (.seq (.sr (.lA J J J Y187.h J Sz187 Z3 (Point.length zP) ?_)));refine .cV J J J J Body228 (r5_Check P hP) tV (.nei J J J J (show(!decide _)=false from congrArg not (decide_eq_true (rfl))) (.m J J J (.lA J J J Y187.h J Sz187 Z1 (Point.length zP) ?_)));refine .cV J J J J Body228 (r5_Check Q hQ) tV (.nei J J J J (show(!decide _)=false from congrArg not (decide_eq_true (rfl))) (.pick J J J J J J (.na (.cond_f J J (.skip (Bv (.seq (.draw (oPq [104,106,300,301,302,303,305,307,208,209,210,211,412,413,414,415]) Ap zK (.lA J J J Y187.h J Sz187 Z3 (Point.length zP) ?_)))))))));refine .lA J J J Y187.h J Sz187 Z1 (Point.length zP) ?_;refine .cV J J J J Body231 (r5_D) tV (.cV J J J J Body230 (hod) tV (.cV J J J J Body229 (r5_Zero) tV (.cV J J J J Body232 (cZ) tV (.cV J J J J Body232 (cP) tV (.cV J J J J Body232 (cQ) tV (.alloc (cs:=(Bx (List.replicate 10 0))) J Zr250 J ?_))))));intro n9 hn9 hf9;refine .alloc (cs:=far.zero.cells) J far.zr J ?_;intro n10 hn10 hf10;refine .alloc (cs:=far.zero.cells) J far.zr J ?_;intro n11 hn11 hf11;refine .alloc (cs:=far.zero.cells) J far.zr J ?_;intro n12 hn12 hf12;refine .sA J J J J (by exact Bn _) Sz250 (by(simp[Aj,hDl];done)) Z3 sP (by exact upd3) ?_;refine .sA J J J J (far.isCell (by exact hAZo)) Sz253 (far.length (by exact hAZo)) Z2 (far.length (by exact far.zero_ok)) (by exact upd2) ?_;refine .sA J J J J (far.isCell (by exact hAPo)) Sz253 (far.length (by exact hAPo)) Z1 (far.length (by exact far.zero_ok)) zV ?_;refine .sA J J J J (far.isCell (by exact hAQo)) Sz253 (far.length (by exact hAQo)) Z0 (far.length (by exact far.zero_ok)) zU ?_
 refine .na (.seq (.sr (.a J J J (.na (.block (.loop (ι:=Nat×far) (fun p=>⟨[(4,ptr n4 0),(6,ptr n6 0),(8,ptr n8 0),(9,ptr n9 0),(10,ptr n10 0),(11,ptr n11 0),(12,ptr n12 0),(13,i64 (255-(p.1:Int)))],[⟨n12,(AQ).cells,253,30⟩,⟨n11,(AP).cells,253,30⟩,⟨n10,(p.2).cells,253,30⟩,⟨n9,Bg D,250,10⟩,⟨n8,Point.zero.cells,187,64⟩,⟨n6,Aa b,184,(Aa b).length⟩,⟨n4,Aa a,184,(Aa a).length⟩]⟩) (fun p=>p.1≤256∧FarRep p.2 (cv.lin (le a/2^(256-p.1)) (le b/2^(256-p.1)) P Q)) (fun p=>256-p.1) ((0,AZ)) ?_ ?_ ?_))))))
 ·exact⟨Laj _,hAZ⟩
 ·exact Ae wN (wh1 Z0 (wh1 Z1 (wh1 Z2 (wh1 Z3 (wh1 Z4 (wh1 (by exact mem6) wM)))))) nD
 rintro p ⟨hj1,hw⟩;have hwo:=hw.fit.ok;refine .seq (.sr (.m J J J (.geq J J J J J (.na (.condP J (fun hc1=>?_) (fun hc1=>?_))))))
 ·
  have hj3:p.1<256:=by omega
  have hu:=frep_dbl hDf hDv hP hQ hw;have cd:=r5_plus D p.2 p.2 hDf hw.fit hw.fit;revert hu cd;generalize frT D p.2 p.2=F1;intro hu cd;have huo:=hu.fit.ok;rw[show(255:Int)-(p.1:Int)=((255-p.1:Nat):Int) by omega];refine .skip (Bv (.join (ι:=far) (fun y=>⟨[(4,ptr n4 0),(6,ptr n6 0),(8,ptr n8 0),(9,ptr n9 0),(10,ptr n10 0),(11,ptr n11 0),(12,ptr n12 0),(13,i64 (((255-p.1:Nat):Int)))],[⟨n12,(AQ).cells,253,30⟩,⟨n11,(AP).cells,253,30⟩,⟨n10,(y).cells,253,30⟩,⟨n9,Bg D,250,10⟩,⟨n8,Point.zero.cells,187,64⟩,⟨n6,Aa b,184,(Aa b).length⟩,⟨n4,Aa a,184,(Aa a).length⟩]⟩) (fun y=>FarRep y (cv.lin (le a/2^(256-(p.1+1))) (le b/2^(256-(p.1+1))) P Q)) ?_ ?_))
  ·
   refine .block (.sr (.lA J J J Ca J Sz250 Z3 (by(simp[Aj,hDl];done)) ?_));refine .lA J J J Y253.h J Sz253 Z2 (far.length (by exact hwo)) ?_;refine .lA J J J Y253.h J Sz253 Z2 (far.length (by exact hwo)) ?_;refine .cV J J J J Body233 (cd) tV (.sA J J J J (far.isCell (by exact huo)) Sz253 (far.length (by exact huo)) Z2 (far.length (by exact hwo)) (by exact upd2) ?_);refine .na (.join (ι:=far) (fun x=>⟨[(4,ptr n4 0),(6,ptr n6 0),(8,ptr n8 0),(9,ptr n9 0),(10,ptr n10 0),(11,ptr n11 0),(12,ptr n12 0),(13,i64 (((255-p.1:Nat):Int)))],[⟨n12,(AQ).cells,253,30⟩,⟨n11,(AP).cells,253,30⟩,⟨n10,(x).cells,253,30⟩,⟨n9,Bg D,250,10⟩,⟨n8,Point.zero.cells,187,64⟩,⟨n6,Aa b,184,(Aa b).length⟩,⟨n4,Aa a,184,(Aa a).length⟩]⟩) (fun x=>FarRep x (cv.lin (2*(le a/2^(256-p.1))+le a/2^(255-p.1)%2) (2*(le b/2^(256-p.1))) P Q)) ?_ ?_)
   ·
    refine .sr (.lA J J J Y184.h J Sz184 (by exact mem6) (by(simp[ha];done)) ?_);refine .m J J J (.cV J J J J Body234 (ref_bit_at a ha (255-p.1) oM) tV (.na (.cond J (fun hc2=>?_) (fun hc2=>?_))))
    ·
     have ca:=r5_plus D F1 AP hDf hu.fit hAP.fit;have hul:=frep_l hDf hDv hP hQ hu hAP (bit_one hc2);revert ca hul;generalize frT D F1 AP=F2;intro ca hul;have hulo:=hul.fit.ok;refine .region (.lA J J J Ca J Sz250 Z3 (by(simp[Aj,hDl];done)) ?_);refine .lA J J J Y253.h J Sz253 Z2 (far.length (by exact huo)) ?_;refine .lA J J J Y253.h J Sz253 Z1 (far.length (by exact hAPo)) ?_;refine .cV J J J J Body233 (ca) tV (.sA J J J J (far.isCell (by exact hulo)) Sz253 (far.length (by exact hulo)) Z2 (far.length (by exact huo)) (by exact upd2) ?_);refine .na ?_;exact⟨F2,hul,Ae wN (wh1 Z0 (wh1 Z1 (wh1 Z2 (wh1 Z3 (wh1 Z4 (wh1 (by exact mem5) (wh1 (by exact mem6) wh0))))))) nD⟩
    refine .skip (Bv ?_);exact⟨F1,(by rw[bit_nil hc2,Lby];exact hu),Ae wN (wh1 Z0 (wh1 Z1 (wh1 Z2 (wh1 Z3 (wh1 Z4 (wh1 (by exact mem5) (wh1 (by exact mem6) wh0))))))) nD⟩
   intro x hj;have hx:=hj;have hxo:=hx.fit.ok;refine .sr (.lA J J J Y184.h J Sz184 (by exact mem5) (by(simp[hb];done)) ?_);refine .m J J J (.cV J J J J Body234 (ref_bit_at b hb (255-p.1) oM) tV (.na (.cond J (fun hc3=>?_) (fun hc3=>?_))))
   ·
    have cx:=r5_plus D x AQ hDf hx.fit hAQ.fit;have hxr:=frep_r hDf hDv hP hQ hx hAQ (bit_one hc3);revert cx hxr;generalize frT D x AQ=F3;intro cx hxr;have hxro:=hxr.fit.ok;refine .region (.lA J J J Ca J Sz250 Z3 (by(simp[Aj,hDl];done)) ?_);refine .lA J J J Y253.h J Sz253 Z2 (far.length (by exact hxo)) ?_;refine .lA J J J Y253.h J Sz253 Z0 (far.length (by exact hAQo)) ?_;refine .cV J J J J Body233 (cx) tV (.sA J J J J (far.isCell (by exact hxro)) Sz253 (far.length (by exact hxro)) Z2 (far.length (by exact hxo)) (by exact upd2) ?_);refine .nil (bl_n (Bv ?_));exact⟨F3,(by rw[lin_d (b:=0) hj3,lin_d (b:=0) hj3];exact hxr),Ae wN (wh1 Z0 (wh1 Z1 (wh1 Z2 (wh1 Z3 (wh1 Z4 (wh1 (by exact mem5) (wh1 (by exact mem6) wh0))))))) nD⟩
   refine .skip (bl_n (Bv ?_));exact⟨x,(by rw[lin_d (b:=0) hj3,lin_d (b:=0) hj3,bit_nil (E:=le b) hc3,Lby];exact hx),Ae wN (wh1 Z0 (wh1 Z1 (wh1 Z2 (wh1 Z3 (wh1 Z4 (wh1 (by exact mem5) (wh1 (by exact mem6) wh0))))))) nD⟩
  intro y hj;have hy:=hj;have hyo:=hy.fit.ok;refine .region (.m J J J (.sub_i64 J J J J oM (.a J J J (.na ?_))));exact⟨(p.1+1,y),⟨by simp only[];omega,hy⟩,by simp only[];omega,Ae (wk1 rfl (wk1 rfl (wk1 rfl (wk1 rfl (wk1 rfl (wk1 rfl (wk1 rfl (wk1 (congrArg (fun z=>some (i64 z)) (show((255-p.1:Nat):Int)-1=255-((p.1+1:Nat):Int) by omega)) wk0)))))))) (wh1 Z0 (wh1 Z1 (wh1 Z2 (wh1 Z3 (wh1 Z4 (wh1 (by exact mem5) (wh1 (by exact mem6) wh0))))))) nD⟩
 have hje:p.1=256:=by omega
 have hfin:FarRep p.2 (cv.lin (le a) (le b) P Q):=by rw[hje,lin_last]at hw;exact hw
 refine .exit (at_x (at_x (bl_h (Bv (.sr (.lA J J J Y253.h J Sz253 Z2 (far.length (by exact hwo)) ?_))))));refine .cV J J J J Body235 (r5_near p.2 _ hfin) tV (.sA J J J J (Point.isCell zP) Sz187 (Point.length zP) Z4 (Point.length zZ) (by exact upd4) ?_);refine .na ?_;refine .ret (en_r ?_);refine⟨_,[],Ao J J Y187.h J Sz187 Z4 (by exact Point.length zP),sP,sP,?_,rfl⟩;rfl
theorem r5_Mul2z(a:List UInt8)(P:Pt Fp)(ha:a.length=32)(hP:cv.on P):Mv 180 [agg (Aa a),agg (ptc P).cells,agg (Aa (List.replicate 32 0)),agg (ptc (zero:Pt Fp)).cells] (fun _=>True) (agg (ptc (cv.mul (le a) P)).cells):=by
  have h:=r5_Mul2 a (List.replicate 32 0) P zero ha rfl hP cv.on_zero;rwa[le_zero32,lin_one]at h
theorem r5_Mul(a:List UInt8)(P:Pt Fp)(ha:a.length=32)(hP:cv.on P):Mv 185 [agg (Aa a),agg (ptc P).cells] (fun _=>True) (agg (ptc (cv.mul (le a) P)).cells):=by
 intro W hW;refine Ac func185 J 10 ntmps185 J (.sr (.boxA J J ?_));intro n2 hn2 hf2;refine .boxA J J ?_;intro n3 hn3 hf3;refine .alloc (cs:=Point.zero.cells) J Point.zr J ?_;intro n4 hn4 hf4;refine .na (.seq (.draw (oPq [100,101,2,303,304,405]) Ap zK (.lA J J J Y184.h J Sz184 Z2 (by(simp[ha];done)) ?_)));refine .lA J J J Y187.h J Sz187 Z1 (Point.length zP) ?_;refine .build (cs:=Aa (List.replicate 32 0)) J J J (fun w=>by kernel_rfl) ?_;refine .cV J J J J Body229 (r5_Zero) tV (.cV J J J J Body180 (r5_Mul2z a P ha hP) tV (.sA J J J J (Point.isCell zP) Sz187 (Point.length zP) Z0 (Point.length zZ) zU ?_));refine .na ?_;refine .ret (en_r ?_);refine⟨_,[],Ao J J Y187.h J Sz187 Z0 (by exact Point.length zP),sP,sP,?_,rfl⟩;rfl
theorem ptc_y(P:Pt Fp):(ptc P).fY=fb P.y:=rfl
theorem r5_Bytes(P:Pt Fp)(hP:cv.on P):Mv 184 [agg (ptc P).cells] (fun _=>True) (.tuple #[agg (Aa (pb P)),i64 0]):=by
 intro W hW;refine Ac func184 J 19 ntmps184 J (.sr (.boxA J J ?_));intro n1 hn1 hf1;refine .alloc (cs:=(Aa (List.replicate 32 0))) J Zr28 J ?_;intro n2 hn2 hf2;refine .a J J J (.na (.seq (.sr (.lA J J J Y187.h J Sz187 Z1 (Point.length zP) ?_))));refine .cV J J J J Body228 (r5_Check P hP) tV (.nei J J J J (show(!decide _)=false from congrArg not (decide_eq_true (rfl))) (.na (.cond_f J (rfl) (.skip (Bv (.sr (.fld J J J Y187.h J Sz184 dE _ J (.lN (Aa _) J J J Y184.h J Sz184 Z1 (Point.row_fY zP) (Point.rl_fY zP) ?_))))))));refine .alloc (cs:=(Aa (List.replicate 32 0))) J Zr28 J ?_;intro n4 hn4 hf4;refine .sA J J J J zE Sz28 (by(simp[Am,ptc_y];done)) Z0 sP zU ?_;refine .na (.join (ι:=Unit) (fun _u=>⟨[(2,ptr n2 0),(4,ptr n4 0)],[⟨n4,Aa (pb P),28,32⟩,⟨n2,Aa (List.replicate 32 0),28,32⟩]⟩) (fun _u=>True) ?_ ?_)
 ·
  refine .sr (.fld J J J Y187.h J Sz184 dE _ J (.lN (Aa _) J J J Y184.h J Sz184 Z2 (Point.row_fX zP) (Point.rl_fX zP) ?_));refine .cV J J J J Body239 (r_odd P.x) tV (.na (.condP J (fun hc1=>?_) (fun hc1=>?_)))
  ·
   refine .region (.i1 J J J J Y28.h Sz5 31 J dE (.load1 J J J Y5.h J Z0 (Br (by show 31<(fb P.y).length;rw[Am];decide)) ?_));refine .add_u8 J J J (show Ag _ _=some (u8 128)from rfl) (.i1 J J J J Y28.h Sz5 31 J dE ?_);rw[show((ptc P).fY.getD 31 0+128:UInt8)=(fb P.y).getD 31 0|||128 from byte_plus _ (fb_top P.y)];refine .s1 J J J J J Sz5 Z0 (by(simp[Am,ptc_y];done)) (by exact Bd _ _ _) zU ?_;refine .na ?_
   (rw[show pb P=(fb P.y).set 31 ((fb P.y).getD 31 0|||128)from if_pos hc1];exact⟨(),trivial,Ae wN (wh1 Z0 (wh1 Z1 wh0)) nD⟩)
  refine .skip (Bv ?_)
  (rw[show pb P=fb P.y from if_neg hc1];exact⟨(),trivial,Ae wN (wh1 Z0 (wh1 Z1 wh0)) nD⟩)
 intro _u hj;skip;refine .sr (.lA J J J Y28.h J Sz28 Z0 (by(simp[Cg];done)) ?_);refine .sA J J J J zE Sz28 (by(simp[Cg];done)) Z1 sP zV ?_;refine .a J J J (.na ?_);refine .ret (en_r ?_);refine⟨_,[],Bi J J J Y28.h J Sz28 Z1 (by simp[Cg]),sP,sP,?_,rfl⟩;rfl
end Go.Proofs.YtbdfihcjddbhaaaGreat
namespace Go.Proofs.YtbdfihcjddbhaaaGreat
open Go Hw _root_.Go.Proofs.Tryz
theorem ref_mul(a b:List UInt8)(ha:a.length=32)(hb:b.length=32):Mv 242 [agg (Aa a),agg (Aa b)] (fun _=>True) (agg (Aa (leb 32 (le a*le b%L)))):=by
 intro W hW;refine Ac func242 J 58 ntmps242 J (.sr (.boxA J J ?_));intro n2 hn2 hf2;refine .boxA J J ?_;intro n3 hn3 hf3;refine .alloc (cs:=(Aa (List.replicate 32 0))) J A5 J ?_;intro n4 hn4 hf4;refine .nsr (.alloc (cs:=(Bx (List.replicate 64 0))) J Zr279 J ?_);intro n5 hn5 hf5;refine .na (.join (ι:=Unit) (fun _u=>⟨[(2,ptr n2 0),(3,ptr n3 0),(4,ptr n4 0),(5,ptr n5 0)],[⟨n5,natsV (out a b 32),279,64⟩,⟨n4,Aa (List.replicate 32 0),184,32⟩]⟩) (fun _u=>True) ?_ ?_)
 ·
  refine .sr (.a J J J (.na (.block (.loop (ι:=Nat) (fun p=>⟨[(2,ptr n2 0),(3,ptr n3 0),(4,ptr n4 0),(5,ptr n5 0),(6,i64 (p:Int))],[⟨n5,natsV (out a b p),279,64⟩,⟨n4,Aa (List.replicate 32 0),184,32⟩,⟨n3,Aa b,184,(Aa b).length⟩,⟨n2,Aa a,184,(Aa a).length⟩]⟩) (fun p=>p≤32) (fun p=>32-p) (0) ?_ ?_ ?_))))
  ·omega
  ·exact Ae wN (wh1 (by rw[out,natsV_zeros];exact B0) (wh1 Z1 (wh1 Z2 (wh1 Z3 wh0)))) nD
  rintro p hp;refine .seq (.sr (.m J J J (.lss J J J J J (.na (.condP J (fun hc0=>?_) (fun hc0=>?_))))))
  ·
   have hp2:p<32:=by omega
   refine .skip (Bv (.seq (.block (.sr (.a J J J (.na (.block (.loop (ι:=Nat) (fun q=>⟨[(2,ptr n2 0),(3,ptr n3 0),(4,ptr n4 0),(5,ptr n5 0),(6,i64 (p:Int)),(7,i64 (q:Int))],[⟨n5,natsV (inn a b p (out a b p) q),279,64⟩,⟨n4,Aa (List.replicate 32 0),184,32⟩,⟨n3,Aa b,184,(Aa b).length⟩,⟨n2,Aa a,184,(Aa a).length⟩]⟩) (fun q=>q≤32) (fun q=>32-q) (0) ?_ ?_ ?_))))))))
   ·omega
   ·exact Ae wN (wh1 Z0 (wh1 Z1 (wh1 Z2 (wh1 Z3 wh0)))) nD
   rintro q hq;refine .seq (.sr (.m J J J (.lss J J J J J (.na (.condP J (fun hc1=>?_) (fun hc1=>?_))))))
   ·
    have hq2:q<32:=by omega
    obtain⟨hm0,hm1⟩:=natCast_mul_le (a.getD p 0).toNat_lt (b.getD q 0).toNat_lt;have hcl:(inn a b p (out a b p) q).getD (p+q) 0≤2080800*p+65025*q:=inn_le a b p _ _ (out_le a b p) q (p+q);refine .skip (Bv (.seq (.block (.draw (oPq [0,1,2,3,4,5,6,107,8,9,110,11,12,13,114,15,16,17,18,419]) Ap zK (.m J J J (.m J J J (.aI J J J J oM (.m J J J (.m J J J (.aI J J J J oM (.i1 J J J J underlying279 Sz3 (p+q) oM oM (.load1 J J J Y3.h J Z0 (get_nats (by simp[inn_length,out_length];omega)) ?_))))))))))));refine .m J J J (.i1 J J J J Y184.h Sz5 _ J oM (.load1 J J J Y5.h J Z3 zG ?_));refine .conv J J J Y5.h Y3.h (cv_u8_i64 _) (.m J J J (.i1 J J J J Y184.h Sz5 _ J oM (.load1 J J J Y5.h J Z2 zG ?_)))
    refine .conv J J J Y5.h Y3.h (cv_u8_i64 _) (.mul_i64 J J J J oM (.aI J J J J oM (.i1 J J J J underlying279 Sz3 (p+q) oM oM (.s1 J J J J J Sz3 Z0 (by(simp[natsV_length,inn_length,out_length];omega)) (by rfl) zU ?_))))
    refine .nil (bl_n (Bv (.region (.m J J J (.aI J J J J oM (.a J J J (.na ?_)))))));exact⟨q+1,by omega,by omega,Ae wN (wh1 (by rw[inn,addC_set];exact B0) (wh1 Z1 (wh1 Z2 (wh1 Z3 wh0)))) nD⟩
   obtain rfl:q=32:=by omega
   refine .exit (at_x (at_x (bl_h (bl_n (Bv (.region (.m J J J (.aI J J J J oM (.a J J J (.na ?_))))))))));exact⟨p+1,by omega,by omega,Ae wN (wh1 Z0 (wh1 Z1 (wh1 Z2 (wh1 Z3 wh0)))) nD⟩
  obtain rfl:p=32:=by omega
  refine .exit (at_x (at_x (bl_h (Bv ?_))));refine⟨(),trivial,Ae wN (wh1 Z0 (wh1 Z1 wh0)) nD⟩
 intro _u hj;skip;refine .sr (.mkSlice (z:=u8 0) (by':=1) 64 J J J J Y33.h Sz5 Zr5 (by unfold By;kernel_rfl) J oM oM oM ?_);intro n38;refine .a J J J (.nsr (.a J J J (.na (.join (ι:=Unit) (fun _u=>⟨[(4,ptr n4 0),(8, .slice (some ⟨n38,0,none⟩) 64 64)],[⟨n38,Aa (leb 64 (le a*le b)),5,64⟩,⟨n4,Aa (List.replicate 32 0),184,32⟩]⟩) (fun _u=>True) ?_ ?_))))
 ·
  refine .sr (.a J J J (.na (.block (.loop (ι:=Nat) (fun k=>⟨[(4,ptr n4 0),(5,ptr n5 0),(8, .slice (some ⟨n38,0,none⟩) 64 64),(9,i64 ((ev ((out a b 32).take k)/256^k:Nat):Int)),(10,i64 (k:Int))],[⟨n38,Aa (padW 64 (ev ((out a b 32).take k)) k),5,64⟩,⟨n5,natsV (out a b 32),279,64⟩,⟨n4,Aa (List.replicate 32 0),184,32⟩]⟩) (fun k=>k≤64) (fun k=>64-k) (0) ?_ ?_ ?_))))
  ·omega
  ·exact Ae (wk1 rfl (wk1 rfl (wk1 rfl (wk1 (by rw[Ld7];rfl) wN)))) (wh1 (by rw[padW_zero];exact B0) (wh1 Z1 (wh1 Z2 wh0))) nD
  rintro k hk;have hpl:=padW_length 64 (ev ((out a b 32).take k)) k hk;have hcb:=ev_take_le (out a b 32) _ (out_le a b 32) k;have hcn:(0:Int)≤((ev ((out a b 32).take k)/256^k:Nat):Int):=Ldx _;have hcb2:((ev ((out a b 32).take k)/256^k:Nat):Int)≤((2080800*32:Nat):Int):=Int.ofNat_le.2 hcb;refine .seq (.sr (.m J J J (.lss J J J J J (.na (.condP J (fun hc2=>?_) (fun hc2=>?_))))))
  ·
   have hk2:k<64:=by omega
   have hco:=out_le a b 32 k;have hs:((ev ((out a b 32).take k)/256^k:Nat):Int)+(((out a b 32).getD k 0:Nat):Int)=((ev ((out a b 32).take k)/256^k+(out a b 32).getD k 0:Nat):Int):=by rw[Ld3]
   refine .skip (Bv (.seq (.block (.sr (.m J J J (.m J J J (.i1 J J J J underlying279 Sz3 _ J oM (.load1 J J J Y3.h J Z1 (get_nats (by simp[out_length];omega)) ?_))))))));refine .aI J J J J oM (.a J J J (.nsr (.m J J J (.m J J J (.m J J J (.rem_i64 J J J J oM (.conv J J J Y3.h Y5.h (cv_i64_u8 _) (.idxSl1 J J J J Y33.h Sz5 _ J oM (.s1 J J J J J Sz5 Z0 (by(simp;omega)) (by exact Bd _ _ _) zU ?_)))))))));refine .na (.region (.m J J J (.quo_i64 J J J J oM (.a J J J (.nil (bl_n (Bv (.region (.m J J J (.aI J J J J oM (.a J J J (.na ?_))))))))))));have hst:=ev_take_succ (out a b 32) k (by rw[out_length];omega);exact⟨k+1,by omega,by omega,Ae (wk1 rfl (wk1 rfl (wk1 rfl (wk1 (by rw[hst,←carry_step _ _ _ _ hs];rfl) wN)))) (wh1 (by rw[hst,←padW_step 64 _ _ k oM _ hs,byteOf_mod];exact B0) (wh1 Z1 (wh1 Z2 wh0))) nD⟩
  obtain rfl:k=64:=by omega
  refine .exit (at_x (at_x (bl_h (Bv ?_))));refine⟨(),trivial,Ae wN (wh1 (by rw[←padW_all,←ev_all a b ha hb];exact B0) (wh1 Z2 wh0)) nD⟩
 intro _u hj;skip;refine .sr (.m J J J (.cV J J J J Body240 (ref_rest _ 0 _ 64 (leb 64 (le a*le b)) (by simp[Ai]) oM) (fun W h=>Aq h Z0) ?_));refine .sA J J J J zB Sz184 (by(simp[Ai];done)) Z1 sP zV ?_;refine .na ?_;refine .ret (en_r ?_);refine⟨_,[],Ao J J Y184.h J Sz184 Z1 (by simp[Ai]),sP,sP,?_,rfl⟩;rw[le_leb,Lad (le512 ha hb)]
theorem ref_muladd(a b c:List UInt8)(ha:a.length=32)(hb:b.length=32)(hc:c.length=32):Mv 190 [agg (Aa a),agg (Aa b),agg (Aa c)] (fun _=>True) (agg (Aa (leb 32 ((le a*le b+le c)%L)))):=by
 intro W hW;refine Ac func190 J 13 ntmps190 J (.sr (.boxA J J ?_));intro n3 hn3 hf3;refine .boxA J J ?_;intro n4 hn4 hf4;refine .boxA J J ?_;intro n5 hn5 hf5;refine .alloc (cs:=(Aa (List.replicate 32 0))) J A5 J ?_;intro n6 hn6 hf6;refine .na (.seq (.draw (oPq [100,101,3,302,304,305,406]) Ap zK (.lA J J J Y184.h J Sz184 Z3 (by(simp[ha];done)) ?_)));refine .lA J J J Y184.h J Sz184 Z2 (by(simp[hb];done)) ?_;refine .sliceArr J J J Y184.h Sz5 (.cV J J J J Body242 (ref_mul a b ha hb) tV (.cV J J J J Body240 (ref_rest _ 0 _ 32 c (by simp[hc]) oM) (fun W h=>Aq h Z1) ?_));refine .cV J J J J Body241 (ref_plus_n _ _ (Lbo _ L_pos) (Lbo _ L_pos)) tV (.sA J J J J zB Sz184 (by(simp[Ai];done)) Z0 sP zU ?_);refine .na ?_;refine .ret (en_r ?_);refine⟨_,[],Ao J J Y184.h J Sz184 Z0 (by simp[Ai]),sP,sP,?_,rfl⟩;rw[←Lee]
open Ed
variable{D:DB}{W w:World}{b n:Nat}{l:List UInt8}{v:Value}
theorem byte_8:∀b:UInt8,b-UInt8.ofNat (b.toNat%8)=b&&&248∧UInt8.ofNat (b.toNat%64)+64=(b&&&127)|||64:=by
  intro b;have h:∀n,n<256→UInt8.ofNat n-UInt8.ofNat ((UInt8.ofNat n).toNat%8)=UInt8.ofNat n&&&248∧UInt8.ofNat ((UInt8.ofNat n).toNat%64)+64=(UInt8.ofNat n&&&127)|||64:=by decide
  have h2:=h b.toNat b.toNat_lt;rwa[Lfm]at h2
theorem clamp_ref(h:l.length=32):(l.set 0 (l.getD 0 0-UInt8.ofNat ((l.getD 0 0).toNat%8))).set 31 (UInt8.ofNat (((l.set 0 (l.getD 0 0-UInt8.ofNat ((l.getD 0 0).toNat%8))).getD 31 0).toNat%64)+64)=clampB l:=by
  have g:(l.set 0 (l.getD 0 0-UInt8.ofNat ((l.getD 0 0).toNat%8))).getD 31 0=l.getD 31 0:=by
    rw[La2,Le4 dE,←La2]
  rw[g,(byte_8 _).1,(byte_8 _).2];rfl
theorem upd_all{f:List UInt8}(h:f.length=32):upd (Aa (List.replicate 32 0)) 0 (Aa f)=Aa f:=by simp[upd,Aa,h]
theorem sees_take(h:Sees w b 0 (Aa l)):SeesP w (some ⟨b,0,none⟩) (Aa (l.take n)):=SeesP.of (fun i v hv=>h i v (take_sees hv))
theorem sees_drop(h:Sees w b 0 (Aa l)):SeesP w (some ⟨b,n,none⟩) (Aa (l.drop n)):=SeesP.of (fun i v hv=>by
  have e:(Aa l)[n+i]? =some v:=by rw[Aa,Ldw,Lb9]at hv;exact hv
  have:=h _ v e;rwa[Lb2]at this)
theorem r6_secret(seed:List UInt8)(h32:seed.length=32)(s:List UInt8)(hs:Hid (Cr seed=s)):Meets prog 187 [agg (Aa seed)] [] (fun _=>True) (fun v out=>∃q c,v= .tuple #[agg (Aa (clampB (s.take 32))), .slice (some ⟨q,0,none⟩) 32 c]∧32≤c∧out=[⟨q,Aa (s.drop 32),5,c*1⟩]):=by
 intro W hW;have hs64:s.length=64:=by rw[←hs.out];exact sha512_length seed
 have ht32:(s.take 32).length=32:=by rw[Lar,hs64];rfl
 have hd32:(s.drop 32).length=32:=by rw[Lc0,hs64]
 have hcl:=clampB_length ht32;refine Ac func187 J 28 ntmps187 J (G3 ?_);intro n1 hn1 hf1;refine .alloc (cs:=(Aa (List.replicate 32 0))) J A5 J ?_;intro n2 hn2 hf2;refine G6 ?_;refine .mkRow2 (z:= .slice none 0 0) [.slice (some ⟨n1,0,none⟩) 32 32] [.slice (some ⟨n1,0,none⟩) 32 32] rfl J Y158.h Sz33 Zr33 J J (by intro v hv;rw[La1.1 hv];rfl) dE J ?_;intro q7;refine .cV J J J J Body188 (r2_Sum512 (some ⟨q7,0,none⟩) 1 1 [⟨some ⟨n1,0,none⟩,32,32⟩] [seed] rfl J (fun j hj=>(by
   rcases(show j=0 by omega)with rfl
   ·exact⟨by show 32=List.length _;exact h32.symm,fun e=>by cases e⟩)) (seed) sP (by(simp[h32];done)) dE s hs) (fun w h=>⟨SeesP.of (Aq h Z0),(fun j hj=>(by
   rcases(show j=0 by omega)with rfl
   ·exact SeesP.of (Aq (cs:=Aa seed) h Z2)))⟩) ?_
 refine .alloc (cs:=(Aa (List.replicate 64 0))) J Zr34 J ?_;intro n4 hn4 hf4;refine .sA J J J J zE Sz34 (by(simp[hs64];done)) Z0 sP zU ?_;refine G4 ?_;refine .alloc (cs:=(Aa (List.replicate 32 0))) J A5 J ?_;intro n5 hn5 hf5;refine G3 ?_;refine .draw (oPq [0,1,402]) Ap zK (G1 ?_);refine .sliceArrHi 32 J J J J J dE dE Y34.h Sz5 (.copyP (Aa (s.take 32)) 32 J J J J J Y33.h Sz5 (fun w h=>sees_take (Aq h Z1)) (fun e=>by cases e) (by rw[Aa,La0];exact ht32) J (by rw[Aa,←Lce,La7 (Lgh ht32)]) (Av _) Z0 sP (by exact upd_all ht32) zU ?_);refine G4 ?_;refine .i1 J J J J Y184.h Sz5 0 J dE (G1 ?_);refine .i1 J J J J Y184.h Sz5 0 J dE (G1 ?_);refine .rem_u8 J J J J 8 J dE (.sub_u8 J J J J (.i1 J J J J Y184.h Sz5 0 J dE (.s1 J J J J J Sz5 Z0 (by(simp[hs64];done)) (by exact Bd _ _ _) zU ?_)));refine G4 ?_;refine .i1 J J J J Y184.h Sz5 31 J dE (.load1 J J J Y5.h J Z0 (by exact Br (by(simp[ht32];done))) ?_);refine .rem_u8 J J J J 64 J dE (.add_u8 J J J (show Ag _ _=some (u8 64)from rfl) (.i1 J J J J Y184.h Sz5 31 J dE (.s1 J J J J J Sz5 Z0 (by(simp[hs64,ht32];done)) (by exact Bd _ _ _) zU ?_)));refine G3 ?_;refine .withK (sp_k (sp_v (sp_v (sp_v (sp_v sp_n))))) J (.draw (oPq [0,2,201,403,404,5]) Ap zK ?_);rw[clamp_ref ht32];refine .kloadAll J J J Y184.h J Sz184 Z0 (by(simp[hcl];done)) ?_;refine .sliceArrLo 32 J J J J J dE Y34.h Sz5 (.mkRow2 (z:=u8 0) [] [] rfl J Y33.h Sz5 Zr5 J J (by intro v hv;cases hv) dE J ?_);intro q25;refine .appendSl (z:=u8 0) (by':=1) (Aa (s.drop 32)) J J J J J Y33.h Y33.h Sz5 Zr5 (by unfold By;kernel_rfl) J (fun w h=>sees_drop (Aq h Z1)) (fun e=>by cases e) (Av _) rM J J oM oM oM (by rw[Aa,La0];exact hd32) ?_;intro q27 c27 hq27;refine .sA J J J J zE Sz184 (by(simp[hcl];done)) Z3 sP (by exact upd3) ?_;refine G3 ?_;refine G2 ?_;simp only[Lap,Lal,Lak];refine A3 (out:=(⟨q27,[]++Aa (s.drop 32),5,c27*1⟩::[])) (Bi J J J Y184.h J Sz184 Z3 (by simp[hcl])) (Ab rM Ak) ?_;exact⟨q27,c27,rfl,by omega,rfl⟩
theorem r6_Secret(seed:List UInt8)(h32:seed.length=32)(s:List UInt8)(hs:Hid (Cr seed=s)):Mv 186 [agg (Aa seed)] (fun _=>True) (agg (Aa (clampB (s.take 32)))):=by
 intro W hW;have hs64:s.length=64:=by rw[←hs.out];exact sha512_length seed
 have ht32:(s.take 32).length=32:=by rw[Lar,hs64];rfl
 have hd32:(s.drop 32).length=32:=by rw[Lc0,hs64]
 have hcl:=clampB_length ht32;revert hcl;have hsec:=r6_secret seed h32 s hs;revert hsec;generalize clampB (s.take 32)=N;intro hsec hcl;refine Ac func186 J 11 ntmps186 J (G3 ?_);intro n1 hn1 hf1;refine .alloc (cs:=(Aa (List.replicate 32 0))) J A5 J ?_;intro n2 hn2 hf2;refine G4 ?_;refine .lA J J J Y28.h J Sz28 Z1 (by(simp[h32];done)) ?_;refine .call4 J J J J J Body187 (hsec) tV ?_;rintro v7 out7 ⟨q7,c7,rfl,hc7,rfl⟩;simp only[Lap,Lal];refine G3 ?_;refine .alloc (cs:=(Aa (List.replicate 32 0))) J A5 J ?_;intro n3 hn3 hf3;refine .sA J J J J zE Sz184 (by(simp[hcl];done)) Z0 sP zU ?_;refine G5 ?_;refine .lA J J J Y184.h J Sz184 Z0 (by(simp[hcl];done)) ?_;refine .sA J J J J zE Sz184 (by(simp[hcl];done)) Z2 sP (by exact upd2) ?_;refine G2 ?_;refine G2 ?_;refine⟨_,[],Ao J J Y184.h J Sz184 Z2 (by simp[hcl]),sP,sP,?_,rfl⟩;rfl
theorem r6_KeyQ(N:List UInt8)(hN:N.length=32)(Q:Pt Fp)(hQ:cv.mul (le N) bP=Q):cv.on Q∧Mv 185 [agg (Aa N),agg (ptc bP).cells] (fun _=>True) (agg (ptc Q).cells):=by
  rw[←hQ];exact⟨cv.on_mul bP_on _,r5_Mul N bP hN bP_on⟩
theorem r6_Key(seed:List UInt8)(h32:seed.length=32)(s:List UInt8)(hs:Hid (Cr seed=s)):Mv 153 [agg (Aa seed)] (fun _=>True) (agg (Aa (sgK s))):=by
 intro W hW;have hs64:s.length=64:=by rw[←hs.out];exact sha512_length seed
 have ht32:(s.take 32).length=32:=by rw[Lar,hs64];rfl
 have hd32:(s.drop 32).length=32:=by rw[Lc0,hs64]
 have hcl:=clampB_length ht32;obtain⟨Q,hQ⟩:∃Q,cv.mul (le (clampB (s.take 32))) bP=Q:=⟨_,rfl⟩;have hsec:=r6_Secret seed h32 s hs;have hkq:=r6_KeyQ (clampB (s.take 32)) hcl Q hQ;rw[show sgK s=pb Q from by rw[sgK,hQ]];clear hQ;revert hcl hsec hkq;generalize clampB (s.take 32)=N;intro hcl hsec hkq;obtain⟨hQo,hmul⟩:=hkq;refine Ac func153 J 14 ntmps153 J (G3 ?_);intro n1 hn1 hf1;refine .alloc (cs:=(Aa (List.replicate 32 0))) J Zr29 J ?_;intro n2 hn2 hf2;refine G4 ?_;refine .lA J J J Y28.h J Sz28 Z1 (by(simp[h32];done)) ?_;refine .cV J J J J Body186 (hsec) tV (.cV J J J J Body181 (r5_Base) tV (.cV J J J J Body185 (hmul) tV (.cV J J J J Body184 (r5_Bytes Q hQo) tV (G3 ?_))));refine .alloc (cs:=(Aa (List.replicate 32 0))) J Zr28 J ?_;intro n3 hn3 hf3;refine .sA J J J J zE Sz28 (by(simp[Cg];done)) Z0 sP zU ?_;refine G5 ?_;refine .lA J J J Y28.h J Sz28 Z0 (by(simp[Cg];done)) ?_;refine .sA J J J J zE Sz29 (by(simp[Cg];done)) Z1 sP zV ?_;refine G2 ?_;refine G2 ?_;refine⟨_,[],Ao J J Y29.h J Sz29 Z1 (by simp[Cg]),sP,sP,?_,rfl⟩;rfl
theorem r6_challenge(r k:List UInt8)(hr:r.length=32)(hk:k.length=32)(sb:Sl)(bb:List UInt8)(hbn:bb.length≤80000)(s:List UInt8)(hs:Hid (Cr (r++(k++bb))=s)):Mv 182 [agg (Aa r),agg (Aa k),sb.v] (fun W=>BytesAt W sb bb) (agg (Aa (sgR s))):=by
 intro W hW;have hs64:s.length=64:=by rw[←hs.out];exact sha512_length _
 obtain⟨R,hR⟩:∃R,Hid (sgR s=R):=⟨_,⟨rfl⟩⟩;have hRl:R.length=32:=by rw[←hR.out];exact sgR_length s
 have hres:=fun b=>ref_Rest b 0 64 64 s hs64 dE;rw[show leb 32 (le s%L)=R from hR.out]at hres;rw[hR.out];refine Ac func182 J 21 ntmps182 J (G3 ?_);intro n3 hn3 hf3;refine G1 ?_;intro n4 hn4 hf4;refine .alloc (cs:=(Aa (List.replicate 32 0))) J A5 J ?_;intro n6 hn6 hf6;refine G3 ?_;refine .draw (oPq [0,1,2,203,304,205,406]) Ap zK (G3 ?_);refine .mkRow2 (z:= .slice none 0 0) [.slice (some ⟨n3,0,none⟩) 32 32, .slice (some ⟨n4,0,none⟩) 32 32,sb.v] [.slice (some ⟨n3,0,none⟩) 32 32, .slice (some ⟨n4,0,none⟩) 32 32,sb.v] rfl J Y158.h Sz33 Zr33 J J (by intro v hv;simp only[Lag,Lc6,or_false]at hv;rcases hv with rfl|rfl|rfl<;>rfl) dE J ?_;intro q13;refine .cV J J J J Body188 (r2_Sum512 (some ⟨q13,0,none⟩) 3 3 [⟨some ⟨n3,0,none⟩,32,32⟩,⟨some ⟨n4,0,none⟩,32,32⟩,sb] [r,k,bb] rfl J (fun j hj=>(by
   rcases(show j=0∨j=1∨j=2 by omega)with rfl|rfl|rfl
   ·exact⟨by show 32=List.length _;exact hr.symm,fun e=>by cases e⟩
   ·exact⟨by show 32=List.length _;exact hk.symm,fun e=>by cases e⟩
   ·exact⟨by show sb.n=bb.length;exact hW.len.symm,fun e=>by have h1:=hW.nil e;have h2:=hW.cap;show sb.n=0;omega⟩)) (r++(k++bb)) sP (by(simp[hr,hk];omega)) dE s hs) (fun w h=>⟨SeesP.of (Aq h Z0),(fun j hj=>(by
   rcases(show j=0∨j=1∨j=2 by omega)with rfl|rfl|rfl
   ·exact SeesP.of (Aq (cs:=Aa r) h Z3)
   ·exact SeesP.of (Aq (cs:=Aa k) h Z2)
   ·exact A6 h rfl hW.see))⟩) ?_
 refine .alloc (cs:=(Aa (List.replicate 64 0))) J Zr34 J ?_;intro n7 hn7 hf7;refine .sA J J J J zE Sz34 (by(simp[hs64];done)) Z0 sP zU ?_;refine G5 ?_;refine .cV J J J J Body189 (hres n7) (fun w h=>Aq h Z0) ?_;refine G3 ?_;refine .alloc (cs:=(Aa (List.replicate 32 0))) J A5 J ?_;intro n8 hn8 hf8;refine .sA J J J J zE Sz184 (by(simp[hRl];done)) Z0 sP zU ?_;refine G5 ?_;refine .lA J J J Y184.h J Sz184 Z0 (by(simp[hRl];done)) ?_;refine .sA J J J J zE Sz184 (by(simp[hRl];done)) Z3 sP (by exact upd3) ?_;refine G2 ?_;refine G2 ?_;refine⟨_,[],Ao J J Y184.h J Sz184 Z3 (by simp[hRl]),sP,sP,?_,rfl⟩;rfl
theorem r6_Sign(seed:List UInt8)(h32:seed.length=32)(sb:Sl)(bb:List UInt8)(hbn:bb.length≤80000)(s s1 s2:List UInt8)(hs:Hid (Cr seed=s))(hs1:Hid (Cr (s.drop 32++bb)=s1))(hs2:Hid (Cr (sgF s1++(sgK s++bb))=s2)):Mv 154 [agg (Aa seed),sb.v] (fun W=>BytesAt W sb bb) (agg (Aa (sgF s1++sgS s s1 s2))):=by
 intro W hW;have hs64:s.length=64:=by rw[←hs.out];exact sha512_length seed
 have ht32:(s.take 32).length=32:=by rw[Lar,hs64];rfl
 have hd32:(s.drop 32).length=32:=by rw[Lc0,hs64]
 have hcl:=clampB_length ht32;have h64:s1.length=64:=by rw[←hs1.out];exact sha512_length _
 have csec:=r6_secret seed h32 s hs;have ckey:=r6_Key seed h32 s hs;have cch:=r6_challenge (sgF s1) (sgK s) (sgF_length s1) (sgK_length s) sb bb hbn s2 hs2;have cma:=ref_muladd (sgR s2) (clampB (s.take 32)) (sgR s1) (sgR_length s2) hcl (sgR_length s1);rw[show leb 32 ((le (sgR s2)*le (clampB (s.take 32))+le (sgR s1))%L)=sgS s s1 s2 from rfl]at cma;obtain⟨Q,hQ⟩:∃Q,cv.mul (le (sgR s1)) bP=Q:=⟨_,rfl⟩;have hkq:=r6_KeyQ (sgR s1) (sgR_length s1) Q hQ;have hF:sgF s1=pb Q:=by rw[sgF,hQ]
 rw[hF]at cch ⊢;clear hQ hs2 hF;have hres:=fun b=>ref_Rest b 0 64 64 s1 h64 dE;rw[show leb 32 (le s1%L)=sgR s1 from rfl]at hres;have lK:=sgK_length s;have lS:=sgS_length s s1 s2;have lR1:=sgR_length s1;have lR2:=sgR_length s2;revert hcl csec ckey cch cma hkq hres lK lS lR1 lR2;generalize sgS s s1 s2=S3;generalize sgK s=K;generalize sgR s1=r1;generalize sgR s2=r2;generalize clampB (s.take 32)=N;intro hcl csec ckey cma cch hkq hres lK lS lR1 lR2;obtain⟨hQo,hmul⟩:=hkq;have hpq:=Cg Q;refine Ac func154 J 50 ntmps154 J (G3 ?_);intro n2 hn2 hf2;refine .alloc (cs:=(Aa (List.replicate 64 0))) J Zr35 J ?_;intro n4 hn4 hf4;refine G4 ?_;refine .lA J J J Y28.h J Sz28 Z1 (by(simp[h32];done)) ?_;refine .call4 J J J J J Body187 (csec) tV ?_;rintro v7 out7 ⟨q7,c7,rfl,hc7,rfl⟩;simp only[Lap,Lal];refine G3 ?_;refine .alloc (cs:=(Aa (List.replicate 32 0))) J A5 J ?_;intro n5 hn5 hf5;refine .sA J J J J zE Sz184 (by(simp[hcl];done)) Z0 sP zU ?_;refine G7 ?_;refine .mkRow2 (z:= .slice none 0 0) [.slice (some ⟨q7,0,none⟩) 32 c7,sb.v] [.slice (some ⟨q7,0,none⟩) 32 c7,sb.v] rfl J Y158.h Sz33 Zr33 J J (by intro v hv;simp only[Lag,Lc6,or_false]at hv;rcases hv with rfl|rfl<;>rfl) dE J ?_;intro q21;refine .cV J J J J Body188 (r2_Sum512 (some ⟨q21,0,none⟩) 2 2 [⟨some ⟨q7,0,none⟩,32,c7⟩,sb] [s.drop 32,bb] rfl J (fun j hj=>(by
   rcases(show j=0∨j=1 by omega)with rfl|rfl
   ·exact⟨by show 32=List.length _;exact hd32.symm,fun e=>by cases e⟩
   ·exact⟨by show sb.n=bb.length;exact hW.len.symm,fun e=>by have h1:=hW.nil e;have h2:=hW.cap;show sb.n=0;omega⟩)) (s.drop 32++bb) sP (by(simp[hd32];omega)) dE s1 hs1) (fun w h=>⟨SeesP.of (Aq h Z0),(fun j hj=>(by
   rcases(show j=0∨j=1 by omega)with rfl|rfl
   ·exact SeesP.of (Aq (cs:=Aa (s.drop 32)) h Z2)
   ·exact A6 h rfl hW.see))⟩) ?_
 refine .alloc (cs:=(Aa (List.replicate 64 0))) J Zr34 J ?_;intro n7 hn7 hf7;refine .sA J J J J zE Sz34 (by(simp[h64];done)) Z0 sP zU ?_;refine G5 ?_;refine .cV J J J J Body189 (hres n7) (fun w h=>Aq h Z0) ?_;refine G3 ?_;refine .alloc (cs:=(Aa (List.replicate 32 0))) J A5 J ?_;intro n8 hn8 hf8;refine .sA J J J J zE Sz184 (by(simp[lR1];done)) Z0 sP zU ?_;refine G4 ?_;refine .draw (oPq [100,301,302,303,4,5,6,207,408,9]) Ap zK (.lA J J J Y184.h J Sz184 Z0 (by(simp[lR1];done)) ?_);refine .cV J J J J Body181 (r5_Base) tV (.cV J J J J Body185 (hmul) tV (.cV J J J J Body184 (r5_Bytes Q hQo) tV (G3 ?_)));refine .alloc (cs:=(Aa (List.replicate 32 0))) J Zr28 J ?_;intro n10 hn10 hf10;refine .sA J J J J zE Sz28 (by(simp[Cg];done)) Z0 sP zU ?_;refine G4 ?_;refine .draw (oPq [100,101,3,105,106,302,304,307,208,409]) Ap zK (.lA J J J Y28.h J Sz28 Z0 (by(simp[Cg];done)) ?_);refine .lA J J J Y28.h J Sz28 (by exact mem7) (by(simp[h32];done)) ?_;refine G1 ?_;refine .lA J J J Y184.h J Sz184 Z4 (by(simp[hcl];done)) ?_;refine .lA J J J Y184.h J Sz184 Z1 (by(simp[lR1];done)) ?_;refine .cV J J J J Body153 (ckey) tV (.cV J J J J Body182 (cch) (fun w h=>bytes_ext h J hW) (.cV J J J J Body190 (cma) tV (.alloc (cs:=(Aa (List.replicate 32 0))) J A5 J ?_)));intro n12 hn12 hf12;refine .sA J J J J zE Sz184 (by(simp[lS];done)) Z0 sP zU ?_;refine G4 ?_;refine .alloc (cs:=(Aa (List.replicate 64 0))) J Zr35 J ?_;intro n13 hn13 hf13;refine G3 ?_;refine .draw (oPq [0,1,402]) Ap zK (G2 ?_);refine .copyP (Aa (pb Q)) 32 J J J J J Y33.h Sz5 (fun w h=>SeesP.of (Aq h Z2)) (fun e=>by cases e) (by rw[Aa,La0];exact(Cg Q)) J (by rw[Aa,←Lce,La7 (Lgh (Cg Q))]) (Av _) Z0 sP (by exact upd_first (Cg Q)) zU ?_;refine G3 ?_;refine .draw (oPq [0,1,402]) Ap zK (.sliceArrLo 32 J J J J J dE Y35.h Sz5 (G1 ?_));refine .copyP (Aa S3) 32 J J J J J Y33.h Sz5 (fun w h=>SeesP.of (Aq h Z1)) (fun e=>by cases e) (by rw[Aa,La0];exact lS) J (by rw[Aa,←Lce,La7 (Lgh lS)]) (Av _) Z0 (by(simp;omega)) (by exact upd_last (Cg Q) lS) zU ?_;refine G4 ?_;refine .lA J J J Y35.h J Sz35 Z0 (by(simp[Cg,lS];done)) ?_;refine .sA J J J J zE Sz35 (by(simp[Cg,lS];done)) mR sP (by(repeat(first|exact upd0|apply Upd.tail))) ?_;refine G2 ?_;refine G2 ?_;refine⟨_,[],Ao J J Y35.h J Sz35 mR (by simp[Cg,lS]),sP,sP,?_,rfl⟩;rfl
def btag:List UInt8:=[98,108,111,99,107]
def btxt(D:DB):List UInt8:=btag++D.body
def bsg(D:DB)(K G:List UInt8):DB:={ D with w:=K,sg:=G }
theorem DB.body_small(hd:D.ok)(h1:D.ls.length≤40)(h2:D.ds.length≤2000):(btxt D).length≤4005:=by
  have hz1:=Co D.seq.toNat;have hz2:=Co (UInt64.ofNat D.ls.length).toNat;have hz3:=Co (UInt64.ofNat D.ds.length).toNat;have hfl:=Cj hd.ls (Laf D.ls.length);rw[Ldh]at hfl;simp only[btxt,btag,DB.body,La5,Bj,hd.w,hd.prev,hfl,Lbh,Leu];omega
noncomputable def dgood(D:DB):Int:=if D.check=0 then(if goodB D.w (btxt D) D.sg=true then 0 else 9)else D.check
theorem cell_lt'{c o:Nat}(h:w.cell? ⟨c,o,none⟩=some v):c<w.heap.size:=by
  rcases Lat c w.heap.size with h1|h1
  ·exact h1
  ·simp[World.cell?,Lc4 h1]at h
theorem acc_loose(cells:List Value)(E:TypeId)(n size:Nat)(hl:cells.length=n*size):Loose fun v out=>∃s:Sl,v=s.v∧Hw.Acc s out cells E n size:=fun l h=>by
  obtain⟨v,out,⟨q,c,h1,h2,h3⟩,h4⟩:=FreshRow.loose cells E n size l h;exact⟨v,out,⟨⟨some ⟨q,0,none⟩,n,c⟩,h1,by rw[h3];exact Acc.some h2 hl⟩,h4⟩
theorem lie_none{T:TypeId}(h:Lies [⟨n,[v],T,0⟩] W):False:=by
  obtain⟨full,fr,hb⟩:=h _ (La1.2 rfl);have h1:=hb.pre.length_le;have h2:=hb.size;simp at h1;simp only at h2;omega
structure SameB(B:Block)(D:DB):Prop where
  ok:B.ok
  w:B.fWriter=D.w
  seq:B.fSeq=D.seq
  prev:B.fPrev=D.prev
  sg:B.fSig=D.sg
  ln:B.fLinks.n=D.ls.length
  dn:B.fData.n=D.ds.length
theorem some_same(h:D.ok):SameB ⟨D.w,D.seq,D.prev,⟨none,D.ls.length,0⟩,⟨none,D.ds.length,0⟩,D.sg⟩ D:=⟨⟨h.w,h.prev,h.sg⟩,rfl,rfl,rfl,rfl,rfl,rfl⟩
def BlkR(e:Int)(D:DB)(v:Value)(out:List Blk):Prop:=∃B:Block,SameB B D∧v= .tuple #[agg B.cells,i64 e]∧∀W2,Lies out W2→BlockIs W2 B D
def BlkV(D:DB)(v:Value)(out:List Blk):Prop:=∃B:Block,SameB B D∧v=agg B.cells∧∀W2,Lies out W2→BlockIs W2 B D
theorem none_nodup{l:List Blk}(hl:(l.map (·.n)).Nodup)(hn:∀b∈l,b.n≠n)(v:Value):((([⟨n,[v],0,0⟩]:List Blk)++l).map (·.n)).Nodup:=by
  simp only[Lcd,Lao,Lb0];exact⟨fun h2=>by obtain⟨b,hb,e⟩:=La6.1 h2;exact hn b hb e,hl⟩
theorem BlkR.loose(e:Int)(D:DB)(hD:D.ok):Loose (BlkR e D):=fun l hl=>by
  obtain⟨n,_,hn⟩:=fresh_is 0 l;exact⟨_,[⟨n,[undef],0,0⟩],⟨_,some_same hD,rfl,fun W2 h=>(lie_none h).elim⟩,none_nodup hl hn _⟩
theorem BlkV.loose(D:DB)(hD:D.ok):Loose (BlkV D):=fun l hl=>by
  obtain⟨n,_,hn⟩:=fresh_is 0 l;exact⟨_,[⟨n,[undef],0,0⟩],⟨_,some_same hD,rfl,fun W2 h=>(lie_none h).elim⟩,none_nodup hl hn _⟩
theorem own_btxt{q c:Nat}(hs:SeesP W (some ⟨q,0,none⟩) (Aa (btxt D)))(hc:(btxt D).length≤c)(hn:(btxt D).length≤4005):BytesAt W ⟨some ⟨q,0,none⟩,(btxt D).length,c⟩ (btxt D):=own_bytes hs rfl hc (by unfold maxLen;omega)
theorem db_text(B:Block)(D:DB)(hB:B.ok)(h1:D.ls.length≤40)(h2:D.ds.length≤2000):Meets prog 119 [agg B.cells] [] (fun W=>BlockIs W B D) (fun v out=>FreshRow v out (Aa (btxt D)) 5 (btxt D).length 1):=by
 intro W hW;have hbs:=DB.body_small hW.dok h1 h2;have e1:=hW.ls.len;have e2:=hW.ds.len;have hbl:(btxt D).length=5+D.body.length:=by rw[btxt,La5];rfl
 refine Ac func119 J 8 ntmps119 J (G3 ?_);intro n1 hn1 hf1;refine G5 ?_;refine .mkRow (z:=u8 0) [u8 98,u8 108,u8 111,u8 99,u8 107] (Aa btag) J J J Y33.h Sz5 Zr5 J J (by intro v hv;simp only[Lag,Lc6,or_false]at hv;rcases hv with rfl|rfl|rfl|rfl|rfl<;>rfl) dE J ?_;intro q3;refine .constB J J J J Y33.h Y5.h Z0 ?_;refine G1 ?_;refine .call4 J J J J J Body161 (block_body B hB D.ls D.ds oM oM) (fun w h=>⟨rows_ext h J hW.ls,bytes_ext h J hW.ds⟩) ?_;rintro v6 out6 ⟨N6,hN6,hN62,q6,c6,rfl,hc6,rfl⟩;rw[hW.body]at hN6 ⊢;subst hN6;refine .appendSl (z:=u8 0) (by':=1) (Aa D.body) J J J J J Y33.h Y33.h Sz5 Zr5 (by unfold By;kernel_rfl) J (fun w h=>SeesP.of (Aq (cs:=Aa D.body) h Z0)) (fun e=>by cases e) (Av _) rM J J dE oM oM (by rw[Aa,La0,Lb3]) ?_;intro q7 c7 hq7;rw[←bytesV_app];refine G3 ?_;refine G2 ?_;refine A3 (out:=(⟨q7,Aa (btag++D.body),5,c7*1⟩::[])) (Al J J) (Ab rM Ak) ?_;exact⟨q7,c7,(by(rw[hbl];done)),(by rw[hbl];exact hq7),rfl⟩
theorem cl_digs_nil  :Mv 46 [.slice none 0 0] (fun _=>True) (.slice none 0 0):=by
 intro W hW;refine Ac func46 J 8 ntmps46 J (G9 ?_);refine .eqNilS (r:=true) J J J J Y32.h J (G2 ?_);refine .cond_t J (rfl) (G5 ?_);refine G3 ?_;refine A3 (out:=[]) (Al J J) Ak ?_;exact⟨rfl,rfl⟩
theorem cl_digs_some(a:Addr)(n c:Nat)(ls:List (List UInt8))(hl:ls.length=n)(hr:∀l∈ls,l.length=32)(hn:n≤90000):Meets prog 46 [.slice (some a) n c] [] (fun W=>SeesP W (some a) (Ay ls)) (fun v out=>FreshRow v out (Ay ls) 31 n 32):=by
 intro W hW;refine Ac func46 J 8 ntmps46 J (G9 ?_);refine .eqNilS (r:=false) J J J J Y32.h J (G2 ?_);refine .cond_f J (rfl) (G4 ?_);refine .mkRow (z:=agg (Aa (List.replicate 32 0))) [] [] rfl J J Y32.h Sz31 Zr31 J J (by intro v hv;cases hv) dE J ?_;intro q0;refine G1 ?_;refine .appendSl (z:=agg (Aa (List.replicate 32 0))) (by':=32) (Ay ls) J J J J J Y32.h Y32.h Sz31 Zr31 (by unfold By;kernel_rfl) J (fun w h=>A6 h J hW) (fun e=>by cases e) (flatB_cell ls) A7 J J oM oM oM (by rw[A1 hr,hl]) ?_;intro q1 c1 hq1;refine G3 ?_;refine G2 ?_;refine⟨_,[⟨q1,[]++Ay ls,31,c1*32⟩],Al J J,(by intro b hb;rw[La1.1 hb];exact B0),nodup1,⟨q1,c1,by rw[Lb2],by omega,rfl⟩⟩
theorem cl_byte_nil  :Mv 95 [.slice none 0 0] (fun _=>True) (.slice none 0 0):=by
 intro W hW;refine Ac func95 J 8 ntmps95 J (G9 ?_);refine .eqNilS (r:=true) J J J J Y33.h J (G2 ?_);refine .cond_t J (rfl) (G5 ?_);refine G3 ?_;refine A3 (out:=[]) (Al J J) Ak ?_;exact⟨rfl,rfl⟩
theorem cl_digs(s:Sl)(ls:List (List UInt8))(hn:s.n≤90000):Meets prog 46 [s.v] [] (fun W=>RowsAt W s 32 ls) (fun v out=>∃s':Sl,v=s'.v∧Hw.Acc s' out (Ay ls) 31 s.n 32):=fun W hW=>by
  obtain⟨p,n,c⟩:=s;cases p with
  | none=>
    obtain rfl:c=0:=hW.nil rfl;obtain rfl:n=0:=Nat.le_zero.1 hW.cap;obtain rfl:ls=[]:=List.length_eq_zero_iff.1 hW.len;exact(cl_digs_nil W trivial).mono fun e W' ⟨v,out,h1,⟨h2,h3⟩,h4⟩=>⟨v,out,h1,⟨Sl.nil,h2,by subst h3;exact Acc.none⟩,h4⟩
  |some a=>exact(cl_digs_some a n c ls hW.len hW.row hn W hW.see).mono fun e W' ⟨v,out,h1,⟨q,c',h2,h3,h5⟩,h4⟩=>⟨v,out,h1,⟨⟨some ⟨q,0,none⟩,n,c'⟩,h2,by rw[h5];exact Acc.some h3 (by rw[A1 hW.row,hW.len])⟩,h4⟩
theorem cl_byte(s:Sl)(l:List UInt8)(hn:s.n≤90000):Meets prog 95 [s.v] [] (fun W=>BytesAt W s l) (fun v out=>∃s':Sl,v=s'.v∧Hw.Acc s' out (Aa l) 5 s.n 1):=fun W hW=>by
  obtain⟨p,n,c⟩:=s;cases p with
  | none=>
    obtain rfl:c=0:=hW.nil rfl;obtain rfl:n=0:=Nat.le_zero.1 hW.cap;obtain rfl:l=[]:=List.length_eq_zero_iff.1 hW.len;exact(cl_byte_nil W trivial).mono fun e W' ⟨v,out,h1,⟨h2,h3⟩,h4⟩=>⟨v,out,h1,⟨Sl.nil,h2,by subst h3;exact Acc.none⟩,h4⟩
  |some a=>exact(clone_bytes a n c l hW.len hn W hW.see).mono fun e W' ⟨v,out,h1,⟨q,c',h2,h3,h5⟩,h4⟩=>⟨v,out,h1,⟨⟨some ⟨q,0,none⟩,n,c'⟩,h2,by rw[h5];exact Acc.some h3 (by rw[Aa,La0];exact hW.len.trans (Lb3 _).symm)⟩,h4⟩
theorem db_good(B:Block)(D:DB)(hB:B.ok):Mv 83 [agg B.cells] (fun W=>BlockIs W B D) (i64 (dgood D)):=by
 intro W hW;refine Ac func83 J 17 ntmps83 J (G3 ?_);intro n1 hn1 hf1;refine G7 ?_;refine .cV J J J J Body117 (db_check B D) (fun w h=>hW.ext h J) (G9 ?_);refine .condNP J (fun hc0=>?_) (fun hc0=>?_)
 ·
  have hq0:¬D.check=0:=by omega
  refine G6 ?_;refine G3 ?_;refine⟨_,[],Al J J,sP,sP,?_,rfl⟩
  (unfold dgood;rw[if_neg hq0];done)
 have hq0:D.check=0:=by omega
 obtain⟨h1,h2⟩:=D.head_small hq0;have hvn:(btxt D).length≤4005:=DB.body_small hW.dok oM oM;refine G4 ?_;refine .draw (oPq [0,101,102,4,105,303,306,7]) Ap zK (G1 ?_);refine .lN (Aa _) J J J Y29.h J Sz29 Z0 (Block.row_fWriter zA) (Block.rl_fWriter zA) ?_;refine G2 ?_;refine .lN (Aa _) J J J Y35.h J Sz35 Z0 (Block.row_fSig zA) (Block.rl_fSig zA) ?_;refine .call J J J J Body119 (db_text B D hB oM oM) (FreshRow.loose _ _ _ _) (fun w h=>hW.ext h J) ?_;rintro v12 out12 ⟨q12,c12,rfl,hc12,rfl⟩;refine .cV J J J J Body118 (sign_Good B.fWriter hB.l_fWriter ⟨some ⟨q12,0,none⟩,_,c12⟩ (btxt D) oM B.fSig hB.l_fSig) (fun w h=>own_btxt (SeesP.of (Aq h Z0)) hc12 hvn) ?_;refine G3 ?_;refine .cond J (fun hc1=>?_) (fun hc1=>?_)
 ·
  refine G5 ?_;refine G3 ?_;refine⟨_,[],Al J J,sP,sP,?_,rfl⟩
  (unfold dgood;rw[if_pos hq0,←hW.w,←hW.sg,if_neg (by intro e;rw[e]at hc1;cases hc1)];done)
 refine G7 ?_;refine G2 ?_;refine⟨_,[],Al J J,sP,sP,?_,rfl⟩
 (unfold dgood;rw[if_pos hq0,←hW.w,←hW.sg,if_pos (by simpa using hc1)];done)
theorem db_own(B:Block)(D:DB)(hn:D.ls.length≤500000)(hd:D.ds.length≤500000):Meets prog 44 [agg B.cells] [] (fun W=>BlockIs W B D) (BlkV D):=fun W hW=>by
  have e1:=hW.ls.len;have e2:=hW.ds.len;refine(kit_own_block B hW.ok D.ls D.ds oM oM W ⟨hW.ls,hW.ds⟩).mono fun e W' ⟨v,out,h1,⟨q1,c1,q2,c2,h2,h3,h4,h5⟩,h6⟩=>⟨v,out,h1,⟨ownB B q1 c1 q2 c2,⟨ownB_ok hW.ok q1 c1 q2 c2,hW.w,hW.seq,hW.prev,hW.sg,e1.symm,e2.symm⟩,h2,fun W2 hl=>?_⟩,h6⟩;subst h5;have hf:(Ay D.ls).length=B.fLinks.n*32:=by rw[A1 hW.ls.row,e1]
  have hb:(Aa D.ds).length=B.fData.n*1:=by rw[Aa,La0,e2,Lb3]
  refine⟨ownB_ok hW.ok q1 c1 q2 c2,hW.w,hW.seq,hW.prev,?_,?_,hW.sg⟩
  ·exact acc_rows (Acc.some (E:=31) h3 hf) (hl.sub (fun b hb=>by rw[La1.1 hb];exact mem1)) hW.ls.row e1 oM
  ·exact acc_bytes (Acc.some (E:=5) h4 hb) (hl.sub (fun b hb=>by rw[La1.1 hb];exact B0)) e2 oM
end Go.Proofs.YtbdfihcjddbhaaaGreat
namespace Go.Proofs.YtbdfihcjddbhaaaGreat
open Go Hw _root_.Go.Proofs.Tryz
variable{k:Nat}{x:UInt64}
theorem room_go(hk:1≤k)(h9:k<9)(h:¬((As x (7*k)).toNat:Int)=0):k+1≤szN x.toNat:=by
  rcases Lat k (szN x.toNat)with h1|h1
  ·exact h1
  ·exact absurd (show((As x (7*k)).toNat:Int)=0 by rw[A4,Lb7 ((szN_le hk oM).1 h1)];rfl) h
theorem room_end(hk:1≤k)(h9:k<9)(h:((As x (7*k)).toNat:Int)=0):szN x.toNat≤k:=by
  refine(szN_le hk oM).2 ?_;rw[A4]at h;rcases Nat.div_eq_zero_iff.1 (show x.toNat/2^(7*k)=0 by omega)with h1|h1
  ·exact absurd h1 (Nat.ne_of_gt (Lbm dE))
  ·exact h1
theorem head_or:∀r,r<9→1≤r→∀y,y<2^(8-r)→UInt8.ofNat (256-2^(9-r))+UInt8.ofNat y=shl8 255 (9-r)|||UInt8.ofNat y:=by decide
theorem head_9:shl8 255 0=255:=by decide
theorem headB_9(h:szN x.toNat=9):headB x=255:=by
  rw[headB,h,head_9];have:∀y:UInt8,255|||y=255:=by
    intro y;have hh:∀n,n<256→(255:UInt8)|||UInt8.ofNat n=255:=by decide
    have:=hh y.toNat y.toNat_lt;rwa[Lfm]at this
  exact this _
theorem headB_lt(h:szN x.toNat<9):((256:UInt64)-A0 1 (9-szN x.toNat)).toUInt8+(As x (8*(szN x.toNat-1))).toUInt8=headB x:=by
  have hp:=Co x.toNat;have hy:(As x (8*(szN x.toNat-1))).toNat<2^(8-szN x.toNat):=by
    rw[A4,Lda (Lbm dE),←Lba,show 8-szN x.toNat+8*(szN x.toNat-1)=7*szN x.toNat by omega];exact szN_hi oM
  have h1:((256:UInt64)-A0 1 (9-szN x.toNat)).toUInt8=UInt8.ofNat (256-2^(9-szN x.toNat)):=by
    have:∀r,r<9→1≤r→((256:UInt64)-A0 1 (9-r)).toUInt8=UInt8.ofNat (256-2^(9-r)):=by decide
    exact this _ h hp.1
  have h2:(As x (8*(szN x.toNat-1))).toUInt8=UInt8.ofNat (As x (8*(szN x.toNat-1))).toNat:=rfl;rw[h1,headB,h2];exact head_or _ h hp.1 _ hy
theorem r1_room(x:UInt64):Mv 218 [u64 x] (fun _=>True) (i64 ((szN x.toNat:Nat):Int)):=by
 intro W hW;have hz:=Co x.toNat;refine Ac func218 J 17 ntmps218 J (G12 ?_);refine .loop (ι:=Nat) (fun k=>⟨[(0,u64 x),(3,i64 (k:Int))],[]⟩) (fun k=>1≤k∧k≤szN x.toNat) (fun k=>9-k) (1) ?_ ?_ ?_
 ·exact⟨Laf _,hz.1⟩
 ·exact Ae wN wh0 nD
 rintro k ⟨hk1,hk2⟩;refine G4 ?_;refine two (fun r hr k=>Tr.lss J J J J hr k) (fun hs2_10=>?_) (fun hs2_10=>?_)
 ·
  have hs2_1:=of_decide_eq_true hs2_10;refine G3 ?_;refine .mul_i64 J J J J oM (G1 ?_);refine .shr_u64 J J J J (7*k) (by rw[show(7:Int)*(k:Int)=((7*k:Nat):Int) by omega,wordOf_id _ oM]) oM ?_;refine G4 ?_;refine .condNP J (fun hc0=>?_) (fun hc0=>?_)
  ·
   refine G10 ?_;exact⟨k+1,⟨by omega,room_go hk1 oM zA⟩,by omega,Ae (wk1 rfl (wk1 (by rw[Ld3];rfl) wk0)) wh0 nD⟩
  refine G11 ?_;refine G2 ?_;refine⟨_,[],Al J J,sP,sP,?_,rfl⟩
  (have:=room_end hk1 oM zA;congr 1;omega)
 have hs2_1:=of_decide_eq_false hs2_10;refine G10 ?_;refine .cond_f J J (G11 ?_);refine G2 ?_;refine⟨_,[],Al J J,sP,sP,?_,rfl⟩
 (congr 1;omega)
theorem r1_Number(p0:Option Addr)(n c:Nat)(l:List UInt8)(x:UInt64)(hl:l.length=n)(hp0:p0=none→n=0)(hn:n≤90000):Meets prog 165 [.slice p0 n c,u64 x] [] (fun W=>SeesP W p0 (Aa l)) (fun v out=>FreshRow v out (Aa (l++numB x)) 5 (n+szN x.toNat) 1):=by
 intro W hW;have hz:=Co x.toNat;refine Ac func165 J 51 ntmps165 J (G7 ?_);refine .mkRow2 (z:=u8 0) [] [] rfl J Y33.h Sz5 Zr5 J J (by intro v hv;cases hv) dE J ?_;intro q8;refine G1 ?_;refine .appendSl (z:=u8 0) (by':=1) (Aa l) J J J J J Y33.h Y33.h Sz5 Zr5 (by unfold By;kernel_rfl) J (fun w h=>A6 h J hW) hp0 (by simp[Aa,isCell,u8]) A7 J J oM oM oM (by simp[Aa,hl]) ?_;intro q10 c10 hq10;rw[Lb2 n]at hq10 ⊢;refine G6 ?_;refine .cV J J J J Body218 (r1_room _) tV (G3 ?_);refine .join (ι:=Nat×Nat) (fun p=>⟨[(1,u64 x),(5, .slice (some ⟨p.1,0,none⟩) (n+1) p.2),(6,i64 ((szN x.toNat:Nat):Int))],[⟨p.1,Aa (l++[headB x]),5,p.2*1⟩]⟩) (fun p=>n+1≤p.2) ?_ ?_
 ·
  refine G6 ?_;refine .condP J (fun hc0=>?_) (fun hc0=>?_)
  ·
   refine G2 ?_;refine .mkRow (z:=u8 0) [u8 (255)] (Aa [255]) J J J Y33.h Sz5 Zr5 J J (by intro v hv;rw[La1.1 hv];rfl) dE J ?_;intro q16;refine .appendSl (z:=u8 0) (by':=1) (Aa [255]) J J J J J Y33.h Y33.h Sz5 Zr5 (by unfold By;kernel_rfl) J (fun w h=>SeesP.of (Aq h B0)) (fun e=>by cases e) (by simp[Aa,isCell,u8]) (rem_there A7) J (by simp[Aa,hl]) oM oM oM (by rfl) ?_;intro q17 c17 hq17;refine G3 ?_;exact⟨(q17,c17),hq17,Ae wN (wh1 (by(rw[headB_9 (x:=x) oM];simp only[Aa,Lae];exact B0)) wh0) nD⟩
  refine G5 ?_;refine .shl_u64 J J (show Ag _ _=some (u64 1)from rfl) J (9-szN x.toNat) (by rw[show(9:Int)-((szN x.toNat:Nat):Int)=((9-szN x.toNat:Nat):Int) by omega,wordOf_id _ oM]) oM ?_;refine .sub_u64 J J (show Ag _ _=some (u64 256)from rfl) J (G4 ?_);refine .mul_i64 J J J J oM (G1 ?_);refine .shr_u64 J J J J (8*(szN x.toNat-1)) (by rw[show(8:Int)*(((szN x.toNat:Nat):Int)-1)=((8*(szN x.toNat-1):Nat):Int) by omega,wordOf_id _ oM]) oM ?_;refine G1 ?_;refine .add_u8 J J J J ?_;rw[headB_lt (x:=x) oM];refine .mkRow (z:=u8 0) [u8 (headB x)] (Aa [headB x]) J J J Y33.h Sz5 Zr5 J J (by intro v hv;rw[La1.1 hv];rfl) dE J ?_;intro q33;refine .appendSl (z:=u8 0) (by':=1) (Aa [headB x]) J J J J J Y33.h Y33.h Sz5 Zr5 (by unfold By;kernel_rfl) J (fun w h=>SeesP.of (Aq h B0)) (fun e=>by cases e) (by simp[Aa,isCell,u8]) (rem_there A7) J (by simp[Aa,hl]) oM oM oM (by rfl) ?_;intro q17 c17 hq17;refine G3 ?_;exact⟨(q17,c17),hq17,Ae wN (wh1 (by(simp only[Aa,Lae];exact B0)) wh0) nD⟩
 intro p hj;have hjp:=hj;refine G9 ?_;refine .loop (ι:=Nat×Nat×Nat) (fun r=>⟨[(1,u64 x),(5, .slice (some ⟨r.2.1,0,none⟩) (n+1+r.1) r.2.2),(7,i64 (((szN x.toNat:Nat):Int)-2-(r.1:Int)))],[⟨r.2.1,Aa (l++numUp x r.1),5,r.2.2*1⟩]⟩) (fun r=>r.1≤szN x.toNat-1∧n+1+r.1≤r.2.2) (fun r=>szN x.toNat-1-r.1) ((0,p.1,p.2)) ?_ ?_ ?_
 ·exact⟨Laj _,hjp⟩
 ·exact Ae (wk1 rfl (wk1 rfl (wk1 (by rw[show(((szN x.toNat:Nat):Int)-2-((0:Nat):Int))=((szN x.toNat:Nat):Int)-2 by omega];rfl) wk0))) (wh1 (by rw[numUp_zero];exact B0) wh0) nD
 rintro r ⟨hp1,hp2⟩;refine G7 ?_;refine .condP J (fun hc1=>?_) (fun hc1=>?_)
 ·
  have hp3:r.1<szN x.toNat-1:=by omega
  refine G8 ?_;refine .mul_i64 J J J J oM (G1 ?_);refine .shr_u64 J J J J (8*(szN x.toNat-2-r.1)) (by rw[show(8:Int)*(((szN x.toNat:Nat):Int)-2-(r.1:Int))=((8*(szN x.toNat-2-r.1):Nat):Int) by omega,wordOf_id _ oM]) oM ?_;refine G1 ?_;refine .mkRow (z:=u8 0) [u8 ((As x (8*(szN x.toNat-2-r.1))).toUInt8)] (Aa [(As x (8*(szN x.toNat-2-r.1))).toUInt8]) J J J Y33.h Sz5 Zr5 J J (by intro v hv;rw[La1.1 hv];rfl) dE J ?_;intro q48;refine .appendSl (z:=u8 0) (by':=1) (Aa [(As x (8*(szN x.toNat-2-r.1))).toUInt8]) J J J J J Y33.h Y33.h Sz5 Zr5 (by unfold By;kernel_rfl) J (fun w h=>SeesP.of (Aq h B0)) (fun e=>by cases e) (by simp[Aa,isCell,u8]) (rem_there A7) J (by rw[Aa,La0,La5,hl,numUp_length x r.1 oM];omega) oM oM oM (by rfl) ?_;intro q2 c2 hq2;refine G10 ?_;exact⟨(r.1+1,q2,c2),⟨by simp only[];omega,by simp only[];omega⟩,by simp only[];omega,Ae (wk1 rfl (wk1 (by rw[show n+1+(r.1+1)=n+1+r.1+1 by omega];rfl) (wk1 (by rw[show(((szN x.toNat:Nat):Int)-2-((r.1+1:Nat):Int))=((szN x.toNat:Nat):Int)-2-(r.1:Int)-1 by omega];rfl) wk0))) (wh1 (by rw[numUp_step x r.1 oM,←La8];simp only[Aa,Lae];exact B0) wh0) nD⟩
 have hp3:r.1=szN x.toNat-1:=by omega
 refine G11 ?_;refine G2 ?_;refine⟨_,[⟨r.2.1,Aa (l++numB x),5,r.2.2*1⟩],Al J J,(by intro b hb;rw[La1.1 hb,←numUp_all,←hp3];exact B0),nodup1,⟨r.2.1,r.2.2,by rw[show n+1+r.1=n+szN x.toNat by omega],by omega,rfl⟩⟩
open Ed
variable{B:Block}{D:DB}{K:List UInt8}{W:World}
theorem cmpB_same(x:UInt8)(a b:List UInt8):B1 (x::a) (x::b)=B1 a b:=by simp[B1,Go.Lib.compareBytes]
theorem cmpB_other{x y:UInt8}(h:x≠y)(a b:List UInt8):B1 (x::a) (y::b)=cmpI (x.toNat:Int) (y.toNat:Int):=by
  have h2:x.toNat≠y.toNat:=fun e=>h (Lcs.1 e);simp only[B1,Go.Lib.compareBytes,Lem];unfold cmpI
  (repeat' split)<;>first|rfl|omega
theorem cmpB_at:∀(k:Nat) (a b:List UInt8),a.length=b.length→(∀j,j<k→a.getD j 0=b.getD j 0)→k<a.length→a.getD k 0≠b.getD k 0→B1 a b=cmpI ((a.getD k 0).toNat:Int) ((b.getD k 0).toNat:Int)
  |k,[],b,hl,hs,hk,hd=>absurd hk (Nat.not_lt_zero _)
  |k,x::a,[],hl,hs,hk,hd=>by cases hl
  |0,x::a,y::b,hl,hs,hk,hd=>cmpB_other hd a b
  | k+1,x::a,y::b,hl,hs,hk,hd=>by
    have e:x=y:=hs 0 (Nat.succ_pos k);subst e;rw[cmpB_same];exact cmpB_at k a b (Nat.succ.inj hl) (fun j hj=>hs (j+1) (Nat.succ_lt_succ hj)) (Nat.lt_of_succ_lt_succ hk) hd
theorem cmpB_all{a b:List UInt8}(ha:a.length=32)(hb:b.length=32)(h:∀j,j<32→a.getD j 0=b.getD j 0):B1 a b=0:=by
  refine(cmpB_zero a b).2 (Ldu oM (fun i h1 h2=>?_));have:=h i oM;simpa[List.getD,h1,h2]using this
theorem seesP_tk{w:World}{p:Option Addr}{l:List UInt8}{n:Nat}(h:SeesP w p (Aa l)):SeesP w p (Aa (l.take n)):=fun j v hj=>by
  rw[Aa,Lce,Lbn]at hj;split at hj
  ·exact h j v hj
  ·cases hj
theorem r2_StartShort(k s0 i0:List UInt64)(G:List UInt8)(hk:Hid (kW=k))(hk80:k.length=80)(hs0:Hid (xorUp 8=s0))(hs8:s0.length=8)(hG:Hid (shaTag=G))(hGl:G.length=11)(hi0:Hid (allW k s0 G=i0))(hi8:i0.length=8)  :Mv 125 [] (fun _=>True) (agg (Af i0)):=by
 intro W hW;refine Ac func125 J 18 ntmps125 J (G2 ?_);refine .alloc (cs:=(Af (List.replicate 8 0))) J Zr160 J ?_;intro n0 hn0 hf0;refine G4 ?_;refine .cV J J J J Body169 (r2_Start startW ⟨rfl⟩) tV (.alloc (cs:=(Af (List.replicate 8 0))) J Zr160 J ?_);intro n1 hn1 hf1;refine .sA J J J J zB Sz160 (by(simp[startW_length];done)) Z0 sP zU ?_;refine G9 ?_;refine .loop (ι:=Nat) (fun j=>⟨[(0,ptr n0 0),(1,ptr n1 0),(2,i64 (j:Int))],[⟨n1,Af (xorUp j),160,8⟩,⟨n0,Af (List.replicate 8 0),160,8⟩]⟩) (fun j=>j≤8) (fun j=>8-j) (0) ?_ ?_ ?_
 ·omega
 ·exact An wN (Ab rM (Ab rM Ak))
 rintro j hi;have hlj:=xorUp_length j;refine G7 ?_;refine .condP J (fun hc0=>?_) (fun hc0=>?_)
 ·
  refine G7 ?_;refine .i1 J J J J Y160.h Sz30 _ J oM (G1 ?_);refine .xor_u64 J J J (show Ag _ _=some (u64 11936128518282651045)from rfl) (.i1 J J J J Y160.h Sz30 _ J oM (.s1 J J J J J Sz30 Z0 (by(simp[xorUp_length];omega)) (by exact A8 _ _ _) zU ?_));refine G9 ?_;exact⟨j+1,by omega,by omega,An wN (Ab rM (Ab rM Ak))⟩
 obtain rfl:j=8:=by omega
 rw[hs0.out];clear hlj;refine G7 ?_;refine .lA J J J Y160.h J Sz160 Z0 (by(simp[hs8];done)) ?_;refine .mkRow (z:=u8 0) [u8 83,u8 72,u8 65,u8 45,u8 53,u8 49,u8 50,u8 47,u8 50,u8 53,u8 54] (Aa shaTag) J J J Y33.h Sz5 Zr5 J J (by intro v hv;simp only[Lag,Lc6,or_false]at hv;rcases hv with rfl|rfl|rfl|rfl|rfl|rfl|rfl|rfl|rfl|rfl|rfl<;>rfl) dE J ?_;intro q15;rw[hG.out];refine .constB J J J J Y33.h Y5.h Z0 ?_;refine .cV J J J J Body124 (r2_run s0 hs8 k hk hk80 ⟨some ⟨q15,0,none⟩,11,11⟩ G (by simp[hGl]) (fun e=>by cases e) oM) (fun w h=>SeesP.of (Aq h Z0)) ?_;rw[hi0.out];refine .sA J J J J zB Sz160 (by(simp[hi8];done)) Z2 sP (by exact upd2) ?_;refine G2 ?_;refine G2 ?_;refine⟨_,[],Ao J J Y160.h J Sz160 Z2 (by simp[hi8]),sP,sP,?_,rfl⟩;rfl
theorem r2_Sum(k s0 i0:List UInt64)(G:List UInt8)(hk:Hid (kW=k))(hk80:k.length=80)(hs0:Hid (xorUp 8=s0))(hs8:s0.length=8)(hG:Hid (shaTag=G))(hGl:G.length=11)(hi0:Hid (allW k s0 G=i0))(hi8:i0.length=8)(p:Option Addr)(n c:Nat)(ss:List Sl)(ls:List (List UInt8))(hss:ss.length=n)(hls:ls.length=n)(hsl:∀j,j<n→(ss.getD j Sl.nil).n=(ls.getD j []).length∧((ss.getD j Sl.nil).p=none→(ss.getD j Sl.nil).n=0))(F:List UInt8)(hF:ls.flatten=F)(htot:F.length≤90000)(hn:n≤1000000)(r:List UInt64)(hr:Hid (allW k i0 F=r))(s:List UInt8)(hs:Hid (sumUp r 64=s))  :Mv 89 [.slice p n c] (fun W=>SeesP W p (ss.map Sl.v)∧∀j,j<n→SeesP W (ss.getD j Sl.nil).p (Aa (ls.getD j []))) (agg (Aa (s.take 32))):=by
 intro W hW;have hr8:r.length=8:=by rw[←hr.out,allW_length];exact hi8
 have hs64:s.length=64:=by rw[←hs.out];exact Ce r 64
 have hs32:(s.take 32).length=32:=by rw[Lar,hs64];rfl
 have hrun:=fun(x:Sl) (h1:x.n=F.length) (h2:x.p=none→x.n=0)=>r2_run i0 hi8 k hk hk80 x F h1 h2 htot;rw[hr.out]at hrun;refine Ac func89 J 14 ntmps89 J (G2 ?_);refine .alloc (cs:=(Aa (List.replicate 32 0))) J Zr31 J ?_;intro n2 hn2 hf2;refine G4 ?_;refine .cV J J J J Body125 (r2_StartShort k s0 i0 G hk hk80 hs0 hs8 hG hGl hi0 hi8) tV (G1 ?_);refine .call4 J J J J J Body126 (r2_join p n c ss ls hss hls hsl F hF htot hn) (fun w h=>⟨A6 h J hW.1,fun j hj=>A6 h J (hW.2 j hj)⟩) ?_;rintro v7 out7 ⟨s7,rfl,hac7⟩;refine .cV J J J J Body124 (hrun s7 hac7.num hac7.nil) (fun w h=>hac7.see (Lies.of h (by repeat(exact Bu)))) ?_;refine .cV J J J J Body123 (r2_bytes r hr8 s hs) tV (.alloc (cs:=(Aa (List.replicate 64 0))) J Zr34 J ?_);intro n3 hn3 hf3;refine .sA J J J J zE Sz34 (by(simp[hs64];done)) Z0 sP zU ?_;refine G4 ?_;refine .alloc (cs:=(Aa (List.replicate 32 0))) J Zr31 J ?_;intro n4 hn4 hf4;refine G3 ?_;refine .draw (oPq [0,1,402]) Ap zK (G1 ?_);refine .sliceArrHi 32 J J J J J dE dE Y34.h Sz5 (.copyP (Aa (s.take 32)) 32 J J J J J Y33.h Sz5 (fun w h=>seesP_tk (SeesP.of (Aq h Z1))) (fun e=>by cases e) (by simp[Aa,hs64]) J (La7 (by simp[Aa,hs64])) (Av _) Z0 (by simp[Aa]) (show upd (Aa (List.replicate 32 0)) 0 (Aa (s.take 32))=Aa (s.take 32) by simp[upd,Aa,hs64]) zU ?_);refine G4 ?_;refine .lA J J J Y31.h J Sz31 Z0 (by(simp[hs64];done)) ?_;refine .sA J J J J zE Sz31 (by(simp[hs64];done)) mR sP uU ?_;refine G2 ?_;refine G2 ?_;refine⟨_,[],Ao J J Y31.h J Sz31 mR (by simp[hs64]),sP,sP,?_,rfl⟩;rfl
theorem dcheck_2(h:¬D.check=0):D.check=2:=by
  unfold DB.check at h ⊢;by_cases h1:D.head=true
  ·rw[if_pos h1]
  · rw[if_neg h1]at h ⊢
    by_cases h2:linksBad D.prev D.ls=true
    ·rw[if_pos h2]
    ·rw[if_neg h2]at h;exact absurd rfl h
theorem r15_cmp(a b:List UInt8)(ha:a.length=32)(hb:b.length=32):Mv 10 [agg (Aa a),agg (Aa b)] (fun _=>True) (i64 (B1 a b)):=by
 intro W hW;refine Ac func10 J 24 ntmps10 J (G3 ?_);intro n2 hn2 hf2;refine G1 ?_;intro n3 hn3 hf3;refine G10 ?_;refine .loop (ι:=Nat) (fun k=>⟨[(2,ptr n2 0),(3,ptr n3 0),(5,i64 (k:Int))],[⟨n3,Aa b,31,(Aa b).length⟩,⟨n2,Aa a,31,(Aa a).length⟩]⟩) (fun k=>k≤32∧∀j,j<k→a.getD j 0=b.getD j 0) (fun k=>32-k) (0) ?_ ?_ ?_
 ·exact⟨Laj _,fun j hj=>absurd hj (Nat.not_lt_zero _)⟩
 ·exact Ae wN (wh1 Z0 (wh1 Z1 wh0)) nD
 rintro k ⟨hk,hsm⟩;refine G7 ?_;refine .condP J (fun hc0=>?_) (fun hc0=>?_)
 ·
  have hk2:k<32:=by omega
  refine G6 ?_;refine .draw (oPq [0,1,102,3,4,105,6]) Ap zK (G1 ?_);refine .i1 J J J J Y31.h Sz5 k J oM (G2 ?_);refine .i1 J J J J Y31.h Sz5 k J oM (G4 ?_);refine .condP J (fun hc1=>?_) (fun hc1=>?_)
  ·
   have hek:a.getD k 0≠b.getD k 0:=fun e=>by rw[e]at hc1;omega
   refine G5 ?_;refine G8 ?_;refine⟨_,[],Al J J,sP,sP,?_,rfl⟩
   (rw[cmpB_at k a b oM hsm oM hek];unfold cmpI;rw[if_pos oM];done)
  refine G3 ?_;refine .draw (oPq [0,1,102,3,4,105,6]) Ap zK (G1 ?_);refine .i1 J J J J Y31.h Sz5 k J oM (G2 ?_);refine .i1 J J J J Y31.h Sz5 k J oM (G4 ?_);refine .condP J (fun hc2=>?_) (fun hc2=>?_)
  ·
   have hek:a.getD k 0≠b.getD k 0:=fun e=>by rw[e]at hc2;omega
   refine G5 ?_;refine G7 ?_;refine⟨_,[],Al J J,sP,sP,?_,rfl⟩
   (rw[cmpB_at k a b oM hsm oM hek];unfold cmpI;rw[if_neg oM,if_pos oM];done)
  have hek:a.getD k 0=b.getD k 0:=Lcs.1 oM;refine G9 ?_;exact⟨k+1,⟨by omega,fun j hj=>by rcases Lat j k with h1|h1;exact hsm j h1;exact(show j=k by omega)▸hek⟩,by omega,Ae (wk1 rfl (wk1 rfl (wk1 (by rw[Ld3];rfl) wk0))) (wh1 Z0 (wh1 Z1 wh0)) nD⟩
 have hk2:k=32:=by omega
 refine G10 ?_;refine G2 ?_;refine⟨_,[],Al J J,sP,sP,?_,rfl⟩
 (rw[cmpB_all ha hb (fun j hj=>hsm j oM)];done)
theorem r15_check(B:Block)(hB:B.ok)(ls:List (List UInt8)):Mv 103 [agg B.cells] (fun W=>RowsAt W B.fLinks 32 ls) (i64 (bcheck B ls)):=by
 intro W hW;have hcx:B.fLinks.n≤maxLen:=hW.max;simp only[maxLen]at hcx;have hcn:=hW.cap;refine Ac func103 J 74 ntmps103 J (G3 ?_);intro n1 hn1 hf1;refine G5 ?_;refine .build (cs:=Aa (List.replicate 32 0)) J J J (fun w=>by kernel_rfl) ?_;refine .alloc (cs:=(Aa (List.replicate 32 0))) J Zr31 J ?_;intro n3 hn3 hf3;refine .sA J J J J zE Sz31 sP Z0 sP zU ?_;refine G4 ?_;refine .draw (oPq [0,101,2,3,4,105,106,7,8,109,10,11,12,13,14,115,16,17,18,19,20,121,22,23,24]) Ap zK (G2 ?_);refine two (fun r hr k=>Tr.gtr J J J J hr k) (fun hs2_20=>?_) (fun hs2_20=>?_)
 ·
  have hs2_2:=of_decide_eq_true hs2_20;refine G24 ?_;refine .cond_t J J (G5 ?_);refine G3 ?_;refine⟨_,[],Al J J,sP,sP,?_,rfl⟩;exact congrArg i64 (bcheck_head (by unfold bhead bheadB;simp_all)).symm
 have hs2_2:=of_decide_eq_false hs2_20;refine G2 ?_;refine .lN (Aa _) J J J Y31.h J Sz31 Z1 (Block.row_fPrev zA) (Block.rl_fPrev zA) ?_;refine .lA J J J Y31.h J Sz31 Z0 sP ?_;refine .eql_bytes J J J J eqGuardType31 Y31.h Y5.h Sz5 (by(simp[hB.l_fPrev];done)) sP J ?_;refine G3 ?_;refine two (fun r hr k=>Tr.neb J J J J underlying4 hr k) (fun hs2_110=>?_) (fun hs2_110=>?_)
 ·
  have hs2_11:=nd_t hs2_110;refine G15 ?_;refine .cond_t J J (G5 ?_);refine G3 ?_;refine⟨_,[],Al J J,sP,sP,?_,rfl⟩;exact congrArg i64 (bcheck_head (by unfold bhead bheadB;simp_all)).symm
 have hs2_11:=nd_f hs2_110;refine G5 ?_;refine two (fun r hr k=>Tr.gtr J J J J hr k) (fun hs2_170=>?_) (fun hs2_170=>?_)
 ·
  have hs2_17:=of_decide_eq_true hs2_170;refine G9 ?_;refine .cond_t J J (G5 ?_);refine G3 ?_;refine⟨_,[],Al J J,sP,sP,?_,rfl⟩;exact congrArg i64 (bcheck_head (by unfold bhead bheadB;simp_all)).symm
 have hs2_17:=of_decide_eq_false hs2_170;refine G9 ?_;refine .condP J (fun hc0=>?_) (fun hc0=>?_)
 ·
  refine G5 ?_;refine G3 ?_;refine⟨_,[],Al J J,sP,sP,?_,rfl⟩;exact congrArg i64 (bcheck_head (by unfold bhead bheadB;simp_all)).symm
 have hnb:¬bhead B:=by unfold bhead bheadB;simp_all
 refine G9 ?_;refine .loop (ι:=Nat) (fun k=>⟨[(1,ptr n1 0),(3,ptr n3 0),(4,i64 (k:Int))],[⟨n3,Aa (List.replicate 32 0),31,32⟩,⟨n1,B.cells,37,B.cells.length⟩]⟩) (fun k=>k≤B.fLinks.n∧∀j,j<k→badAt B.fPrev ls j=false) (fun k=>B.fLinks.n-k) (0) ?_ ?_ ?_
 ·exact⟨by omega,fun j hj=>by omega⟩
 ·exact Ae wN (wh1 Z0 (wh1 Z1 wh0)) nD
 rintro k ⟨hk,hg⟩;refine G10 ?_;refine .condP J (fun hc1=>?_) (fun hc1=>?_)
 ·
  have hk2:k<B.fLinks.n:=by omega
  have hll:=hW.len;obtain⟨b,o,hbp,hbs⟩:=hW.see.at (by rw[A1 hW.row];omega);have hr0:(ls.getD k []).length=32:=getD_len hW.row oM;have hr1:(ls.getD (k-1) []).length=32:=getD_len hW.row oM;refine G2 ?_;refine .join (ι:=Unit) (fun _u=>⟨[(1,ptr n1 0),(3,ptr n3 0),(4,i64 (k:Int))],[⟨n3,Aa (List.replicate 32 0),31,32⟩,⟨n1,B.cells,37,B.cells.length⟩]⟩) (fun _u=>badAt B.fPrev ls k=false) ?_ ?_
  ·
   refine G2 ?_;refine .draw (oPq [0,101,2,3,104,105,6,7,8,109,10,11,112,13,114,15,16,17,18,19,20,21,122,23,24,25,126,27,128,29,30,131,332,33,34,35]) Ap zK (G3 ?_);refine .idxSlP 32 J J J hbp J Y32.h Sz31 k J oM (.loadEN (Aa (ls.getD (k) [])) J J J Y31.h J Sz31 sP (by rw[Aa,La0];exact getD_len hW.row (by rw[hW.len];omega)) (sees_row hW.row hbs (by rw[hW.len];omega)) ?_);refine .lA J J J Y31.h J Sz31 Z0 sP ?_;refine two (fun r hr k=>Tr.eql_bytes J J J J eqGuardType31 Y31.h Y5.h Sz5 zA sP hr k) (fun hs7_60=>?_) (fun hs7_60=>?_)
   ·
    have hs7_6:=of_decide_eq_true hs7_60;refine G31 ?_;refine .cond_t J J (G5 ?_);refine G7 ?_;refine⟨_,[],Al J J,sP,sP,?_,rfl⟩;exact congrArg i64 (bcheck_bad hnb (linksBad_at (k:=k) oM (by unfold badAt;simp_all))).symm
   have hs7_6:=of_decide_eq_false hs7_60;refine G4 ?_;refine .idxSlP 32 J J J hbp J Y32.h Sz31 k J oM (.loadEN (Aa (ls.getD (k) [])) J J J Y31.h J Sz31 sP (by rw[Aa,La0];exact getD_len hW.row (by rw[hW.len];omega)) (sees_row hW.row hbs (by rw[hW.len];omega)) ?_);refine G1 ?_;refine .lN (Aa _) J J J Y31.h J Sz31 Z1 (Block.row_fPrev zA) (Block.rl_fPrev zA) ?_;refine two (fun r hr k=>Tr.eql_bytes J J J J eqGuardType31 Y31.h Y5.h Sz5 zA (by(simp[hB.l_fPrev];done)) hr k) (fun hs7_150=>?_) (fun hs7_150=>?_)
   ·
    have hs7_15:=of_decide_eq_true hs7_150;refine G22 ?_;refine .cond_t J J (G5 ?_);refine G7 ?_;refine⟨_,[],Al J J,sP,sP,?_,rfl⟩;exact congrArg i64 (bcheck_bad hnb (linksBad_at (k:=k) oM (by unfold badAt;simp_all))).symm
   have hs7_15:=of_decide_eq_false hs7_150;refine G3 ?_;refine two (fun r hr k=>Tr.gtr J J J J hr k) (fun hs7_190=>?_) (fun hs7_190=>?_)
   ·
    have hs7_19:=of_decide_eq_true hs7_190;refine G5 ?_;refine .idxSlP 32 J J J hbp J Y32.h Sz31 (k-1) oM oM (.loadEN (Aa (ls.getD (k-1) [])) J J J Y31.h J Sz31 sP (by rw[Aa,La0];exact getD_len hW.row (by rw[hW.len];omega)) (sees_row hW.row hbs (by rw[hW.len];omega)) ?_);refine G3 ?_;refine .idxSlP 32 J J J hbp J Y32.h Sz31 k J oM (.loadEN (Aa (ls.getD (k) [])) J J J Y31.h J Sz31 sP (by rw[Aa,La0];exact getD_len hW.row (by rw[hW.len];omega)) (sees_row hW.row hbs (by rw[hW.len];omega)) ?_);refine .cV J J J J Body10 (r15_cmp _ _ hr1 hr0) tV (G5 ?_);refine .condP J (fun hc2=>?_) (fun hc2=>?_)
    ·
     refine G5 ?_;refine G7 ?_;refine⟨_,[],Al J J,sP,sP,?_,rfl⟩;exact congrArg i64 (bcheck_bad hnb (linksBad_at (k:=k) oM (by unfold badAt;simp_all))).symm
    refine G3 ?_;refine⟨(),by unfold badAt;simp_all,Ae wN (wh1 Z0 (wh1 Z1 wh0)) nD⟩
   have hs7_19:=of_decide_eq_false hs7_190;refine G18 ?_;refine .cond_f J J (G3 ?_);refine⟨(),by unfold badAt;simp_all,Ae wN (wh1 Z0 (wh1 Z1 wh0)) nD⟩
  intro _u hj;have hgk:=hj;refine G6 ?_;exact⟨k+1,⟨by omega,fun j hj=>by rcases Lfc.1 hj with h|rfl;exact hg j h;exact hgk⟩,by omega,Ae (wk1 rfl (wk1 rfl (wk1 (by rw[Ld3];rfl) wk0))) (wh1 Z0 (wh1 Z1 wh0)) nD⟩
 obtain rfl:k=B.fLinks.n:=by omega
 refine G10 ?_;refine G2 ?_;refine⟨_,[],Al J J,sP,sP,?_,rfl⟩;exact congrArg i64 (bcheck_ok hnb (linksBad_not (by rw[hW.len];exact hg))).symm
theorem r15_Check(B:Block)(D:DB):Mv 103 [agg B.cells] (fun W=>BlockIs W B D) (i64 D.check):=
  fun W hW=>by rw[←hW.check];exact r15_check B hW.ok D.ls W hW.ls
theorem r1_Block(p r:Option Addr)(n c m d:Nat)(l ys:List UInt8)(hl:l.length=n)(hy:ys.length=m)(hp:p=none→n=0)(hr:r=none→m=0)(hn:n≤40000)(hm:m≤40000):Meets prog 166 [.slice p n c, .slice r m d] [] (fun W=>SeesP W p (Aa l)∧SeesP W r (Aa ys)) (fun v out=>FreshRow v out (Aa (l++numB (UInt64.ofNat m)++ys)) 5 (n+szN m+m) 1):=by
 intro W hW;have hz:=Co m;have hw:wordOf (m:Int)=UInt64.ofNat m:=by simp only[wordOf];congr 1;omega
 have hmn:(UInt64.ofNat m).toNat=m:=by rw[Lbw,Lad oM]
 refine Ac func166 J 12 ntmps166 J (G11 ?_);rw[hw];refine .call4 J J J J J Body165 (r1_Number p n c l (UInt64.ofNat m) hl hp oM) (fun w h=>A6 h J hW.1) ?_;rintro v9 out9 ⟨q9,c9,rfl,hc9,rfl⟩;rw[hmn]at hc9 ⊢;refine G1 ?_;refine .appendSl (z:=u8 0) (by':=1) (Aa ys) J J J J J Y33.h Y33.h Sz5 Zr5 (by unfold By;kernel_rfl) J (fun w h=>A6 h J hW.2) hr (Av _) rM J (by rw[Aa,La0,La5,Bj,hl,hmn,Lb3]) oM oM oM (by rw[Aa,La0,hy,Lb3]) ?_;intro q11 c11 hq11;rw[←bytesV_app];refine G3 ?_;refine G2 ?_;refine A3 (out:=(⟨q11,Aa (l++numB (UInt64.ofNat m)++ys),5,c11*1⟩::[])) (Al J J) (Ab rM Ak) ?_;exact⟨q11,c11,rfl,hq11,rfl⟩
theorem btag_length:btag.length=5:=rfl
theorem r15_Text(B:Block)(D:DB)(hB:B.ok)(h1:D.ls.length≤40)(h2:D.ds.length≤2000):Meets prog 122 [agg B.cells] [] (fun W=>BlockIs W B D) (fun v out=>FreshRow v out (Aa (btxt D)) 5 (btxt D).length 1):=by
 intro W hW;have hbs0:=DB.body_small hW.dok h1 h2;have e1:=hW.ls.len;have e2:=hW.ds.len;have hz1:=Co B.fSeq.toNat;have hz2:=Co (UInt64.ofNat B.fLinks.n).toNat;have hz3:=Co B.fData.n;have hw2:=word_nat (n:=B.fLinks.n) oM;have hrow:=hW.ls.row;refine Ac func122 J 41 ntmps122 J (G3 ?_);intro n1 hn1 hf1;refine G5 ?_;refine .mkRow (z:=u8 0) [u8 98,u8 108,u8 111,u8 99,u8 107] (Aa btag) J J J Y33.h Sz5 Zr5 J J (by intro v hv;simp only[Lag,Lc6,or_false]at hv;rcases hv with rfl|rfl|rfl|rfl|rfl<;>rfl) dE J ?_;intro q5;refine .constB J J J J Y33.h Y5.h Z0 ?_;refine G2 ?_;refine .appendSl (z:=u8 0) (by':=1) (Aa B.fWriter) J J J J J Y33.h Y33.h Sz5 Zr5 (by unfold By;kernel_rfl) J (fun w h=>SeesP.of (sees_part h Z1 (Block.see_fWriter hB))) (fun e=>by cases e) (Av _) rM J J dE dE dE (by simp[hB.l_fWriter]) ?_;intro q9 c9 hq9;rw[←bytesV_app];refine G4 ?_;refine .draw (oPq [0,1,102,4,5,403,406,7]) Ap zK (G5 ?_);refine .call4 J J J J J Body165 (r1_Number (some ⟨q9,0,none⟩) (5+32) c9 (btag++B.fWriter) (B.fSeq) (by simp only[La5,Bj,hB.l_fWriter,hB.l_fPrev,btag_length]) (fun e=>by cases e) oM) (fun w h=>SeesP.of (Aq (cs:=Aa (btag++B.fWriter)) h Z0)) ?_;rintro v13 out13 ⟨q13,c13,rfl,hc13,rfl⟩;refine .appendSl (z:=u8 0) (by':=1) (Aa B.fPrev) J J J J J Y33.h Y33.h Sz5 Zr5 (by unfold By;kernel_rfl) J (fun w h=>SeesP.of (sees_part h Z2 (Block.see_fPrev hB))) (fun e=>by cases e) (Av _) rM J (by rw[Aa,La0,Lb3];simp only[La5,Bj,hB.l_fWriter,hB.l_fPrev,btag_length]) oM oM oM (by simp[hB.l_fPrev]) ?_;intro q16 c16 hq16;rw[←bytesV_app];refine G10 ?_;rw[hw2];refine .call4 J J J J J Body165 (r1_Number (some ⟨q16,0,none⟩) (5+32+szN B.fSeq.toNat+32) c16 (btag++B.fWriter++numB B.fSeq++B.fPrev) (UInt64.ofNat B.fLinks.n) (by simp only[La5,Bj,hB.l_fWriter,hB.l_fPrev,btag_length]) (fun e=>by cases e) oM) (fun w h=>SeesP.of (Aq (cs:=Aa (btag++B.fWriter++numB B.fSeq++B.fPrev)) h Z0)) ?_;rintro v22 out22 ⟨q22,c22,rfl,hc22,rfl⟩;refine G10 ?_;refine .loop (ι:=Nat×Nat×Nat) (fun p=>⟨[(1,ptr n1 0),(3, .slice (some ⟨p.2.1,0,none⟩) (5+32+szN B.fSeq.toNat+32+szN (UInt64.ofNat B.fLinks.n).toNat+32*p.1) p.2.2),(4,i64 (p.1:Int))],[⟨p.2.1,Aa (btag++B.fWriter++numB B.fSeq++B.fPrev++numB (UInt64.ofNat B.fLinks.n)++(D.ls.take p.1).flatten),5,p.2.2*1⟩,⟨n1,B.cells,37,B.cells.length⟩]⟩) (fun p=>p.1≤B.fLinks.n∧5+32+szN B.fSeq.toNat+32+szN (UInt64.ofNat B.fLinks.n).toNat+32*p.1≤p.2.2) (fun p=>B.fLinks.n-p.1) ((0,q22,c22)) ?_ ?_ ?_
 ·exact⟨Laj _,by simp only[];omega⟩
 ·exact An wN (pm_consE rM (by simp only[Ld7,Lgg,Lak]) rfl (Ab rM Ak))
 rintro p ⟨hp1,hp2⟩;refine G10 ?_;refine .condP J (fun hc0=>?_) (fun hc0=>?_)
 ·
  have hp3:p.1<B.fLinks.n:=by omega
  obtain⟨b,o,hbp,hbs⟩:=hW.ls.see.at (by rw[A1 hrow];omega);have hrk:(D.ls.getD p.1 []).length=32:=getD_len hrow oM;refine G9 ?_;refine .idxSlP 32 J J J hbp J Y32.h Sz31 p.1 J oM (G1 ?_);refine .appendSl (z:=u8 0) (by':=1) (Aa (D.ls.getD p.1 [])) J J J J J Y33.h Y33.h Sz5 Zr5 (by unfold By;kernel_rfl) J (fun w h=>SeesP.of (sees_ext h sP (sees_row hrow hbs oM))) (fun e=>by cases e) (Av _) rM J (by simp only[Aa,La0,La5,Bj,hB.l_fWriter,hB.l_fPrev,btag_length,Cj hrow (show p.1≤D.ls.length by omega)];omega) oM oM oM (by rw[Aa,La0,hrk]) ?_;intro q36 c36 hq36;rw[←bytesV_app];refine G10 ?_;exact⟨(p.1+1,q36,c36),⟨by simp only[];omega,by simp only[];omega⟩,by simp only[];omega,An (wk1 rfl (wk1 (by rw[show 5+32+szN B.fSeq.toNat+32+szN (UInt64.ofNat B.fLinks.n).toNat+32*(p.1+1)=5+32+szN B.fSeq.toNat+32+szN (UInt64.ofNat B.fLinks.n).toNat+32*p.1+32 by omega];rfl) (wk1 (by rw[Ld3];rfl) wk0))) (pm_consE rM (by rw[flatten_take_step oM,←La8]) rfl (Ab rM Ak))⟩
 have hp3:p.1=B.fLinks.n:=by omega
 refine G10 ?_;refine .call4 J J J J J Body166 (r1_Block (some ⟨p.2.1,0,none⟩) B.fData.p (5+32+szN B.fSeq.toNat+32+szN (UInt64.ofNat B.fLinks.n).toNat+32*p.1) p.2.2 B.fData.n B.fData.c (btag++B.fWriter++numB B.fSeq++B.fPrev++numB (UInt64.ofNat B.fLinks.n)++(D.ls.take p.1).flatten) D.ds (by simp only[La5,Bj,hB.l_fWriter,hB.l_fPrev,btag_length,Cj hrow (show p.1≤D.ls.length by omega)];omega) e2 (fun e=>by cases e) (fun e=>by have h3:=hW.ds.nil e;have h4:=hW.ds.cap;omega) oM oM) (fun w h=>⟨SeesP.of (Aq h Z0),A6 h J hW.ds.see⟩) ?_;rintro v40 out40 ⟨q40,c40,rfl,hc40,rfl⟩;refine G3 ?_;refine G2 ?_;refine A3 (out:=(⟨q40,Aa (btag++B.fWriter++numB B.fSeq++B.fPrev++numB (UInt64.ofNat B.fLinks.n)++(D.ls.take p.1).flatten++numB (UInt64.ofNat B.fData.n)++D.ds),5,c40*1⟩::[])) (Al J J) (Ab rM Ak) ?_;have hfin:btag++B.fWriter++numB B.fSeq++B.fPrev++numB (UInt64.ofNat B.fLinks.n)++(D.ls.take p.1).flatten++numB (UInt64.ofNat B.fData.n)++D.ds=btxt D:=by rw[btxt,DB.body,←hW.w,←hW.seq,←hW.prev,e1,e2,La7 oM];simp only[La8]
 have hlen:5+32+szN B.fSeq.toNat+32+szN (UInt64.ofNat B.fLinks.n).toNat+32*p.1+szN B.fData.n+B.fData.n=(btxt D).length:=by rw[←hfin];simp only[La5,Bj,hB.l_fWriter,hB.l_fPrev,btag_length,Cj hrow (show p.1≤D.ls.length by omega),e2,ofNat_nat (show B.fData.n≤1000000 by omega)];omega
 rw[hfin];exact⟨q40,c40,by rw[hlen],by omega,rfl⟩
theorem r15_Copy(B:Block)(D:DB)(hB:B.ok)(hn:D.ls.length≤500000)(hd:D.ds.length≤500000):Meets prog 102 [agg B.cells] [] (fun W=>BlockIs W B D) (BlkV D):=by
 intro W hW;have e1:=hW.ls.len;have e2:=hW.ds.len;refine Ac func102 J 14 ntmps102 J (G3 ?_);intro n1 hn1 hf1;refine .alloc (cs:=Block.zero.cells) J Block.zr J ?_;intro n2 hn2 hf2;refine G3 ?_;refine .draw (oPq [1,102,5,106,200,303,8,204,307,409,10,411]) Ap zK (G4 ?_);refine .mkRow2 (z:=agg (Aa (List.replicate 32 0))) [] [] rfl J Y32.h Sz31 Zr31 J J (by intro v hv;cases hv) dE J ?_;intro q3;refine .appendE (z:=agg (Aa (List.replicate 32 0))) (by':=32) (Ay D.ls) J J J J Y32.h Y32.h Sz31 Zr31 (by unfold By;kernel_rfl) J (fun w h=>A6 h J hW.ls.see) (fun e=>by have:=hW.ls.nil e;have:=hW.ls.cap;omega) (flatB_cell _) oM oM (by rw[A1 hW.ls.row,e1]) ?_;intro s6 bl6 hr6;refine G1 ?_;refine .mkRow2 (z:=u8 0) [] [] rfl J Y33.h Sz5 Zr5 J J (by intro v hv;cases hv) dE J ?_;intro q7;refine .appendE (z:=u8 0) (by':=1) (Aa D.ds) J J J J Y33.h Y33.h Sz5 Zr5 (by unfold By;kernel_rfl) J (fun w h=>A6 h J hW.ds.see) (fun e=>by have:=hW.ds.nil e;have:=hW.ds.cap;omega) (Av _) oM oM (by rw[Aa,La0,e2,Lb3]) ?_;intro s10 bl10 hr10;refine .s1 J J J J J Sz32 mR (by rw[Block.length zA];decide) (by exact Block.set_fLinks zA _) uU ?_;refine G1 ?_;refine .s1 J J J J J Sz33 mR (by rw[Block.length (by exact⟨hB.l_fWriter,hB.l_fPrev,hB.l_fSig⟩)];decide) (by exact Block.set_fData (by exact⟨hB.l_fWriter,hB.l_fPrev,hB.l_fSig⟩) _) uU ?_;refine G4 ?_;refine .lA J J J Y37.h J Sz37 mR (Block.length (by exact⟨hB.l_fWriter,hB.l_fPrev,hB.l_fSig⟩)) ?_;refine .sA J J J J (Block.isCell (by exact⟨hB.l_fWriter,hB.l_fPrev,hB.l_fSig⟩)) Sz37 (Block.length (by exact⟨hB.l_fWriter,hB.l_fPrev,hB.l_fSig⟩)) mR (Block.length (by exact Block.zero_ok)) uU ?_;refine G2 ?_;refine G2 ?_;refine A3 (out:=(bl10++(bl6++[]))) (Ao J J Y37.h J Sz37 mR (by exact Block.length (by exact⟨hB.l_fWriter,hB.l_fPrev,hB.l_fSig⟩))) (Ad sG (Ad sG Ak)) ?_;have g6:=hr6.num;have g10:=hr10.num;exact⟨({ B with fLinks:=s6,fData:=s10 }:Block),⟨⟨hB.l_fWriter,hB.l_fPrev,hB.l_fSig⟩,hW.w,hW.seq,hW.prev,hW.sg,g6.trans e1.symm,g10.trans e2.symm⟩,rfl,fun W2 h2=>⟨⟨hB.l_fWriter,hB.l_fPrev,hB.l_fSig⟩,hW.w,hW.seq,hW.prev,⟨e1.trans g6.symm,hW.ls.row,hr6.cap,hr6.see W2 (h2.sub (in_seg Bu)),by show s6.n≤maxLen;rw[g6];unfold maxLen;omega,hr6.nil⟩,⟨e2.trans g10.symm,hr10.cap,hr10.see W2 (h2.sub Bu),by show s10.n≤maxLen;rw[g10];unfold maxLen;omega,hr10.nil⟩,hW.sg⟩⟩
theorem with_w'(h:BlockIs W B D)(hK:K.length=32):BlockIs W { B with fWriter:=K } { D with w:=K }:=⟨⟨hK,h.ok.l_fPrev,h.ok.l_fSig⟩,rfl,h.seq,h.prev,h.ls,h.ds,h.sg⟩
theorem with_wg'(h:BlockIs W B D){K G:List UInt8}(hK:K.length=32)(hG:G.length=64):BlockIs W { B with fWriter:=K,fSig:=G } { D with w:=K,sg:=G }:=⟨⟨hK,h.ok.l_fPrev,hG⟩,rfl,h.seq,h.prev,h.ls,h.ds,rfl⟩
theorem r15_Sign(B:Block)(D:DB)(hB:B.ok)(hn:D.ls.length≤40)(hd:D.ds.length≤2000)(seed:List UInt8)(h32:seed.length=32)(s s1 s2:List UInt8)(hs:Hid (Cr seed=s))(hs1:Hid (Cr (s.drop 32++btxt ({ D with w:=sgK s }:DB))=s1))(hs2:Hid (Cr (sgF s1++(sgK s++btxt ({ D with w:=sgK s }:DB)))=s2))(hc:D.check=0):Meets prog 115 [agg (Aa seed),agg B.cells] [] (fun W=>BlockIs W B D) (BlkR 0 (bsg D (sgK s) (sgF s1++sgS s s1 s2))):=by
 intro W hW;have lG:(sgF s1++sgS s s1 s2).length=64:=by rw[La5,sgF_length,sgS_length]
 have lK:=sgK_length s;have cK:=r6_Key seed h32 s hs;have e1:=hW.ls.len;have e2:=hW.ds.len;have hDk:({ D with w:=sgK s }:DB).ok:=⟨lK,hW.dok.prev,hW.dok.sg,hW.dok.ls⟩;have hvn:(btxt { D with w:=sgK s }).length≤4005:=DB.body_small hDk oM oM;have cS:=fun(x:Sl)=>r6_Sign seed h32 x (btxt { D with w:=sgK s }) oM s s1 s2 hs hs1 hs2;clear hs hs1 hs2;revert lG lK cK hDk hvn cS;generalize sgF s1++sgS s s1 s2=G;generalize sgK s=K;intro lG lK cK hDk hvn cS;refine Ac func115 J 21 ntmps115 J (G3 ?_);intro n2 hn2 hf2;refine G1 ?_;intro n3 hn3 hf3;refine .alloc (cs:=Block.zero.cells) J Block.zr J ?_;intro n4 hn4 hf4;refine G6 ?_;refine .call4 J J J J J Body102 (r15_Copy B D hB oM oM) (fun w h=>hW.ext h J) ?_;rintro v7 out7 ⟨B7,h7,rfl,ho7⟩;have okX:({ B7 with fWriter:=K }:Block).ok:=⟨lK,h7.ok.l_fPrev,h7.ok.l_fSig⟩;have okG:({ B7 with fWriter:=K,fSig:=G }:Block).ok:=⟨lK,h7.ok.l_fPrev,lG⟩;have cC:=r15_Check ({ B7 with fWriter:=K }:Block) { D with w:=K };rw[show({ D with w:=K }:DB).check=D.check from rfl]at cC;have cT:=r15_Text ({ B7 with fWriter:=K }:Block) { D with w:=K } okX hn hd
 try simp only[La8,Lap,Lal]
 refine .sA J J J J (Block.isCell (by exact h7.ok)) Sz37 (Block.length (by exact h7.ok)) mR (Block.length zA) uU ?_;refine G4 ?_;refine .lA J J J Y28.h J Sz28 mR (by(simp[h32];done)) ?_;refine .cV J J J J Body153 (cK) tV (G1 ?_);refine .storeN (Aa _) J J J J J zE Sz29 (by simp[lK]) mR (by rw[Block.length (by exact h7.ok)];simp[lK]) (Block.upd_fWriter (by exact h7.ok) _ (by simp[lK])) uU ?_;refine G6 ?_;refine .cV J J J J Body103 (cC) (fun w h=>with_w' (ho7 w (Lies.of h (by repeat(exact Bu)))) lK) ?_;refine G3 ?_;refine .cond_f J (by simpa using hc) ?_;refine G3 ?_;refine .draw (oPq [100,101,302,303,4,405]) Ap zK (.lA J J J Y28.h J Sz28 mR (by(simp[h32];done)) ?_);refine G1 ?_;refine .call J J J J Body122 (cT) (FreshRow.loose _ _ _ _) (fun w h=>with_w' (ho7 w (Lies.of h (by repeat(exact Bu)))) lK) ?_;rintro v17 out17 ⟨q17,c17,rfl,hc17,rfl⟩;refine .cV J J J J Body154 (cS ⟨some ⟨q17,0,none⟩,_,c17⟩) (fun w h=>own_btxt (SeesP.of (Aq h Z0)) hc17 hvn) ?_;refine G1 ?_;refine .storeN (Aa _) J J J J J zE Sz35 (by simp[lG]) mR (by rw[Block.length zA];simp[lG]) (Block.upd_fSig zA _ (by simp[lG])) uU ?_;refine G9 ?_;refine G2 ?_;refine A3 (out:=(out7++[])) (Bi J J J Y37.h J Sz37 mR (by exact Block.length zA)) (Ad sG Ak) ?_;rw[Lak];exact⟨({ B7 with fWriter:=K,fSig:=G }:Block),⟨okG,rfl,h7.seq,h7.prev,rfl,h7.ln,h7.dn⟩,rfl,fun W2 h2=>with_wg' (ho7 W2 h2) lK lG⟩
def ByR(e:Int)(l:List UInt8)(v:Value)(out:List Blk):Prop:=∃s:Sl,v= .tuple #[s.v,i64 e]∧s.n=l.length∧(s.p=none→s.n=0)∧∀W2,Lies out W2→SeesP W2 s.p (Aa l)
theorem body_pos(D:DB):0<D.body.length:=by
  have:=Co D.seq.toNat;simp only[DB.body,La5,Bj];omega
theorem text_off{q c:Nat}{E:TypeId}(hc:(btxt D).length≤c)(hl:(btxt D).length=5+D.body.length):AccO ⟨some ⟨q,if c=5 then 0 else 0+5*1,none⟩,(btxt D).length-5,c-5⟩ [⟨q,Aa (btxt D),E,c*1⟩] (Aa D.body) E ((btxt D).length-5):=by
  refine .inr ⟨q,if c=5 then 0 else 0+5*1,c-5,c*1,Aa (if c=5 then[]else btag),Aa [],rfl,by omega,by rw[Aa,La0];omega,?_, .inl rfl,?_,?_⟩
  ·split<;>rfl
  ·split<;>omega
  · by_cases h5:c=5
    ·exfalso;have hb:0<D.body.length:=body_pos D;omega
    ·rw[if_neg h5,←bytesV_app,←bytesV_app,Lak];rfl
theorem r15_Bytes(B:Block)(D:DB)(hB:B.ok):Meets prog 88 [agg B.cells] [] (fun W=>BlockIs W B D) (ByR D.check (bytesR D)):=by
 intro W hW;have hsl:=hB.l_fSig;have hsg:=hW.sg;refine Ac func88 J 13 ntmps88 J (G3 ?_);intro n1 hn1 hf1;refine G8 ?_;refine .cV J J J J Body103 (r15_Check B D) (fun w h=>hW.ext h J) (G3 ?_);refine .condNP J (fun hc0=>?_) (fun hc0=>?_)
 ·
  have hq0:¬D.check=0:=by omega
  refine G6 ?_;refine G3 ?_;refine A3 (out:=[]) (res_tmp2 J J J) Ak ?_;rw[dcheck_2 hq0];exact⟨Sl.nil,rfl,by rw[show bytesR D=[]from if_neg hq0];rfl,fun _=>rfl,fun W2 _=>by rw[show bytesR D=[]from if_neg hq0];exact SeesP.nil⟩
 have hq0:D.check=0:=by omega
 obtain⟨h1,h2⟩:=D.head_small hq0;have hvn:(btxt D).length≤4005:=DB.body_small hW.dok oM oM;have hbl5:(btxt D).length=5+D.body.length:=by rw[btxt,La5];rfl
 refine G3 ?_;refine .draw (oPq [100,3,4,301,2,405,6,7]) Ap zK (G3 ?_);refine .call J J J J Body122 (r15_Text B D hB oM oM) (FreshRow.loose _ _ _ _) (fun w h=>hW.ext h J) ?_;rintro v8 out8 ⟨q8,c8,rfl,hc8,rfl⟩;refine .sliceLoN 5 J J J J J oM oM Y33.h Sz5 (.appendO (z:=u8 0) (by':=1) (Aa B.fSig) J J J J J Y33.h Y33.h Sz5 Zr5 (by unfold By;kernel_rfl) J (text_off hc8 hbl5) sG (fun w h=>SeesP.of (sees_part h Z1 (Block.see_fSig hB))) dE (fun e=>by cases e) (Av _) oM oM (by simp[hsl]) ?_);intro s12 bl12 hac12;refine G4 ?_;refine G2 ?_;refine A3 (out:=(bl12++[])) (res_tmp2 J J J) (Ad sG Ak) ?_;rw[hq0,show bytesR D=D.body++D.sg from if_pos hq0,←hsg,Lak];refine⟨s12,rfl,by rw[hac12.num,La5,hsl];omega,fun e=>by have:=hac12.nilc e;have:=hac12.cap;omega,fun W2 h2=>?_⟩;rw[bytesV_app];exact hac12.see h2
theorem r15_Name(B:Block)(D:DB)(hB:B.ok):Mv 43 [agg B.cells] (fun W=>BlockIs W B D) (agg (Aa (Be D))):=by
 intro W hW;have hvl:(bytesR D).length≤5000:=by
  unfold bytesR;split
  ·rename_i h9;exact D.bytes_small h9 hW.dok
  ·exact Laj _
 obtain⟨k,hk⟩:∃k,Hid (kW=k):=⟨_,⟨rfl⟩⟩;obtain⟨s0,hs0⟩:∃s0,Hid (xorUp 8=s0):=⟨_,⟨rfl⟩⟩;obtain⟨G,hG⟩:∃G,Hid (shaTag=G):=⟨_,⟨rfl⟩⟩;obtain⟨i0,hi0⟩:∃i0,Hid (allW k s0 G=i0):=⟨_,⟨rfl⟩⟩;have hk80:k.length=80:=by rw[←hk.out];rfl
 have hs8:s0.length=8:=by rw[←hs0.out];exact xorUp_length 8
 have hGl:G.length=11:=by rw[←hG.out];rfl
 have hi8:i0.length=8:=by rw[←hi0.out,allW_length];exact hs8
 obtain⟨r,hr⟩:∃r,Hid (allW k i0 (bytesR D)=r):=⟨_,⟨rfl⟩⟩;obtain⟨s,hs⟩:∃s,Hid (sumUp r 64=s):=⟨_,⟨rfl⟩⟩;have hsd:Hid (s.take 32=sha256 (bytesR D)):=⟨by rw[←hs.out,←hr.out,←hi0.out,←hG.out,←hs0.out,←hk.out];rfl⟩;have hs64:s.length=64:=by rw[←hs.out];exact Ce r 64
 have hs32:(s.take 32).length=32:=by rw[Lar,hs64];rfl
 refine Ac func43 J 16 ntmps43 J (G3 ?_);intro n1 hn1 hf1;refine .alloc (cs:=(Aa (List.replicate 32 0))) J Zr31 J ?_;intro n2 hn2 hf2;refine G5 ?_;refine .call4 J J J J J Body88 (r15_Bytes B D hB) (fun w h=>hW.ext h J) ?_;rintro v7 out7 ⟨s7,rfl,hn7,hp7,hs7⟩;refine G14 ?_;refine .condNP J (fun hc0=>?_) (fun hc0=>?_)
 ·
  have hq0:¬D.check=0:=by omega
  refine G2 ?_;refine .build (cs:=Aa (List.replicate 32 0)) J J J (fun w=>by kernel_rfl) ?_;refine .sA J J J J zE Sz31 sP mR sP (by(repeat(first|exact upd0|apply Upd.seg))) ?_;refine G2 ?_;refine G3 ?_;refine⟨_,[],Ao J J Y31.h J Sz31 mR sP,sP,sP,?_,rfl⟩
  (rw[Be,if_neg hq0];done)
 have hq0:D.check=0:=by omega
 refine G5 ?_;refine .mkRow (z:= .slice none 0 0) [s7.v] [s7.v] rfl J J Y158.h Sz33 Zr33 J J (by intro v hv;rw[La1.1 hv];rfl) dE J ?_;intro q14;refine .cV J J J J Body89 (r2_Sum k s0 i0 G hk hk80 hs0 hs8 hG hGl hi0 hi8 (some ⟨q14,0,none⟩) 1 1 [s7] [bytesR D] rfl J (fun j hj=>(by obtain rfl:j=0:=oM;exact⟨by simp[hn7],hp7⟩)) (bytesR D) sP oM dE r hr s hs) (fun w h=>⟨SeesP.of (Aq h Z0),fun j hj=>(by obtain rfl:j=0:=oM;exact hs7 w (Lies.of h (by repeat(first|exact Bu|refine Cc ?_))))⟩) ?_;refine .sA J J J J zE Sz31 (by(simp[hs64];done)) mR sP uU ?_;refine G2 ?_;refine G2 ?_;refine⟨_,[],Ao J J Y31.h J Sz31 mR (by simp[hs64]),sP,sP,?_,rfl⟩
 (rw[Be,if_pos hq0,←show bytesR D=D.bytes from if_pos hq0,hsd.out];done)
def Cp(D:DB):List (List UInt8):=if D.seq=0 then D.ls else D.prev::D.ls
theorem parL_row(h:D.ok):∀l∈Cp D,l.length=32:=by
  intro l hl;unfold Cp at hl;split at hl
  ·exact h.ls l hl
  · rcases Lag.1 hl with rfl|hl
    ·exact h.prev
    ·exact h.ls l hl
end Go.Proofs.YtbdfihcjddbhaaaGreat
namespace Go.Proofs.YtbdfihcjddbhaaaGreat
open Go Hw _root_.Go.Proofs.Tryz
variable{W:World}{b c:Nat}{z:Value}{ν:Type}{ev:ν→Value}{fs:List (List UInt8×ν)}
theorem key_seqB(M:MOk prog 82 31 37 (Ar 32 ev) z)(hb:BlkOk W (Az b (Ar 32 ev) fs))(hc:CapM W c b)(hcl:c<W.heap.size):KeySeq prog 147 #[ptr c 0] (fs.map (·.1)) W:=by
  intro σ X vis s0 names l w1 hk hn hv hH hY;obtain⟨es,clock,h1,F⟩:=hb.map;have hb1:w1.heap[b]? =some (.map es clock):=(hk.block b hb.lt sP).trans h1;have hbn:b∉names:=fun h=>by have:=hn b h;have:=hb.lt;simp only at this;omega
  have hcn:c∉names:=fun h=>by have:=hn c h;omega
  have hc1:CapM w1 c b:=by
    unfold CapM World.cell? at hc ⊢;rw[hk.block c hcl sP];exact hc
  have hcl1:c<w1.heap.size:=Lb8 hcl hk.size;refine callsIn_wide.2 ((keys_iterB M X vis s0 names l c b fs es clock w1 F hv hbn hcn w1 ⟨rfl,hH,hb1,hc1,hcl1,fun s k h32 hvl W2 h=>hY s k h32 (by simpa using hvl) W2 h⟩).mono fun e W' ⟨v,out,he,⟨_,s,hp,ho⟩,hr⟩=>⟨⟨v,he⟩,s,hp,?_⟩);subst ho;exact⟨hr.cells,hr.nodup,hr.own,hr.keeps,fun _ h=>(by cases h),fun _ _ _ h=>(by cases h)⟩
theorem key_seqU(M:MOk prog 81 31 105 (Ar 32 ev) z)(hb:BlkOk W (Az b (Ar 32 ev) fs))(hc:CapM W c b)(hcl:c<W.heap.size):KeySeq prog 148 #[ptr c 0] (fs.map (·.1)) W:=by
  intro σ X vis s0 names l w1 hk hn hv hH hY;obtain⟨es,clock,h1,F⟩:=hb.map;have hb1:w1.heap[b]? =some (.map es clock):=(hk.block b hb.lt sP).trans h1;have hbn:b∉names:=fun h=>by have:=hn b h;have:=hb.lt;simp only at this;omega
  have hcn:c∉names:=fun h=>by have:=hn c h;omega
  have hc1:CapM w1 c b:=by
    unfold CapM World.cell? at hc ⊢;rw[hk.block c hcl sP];exact hc
  have hcl1:c<w1.heap.size:=Lb8 hcl hk.size;refine callsIn_wide.2 ((keys_iterU M X vis s0 names l c b fs es clock w1 F hv hbn hcn w1 ⟨rfl,hH,hb1,hc1,hcl1,fun s k h32 hvl W2 h=>hY s k h32 (by simpa using hvl) W2 h⟩).mono fun e W' ⟨v,out,he,⟨_,s,hp,ho⟩,hr⟩=>⟨⟨v,he⟩,s,hp,?_⟩);subst ho;exact⟨hr.cells,hr.nodup,hr.own,hr.keeps,fun _ h=>(by cases h),fun _ _ _ h=>(by cases h)⟩
theorem KeySeq.keep{P:Program}{gf:Nat}{lb:Array Value}{keys:List (List UInt8)}{C:Cx}{hp:List Blk}{w:World}(h:KeySeq P gf lb keys C.W0)(hh:HRep C hp w)(hl:C.lent=[]:=by rfl):KeySeq P gf lb keys w:=by
  intro σ X vis s0 names l w1 hk hn hv hH hY;have k0:=hh.keeps;rw[hl]at k0;exact h σ X vis s0 names l w1 (k0.trans hk) (fun n hm=>Lbb k0.size (hn n hm)) hv hH hY
theorem append_keys(gf:Nat)(lb:Array Value)(keys:List (List UInt8))(hgf:Aw prog gf)(hkn:keys.length≤100000):Meets prog 138 [.slice none 0 0, .func (.func gf) #[] lb] [] (fun W=>KeySeq prog gf lb keys W) (fun v out=>∃(s:Sl) (ks:List (List UInt8)),ks.Perm keys∧v=s.v∧Hw.Acc s out (Ay ks) 31 ks.length 32):=by
  intro W hW;refine calls_rangeR (hp0:=[]) func138 rfl 13 ntmps138 rfl (HRep.nil _) ?_;refine Sat.region ?_;refine Tr.box1 rfl rfl rfl ?_;intro n2 hn2 hf2;refine G7 ?_;refine⟨gf,lb,{t:Sl×List Blk×List (List UInt8)//Hw.Acc t.1 t.2.1 (Ay t.2.2) 31 t.2.2.length 32},fun t=>⟨n2,[t.1.1.v],32,1⟩::t.1.2.1,⟨(Sl.nil,[],[]),Acc.none⟩,[n2],(fun t v=>∃k,v=agg (Aa k)∧k.length=32∧t.1.2.2.length<keys.length),(fun t v t2=>∃k,v=agg (Aa k)∧t2.1.2.2=t.1.2.2++[k]),(fun t=>t.1.2.2.Perm keys),(fun sl t v st=>∃k n5 m5,v=agg (Aa k)∧st=⟨(5,ptr n5 0)::(7,v)::sl,⟨n5,Aa k,31,m5⟩::⟨n2,[t.1.1.v],32,1⟩::t.1.2.1⟩),rfl,rfl,hgf,dE,rfl,?_,?_,?_,?_⟩
  ·
    intro l w1 hk hh hy;refine(hW _ (fun t: {t:Sl×List Blk×List (List UInt8)//Hw.Acc t.1 t.2.1 (Ay t.2.2) 31 t.2.2.length 32}=>⟨n2,[t.1.1.v],32,1⟩::t.1.2.1) (fun t=>t.1.2.2) ⟨(Sl.nil,[],[]),Acc.none⟩ [n2] l w1 hk (fun n hn=>by rw[La1.1 hn];exact hn2) rfl hh fun s k h32 hvl W2 h=>?_);obtain⟨fn,tmps,ae,bd,hrun,hR⟩:=hy s (agg (Aa k)) ⟨k,rfl,h32,hvl⟩ W2 h;exact⟨fn,tmps,ae,bd,hrun,RoundIn.mono hR fun e W3 ⟨he,s2,⟨k2,e2,hs2⟩,hr⟩=>⟨he,s2,by rw[agg_bytes_inj e2];exact hs2,hr⟩⟩
  ·
    intro t v hok l W2 ns hns hh;obtain⟨k,rfl,hk32,hlt⟩:=hok;refine SatI.region zK ?_;refine Tr.alloc (cs:=(Aa (List.replicate 32 0))) rfl Zr31 rfl ?_;intro n5 hn5 hf5;refine Tr.sA rfl rfl rfl rfl zE Sz31 (by(rw[Aa,La0];assumption)) Z0 sP zU ?_;refine Tr.nil ?_;exact⟨k,_,_,rfl,rfl⟩
  ·
    intro t v hok st hmid l W2 ns hns hh;obtain⟨k,n5,m5,rfl,rfl⟩:=hmid;obtain⟨k1,ek,hk32,hlt⟩:=hok;obtain rfl:=agg_bytes_inj ek;refine SatI.block ?_;refine SatI.region zK ?_;refine G1 ?_;refine Tr.lA rfl rfl rfl Y31.h rfl Sz31 Z0 (by(rw[Aa,La0];assumption)) ?_;refine Tr.mkRow2 (z:=agg (Aa (List.replicate 32 0))) [agg (Aa k)] (Aa k) rfl rfl Y32.h Sz31 Zr31 rfl rfl (by intro v hv;rw[La1.1 hv];simp[Value.cells,Aa,hk32]) dE (by simp[Value.cells,agg]) ?_;intro q10;refine Tr.appendAcc (z:=agg (Aa (List.replicate 32 0))) (by':=32) (Aa k) rfl rfl rfl rfl rfl Y32.h Y32.h Sz31 Zr31 (by unfold By;kernel_rfl) rfl t.2 (by repeat(first|exact sg_end|apply sg_there)) (fun w h=>SeesP.of (Aq h Z0)) (fun e=>by cases e) (Av _) oM oM (by rw[Aa,La0,hk32]) ?_;intro s11 bl11 hac11;refine Tr.s1 rfl rfl rfl rfl rfl Sz32 mR sP (by rfl) uU ?_;refine Tr.nil ?_;refine⟨⟨(s11,bl11,t.1.2.2++[k]),by simpa[flatB_append,Ay]using hac11⟩,_,⟨k,rfl,rfl⟩,(Ab rM sG)⟩
  intro t hdn D W2 ns hns;skip;refine G6 ?_;refine Sat.ret ?_;refine enA_r ?_;refine endA_perm (out:=(t.1.2.1++[])) (fun W names=>Al rfl rfl) (Ad (by repeat(first|exact sg_end|apply sg_there)) Ak) ?_;exact⟨t.1.1,t.1.2.2,hdn,rfl,by simpa using t.2⟩
theorem collect_keys(gf:Nat)(lb:Array Value)(keys:List (List UInt8))(hgf:Aw prog gf)(hkn:keys.length≤100000):Meets prog 96 [.func (.func gf) #[] lb] [] (fun W=>KeySeq prog gf lb keys W) (fun v out=>∃(s:Sl) (ks:List (List UInt8)),ks.Perm keys∧v=s.v∧Hw.Acc s out (Ay ks) 31 ks.length 32):=by
 intro W hW;refine Ac func96 J 5 ntmps96 J (G8 ?_);refine .call4 J J J J J Body138 (append_keys gf lb keys hgf hkn) (fun w h=>hW.keep h) ?_;rintro v4 out4 ⟨s4,ks,hp,rfl,hac⟩;refine G3 ?_;refine G2 ?_;refine A3 (out:=(out4++[])) (Al J J) (Ad sG Ak) ?_;exact⟨s4,ks,hp,rfl,by simpa using hac⟩
open Go.RowKit Go.Shelf Go.Lib Go.Sort
set_option maxHeartbeats 2000000
theorem bytes70(W:World){p q:Option Addr}{c1 c2 n m:Nat}{a b:List UInt8}(ha:a.length=n)(hb:b.length=m)(h1:SeesP W p (Aa a))(h2:SeesP W q (Aa b)):Calls prog 94 #[.slice p n c1, .slice q m c2] W fun e w'=>e= .returned (i64 (B1 a b))∧w'=W:=by
  have hr:=bytealg_run (w:=W) (c1:=c1) (c2:=c2) ha hb h1 h2;rw[show[Value.slice p n c1,Value.slice q m c2].toArray= #[.slice p n c1, .slice q m c2]from rfl]at hr;generalize B1 a b=r at hr ⊢;clear h1 h2 ha hb
  go_enter func94,ntmps94
  go_wp2
  go_ret
  exact⟨rfl,rfl⟩
theorem cmp47(x y:List UInt8)(hx:x.length=32)(hy:y.length=32)(W:World):Calls prog 51 #[agg (Aa x),agg (Aa y)] W fun e w'=>e= .returned (i64 (B1 x y))∧∃q os',w'=grow (W.drewN q) os':=by
  obtain⟨r,hr⟩:∃r,B1 x y=r:=⟨_,rfl⟩;rw[hr];have hs:∀W':World,(∀i,i<W.heap.size+2→W'.heap[i]? =((W.alloc (.cells (Aa x).toArray 31)).alloc (.cells (Aa y).toArray 31)).heap[i]?)→Calls prog 94 #[.slice (some ⟨W.heap.size,0,none⟩) 32 32, .slice (some ⟨W.heap.size+1,0,none⟩) 32 32] W' fun e w'=>e= .returned (i64 r)∧w'=W':=fun W' h=>by
    rw[←hr];refine bytes70 W' hx hy (SeesP.of fun j v hj=>?_) (SeesP.of fun j v hj=>?_)
    · have e:=h W.heap.size oM
      have e2:((W.alloc (.cells (Aa x).toArray 31)).alloc (.cells (Aa y).toArray 31)).heap[W.heap.size]? =some (.cells (Aa x).toArray 31):=by
        show((W.heap.push _).push _)[W.heap.size]? =_;rw[Lbx,if_neg sP,Lbx,if_pos rfl]
      rw[e2]at e;simpa[World.cell?,e]using hj
    · have e:=h (W.heap.size+1) oM
      have e2:((W.alloc (.cells (Aa x).toArray 31)).alloc (.cells (Aa y).toArray 31)).heap[W.heap.size+1]? =some (.cells (Aa y).toArray 31):=by
        show((W.heap.push _).push _)[W.heap.size+1]? =_;rw[Lbx,if_pos sP]
      rw[e2]at e;simpa[World.cell?,e]using hj
  go_enter func51,ntmps51
  go_wp2
  generalize hw2:(W.alloc (.cells (Aa x).toArray 31)).alloc (.cells (Aa y).toArray 31)=w2 at hs ⊢
  go_quiet ((go_at_call 94;exact Calls.quiet_of_same (hs _ (fun i hi=>rfl))))
  go_wp2
  go_ret
  refine⟨rfl,nq, #[.cells (Aa x).toArray 31, .cells (Aa y).toArray 31],?_⟩;rw[←hw2,alloc_eq_grow,alloc_eq_grow,grow_grow];rfl
abbrev L32:={l:List UInt8//l.length=32}
instance:Inhabited L32:=⟨⟨List.replicate 32 0,by simp⟩⟩
def cf32(x y:L32):Int:=B1 x.1 y.1
theorem lt32(x y:L32):ltOf cf32 x y=decide (B1 x.1 y.1<0):=rfl
theorem swo32:SWO (ltOf cf32) where
  irrefl x:=by rw[lt32,cmpB_self];rfl
  trans x y z h1 h2:=by
    rw[lt32]at*;simp only[decide_eq_true_eq]at*;exact(cmpB_trans _ _ _ oM oM).2 (.inl h1)
  ntrans x y z h1 h2:=by
    rw[lt32]at*;simp only[decide_eq_false_iff_not]at*;have e1:=cmpB_neg x.1 y.1;have e2:=cmpB_neg y.1 z.1;have e3:=cmpB_neg x.1 z.1;have:=(cmpB_trans z.1 y.1 x.1 oM oM).1;omega
theorem enc32_cells(x:L32):∀v∈Aa x.1,v.oneCell'=true:=fun v hv=>by
  obtain⟨u,_,rfl⟩:=La6.1 hv;rfl
def up32(ks:List (List UInt8))(h:∀l∈ks,l.length=32):List L32:=ks.attach.map fun x=>⟨x.1,h x.1 x.2⟩
theorem up32_val(ks:List (List UInt8))(h:∀l∈ks,l.length=32):(up32 ks h).map (·.1)=ks:=by
  unfold up32;rw[Lgi];show ks.attach.map Subtype.val=ks;simp
theorem flatK_list(d:Array L32):∀(j:Nat) (v:Value),(Ay (d.toList.map (·.1)))[j]? =some v→j<d.size*32∧(flatK (fun x:L32=>Aa x.1) 32 d)[j]! =v:=fun j v hj=>by
  have h32:∀l∈d.toList.map (·.1),l.length=32:=fun l hl=>by obtain⟨x,_,rfl⟩:=La6.1 hl;exact x.2
  have hlen:=A1 h32;have hlt:=(Lab.1 hj).1;rw[hlen]at hlt;have hlt2:j<d.size*32:=by simpa using hlt
  refine⟨hlt2,?_⟩;rw[get_flatK _ _ _ _ hlt2];have hi:j/32<d.size:=by omega
  have hc:((d.toList.map (·.1)).map Aa)[j/32]? =some (Aa d[j/32]!.1):=by
    rw[Lai,Lai];have:d.toList[j/32]? =some d[j/32]! :=by simp[hi]
    rw[this];rfl
  have hm:j%32<(Aa d[j/32]!.1).length:=by rw[Aa,La0,d[j/32]!.2];omega
  have:=flat_get (m:=32) (fun l hl=>flatB_all h32 l hl) hc hm;have e:j/32*32+j%32=j:=by omega
  rw[e]at this;have hj2:((d.toList.map (·.1)).map Aa).flatten[j]? =some v:=hj;rw[hj2]at this;rw[Lea,←this];rfl
def SortB(ks:List (List UInt8)):Prop:=ks.Pairwise fun a b=>B1 a b≤0
theorem sort_digs(q n c m:Nat)(ks:List (List UInt8))(h32:∀l∈ks,l.length=32)(hl:ks.length=n)(hbig:n≤1000000)(hm:n*32≤m):Meets prog 47 [.slice (some ⟨q,0,none⟩) n c, .func (.func 51) #[] #[]] [q] (fun W=>BlkOk W ⟨q,Ay ks,31,m⟩)
    (fun v out=>v= .tuple #[]∧∃ks':List (List UInt8),ks'.Perm ks∧SortB ks'∧out=[⟨q,Ay ks',31,m⟩]):=fun W hb=>by
  obtain⟨d,hd⟩:∃d:Array L32,d=(up32 ks h32).toArray:=⟨_,rfl⟩;have hdl:d.toList.map (·.1)=ks:=by rw[hd];exact up32_val ks h32
  have hds:d.size=n:=by rw[←hl,←hdl];simp
  have hb0:∃full fr,BlkAt W ⟨q,Ay ks,31,m⟩ full fr:=hb;obtain⟨full,fr,hbk⟩:=hb0;have hfl:=A1 h32;have hH:HoldsK (fun x:L32=>Aa x.1) 32 W q 0 d:=fun j hj=>by
    rw[size_flatK]at hj;have hj2:j<(Ay ks).length:=by rw[hfl,hl,←hds];exact hj
    have h1:=La4 hj2;have h2:=(flatK_list d j _ (by rw[hdl];exact h1)).2;rw[h2];exact⟨hb.cell (b:=⟨q,Ay ks,31,m⟩) (by simpa using h1),hbk.unfrozen (by show 0+j<m;omega)⟩
  have eg:∀args w,(callFunc 51 args).run prog w= .ok (.enter 51 args) w:=enters_of func51 zK rfl;have hcmp:CmpLays prog 51 #[] (fun x:L32=>Aa x.1) 32 cf32 q 0 d.size W:=fun k os dk hk x y=>cmp47 x.1 y.1 x.2 y.2 _;have hz25:∀w,(Go.sizeOf (sortD_ren.t 24)).run prog w= .ok 32 w:=by
    intro w;have e:sortD_ren.t 24=31:=by rfl
    rw[e];exact Cf Sz31 w
  have hcon:=AnyQ.slices_SortFunc sortD 32 (fun w=>run_isAgg_arr Y31.h rfl w) (fun w=>hz25 w) (fun x:L32=>Aa x.1) (fun x=>by rw[Aa,La0,x.2]) enc32_cells cf32 swo32 51 #[] q 0 c d W eg hcmp hH hb.lt oM;have hcon2:Calls prog 47 #[.slice (some ⟨q,0,none⟩) d.size c, .func (.func 51) #[] #[]] W _:=hcon;rw[hds]at hcon2;refine hcon2.mono fun e W' ⟨he,d',k,os,hp,hs,hw⟩=>?_;subst hw;have hsz':d'.size=d.size:=hp.1;obtain⟨ks',hk'⟩:∃ks',ks'=d'.toList.map (·.1):=⟨_,rfl⟩;have h32':∀l∈ks',l.length=32:=fun l hl=>by rw[hk']at hl;obtain⟨x,_,rfl⟩:=La6.1 hl;exact x.2
  have hlen':ks'.length=n:=by rw[hk'];simp[hsz',hds]
  have hperm:ks'.Perm ks:=by
    rw[hk',←hdl];refine List.Perm.map _ ?_;have h3:=hp.2.2;have e1:d.extract 0 d.size=d:=by simp
    have e2:d'.extract 0 d.size=d':=by rw[←hsz'];simp
    rw[←hds]at h3;rwa[e1,e2]at h3
  have hsort:SortB ks':=by
    rw[hk'];refine Le5.2 (Lc8.2 fun i j hi hj hij=>?_);have h4:=hs i j (Laj _) hij (by rw[←hds,←hsz'];simpa using hj);rw[lt32,decide_eq_false_iff_not]at h4;have hi2:i<d'.size:=by simpa using hi
    have hj2:j<d'.size:=by simpa using hj
    rw[getElem!_pos d' j hj2,getElem!_pos d' i hi2]at h4;have:=cmpB_neg d'.toList[i].1 d'.toList[j].1;simp only[Array.getElem_toList]at this ⊢;omega
  refine⟨_,_,he,⟨rfl,ks',hperm,hsort,rfl⟩,⟨⟨rfl,rfl,rfl,?_,Lf4 W.drawn k,fun i hi hn=>?_⟩,fun b hb2=>?_,by simp,fun b hb2=>?_⟩⟩
  ·simp[sortWorldK,grow,putRowK]
  · have hne:i≠q:=by simpa using hn
    simp only[sortWorldK,grow,putRowK,putRow,mapBlock];rw[Lcq (by simpa using hi),Lcz];rw[if_neg (fun e:q=i=>hne e.symm)];rfl
  · rw[La1.1 hb2]
    have hq:W.heap[q]? =some (.cells full 31 fr):=hbk.heap;have hql:q<W.heap.size:=hb.lt;refine⟨putCells id 0 (flatK (fun x:L32=>Aa x.1) 32 d') full,fr,?_,by simpa[putCells]using hbk.size,?_,hbk.free⟩
    · simp only[sortWorldK,grow,putRowK,putRow,mapBlock]
      rw[Lcq (by simpa using hql),Lcz,if_pos rfl,show(Go.Sort.ahead W k).heap[q]? =some (Obj.cells full 31 fr)from hq];rfl
    · have hms:=hbk.size
      simp only at hms;rw[prefix_iff];intro j v hj;simp only at hj;have hf:=flatK_list d' j v (by rw[←hk'];exact hj);simp only[putCells,Lde,Lfr];have hjf:j<full.size:=by rw[hms];have:=hf.1;omega
      rw[Lct hjf];simp only[Lbj,La3,Laj,true_and,Lb2,size_flatK,Lfa];rw[if_pos hf.1,hf.2];rfl
  ·rw[La1.1 hb2];exact .inr sP
theorem sort_none(p:Option Addr)(c:Nat):Mv 47 [.slice p 0 c, .func (.func 51) #[] #[]] (fun _=>True) (.tuple #[]):=fun W _=>by
  have hcon:=AnyF.slices_SortFunc_none sortD p c (.func (.func 51) #[] #[]) W;have hcon2:Calls prog 47 #[.slice p 0 c, .func (.func 51) #[] #[]] W _:=hcon;refine hcon2.mono fun e W' h=>?_;obtain⟨he,hw⟩:=h;subst hw;exact⟨_,[],he,⟨rfl,rfl⟩,⟨Keeps.refl _ _,fun b hb=>(by cases hb),Lbv,fun b hb=>(by cases hb)⟩⟩
end Go.Proofs.YtbdfihcjddbhaaaGreat
namespace Go.Proofs.YtbdfihcjddbhaaaGreat
open Go Hw _root_.Go.Proofs.Tryz
variable{C:Cx}{T:TypeId}{hp:List Blk}{w:World}{z:Value}{ν:Type}{ev:ν→Value}
theorem sort_acc(s:Sl)(bl:List Blk)(ks:List (List UInt8))(h32:∀l∈ks,l.length=32)(hbig:ks.length≤1000000)(hac:Hw.Acc s bl (Ay ks) 31 ks.length 32):Meets prog 47 [s.v, .func (.func 51) #[] #[]] (bl.map (·.n)) (fun W=>Lies bl W)
    (fun v out=>v= .tuple #[]∧∃ks':List (List UInt8),ks'.Perm ks∧SortB ks'∧Hw.Acc s out (Ay ks') 31 ks.length 32):=by
  rcases hac with ⟨rfl,rfl,hz,hn⟩|⟨q,c,rfl,hnc,hfl,rfl⟩
  · obtain rfl:=Las hn
    intro W _;exact(sort_none none 0 W trivial).mono fun e W' ⟨v,out,he,⟨hv,ho⟩,hr⟩=>⟨v,out,he,⟨hv,[],Lcb _,List.Pairwise.nil, .inl ⟨rfl,ho,rfl,rfl⟩⟩,hr⟩
  · intro W hW
    have hb:BlkOk W ⟨q,Ay ks,31,c*32⟩:=hW _ (La1.2 rfl);refine(sort_digs q ks.length c (c*32) ks h32 rfl hbig (Ldk 32 hnc) W hb).mono fun e W' ⟨v,out,he,⟨hv,ks',hp,hs,ho⟩,hr⟩=>⟨v,out,he,⟨hv,ks',hp,hs,?_⟩,hr⟩;have h32':∀l∈ks',l.length=32:=fun l hl=>h32 l (hp.mem_iff.1 hl);exact .inr ⟨q,c,rfl,hnc,by rw[A1 h32',hp.length_eq],ho⟩
theorem mblk_keep{B:Blk}(h:BlkOk C.W0 B)(hh:HRep C hp w)(hl:C.lent=[]:=by rfl):BlkOk w B:=
  h.of_heap (hh.keeps.block B.n h.lt (by rw[hl];simp))
theorem CapM.of_own{c b:Nat}(hh:HRep C hp w)(hc:(⟨c,[.map (some b)],T,1⟩:Blk)∈hp):CapM w c b∧c<w.heap.size:=
  ⟨(hh.cells _ hc).cell (o:=0) rfl,(hh.cells _ hc).lt⟩
theorem sorted_keys(gf:Nat)(lb:Array Value)(keys:List (List UInt8))(hgf:Aw prog gf)(hkn:keys.length≤100000)(hk32:∀l∈keys,l.length=32):Meets prog 53 [.func (.func gf) #[] lb, .func (.func 51) #[] #[]] [] (fun W=>KeySeq prog gf lb keys W) (fun v out=>∃(s:Sl) (ks:List (List UInt8)),ks.Perm keys∧SortB ks∧v=s.v∧Hw.Acc s out (Ay ks) 31 ks.length 32):=by
 intro W hW;refine Ac func53 J 12 ntmps53 J (G8 ?_);refine .call4 J J J J J Body96 (collect_keys gf lb keys hgf hkn) (fun w h=>hW.keep h) ?_;rintro v7 out7 ⟨s7,ks,hp,rfl,hac⟩;refine G7 ?_;refine .callL (L:=out7) J J J J J Body47 (sort_acc s7 out7 ks (fun l hl=>hk32 l (hp.mem_iff.1 hl)) (by have:=hp.length_eq;omega) hac) sG (lent_ok J) (fun w h=>Lies.of h (by repeat(exact Bu))) ?_;rintro v10 out10 ⟨rfl,ks2,hp2,hs2,hac2⟩;refine G8 ?_;refine G2 ?_;refine A3 (out:=(out10++[])) (Al J J) (Ad sG Ak) ?_;exact⟨s7,ks2,hp2.trans hp,hs2,rfl,by rw[hp2.length_eq];simpa using hac2⟩
theorem dag_sortedB(M:MOk prog 82 31 37 (Ar 32 ev) z)(b:Nat)(fs:List (List UInt8×ν))(h32:∀p∈fs,p.1.length=32)(hn:fs.length≤100000):Meets prog 57 [.map (some b)] [] (fun W=>BlkOk W (Az b (Ar 32 ev) fs)) (fun v out=>∃(s:Sl) (ks:List (List UInt8)),ks.Perm (fs.map (·.1))∧SortB ks∧v=s.v∧Hw.Acc s out (Ay ks) 31 ks.length 32):=by
 intro W hW;refine Ac func57 J 6 ntmps57 J (G8 ?_);refine .call4 J J J J J Body99 (mk_keysB b) tV ?_;rintro v4 out4 ⟨c,rfl,rfl⟩;refine .call4 J J J J J Body53 (sorted_keys 147 #[ptr c 0] (fs.map (·.1)) Body147 (by simpa using hn) (fun l hl=>by obtain⟨p,hp,rfl⟩:=La6.1 hl;exact h32 p hp)) (fun w h=>key_seqB M (mblk_keep (B:=Az b (Ar 32 ev) fs) hW h) (CapM.of_own h Z0).1 (CapM.of_own h Z0).2) ?_;rintro v5 out5 ⟨s5,ks,hp,hs,rfl,hac⟩;refine G3 ?_;refine G2 ?_;refine A3 (out:=(out5++[])) (Al J J) (Ad sG Ak) ?_;exact⟨s5,ks,hp,hs,rfl,by simpa using hac⟩
theorem dag_sortedU(M:MOk prog 81 31 105 (Ar 32 ev) z)(b:Nat)(fs:List (List UInt8×ν))(h32:∀p∈fs,p.1.length=32)(hn:fs.length≤100000):Meets prog 60 [.map (some b)] [] (fun W=>BlkOk W (Az b (Ar 32 ev) fs)) (fun v out=>∃(s:Sl) (ks:List (List UInt8)),ks.Perm (fs.map (·.1))∧SortB ks∧v=s.v∧Hw.Acc s out (Ay ks) 31 ks.length 32):=by
 intro W hW;refine Ac func60 J 6 ntmps60 J (G8 ?_);refine .call4 J J J J J Body100 (mk_keysU b) tV ?_;rintro v4 out4 ⟨c,rfl,rfl⟩;refine .call4 J J J J J Body53 (sorted_keys 148 #[ptr c 0] (fs.map (·.1)) Body148 (by simpa using hn) (fun l hl=>by obtain⟨p,hp,rfl⟩:=La6.1 hl;exact h32 p hp)) (fun w h=>key_seqU M (mblk_keep (B:=Az b (Ar 32 ev) fs) hW h) (CapM.of_own h Z0).1 (CapM.of_own h Z0).2) ?_;rintro v5 out5 ⟨s5,ks,hp,hs,rfl,hac⟩;refine G3 ?_;refine G2 ?_;refine A3 (out:=(out5++[])) (Al J J) (Ad sG Ak) ?_;exact⟨s5,ks,hp,hs,rfl,by simpa using hac⟩
abbrev EV:=DEnt×DB
abbrev BV:=Block×DB
structure RV where
  s:Sl
  bl:List Blk
  ks:List (List UInt8)
def RV.none:RV:=⟨Sl.nil,[],[]⟩
structure RV.ok(r:RV):Prop where
  acc:Hw.Acc r.s r.bl (Ay r.ks) 31 r.ks.length 32
  r32:∀l∈r.ks,l.length=32
theorem RV.none_ok:RV.none.ok:=⟨.inl ⟨rfl,rfl,rfl,rfl⟩,fun l h=>by cases h⟩
abbrev evE(x:EV):Value:=agg x.1.cells
abbrev evB(x:BV):Value:=agg x.1.cells
abbrev evU(_:Unit):Value:=agg []
abbrev evR(r:RV):Value:=r.s.v
theorem A25:WideMaps.ArrKey prog 31 5 32:=⟨Y31.h,by kernel_rfl,by kernel_rfl,by kernel_rfl⟩
theorem A23:WideMaps.ArrKey prog 29 5 32:=⟨Y29.h,by kernel_rfl,by kernel_rfl,by kernel_rfl⟩
theorem K25:Maps.Keyed prog 31:= .of_law (deep_law (m:=3) dE zK zK (by rw[Y31.h]))
theorem K23:Maps.Keyed prog 29:= .of_law (deep_law (m:=3) dE zK zK (by rw[Y29.h]))
theorem K87:Maps.Keyed prog 94:= .of_law (deep_law (m:=4) dE zK zK (by rw[underlying94]))
theorem size_pos:∃m,prog.types.size=m+1:=⟨prog.types.size-1,by kernel_rfl⟩
theorem size_two:∃m,prog.types.size=m+2:=⟨prog.types.size-2,by kernel_rfl⟩
theorem zr_run{v:Value}(h:Zr prog T v)(w:World):(zeroValue T).run prog w= .ok v w:=by
  unfold Zr at h;cases hi:prog.info? T with
  |none=>rw[hi]at h;cases h
  | some i=>
    rw[hi]at h;simp only[Lbr]at h;simp[zeroValue,typeInfo,hi,h]
theorem ME:MOk prog 80 31 91 (Ar 32 evE) (agg DEnt.zero.cells):=bytesT_ok _ Y80.h A25 Y5.h size_pos K25 (zr_run DEnt.zr)
theorem MH:MOk prog 81 31 105 (Ar 32 evU) (agg []):=bytesT_ok _ Y81.h A25 Y5.h size_pos K25 (zr_run Zr105)
theorem MO:MOk prog 82 31 37 (Ar 32 evB) (agg Block.zero.cells):=bytesT_ok _ Y82.h A25 Y5.h size_pos K25 (zr_run Block.zr)
theorem MW:MOk prog 84 29 32 (Ar 32 evR) (.slice none 0 0):=bytesT_ok _ underlying84 A23 Y5.h size_pos K23 (zr_run Zr32)
theorem MP:MOk prog 83 94 32 (placeT 32 evR) (.slice none 0 0):=
  placeT_ok _ underlying83 (fun l x hl=>keyOf_place underlying94 rfl zK rfl rfl zK zK zK A23 Y5.h Y30.h zK size_two hl x) K87 (zr_run Zr32)
section
variable{κ ν μ:Type}[DecidableEq κ]
variable{fs:List (κ×ν)}{k:κ}{p:κ×ν}{v:ν}
theorem Bs(h:Au fs k=some v):(k,v)∈fs:=by
  unfold Au at h;cases hf:fs.find? (fun p=>decide (p.1=k))with
  |none=>rw[hf]at h;cases h
  | some p=>
    rw[hf]at h;simp only[Lbj,La3]at h;have h1:=Lf3 hf;have h2:=List.find?_some hf;simp only[decide_eq_true_eq]at h2;rw[←h2,←h];exact h1
theorem mput_mem(h:p∈Bf fs k v):p∈fs∨p=(k,v):=by
  unfold Bf at h;split at h
  ·exact Lf2 h
  · rcases Lac.1 h with h|h
    ·exact .inl h
    ·exact .inr (La1.1 h)
theorem mdel_mem(h:p∈mdel fs k):p∈fs:=by
  unfold mdel at h;split at h
  ·exact(Ldd _ _).subset h
  ·exact h
theorem mput_len(fs:List (κ×ν))(k:κ)(v:ν):(Bf fs k v).length≤fs.length+1:=by
  unfold Bf;split
  ·rw[Lbt];omega
  ·simp
theorem mdel_len(fs:List (κ×ν))(k:κ):(mdel fs k).length≤fs.length:=by
  unfold mdel;split
  ·exact(Ldd _ _).length_le
  ·exact Laf _
theorem midx_map(f:ν→μ)(fs:List (κ×ν))(k:κ):midx (fs.map fun p=>(p.1,f p.2)) k=midx fs k:=by
  unfold midx;rw[List.findIdx?_map];rfl
theorem mget_map(f:ν→μ)(fs:List (κ×ν))(k:κ):Au (fs.map fun p=>(p.1,f p.2)) k=(Au fs k).map f:=by
  unfold Au;rw[List.find?_map];cases h:fs.find? (fun p=>decide (p.1=k))with
  | none=>
    have:List.find? ((fun p:κ×μ=>decide (p.1=k))∘fun p:κ×ν=>(p.1,f p.2)) fs=none:=h;rw[this];rfl
  | some p=>
    have:List.find? ((fun p:κ×μ=>decide (p.1=k))∘fun p:κ×ν=>(p.1,f p.2)) fs=some p:=h;rw[this];rfl
theorem mput_map(f:ν→μ)(fs:List (κ×ν))(k:κ)(v:ν):(Bf fs k v).map (fun p=>(p.1,f p.2))=Bf (fs.map fun p=>(p.1,f p.2)) k (f v):=by
  unfold Bf;rw[midx_map];split
  ·rw[Ldq]
  ·rw[Lae];rfl
theorem mdel_map(f:ν→μ)(fs:List (κ×ν))(k:κ):(mdel fs k).map (fun p=>(p.1,f p.2))=mdel (fs.map fun p=>(p.1,f p.2)) k:=by
  unfold mdel;rw[midx_map];split
  ·exact(ChangeMaps.map_eraseIdx ..)
  ·rfl
theorem mput_mput(k:κ)(v v2:ν):Bf (Bf fs k v) k v2=Bf fs k v2:=by
  cases h:midx fs k with
  | some j=>
    have e1:Bf fs k v=fs.set j (k,v):=by unfold Bf;rw[h]
    have e2:Bf fs k v2=fs.set j (k,v2):=by unfold Bf;rw[h]
    have h2:midx (fs.set j (k,v)) k=some j:=by
      unfold midx at h ⊢;rw[Lbu]at h ⊢;obtain⟨hl,he,hn⟩:=h;refine⟨by simpa using hl,by simp,fun i hi=>?_⟩;rw[List.getElem_set_ne oM];exact hn i hi
    rw[e1,e2];unfold Bf;rw[h2];simp
  | none=>
    have e1:Bf fs k v=fs++[(k,v)]:=by unfold Bf;rw[h]
    have e2:Bf fs k v2=fs++[(k,v2)]:=by unfold Bf;rw[h]
    have h2:midx (fs++[(k,v)]) k=some fs.length:=by
      unfold midx at h ⊢;rw[List.findIdx?_append,h];simp[Lg3]
    rw[e1,e2];unfold Bf;rw[h2];simp
theorem flat_set{α:Type}(f:α→List Blk){l:List α}{j:Nat}{x:α}(h:l[j]? =some x):∃R,(l.map f).flatten.Perm (f x++R)∧∀y,((l.set j y).map f).flatten.Perm (f y++R):=by
  obtain⟨hl,he⟩:=Lab.1 h;refine⟨((l.take j).map f).flatten++((l.drop (j+1)).map f).flatten,?_,?_⟩
  · have e:l=l.take j++x::l.drop (j+1):=by rw[←he,←Lbl hl,Lcx]
    have e2:(l.map f).flatten=((l.take j).map f).flatten++(f x++((l.drop (j+1)).map f).flatten):=by
      conv=>lhs;rw[e]
      simp[Lae,Lcf]
    rw[e2,←La8,←La8];exact Ld5 _ Les
  · intro y
    have e:l.set j y=l.take j++y::l.drop (j+1):=List.set_eq_take_append_cons_drop .. |>.trans (by rw[if_pos hl]);have e2:((l.set j y).map f).flatten=((l.take j).map f).flatten++(f y++((l.drop (j+1)).map f).flatten):=by
      rw[e];simp[Lae,Lcf]
    rw[e2,←La8,←La8];exact Ld5 _ Les
end
def rbl{κ:Type}(fs:List (κ×RV)):List Blk:=(fs.map fun p=>p.2.bl).flatten
variable{B:Block}{C:Cx}{D:DB}{L ks l:List (List UInt8)}{W w:World}{a kk n:List UInt8}{al bl hp o:List Blk}{done:List (List UInt8×BV)}{e:EV}{hds ms ms2:List (List UInt8×Unit)}{k p:Nat}{ob:BV}{rp rw:RV}{s:Sl}{v:Value}{κ ν:Type}{fs:List (κ×ν)}
theorem rbl_put[DecidableEq κ](fs:List (κ×RV))(k:κ):∃R,(rbl fs).Perm (((Au fs k).getD RV.none).bl++R)∧∀r,(rbl (Bf fs k r)).Perm (r.bl++R):=by
  cases h:midx fs k with
  | some j=>
    have e:∀r,Bf fs k r=fs.set j (k,r):=fun r=>by unfold Bf;rw[h]
    unfold midx at h;have hg:∃x,fs[j]? =some x∧Au fs k=some x.2:=by
      have h2:=h;rw[Lbu]at h2;obtain⟨hl,he,hn⟩:=h2;refine⟨fs[j],La4 hl,?_⟩;unfold Au;have h3:fs.find? (fun q=>decide (q.1=k))=some fs[j]:=Ldc.2 ⟨he,j,hl,rfl,fun i hi=>by simpa using hn i hi⟩;rw[h3];rfl
    obtain⟨x,hx,hm⟩:=hg;rw[hm];obtain⟨R,h1,h2⟩:=flat_set (fun p:κ×RV=>p.2.bl) hx;exact⟨R,h1,fun r=>by rw[e r];exact h2 (k,r)⟩
  | none=>
    have e:∀r,Bf fs k r=fs++[(k,r)]:=fun r=>by unfold Bf;rw[h]
    have hm:Au fs k=none:=by
      refine mget_none fun p hp e2=>?_;unfold midx at h;rw[Le0]at h;have:=h p hp;simp[e2]at this
    rw[hm];refine⟨rbl fs,Lcb _,fun r=>?_⟩;rw[e r];unfold rbl;simp only[Lae,Lcf,Lao,Let,Lch,Lgg,Lak];exact Les
structure DD where
  nm:Sl
  nb:List Blk
  names:List (List UInt8)
  ent:List (List UInt8×EV)
  hds:List (List UInt8×Unit)
  orp:List (List UInt8×BV)
  pls:List ((List UInt8×UInt64)×RV)
  wrs:List (List UInt8×RV)
  cb:List Blk
  bE:Nat
  bH:Nat
  bO:Nat
  bP:Nat
  bW:Nat
def DD.blks(x:DD)(p:Nat):List Blk:=
  ⟨p,[ptr p 0,x.nm.v, .map (some x.bE), .map (some x.bH), .map (some x.bO), .map (some x.bP), .map (some x.bW)],86,7⟩::Az x.bE (Ar 32 evE) x.ent::Az x.bH (Ar 32 evU) x.hds::Az x.bO (Ar 32 evB) x.orp::Az x.bP (placeT 32 evR) x.pls::Az x.bW (Ar 32 evR) x.wrs::(x.nb++(x.cb++(rbl x.pls++(rbl x.wrs++[]))))
def Held(cb:List Blk)(B:Block)(D:DB):Prop:=SameB B D∧∀W,Lies cb W→BlockIs W B D
structure DD.ok(x:DD):Prop where
  nm:Hw.Acc x.nm x.nb (Ay x.names) 31 x.names.length 32
  n32:∀l∈x.names,l.length=32
  big:x.names.length+x.orp.length≤20000
  orpn:x.orp.length≤64
  ent:∀p∈x.ent,p.1.length=32∧Held x.cb p.2.1.fBlock p.2.2∧0≤p.2.1.fDepth∧p.2.1.fDepth≤x.names.length
  entn:x.ent.length≤x.names.length
  hds:∀p∈x.hds,p.1.length=32
  hdsn:x.hds.length≤x.names.length
  orp:∀p∈x.orp,p.1.length=32∧Held x.cb p.2.1 p.2.2∧p.2.2.ls.length≤16
  pls:∀p∈x.pls,p.1.1.length=32∧p.2.ok∧p.2.ks.length≤x.names.length
  wrs:∀p∈x.wrs,p.1.length=32∧p.2.ok∧p.2.ks.length≤x.names.length
theorem DD.ok.entOk{x:DD}(h:x.ok){k:List UInt8}(hg:Au x.ent k=some e):e.1.ok:=⟨(h.ent _ (Bs hg)).2.1.1.ok⟩
theorem DD.ok.orpOk{x:DD}(h:x.ok){k:List UInt8}{e:BV}(hg:Au x.orp k=some e):e.1.ok:=(h.orp _ (Bs hg)).2.1.1.ok
theorem DEnt.part{e:DEnt}(h:e.ok)(o n:Nat)(hn:o+n≤131):(e.cells.drop o).take n=(e.fBlock.cells.drop o).take n:=by
  have hl:=Block.length h.o_fBlock;unfold DEnt.cells;rw[Ldj oM,Ldi (by rw[Lc0];omega)]
theorem Held.more{cb cb2:List Blk}(h:Held cb B D)(hs:∀b∈cb,b∈cb2):Held cb2 B D:=⟨h.1,fun W hW=>h.2 W (hW.sub hs)⟩
def RowA(L:List (List UInt8))(v:Value)(out:List Blk):Prop:=∃s:Sl,v=s.v∧Hw.Acc s out (Ay L) 31 L.length 32
theorem fresh_rowA{n:Nat}(hr:∀l∈L,l.length=32)(hn:L.length=n){out:List Blk}(h:FreshRow v out (Ay L) 31 n 32):RowA L v out:=by
  obtain⟨q,c,h1,h2,h3⟩:=h;subst h3;subst hn;exact⟨⟨some ⟨q,0,none⟩,L.length,c⟩,h1,Acc.some h2 (A1 hr)⟩
theorem db_parA(B:Block)(D:DB)(hn:D.ls.length≤500000):Meets prog 58 [agg B.cells] [] (fun W=>BlockIs W B D) (RowA (Cp D)):=fun W hW=>by
  have e1:=hW.ls.len;have hsq:=hW.seq;have hL:=parL_row hW.dok;by_cases hs:(B.fSeq.toNat:Int)=0
  · have hp:Cp D=D.ls:=if_pos (by rw[←hsq];exact Lbg.1 (by show B.fSeq.toNat=0;omega))
    rw[hp]at hL ⊢;by_cases h0:B.fLinks.n=0
    · have hl0:D.ls=[]:=Las oM
      exact(parents_nil B hW.ok D.ls oM hs h0 W hW.ls).mono fun e W' ⟨v,out,h1,⟨h2,h3⟩,h4⟩=>⟨v,out,h1,⟨Sl.nil,h2,by rw[hl0,h3];exact Acc.none⟩,h4⟩
    ·exact(parents_0 B hW.ok D.ls oM hs oM W hW.ls).mono fun e W' ⟨v,out,h1,h2,h4⟩=>⟨v,out,h1,fresh_rowA hL e1 h2,h4⟩
  · have hp:Cp D=D.prev::D.ls:=if_neg (fun e=>hs (by rw[hsq,e];rfl))
    rw[hp]at hL ⊢;rw[←hW.prev]at hL ⊢;exact(parents_s B hW.ok D.ls oM hs W hW.ls).mono fun e W' ⟨v,out,h1,h2,h4⟩=>⟨v,out,h1,fresh_rowA hL (by rw[Lbh];omega) h2,h4⟩
def DD.P(x:DD):List (List UInt8×DB):=x.ent.map fun p=>(p.1,p.2.2)
theorem DD.getP(x:DD)(k:List UInt8):Au x.P k=(Au x.ent k).map (·.2):=mget_map (fun e:EV=>e.2) x.ent k
def wrongB(P:List (List UInt8×DB))(D:DB):Bool:=decide (D.seq≠0)&&(match Au P D.prev with|none=>false|some e=>decide (e.w≠D.w)||decide (e.seq≠D.seq-1))
def readyB(P:List (List UInt8×DB))(D:DB):Bool:=(Cp D).all fun n=>(Au P n).isSome
def B9(P:List (List UInt8×DB))(D:DB):Int:=if wrongB P D=true then 2 else if readyB P D=true then 1 else 0
theorem parL_len(D:DB):(Cp D).length≤D.ls.length+1:=by unfold Cp;split<;>simp
theorem judge_wrong{P:List (List UInt8×DB)}(h:wrongB P D=true):B9 P D=2:=if_pos h
theorem judge_waits{P:List (List UInt8×DB)}(h:wrongB P D=false)(hk:k<(Cp D).length)(hn:Au P ((Cp D).getD k [])=none):B9 P D=0:=by
  have h2:readyB P D=false:=by
    unfold readyB;rw[List.all_eq_false];refine⟨(Cp D)[k],Lc9 hk,?_⟩;rw[La2,La4 hk]at hn;simp only[Lbp]at hn;rw[hn];simp
  unfold B9;rw[h,h2];rfl
theorem judge_fits{P:List (List UInt8×DB)}(h:wrongB P D=false)(hall:∀j,j<(Cp D).length→(Au P ((Cp D).getD j [])).isSome=true):B9 P D=1:=by
  have h2:readyB P D=true:=by
    unfold readyB;rw[Lcg];intro n hn;obtain⟨j,hj,rfl⟩:=Lfx hn;have:=hall j hj;rwa[La2,La4 hj]at this
  unfold B9;rw[h,h2];rfl
theorem u64_ne{a b:UInt64}(h:¬((a.toNat:Int)=(b.toNat:Int))):a≠b:=fun e=>h (by rw[e])
theorem u64_eq{a b:UInt64}(h:(a.toNat:Int)=(b.toNat:Int)):a=b:=Lbg.1 oM
theorem wrong_seq{P:List (List UInt8×DB)}(h:D.seq=0):wrongB P D=false:=by simp[wrongB,h]
theorem wrong_none{P:List (List UInt8×DB)}(h:Au P D.prev=none):wrongB P D=false:=by simp[wrongB,h]
theorem wrong_some{P:List (List UInt8×DB)}{D e:DB}(hs:D.seq≠0)(h:Au P D.prev=some e):wrongB P D=(decide (e.w≠D.w)||decide (e.seq≠D.seq-1)):=by simp[wrongB,h,hs]
def DagSee(x:DD)(p:Nat)(W:World):Prop:=BlkOk W ⟨p,[ptr p 0,x.nm.v, .map (some x.bE), .map (some x.bH), .map (some x.bO), .map (some x.bP), .map (some x.bW)],86,7⟩∧BlkOk W (Az x.bE (Ar 32 evE) x.ent)
theorem DagSee.of{x:DD}(hh:HRep C hp w)(h1:⟨p,[ptr p 0,x.nm.v, .map (some x.bE), .map (some x.bH), .map (some x.bO), .map (some x.bP), .map (some x.bW)],86,7⟩∈hp)(h2:Az x.bE (Ar 32 evE) x.ent∈hp):DagSee x p w:=⟨hh.cells _ h1,hh.cells _ h2⟩
theorem DagSee.at{x:DD}(h:DagSee x p W){o:Nat}(hv:[ptr p 0,x.nm.v, .map (some x.bE), .map (some x.bH), .map (some x.bO), .map (some x.bP), .map (some x.bW)][o]? =some v):W.cell? ⟨p,o,none⟩=some v:=h.1.cell hv
theorem DagSee.ext{x:DD}(hh:HRep C hp w)(h:DagSee x p C.W0)(hl:C.lent=[]:=by rfl):DagSee x p w:=⟨mblk_keep h.1 hh hl,mblk_keep h.2 hh hl⟩
theorem dag_new  :Meets prog 41 [] [] (fun _=>True) (fun v out=>∃p bE bH bO bP bW,v=ptr p 0∧out=(⟨Sl.nil,[],[],[],[],[],[],[],[],bE,bH,bO,bP,bW⟩:DD).blks p):=by
 intro W hW;refine Ac func41 J 14 ntmps41 J (G7 ?_);refine .mkMap (Ar 32 evE) J J ?_;intro bE;refine .mkMap (Ar 32 evU) J J ?_;intro bH;refine .mkMap (Ar 32 evB) J J ?_;intro bO;refine .mkMap (placeT 32 evR) J J ?_;intro bP;refine .mkMap (Ar 32 evR) J J ?_;intro bW;refine .build (cs:=[.pointer none, .slice none 0 0, .map (some bE), .map (some bH), .map (some bO), .map (some bP), .map (some bW)]) J J J (fun w=>by kernel_rfl) ?_;refine G1 ?_;intro n8 hn8 hf8;refine G9 ?_;refine .s1 J J J J J Sz25 Z0 sP (by rfl) zU ?_;refine G8 ?_;refine G2 ?_;refine A3 (out:=(⟨n8,[ptr n8 0, .slice none 0 0, .map (some bE), .map (some bH), .map (some bO), .map (some bP), .map (some bW)],86,7⟩::(Az bE (Ar 32 evE) []::(Az bH (Ar 32 evU) []::(Az bO (Ar 32 evB) []::(Az bP (placeT 32 evR) []::(Az bW (Ar 32 evR) []::[]))))))) (Al J J) (Ab rM (Ab rM (Ab rM (Ab rM (Ab rM (Ab rM Ak)))))) ?_;exact⟨n8,bE,bH,bO,bP,bW,rfl,rfl⟩
theorem dag_valid(x:DD)(p:Nat):Mv 45 [ptr p 0] (fun W=>DagSee x p W) (.bool true):=by
 intro W hW;refine Ac func45 J 13 ntmps45 J (G8 ?_);refine .neqNilP J J J J Y25.h (G4 ?_);refine .loadE J J J Y25.h J sP (hW.at (o:=0) J) (G1 ?_);refine .eqSameP J J J J Y25.h Sz86 (G4 ?_);refine G2 ?_;refine⟨_,[],Al J J,sP,sP,?_,rfl⟩;rfl
theorem dag_has(x:DD)(hx:x.ok)(p:Nat)(n:List UInt8)(h32:n.length=32):Mv 59 [ptr p 0,agg (Aa n)] (fun W=>DagSee x p W) (.bool (Au x.ent n).isSome):=by
 intro W hW;refine Ac func59 J 20 ntmps59 J (G3 ?_);intro n3 hn3 hf3;refine G7 ?_;refine .cV J J J J Body45 (dag_valid x p) (fun w h=>hW.ext h) (G3 ?_);refine .cond_f J J (G3 ?_);refine .draw (oPq [0,1,2,103,104,105,6,7,8,209,410,11]) Ap zK (G3 ?_);refine .loadE J J J Y80.h J sP (hW.at (o:=2) J) (.lA J J J Y31.h J Sz31 Z0 (by(simp[h32];done)) ?_);refine .lookFC evE ME hW.2 sP J J J J h32 (fun hg=>?_) (fun e hg=>?_)
 ·
  skip;refine G3 ?_;refine .alloc (cs:=DEnt.zero.cells) J DEnt.zr J ?_;intro n5 hn5 hf5;refine G10 ?_;refine G2 ?_;refine⟨_,[],Al J J,sP,sP,?_,rfl⟩;rw[hg];rfl
 skip;refine G3 ?_;refine .alloc (cs:=DEnt.zero.cells) J DEnt.zr J ?_;intro n5 hn5 hf5;refine .sA J J J J (DEnt.isCell (by exact hx.entOk hg)) Sz91 (DEnt.length (by exact hx.entOk hg)) Z0 (DEnt.length (by exact DEnt.zero_ok)) zU ?_;refine G9 ?_;refine G2 ?_;refine⟨_,[],Al J J,sP,sP,?_,rfl⟩;rw[hg];rfl
theorem dag_judge(x:DD)(hx:x.ok)(p:Nat)(B:Block)(D:DB)(hB:SameB B D)(hs:D.ls.length≤500000):Mv 85 [ptr p 0,agg B.cells] (fun W=>DagSee x p W∧BlockIs W B D) (i64 (B9 x.P D)):=by
 intro W hW;have hrow0:=parL_row hW.2.dok;refine Ac func85 J 61 ntmps85 J (G3 ?_);intro n3 hn3 hf3;refine G3 ?_;refine .join (ι:=Unit) (fun u=>⟨[(0,ptr p 0),(3,ptr n3 0)],[⟨n3,B.cells,37,B.cells.length⟩]⟩) (fun u=>wrongB x.P D=false) ?_ ?_
 ·
  refine G3 ?_;refine .load1 J J J Y30.h J Z0 (by exact Block.get_fSeq (by exact hB.ok)) ?_;refine G3 ?_;refine .condP J (fun hc0=>?_) (fun hc0=>?_)
  ·
   refine .seq (.draw (oPq [0,1,2,103,4,105,106,7,8,9,210,411,12]) Ap zK (G3 ?_));refine .loadE J J J Y80.h J sP (hW.1.at (o:=2) J) (G1 ?_);refine .lN (Aa _) J J J Y31.h J Sz31 Z0 (Block.row_fPrev (by exact hB.ok)) (Block.rl_fPrev (by exact hB.ok)) ?_;refine .lookFC evE ME hW.1.2 sP J J J J hB.ok.l_fPrev (fun hg=>?_) (fun e hg=>?_)
   ·
    skip;refine G3 ?_;refine .alloc (cs:=DEnt.zero.cells) J DEnt.zr J ?_;intro n5 hn5 hf5;refine G26 ?_;refine .cond_f J J (G2 ?_);exact⟨(),wrong_none (by rw[x.getP,←hB.prev,hg];rfl),An wN (Ab rM Ak)⟩
   have he:=(hx.ent _ (Bs hg)).2.1.1;have hP:Au x.P D.prev=some e.2:=by rw[x.getP,←hB.prev,hg];rfl
   have hsq:D.seq≠0:=fun h=>by rw[hB.seq,h]at hc0;simp at hc0
   refine G3 ?_;refine .alloc (cs:=DEnt.zero.cells) J DEnt.zr J ?_;intro n5 hn5 hf5;refine .sA J J J J (DEnt.isCell (by exact hx.entOk hg)) Sz91 (DEnt.length (by exact hx.entOk hg)) Z0 (DEnt.length (by exact DEnt.zero_ok)) zU ?_;refine G9 ?_;have hwl:=(hx.entOk hg).o_fBlock.l_fWriter;refine .lN (Aa e.1.fBlock.fWriter) J J J Y29.h J Sz29 Z0 ((DEnt.part (hx.entOk hg) 0 32 dE).trans (Block.row_fWriter (hx.entOk hg).o_fBlock)) (by rw[Aa,La0];exact hwl) ?_;refine G1 ?_;refine .lN (Aa _) J J J Y29.h J Sz29 Z1 (Block.row_fWriter (by exact hB.ok)) (Block.rl_fWriter (by exact hB.ok)) ?_;refine two (fun r hr k=>Tr.neq_bytes J J J J eqGuardType29 Y29.h Y5.h Sz5 zA (by(simp[hB.ok.l_fWriter];done)) hr k) (fun hs3_70=>?_) (fun hs3_70=>?_)
   ·
    have hs3_7:=nd_t hs3_70;refine G12 ?_;refine .cond_t J J (G5 ?_);refine G3 ?_;refine⟨_,[],Al J J,sP,sP,?_,rfl⟩;rw[judge_wrong (by rw[wrong_some hsq hP,←he.w,←hB.w];simp[hs3_7])]
   have hs3_7:=nd_f hs3_70;refine G3 ?_;refine .load1 J J J Y30.h J Z0 (DEnt.see_fBlock (hx.entOk hg) 32 _ (Block.get_fSeq (hx.entOk hg).o_fBlock)) ?_;refine G1 ?_;refine .load1 J J J Y30.h J Z1 (by exact Block.get_fSeq (by exact hB.ok)) ?_;refine .sub_u64 J J J (show Ag _ _=some (u64 1)from rfl) (G5 ?_);refine .condNP J (fun hc1=>?_) (fun hc1=>?_)
   ·
    refine G5 ?_;refine G3 ?_;refine⟨_,[],Al J J,sP,sP,?_,rfl⟩;rw[judge_wrong (by have h9:=u64_ne hc1;rw[wrong_some hsq hP,←he.seq,←hB.seq];simp[h9])]
   refine G2 ?_;exact⟨(),(by have h9:=u64_eq hc1;rw[wrong_some hsq hP,←he.w,←he.seq,←hB.w,←hB.seq,hs3_7,h9];simp),An wN (Ab rM Ak)⟩
  refine G2 ?_;exact⟨(),wrong_seq (by rw[←hB.seq];exact u64_eq (b:=0) (by have h9:((0:UInt64).toNat:Int)=0:=rfl;omega)),An wN (Ab rM Ak)⟩
 intro u hj;skip;refine G3 ?_;refine .lA J J J Y37.h J Sz37 Z0 (Block.length (by exact hB.ok)) ?_;refine .call4 J J J J J Body58 (db_parA B D hs) (fun w h=>hW.2.ext h J) ?_;rintro v43 out43 ⟨s43,rfl,hac⟩;have hn43:s43.n=(Cp D).length:=hac.num;refine G5 ?_;refine .loop (ι:=Nat) (fun k=>⟨[(0,ptr p 0),(3,ptr n3 0),(43,s43.v),(44,i64 (s43.n:Int)),(45,i64 (k:Int))],(⟨n3,B.cells,37,B.cells.length⟩::(out43++[]))⟩) (fun k=>k≤(Cp D).length∧∀j,j<k→(Au x.P ((Cp D).getD j [])).isSome=true) (fun k=>(Cp D).length-k) (0) ?_ ?_ ?_
 ·exact⟨Laj _,fun j hj=>by omega⟩
 ·exact An wN (Ab (by repeat(first|exact A7|apply Cs)) (Ad sG Ak))
 rintro k ⟨hk0,hall⟩;refine G6 ?_;refine .condP J (fun hc2=>?_) (fun hc2=>?_)
 ·
  refine G6 ?_;have hk:k<(Cp D).length:=by omega
  have hkb:k≤600000:=by have:=parL_len D;omega
  rcases hac with ⟨_,_,_,h0⟩|⟨qr,cr,rfl,hnc,hfl,rfl⟩
  ·exfalso;omega
  have hrow:=hrow0;obtain⟨kk,hkk⟩:∃kk,kk=(Cp D).getD k []:=⟨_,rfl⟩;have h32k:kk.length=32:=by rw[hkk,La2,La4 hk];exact hrow _ (Lc9 hk)
  refine .idxSlP 32 J J J J J Y32.h Sz31 k J oM (.loadSN (n:=32) (Aa kk) J J J Y31.h J Sz31 (by rw[Aa,La0];exact h32k) (fun w h=>by rw[hkk];simpa using sees_row hrow (Aq h Z1) hk) ?_);refine .alloc (cs:=(Aa (List.replicate 32 0))) J Zr31 J ?_;intro n8 hn8 hf8;refine .sA J J J J zE Sz31 (by(rw[Aa,La0];assumption)) Z0 sP zU ?_;refine G3 ?_;refine .draw (oPq [0,1,2,103,104,105,6,7,8,209,410,11]) Ap zK (G3 ?_);refine .loadE J J J Y80.h J sP (hW.1.at (o:=2) J) (.lA J J J Y31.h J Sz31 Z0 (by(rw[Aa,La0];assumption)) ?_);refine .lookFC evE ME hW.1.2 sP J J J J h32k (fun hg=>?_) (fun e hg=>?_)
  ·
   skip;refine G3 ?_;refine .alloc (cs:=DEnt.zero.cells) J DEnt.zr J ?_;intro n9 hn9 hf9;refine G10 ?_;refine .cond_t J J (G5 ?_);refine G7 ?_;refine⟨_,[],Al J J,sP,sP,?_,rfl⟩;rw[judge_waits hj hk (by rw[←hkk,x.getP,hg];rfl)]
  skip;refine G3 ?_;refine .alloc (cs:=DEnt.zero.cells) J DEnt.zr J ?_;intro n9 hn9 hf9;refine .sA J J J J (DEnt.isCell (by exact hx.entOk hg)) Sz91 (DEnt.length (by exact hx.entOk hg)) Z0 (DEnt.length (by exact DEnt.zero_ok)) zU ?_;refine G9 ?_;refine .cond_f J J (G8 ?_);exact⟨k+1,⟨hk,fun j hj=>by rcases Lg1 (Nat.le_of_lt_succ hj)with h|h;exact hall j h;rw[h,←hkk,x.getP,hg];rfl⟩,by omega,An wN (Ab rM (Ad sG Ak))⟩
 refine G10 ?_;refine G2 ?_;refine⟨_,[],Al J J,sP,sP,?_,rfl⟩;rw[judge_fits hj (by rw[Nat.le_antisymm hk0 oM]at hall;exact hall)]
theorem dag_clone(B:Block)(D:DB)(hB:SameB B D)(h1:D.ls.length≤90000)(h2:D.ds.length≤90000):Meets prog 52 [agg B.cells] [] (fun W=>BlockIs W B D) (BlkV D):=by
 intro W hW;have f1:(Ay D.ls).length=B.fLinks.n*32:=by rw[A1 hW.ls.row,hW.ls.len]
 have f2:(Aa D.ds).length=B.fData.n*1:=by rw[Aa,La0,hB.dn];omega
 have g1:=hB.ln;have g2:=hB.dn;refine Ac func52 J 12 ntmps52 J (G3 ?_);intro n1 hn1 hf1;refine .alloc (cs:=Block.zero.cells) J Block.zr J ?_;intro n2 hn2 hf2;refine G3 ?_;refine .draw (oPq [0,101,3,104,302,6,305,407,8,409]) Ap zK (G1 ?_);refine .load1 J J J Y32.h J Z1 (by exact Block.get_fLinks (by exact hB.ok)) ?_;refine G1 ?_;refine .load1 J J J Y33.h J Z1 (by exact Block.get_fData (by exact hB.ok)) ?_;refine .call J J J J Body46 (cl_digs B.fLinks D.ls oM) (acc_loose _ _ _ _ f1) (fun w h=>(hW.ext h J).ls) ?_;rintro v5 out5 ⟨⟨p5,n5,c5⟩,rfl,hac5⟩;have hn5:=hac5.num;refine G1 ?_;refine .call J J J J Body95 (cl_byte B.fData D.ds oM) (acc_loose _ _ _ _ f2) (fun w h=>(hW.ext h J).ds) ?_;rintro v8 out8 ⟨⟨p8,n8,c8⟩,rfl,hac8⟩;have hn8:=hac8.num;refine .s1 J J J J J Sz32 mR (by rw[Block.length (by exact hB.ok)];decide) (by exact Block.set_fLinks (by exact hB.ok) _) uU ?_;refine G1 ?_;refine .s1 J J J J J Sz33 mR (by rw[Block.length (by exact⟨hB.ok.l_fWriter,hB.ok.l_fPrev,hB.ok.l_fSig⟩)];decide) (by exact Block.set_fData (by exact⟨hB.ok.l_fWriter,hB.ok.l_fPrev,hB.ok.l_fSig⟩) _) uU ?_;refine G4 ?_;refine .lA J J J Y37.h J Sz37 mR (Block.length (by exact⟨hB.ok.l_fWriter,hB.ok.l_fPrev,hB.ok.l_fSig⟩)) ?_;refine .sA J J J J (Block.isCell (by exact⟨hB.ok.l_fWriter,hB.ok.l_fPrev,hB.ok.l_fSig⟩)) Sz37 (Block.length (by exact⟨hB.ok.l_fWriter,hB.ok.l_fPrev,hB.ok.l_fSig⟩)) mR (Block.length (by exact Block.zero_ok)) (by(repeat(first|exact upd0|apply Upd.seg))) ?_;refine G2 ?_;refine G2 ?_;refine A3 (out:=(out8++(out5++[]))) (Ao J J Y37.h J Sz37 mR (by exact Block.length (by exact⟨hB.ok.l_fWriter,hB.ok.l_fPrev,hB.ok.l_fSig⟩))) (Ad sG (Ad sG Ak)) ?_;exact⟨{ B with fLinks:=⟨p5,n5,c5⟩,fData:=⟨p8,n8,c8⟩ },⟨⟨hB.ok.l_fWriter,hB.ok.l_fPrev,hB.ok.l_fSig⟩,hB.w,hB.seq,hB.prev,hB.sg,hn5.trans g1,hn8.trans g2⟩,rfl,fun W2 hl=>⟨⟨hB.ok.l_fWriter,hB.ok.l_fPrev,hB.ok.l_fSig⟩,hB.w,hB.seq,hB.prev,acc_rows hac5 (hl.sub (by repeat(first|exact Bu|refine in_seg ?_))) hW.ls.row hW.ls.len oM,acc_bytes hac8 (hl.sub (by repeat(exact Bu))) g2.symm oM,hB.sg⟩⟩
def stepD(ent:List (List UInt8×EV))(d:Int)(n:List UInt8):Int:=if((Au ent n).map fun e=>e.1.fDepth).getD 0+1>d then((Au ent n).map fun e=>e.1.fDepth).getD 0+1 else d
def depL(ent:List (List UInt8×EV))(L:List (List UInt8)):Int:=L.foldl (stepD ent) 0
def delL(hds:List (List UInt8×Unit))(L:List (List UInt8)):List (List UInt8×Unit):=L.foldl mdel hds
theorem take_one{α:Type}{L:List α}{a:α}{d:α}(hk:k<L.length)(ha:a=L.getD k d):L.take (k+1)=L.take k++[a]:=by
  rw[ha,La2,La4 hk,Laz hk];rfl
theorem depL_none{x:DD}(hk:k<L.length)(ha:a=L.getD k [])(h:Au x.ent a=none):depL x.ent (L.take (k+1))=if(0:Int)+1>depL x.ent (L.take k)then 0+1 else depL x.ent (L.take k):=by
  unfold depL;rw[take_one hk ha,Ley];simp only[Lfy,List.foldl_nil,stepD,h,Option.map_none,Lgf]
theorem depL_some{x:DD}(hk:k<L.length)(ha:a=L.getD k [])(h:Au x.ent a=some e):depL x.ent (L.take (k+1))=if e.1.fDepth+1>depL x.ent (L.take k)then e.1.fDepth+1 else depL x.ent (L.take k):=by
  unfold depL;rw[take_one hk ha,Ley];simp only[Lfy,List.foldl_nil,stepD,h,Lbj,Lbp]
theorem delL_one(hk:k<L.length)(ha:a=L.getD k []):delL hds (L.take (k+1))=mdel (delL hds (L.take k)) a:=by
  unfold delL;rw[take_one hk ha,Ley];rfl
theorem delL_mem:∀p∈delL hds L,p∈hds:=by
  unfold delL
  induction L generalizing hds with
  |nil=>intro p h;exact h
  |cons a L ih=>intro p h;exact mdel_mem (ih p h)
theorem delL_len{hds:List (List UInt8×Unit)}{L:List (List UInt8)}:(delL hds L).length≤hds.length:=by
  unfold delL
  induction L generalizing hds with
  |nil=>exact Laf _
  |cons a L ih=>exact Lbb ih (mdel_len _ _)
def DD.adm(x:DD)(s:Sl)(bl:List Blk)(n:List UInt8)(B:Block)(D:DB)(rp rw:RV):DD:=
  { x with nm:=s,nb:=bl,names:=x.names++[n],ent:=Bf x.ent n (⟨B,depL x.ent (Cp D)⟩,D),hds:=Bf (delL x.hds (Cp D)) n (),pls:=Bf x.pls (B.fWriter,B.fSeq) rp,wrs:=Bf x.wrs B.fWriter rw }
def MoreR(old:Option RV)(n:List UInt8)(r:RV):Prop:=r.ok∧r.ks=(old.getD RV.none).ks++[n]
theorem DD.ok.plsR{x:DD}(hx:x.ok)(k:List UInt8×UInt64):((Au x.pls k).getD RV.none).ok∧((Au x.pls k).getD RV.none).ks.length≤x.names.length:=by
  cases h:Au x.pls k with
  |none=>exact⟨RV.none_ok,Laj _⟩
  |some r=>exact(hx.pls _ (Bs h)).2
theorem DD.ok.wrsR{x:DD}(hx:x.ok)(k:List UInt8):((Au x.wrs k).getD RV.none).ok∧((Au x.wrs k).getD RV.none).ks.length≤x.names.length:=by
  cases h:Au x.wrs k with
  |none=>exact⟨RV.none_ok,Laj _⟩
  |some r=>exact(hx.wrs _ (Bs h)).2
theorem depL_le{x:DD}(hx:x.ok)(L:List (List UInt8)):0≤depL x.ent L∧depL x.ent L≤x.names.length+1:=by
  have key:∀(L:List (List UInt8)) (d:Int),0≤d→d≤x.names.length+1→0≤L.foldl (stepD x.ent) d∧L.foldl (stepD x.ent) d≤x.names.length+1:=by
    intro L
    induction L with
    |nil=>intro d h0 h1;exact⟨h0,h1⟩
    | cons a L ih=>
      intro d h0 h1;refine ih _ ?_ ?_<;>unfold stepD<;>cases h:Au x.ent a with
      |none=>simp only[Option.map_none,Lgf];split<;>omega
      | some e=>
        have:=(hx.ent _ (Bs h)).2.2;simp only[Lbj,Lbp];simp only at this;split<;>omega
  exact key L 0 (Int.le_refl _) oM
theorem DD.ok.adm{x:DD}(hx:x.ok)(h32:n.length=32)(hB:Held x.cb B D)(hroom:x.names.length+x.orp.length<20000)
    (hs:Hw.Acc s bl (Ay x.names++Aa n) 31 (x.names.length+1) 32) (hp:MoreR (Au x.pls (B.fWriter,B.fSeq)) n rp) (hw:MoreR (Au x.wrs B.fWriter) n rw):(x.adm s bl n B D rp rw).ok where
  nm:=by
    show Hw.Acc s bl (Ay (x.names++[n])) 31 (x.names++[n]).length 32;rw[La5,flatB_append];simpa[Ay]using hs
  n32:=fun l hl=>by rcases Lac.1 hl with h|h;exact hx.n32 l h;rw[La1.1 h];exact h32
  big:=by show(x.names++[n]).length+x.orp.length≤20000;rw[La5,Lbq];omega
  ent :=fun p hp=>by
    have e:((x.names++[n]).length:Int)=x.names.length+1:=by rw[La5,Lbq];rfl
    show p.1.length=32∧Held x.cb p.2.1.fBlock p.2.2∧0≤p.2.1.fDepth∧p.2.1.fDepth≤((x.names++[n]).length:Int);rw[e];rcases mput_mem hp with h|h
    · have:=hx.ent p h
      exact⟨this.1,this.2.1,this.2.2.1,by omega⟩
    · subst h
      exact⟨h32,hB,depL_le hx _⟩
  entn:=by
    show(Bf x.ent n _).length≤(x.names++[n]).length;rw[La5,Lbq];exact Lbb (mput_len ..) (by have:=hx.entn;omega)
  hds:=fun p hp=>by
    rcases mput_mem hp with h|h
    ·exact hx.hds p (delL_mem p h)
    ·subst h;exact h32
  hdsn:=by
    show(Bf _ n _).length≤(x.names++[n]).length;rw[La5,Lbq];exact Lbb (mput_len ..) (by have:=hx.hdsn;have:= @delL_len x.hds (Cp D);omega)
  orp:=hx.orp
  orpn:=hx.orpn
  pls :=fun p h=>by
    show p.1.1.length=32∧p.2.ok∧p.2.ks.length≤(x.names++[n]).length;rw[La5,Lbq];rcases mput_mem h with h|h
    · have:=hx.pls p h
      exact⟨this.1,this.2.1,by omega⟩
    · subst h
      refine⟨hB.1.ok.l_fWriter,hp.1,?_⟩;show rp.ks.length≤_;rw[hp.2,La5,Lbq];have:=(hx.plsR (B.fWriter,B.fSeq)).2;omega
  wrs :=fun p h=>by
    show p.1.length=32∧p.2.ok∧p.2.ks.length≤(x.names++[n]).length;rw[La5,Lbq];rcases mput_mem h with h|h
    · have:=hx.wrs p h
      exact⟨this.1,this.2.1,by omega⟩
    · subst h
      refine⟨hB.1.ok.l_fWriter,hw.1,?_⟩;show rw.ks.length≤_;rw[hw.2,La5,Lbq];have:=(hx.wrsR B.fWriter).2;omega
theorem dag_admit(x:DD)(hx:x.ok)(p:Nat)(n:List UInt8)(h32:n.length=32)(B:Block)(D:DB)(hB:Held x.cb B D)(hs:D.ls.length≤500000)(hroom:x.names.length+x.orp.length<20000):Meets prog 86 [ptr p 0,agg (Aa n),agg B.cells] ((x.blks p).map (·.n)) (fun W=>Lent (x.blks p) W) (fun v out=>v= .tuple #[]∧∃s bl rp rw,out=(x.adm s bl n B D rp rw).blks p∧(x.adm s bl n B D rp rw).ok∧MoreR (Au x.pls (B.fWriter,B.fSeq)) n rp∧MoreR (Au x.wrs B.fWriter) n rw):=by
 intro W hW;have hbd:=hB.2 W (hW.1.sub (by unfold DD.blks;exact(by repeat(first|exact Bu|refine Cc ?_|refine in_seg ?_))));have hrow:=parL_row hbd.dok;have hwp:((⟨B.fWriter,B.fSeq⟩:DPl)).ok:=⟨hB.1.ok.l_fWriter⟩;have hbig:=hx.big;refine calls_of (hp0:=(⟨p,[ptr p 0,x.nm.v, .map (some x.bE), .map (some x.bH), .map (some x.bO), .map (some x.bP), .map (some x.bW)],86,7⟩::Az x.bE (Ar 32 evE) (x.ent)::Az x.bH (Ar 32 evU) (x.hds)::Az x.bO (Ar 32 evB) (x.orp)::Az x.bP (placeT 32 evR) (x.pls)::Az x.bW (Ar 32 evR) (x.wrs)::(x.nb++(x.cb++(rbl x.pls++(rbl x.wrs++[])))))) func86 J 85 ntmps86 J hW.rep (G3 ?_);intro n4 hn4 hf4;refine G1 ?_;intro n5 hn5 hf5;refine G10 ?_;refine .lA J J J Y37.h J Sz37 Z0 (Block.length (by exact hB.1.ok)) ?_;refine .call4 J J J J J Body58 (db_parA B D hs) (fun w h=>hB.2 w (Lies.of h (by repeat(first|exact Bu|refine Cc ?_|refine in_seg ?_)))) ?_;rintro v11 out11 ⟨s11,rfl,hac⟩;have hn11:s11.n=(Cp D).length:=hac.num;refine G5 ?_;refine .loop (ι:=Nat×Int×List (List UInt8×Unit)) (fun q=>⟨[(0,ptr p 0),(4,ptr n4 0),(5,ptr n5 0),(6,i64 q.2.1),(11,s11.v),(12,i64 (s11.n:Int)),(13,i64 (q.1:Int))],(⟨n5,B.cells,37,B.cells.length⟩::(⟨n4,Aa n,31,(Aa n).length⟩::(⟨p,[ptr p 0,x.nm.v, .map (some x.bE), .map (some x.bH), .map (some x.bO), .map (some x.bP), .map (some x.bW)],86,7⟩::(Az x.bE (Ar 32 evE) (x.ent)::(Az x.bH (Ar 32 evU) (q.2.2)::(Az x.bO (Ar 32 evB) (x.orp)::(Az x.bP (placeT 32 evR) (x.pls)::(Az x.bW (Ar 32 evR) (x.wrs)::(x.nb++(x.cb++(rbl x.pls++(rbl x.wrs++(out11++[])))))))))))))⟩) (fun q=>q.1≤(Cp D).length∧q.2.1=depL x.ent ((Cp D).take q.1)∧q.2.2=delL x.hds ((Cp D).take q.1)) (fun q=>(Cp D).length-q.1) ((0,0,x.hds)) ?_ ?_ ?_
 ·exact⟨Laj _,rfl,rfl⟩
 ·exact An wN (Ab (by repeat(first|exact A7|apply Cs)) (Ab (by repeat(first|exact A7|apply Cs)) (Ab (by repeat(first|exact A7|apply Cs)) (Ab (by repeat(first|exact A7|apply Cs)) (Ab (by repeat(first|exact A7|apply Cs)) (Ab (by repeat(first|exact A7|apply Cs)) (Ab (by repeat(first|exact A7|apply Cs)) (Ab (by repeat(first|exact A7|apply Cs)) (Ad (by repeat(first|exact sg_here|apply sg_seg)) (Ad (by repeat(first|exact sg_here|apply sg_seg)) (Ad (by repeat(first|exact sg_here|apply sg_seg)) (Ad (by repeat(first|exact sg_here|apply sg_seg)) (Ad sG Ak)))))))))))))
 rintro⟨k,dp,hd⟩ ⟨hk0,hdp,hhd⟩;simp only at hk0 hdp hhd ⊢;have hdl:=depL_le hx ((Cp D).take k);rw[←hdp]at hdl;refine G6 ?_;refine .condP J (fun hc0=>?_) (fun hc0=>?_)
 ·
  refine G6 ?_;have hk:k<(Cp D).length:=by omega
  have hkb:k≤600000:=by have:=parL_len D;omega
  rcases hac with ⟨_,_,_,h0⟩|⟨qr,cr,rfl,hnc,hfl,rfl⟩
  ·exfalso;omega
  obtain⟨kk,hkk⟩:∃kk,kk=(Cp D).getD (k) []:=⟨_,rfl⟩;have h32k:kk.length=32:=by rw[hkk,La2,La4 hk];exact hrow _ (Lc9 hk)
  refine .idxSlP 32 J J J J J Y32.h Sz31 (k) J oM (.loadSN (n:=32) (Aa kk) J J J Y31.h J Sz31 (by rw[Aa,La0];exact h32k) (fun w h=>by rw[hkk];simpa using sees_row hrow (Aq h mR) hk) ?_);refine .alloc (cs:=(Aa (List.replicate 32 0))) J Zr31 J ?_;intro n8 hn8 hf8;refine .sA J J J J zE Sz31 (by(rw[Aa,La0];assumption)) Z0 sP zU ?_;refine G3 ?_;refine .draw (oPq [0,1,2,3,104,105,106,7,8,9,10]) Ap zK (G5 ?_);refine .lA J J J Y31.h J Sz31 Z0 (by(rw[Aa,La0];assumption)) ?_;refine .lookG evE ME J J J J h32k Z4 (fun hg=>?_) (fun e hg=>?_)
  ·
   have hdv:DEnt.zero.fDepth=0:=rfl;refine .field1 J J J Y91.h J Y3.h J (DEnt.get_fDepth DEnt.zero_ok) (G1 ?_);refine .max2 J J J J (rfl) (G3 ?_);refine .draw (oPq [0,1,2,103,104,405]) Ap zK (G4 ?_);refine .lA J J J Y31.h J Sz31 Z0 (by(rw[Aa,La0];assumption)) ?_;refine .mapDel MH J J J J h32k rM ?_;refine G8 ?_;refine⟨(k+1,_,_),⟨hk,?_,?_⟩,by simp only;omega,An wN (Ab rM (Ab rM (Ab rM (Ab rM (Ab rM (Ab rM (Ab rM (Ab rM (Ad sG (Ad sG (Ad sG (Ad sG (Ad sG Ak)))))))))))))⟩
   ·rw[depL_none hk hkk hg,←hdp];rfl
   ·rw[delL_one hk hkk,←hhd];rfl
  have hdv:0≤e.1.fDepth∧e.1.fDepth≤(x.names.length:Int):=(hx.ent _ (Bs hg)).2.2;refine .field1 J J J Y91.h J Y3.h J (DEnt.get_fDepth (hx.entOk hg)) (G1 ?_);refine .max2 J J J J (rfl) (G3 ?_);refine .draw (oPq [0,1,2,103,104,405]) Ap zK (G4 ?_);refine .lA J J J Y31.h J Sz31 Z0 (by(rw[Aa,La0];assumption)) ?_;refine .mapDel MH J J J J h32k rM ?_;refine G8 ?_;refine⟨(k+1,_,_),⟨hk,?_,?_⟩,by simp only;omega,An wN (Ab rM (Ab rM (Ab rM (Ab rM (Ab rM (Ab rM (Ab rM (Ab rM (Ad sG (Ad sG (Ad sG (Ad sG (Ad sG Ak)))))))))))))⟩
  ·rw[depL_some hk hkk hg,←hdp];rfl
  ·rw[delL_one hk hkk,←hhd];rfl
 have hkl:k=(Cp D).length:=by omega
 rw[hkl,Ldh]at hdp hhd;refine G6 ?_;refine .draw (oPq [0,1,2,103,104,105,6,7,408]) Ap zK (G4 ?_);refine .lA J J J Y31.h J Sz31 Z1 (by(simp[h32];done)) ?_;refine .lA J J J Y37.h J Sz37 Z0 (Block.length (by exact hB.1.ok)) ?_;refine G1 ?_;refine .build (cs:=(⟨B,dp⟩:DEnt).cells) J J J (fun w=>run_build2 (a:=agg B.cells) (b:=i64 dp) (ca:=B.cells) (cb:=[i64 dp]) DEnt.zr Y91.h J J Sz37 Sz3 (DEnt.length DEnt.zero_ok) J J (Block.length hB.1.ok) J w) (.mapPut (v:=((⟨B,dp⟩,D):EV)) ME J J J J J h32 rM ?_);refine G3 ?_;refine .draw (oPq [0,1,2,3,104,105,206,407,8,9,410]) Ap zK (G5 ?_);refine .lA J J J Y31.h J Sz31 Z2 (by(simp[h32];done)) ?_;refine .mkRow2 (z:=agg (Aa (List.replicate 32 0))) [agg (Aa n)] (Aa n) J J Y32.h Sz31 Zr31 J J (by intro v hv;rw[La1.1 hv];simp[Value.cells,Aa,h32]) dE (by simp[Value.cells,agg]) ?_;intro q9;refine .appendAcc (z:=agg (Aa (List.replicate 32 0))) (by':=32) (Aa n) J J J J J Y32.h Y32.h Sz31 Zr31 (by unfold By;kernel_rfl) J hx.nm sG (fun w h=>SeesP.of (Aq h Z0)) (fun e=>by cases e) (Av _) oM oM (by rw[Aa,La0,h32]) ?_;intro s9 bl9 hac9;refine G2 ?_;refine .s1 J J J J J Sz32 mR sP (by rfl) uU ?_;refine G3 ?_;refine .draw (oPq [0,1,2,103,104,5,406]) Ap zK (G4 ?_);refine .lA J J J Y31.h J Sz31 mR (by(simp[h32];done)) ?_;refine .build (cs:=[]) J J J (fun w=>by kernel_rfl) ?_;refine .mapPut (v:=()) MH J J J J J h32 rM ?_;refine G2 ?_;refine .join (ι:=Nat×Sl×List Blk) (fun j=>⟨[(0,ptr p 0),(4,ptr n4 0),(5,ptr n5 0),(9,ptr j.1 0)],(⟨n5,B.cells,37,B.cells.length⟩::(⟨n4,Aa n,31,(Aa n).length⟩::(⟨j.1,(⟨B.fWriter,B.fSeq⟩:DPl).cells,94,33⟩::(⟨p,[ptr p 0,j.2.1.v, .map (some x.bE), .map (some x.bH), .map (some x.bO), .map (some x.bP), .map (some x.bW)],86,7⟩::(Az x.bE (Ar 32 evE) (Bf x.ent n (⟨B,dp⟩,D))::(Az x.bH (Ar 32 evU) (Bf hd n ())::(Az x.bO (Ar 32 evB) (x.orp)::(Az x.bP (placeT 32 evR) (x.pls)::(Az x.bW (Ar 32 evR) (x.wrs)::(j.2.2++(x.cb++(rbl x.pls++(rbl x.wrs++[])))))))))))))⟩) (fun j=>Hw.Acc j.2.1 j.2.2 (Ay x.names++Aa n) 31 (x.names.length+1) 32) ?_ ?_
 ·
  refine G2 ?_;refine .lN (Aa _) J J J Y29.h J Sz29 mR (Block.row_fWriter (by exact hB.1.ok)) (Block.rl_fWriter (by exact hB.1.ok)) ?_;refine G1 ?_;refine .load1 J J J Y30.h J mR (by exact Block.get_fSeq (by exact hB.1.ok)) ?_;refine .build (cs:=(⟨B.fWriter,B.fSeq⟩:DPl).cells) J J J (fun w=>run_build2 (a:=agg (Aa B.fWriter)) (b:=u64 B.fSeq) (ca:=Aa B.fWriter) (cb:=[u64 B.fSeq]) DPl.zr underlying94 J J Sz29 Sz30 (DPl.length DPl.zero_ok) J J (by rw[Aa,La0];exact hB.1.ok.l_fWriter) J w) ?_;refine .alloc (cs:=DPl.zero.cells) J DPl.zr J ?_;intro n9 hn9 hf9;refine .sA J J J J (DPl.isCell (by exact hwp)) Sz94 (DPl.length (by exact hwp)) Z0 (DPl.length (by exact DPl.zero_ok)) zU ?_;refine G2 ?_;exact⟨(n9,s9,bl9),hac9,An wN (Ab rM (Ab rM (Ab rM (Ab rM (Ab rM (Ab rM (Ab rM (Ab rM (Ab rM (Ad sG (Ad sG (Ad sG (Ad sG Ak)))))))))))))⟩
 intro j hj;obtain⟨m9,s9,bl9⟩:=j;simp only at hj ⊢;have hac9:=hj;refine .join (ι:=RV) (fun r=>⟨[(0,ptr p 0),(4,ptr n4 0),(5,ptr n5 0)],(⟨n5,B.cells,37,B.cells.length⟩::(⟨n4,Aa n,31,(Aa n).length⟩::(⟨p,[ptr p 0,s9.v, .map (some x.bE), .map (some x.bH), .map (some x.bO), .map (some x.bP), .map (some x.bW)],86,7⟩::(Az x.bE (Ar 32 evE) (Bf x.ent n (⟨B,dp⟩,D))::(Az x.bH (Ar 32 evU) (Bf hd n ())::(Az x.bO (Ar 32 evB) (x.orp)::(Az x.bP (placeT 32 evR) (Bf x.pls (B.fWriter,B.fSeq) r)::(Az x.bW (Ar 32 evR) (x.wrs)::(bl9++(x.cb++(rbl (Bf x.pls (B.fWriter,B.fSeq) r)++(rbl x.wrs++[]))))))))))))⟩) (fun r=>MoreR (Au x.pls (B.fWriter,B.fSeq)) n r) ?_ ?_
 ·
  refine .withK (sp_k (sp_k (sp_k (sp_k (sp_v (sp_v (sp_v (sp_v (sp_v (sp_x (sp_x (sp_x (sp_x sp_n))))))))))))) J (.draw (oPq [0,1,2,3,4,5,206,407,8,10,409,411]) Ap zK (G3 ?_));refine .kload1 J J J underlying83 J Z3 (by rfl) ?_;refine .kloadAll J J J underlying94 J Sz94 Z2 (DPl.length (by exact hwp)) ?_;refine .kloadAll J J J Y31.h J Sz31 Z1 (by(simp[h32];done)) ?_;refine .mkRow2 (z:=agg (Aa (List.replicate 32 0))) [agg (Aa n)] (Aa n) J J Y32.h Sz31 Zr31 J J (by intro v hv;rw[La1.1 hv];simp[Value.cells,Aa,h32]) dE (by simp[Value.cells,agg]) ?_;intro q12;obtain⟨R12,hR12,hS12⟩:=rbl_put x.pls (B.fWriter,B.fSeq);have hrk12:=hx.plsR (B.fWriter,B.fSeq);refine .mapEntry (d0:=RV.none) (k:=(B.fWriter,B.fSeq)) MP J J J J J J hB.1.ok.l_fWriter rM ?_;intro st12;obtain⟨row12,hrow12⟩:∃r,r=(Au x.pls (B.fWriter,B.fSeq)).getD RV.none:=⟨_,rfl⟩;rw[←hrow12]at hR12 hrk12 ⊢;refine G2 ?_;refine .appendAcc (z:=agg (Aa (List.replicate 32 0))) (by':=32) (Aa n) J J J J J Y32.h Y32.h Sz31 Zr31 (by unfold By;kernel_rfl) J hrk12.1.acc (perm_open sG hR12) (fun w h=>SeesP.of (Aq h Z1)) (fun e=>by cases e) (Av _) oM oM (by rw[Aa,La0,h32]) ?_;intro s12 bl12 hac12;refine .entryStore (k:=(B.fWriter,B.fSeq)) (v:=(⟨s12,bl12,row12.ks++[n]⟩:RV)) J J J J J hB.1.ok.l_fWriter (by repeat(first|exact A7|apply Cs)) ?_;rw[mput_mput];refine G2 ?_;refine⟨(⟨s12,bl12,row12.ks++[n]⟩:RV),(⟨⟨by rw[flatB_append,La5];simpa[Ay]using hac12,fun l hl=>by rcases Lac.1 hl with h|h;exact hrk12.1.r32 l h;rw[La1.1 h];exact h32⟩,by rw[←hrow12]⟩:MoreR _ n (⟨s12,bl12,row12.ks++[n]⟩:RV)),?_⟩;refine wk_norm (by simp only[Lap,Lal,Lak,La8];exact rfl) ?_;exact An wN (Ab rM (Ab rM (Ab rM (Ab rM (Ab rM (Ab rM (Ab rM (Ab rM (Ad sG (Ad sG (pm_join sG sG (hS12 (⟨s12,bl12,row12.ks++[n]⟩:RV)) (Ad sG Ak))))))))))))
 intro r hj;have hr:=hj;refine .withK (sp_k (sp_k (sp_k (sp_v (sp_v (sp_v (sp_v (sp_v (sp_x (sp_x (sp_x (sp_x sp_n)))))))))))) J (.draw (oPq [0,1,2,3,4,5,6,207,408,9,11,410,412]) Ap zK (G3 ?_));refine .kload1 J J J underlying84 J Z2 (by rfl) ?_;refine G1 ?_;refine .kloadN (Aa _) J J J Y29.h J Sz29 Z0 (Block.row_fWriter (by exact hB.1.ok)) (Block.rl_fWriter (by exact hB.1.ok)) ?_;refine .kloadAll J J J Y31.h J Sz31 Z1 (by(simp[h32];done)) ?_;refine .mkRow2 (z:=agg (Aa (List.replicate 32 0))) [agg (Aa n)] (Aa n) J J Y32.h Sz31 Zr31 J J (by intro v hv;rw[La1.1 hv];simp[Value.cells,Aa,h32]) dE (by simp[Value.cells,agg]) ?_;intro q13;obtain⟨R13,hR13,hS13⟩:=rbl_put x.wrs B.fWriter;have hrk13:=hx.wrsR B.fWriter;refine .mapEntry (d0:=RV.none) (k:=B.fWriter) MW J J J J J J hB.1.ok.l_fWriter rM ?_;intro st13;obtain⟨row13,hrow13⟩:∃r,r=(Au x.wrs B.fWriter).getD RV.none:=⟨_,rfl⟩;rw[←hrow13]at hR13 hrk13 ⊢;refine G2 ?_;refine .appendAcc (z:=agg (Aa (List.replicate 32 0))) (by':=32) (Aa n) J J J J J Y32.h Y32.h Sz31 Zr31 (by unfold By;kernel_rfl) J hrk13.1.acc (perm_open sG hR13) (fun w h=>SeesP.of (Aq h Z1)) (fun e=>by cases e) (Av _) oM oM (by rw[Aa,La0,h32]) ?_;intro s13 bl13 hac13;refine .entryStore (k:=B.fWriter) (v:=(⟨s13,bl13,row13.ks++[n]⟩:RV)) J J J J J hB.1.ok.l_fWriter (by repeat(first|exact A7|apply Cs)) ?_;rw[mput_mput];refine G2 ?_;simp only[Lap,Lal,Lak,La8];refine A3 (out:=(⟨p,[ptr p 0,s9.v, .map (some x.bE), .map (some x.bH), .map (some x.bO), .map (some x.bP), .map (some x.bW)],86,7⟩::(Az x.bE (Ar 32 evE) (Bf x.ent n (⟨B,dp⟩,D))::(Az x.bH (Ar 32 evU) (Bf hd n ())::(Az x.bO (Ar 32 evB) (x.orp)::(Az x.bP (placeT 32 evR) (Bf x.pls (B.fWriter,B.fSeq) r)::(Az x.bW (Ar 32 evR) (Bf x.wrs B.fWriter (⟨s13,bl13,row13.ks++[n]⟩:RV))::(bl9++(x.cb++(rbl (Bf x.pls (B.fWriter,B.fSeq) r)++(rbl (Bf x.wrs B.fWriter (⟨s13,bl13,row13.ks++[n]⟩:RV))++[]))))))))))) (res_none J) (Ab rM (Ab rM (Ab rM (Ab rM (Ab rM (Ab rM (Ad sG (Ad sG (Ad sG (pm_join sG sG (hS13 (⟨s13,bl13,row13.ks++[n]⟩:RV)) Ak)))))))))) ?_;have hm13:=(⟨⟨by rw[flatB_append,La5];simpa[Ay]using hac13,fun l hl=>by rcases Lac.1 hl with h|h;exact hrk13.1.r32 l h;rw[La1.1 h];exact h32⟩,by rw[←hrow13]⟩:MoreR _ n (⟨s13,bl13,row13.ks++[n]⟩:RV));subst hdp;subst hhd;exact⟨rfl,s9,bl9,r,(⟨s13,bl13,row13.ks++[n]⟩:RV),(by simp only[DD.blks,DD.adm,Lak]),hx.adm h32 hB hroom hac9 hr hm13,hr,hm13⟩
def insB(a:List UInt8):List (List UInt8)→List (List UInt8)
  | []=>[a]
  |b::l=>if B1 a b≤0 then a::b::l else b::insB a l
def isort(l:List (List UInt8)):List (List UInt8):=l.foldr insB []
theorem insB_perm(a:List UInt8):∀l,(insB a l).Perm (a::l)
  | []=>Lcb _
  | b::l=>by
    unfold insB;split
    ·exact Lcb _
    ·exact(List.Perm.cons b (insB_perm a l)).trans (List.Perm.swap a b l)
theorem Cm:∀l,(isort l).Perm l
  | []=>Lcb _
  |a::l=>(insB_perm a (isort l)).trans (List.Perm.cons a (Cm l))
theorem insB_sort(a:List UInt8):∀l,SortB l→SortB (insB a l)
  | [],_=>by simp[insB,SortB]
  | b ::l,h=>by
    obtain⟨h1,h2⟩:=Lcr.1 h;unfold insB;split
    · rename_i hab
      refine Lcr.2 ⟨fun c hc=>?_,h⟩;rcases Lag.1 hc with rfl|hc
      ·exact hab
      ·exact(cmpB_trans a b c hab (h1 c hc)).1
    · rename_i hab
      refine Lcr.2 ⟨fun c hc=>?_,insB_sort a l h2⟩;rcases Lag.1 ((insB_perm a l).mem_iff.1 hc)with rfl|hc
      ·have:=cmpB_neg c b;omega
      ·exact h1 c hc
theorem isort_sort:∀l,SortB (isort l)
  | []=>List.Pairwise.nil
  |a::l=>insB_sort a _ (isort_sort l)
theorem sort_unique:∀ {a b:List (List UInt8)},a.Perm b→SortB a→SortB b→a=b
  | [],b,hp,_,_=>(List.nil_perm.1 hp).symm
  |x::a,[],hp,_,_=>by have:=hp.length_eq;simp at this
  | x ::a,y::b,hp,ha,hb=>by
    obtain⟨h1,h2⟩:=Lcr.1 ha;obtain⟨h3,h4⟩:=Lcr.1 hb;have e:x=y:=by
      have hx:=hp.mem_iff.1 (La9 (a:=x) (l:=a));have hy:=hp.mem_iff.2 (La9 (a:=y) (l:=b));rcases Lag.1 hx with h|h
      ·exact h
      · rcases Lag.1 hy with h5|h5
        ·exact h5.symm
        · have u1:=h3 x h
          have u2:=h1 y h5;have u3:=cmpB_neg x y;exact(cmpB_zero x y).1 oM
    subst e;rw[sort_unique (List.Perm.cons_inv hp) h2 h4]
theorem isort_eq(hp:ks.Perm l)(hs:SortB ks):ks=isort l:=sort_unique (hp.trans (Cm l).symm) hs (isort_sort l)
structure PD where
  names:List (List UInt8)
  P:List (List UInt8×DB)
  dep:List (List UInt8×Int)
  hds:List (List UInt8×Unit)
  orp:List (List UInt8×DB)
  pls:List ((List UInt8×UInt64)×List (List UInt8))
  wrs:List (List UInt8×List (List UInt8))
def DD.pl(x:DD):PD:=⟨x.names,x.P,x.ent.map fun p=>(p.1,p.2.1.fDepth),x.hds,x.orp.map fun p=>(p.1,p.2.2),x.pls.map fun p=>(p.1,p.2.ks),x.wrs.map fun p=>(p.1,p.2.ks)⟩
def stepP(dep:List (List UInt8×Int))(d:Int)(n:List UInt8):Int:=if(Au dep n).getD 0+1>d then(Au dep n).getD 0+1 else d
def PD.adm(X:PD)(n:List UInt8)(D:DB):PD:=
  ⟨X.names++[n],Bf X.P n D,Bf X.dep n ((Cp D).foldl (stepP X.dep) 0),Bf (delL X.hds (Cp D)) n (),X.orp,Bf X.pls (D.w,D.seq) ((Au X.pls (D.w,D.seq)).getD []++[n]),Bf X.wrs D.w ((Au X.wrs D.w).getD []++[n])⟩
theorem get_ks[DecidableEq κ](fs:List (κ×RV))(k:κ):((Au fs k).getD RV.none).ks=(Au (fs.map fun p=>(p.1,p.2.ks)) k).getD []:=by
  rw[mget_map (fun r:RV=>r.ks)];cases Au fs k<;>rfl
theorem adm_pl{x:DD}(hB:SameB B D)(hp:MoreR (Au x.pls (B.fWriter,B.fSeq)) n rp)(hw:MoreR (Au x.wrs B.fWriter) n rw):(x.adm s bl n B D rp rw).pl=x.pl.adm n D:=by
  have e1:(Bf x.ent n ((⟨B,depL x.ent (Cp D)⟩,D):EV)).map (fun p=>(p.1,p.2.2))=Bf x.P n D:=mput_map (fun e:EV=>e.2) x.ent n (⟨B,depL x.ent (Cp D)⟩,D);have ed:∀m,((Au x.ent m).map fun e=>e.1.fDepth)=Au (x.ent.map fun p=>(p.1,p.2.1.fDepth)) m:=fun m=>(mget_map (fun e:EV=>e.1.fDepth) x.ent m).symm;have es:depL x.ent (Cp D)=(Cp D).foldl (stepP (x.ent.map fun p=>(p.1,p.2.1.fDepth))) 0:=by
    unfold depL;congr 1;funext d m;unfold stepD stepP;rw[ed m]
  have e2:(Bf x.ent n ((⟨B,depL x.ent (Cp D)⟩,D):EV)).map (fun p=>(p.1,p.2.1.fDepth))=Bf (x.ent.map fun p=>(p.1,p.2.1.fDepth)) n (depL x.ent (Cp D)):=mput_map (fun e:EV=>e.1.fDepth) x.ent n (⟨B,depL x.ent (Cp D)⟩,D);have e3:(Bf x.pls (B.fWriter,B.fSeq) rp).map (fun p=>(p.1,p.2.ks))=Bf (x.pls.map fun p=>(p.1,p.2.ks)) (B.fWriter,B.fSeq) rp.ks:=mput_map (fun r:RV=>r.ks) x.pls (B.fWriter,B.fSeq) rp;have e4:(Bf x.wrs B.fWriter rw).map (fun p=>(p.1,p.2.ks))=Bf (x.wrs.map fun p=>(p.1,p.2.ks)) B.fWriter rw.ks:=mput_map (fun r:RV=>r.ks) x.wrs B.fWriter rw;unfold DD.pl PD.adm DD.adm DD.P;simp only;rw[e1,e2,es,e3,e4,hp.2,hw.2,get_ks,get_ks,hB.w,hB.seq];rfl
def PD.drop1(X:PD)(n:List UInt8):PD:={ X with orp:=mdel X.orp n }
def DD.drop1(x:DD)(n:List UInt8):DD:={ x with orp:=mdel x.orp n }
theorem drop1_pl(x:DD)(n:List UInt8):(x.drop1 n).pl=x.pl.drop1 n:=by
  unfold DD.pl DD.drop1 PD.drop1;simp only;rw[mdel_map (fun b:BV=>b.2)];rfl
theorem mdel_one[DecidableEq κ]{k:κ}{v:ν}(h:Au fs k=some v):(mdel fs k).length+1=fs.length:=by
  have hi:∃j,midx fs k=some j∧j<fs.length:=by
    unfold Au at h;unfold midx;cases hf:fs.find? (fun p=>decide (p.1=k))with
    |none=>rw[hf]at h;cases h
    | some p=>
      obtain⟨hp,j,hj,_,hn⟩:=Ldc.1 hf
      rename_i e1
      exact⟨j,by rw[Lbu];exact⟨hj,by rw[e1];exact hp,fun i hi=>by simpa using hn i hi⟩,hj⟩
  obtain⟨j,hj,hl⟩:=hi;unfold mdel;rw[hj];simp only[Ldl,hl,if_true];omega
theorem DD.ok.drop1{x:DD}(h:x.ok)(n:List UInt8):(x.drop1 n).ok:={ h with
  big:=Lbb (Nat.add_le_add_left (mdel_len _ _) _) h.big
  orpn:=Lbb (mdel_len _ _) h.orpn
  orp:=fun p hp=>h.orp p (mdel_mem hp) }
def PD.first(X:PD):Option (List UInt8):=(isort (X.orp.map (·.1))).find? fun n=>B9 X.P ((Au X.orp n).getD DB.zero) !=0
def PD.settle:Nat→PD→PD×List (List UInt8)
  |0,X=>(X,[])
  | f+1,X=>match X.first with
    |none=>(X,[])
    |some n=>if B9 X.P ((Au X.orp n).getD DB.zero)=1 then(let r:=PD.settle f ((X.drop1 n).adm n ((Au X.orp n).getD DB.zero));(r.1,n::r.2))else PD.settle f (X.drop1 n)
theorem settle_done{X:PD}(h:X.first=none)(f:Nat):PD.settle f X=(X,[]):=by
  cases f with
  |zero=>rfl
  |succ f=>rw[PD.settle,h]
theorem settle_fit{X:PD}(h:X.first=some n)(hD:Au X.orp n=some D)(hj:B9 X.P D=1)(f:Nat):PD.settle (f+1) X=((PD.settle f ((X.drop1 n).adm n D)).1,n::(PD.settle f ((X.drop1 n).adm n D)).2):=by
  rw[PD.settle,h];simp only[hD,Lbp];rw[if_pos hj]
theorem settle_wrong{X:PD}(h:X.first=some n)(hD:Au X.orp n=some D)(hj:B9 X.P D≠1)(f:Nat):PD.settle (f+1) X=PD.settle f (X.drop1 n):=by
  rw[PD.settle,h];simp only[hD,Lbp];rw[if_neg hj]
theorem first_at{X:PD}(hks:ks=isort (X.orp.map (·.1)))(hk:k<ks.length)(hall:∀j,j<k→B9 X.P ((Au X.orp (ks.getD j [])).getD DB.zero)=0)(h:B9 X.P ((Au X.orp (ks.getD k [])).getD DB.zero)≠0):X.first=some (ks.getD k []):=by
  unfold PD.first;rw[←hks,Ldc];have e:∀j (hj:j<ks.length),ks.getD j []=ks[j]:=fun j hj=>by rw[La2,La4 hj];rfl
  refine⟨by simpa using h,k,hk,(e k hk).symm,fun j hj=>?_⟩;have:=hall j hj;rw[e j oM]at this;rw[this];rfl
theorem first_none{X:PD}(hks:ks=isort (X.orp.map (·.1)))(hall:∀j,j<ks.length→B9 X.P ((Au X.orp (ks.getD j [])).getD DB.zero)=0):X.first=none:=by
  unfold PD.first;rw[←hks,Lg4];intro n hn;obtain⟨j,hj,rfl⟩:=Lfx hn;have:=hall j hj;rw[La2,La4 hj]at this;simp only[Lbp]at this;rw[this];simp
theorem DD.getO(x:DD)(k:List UInt8):Au x.pl.orp k=(Au x.orp k).map (·.2):=mget_map (fun b:BV=>b.2) x.orp k
theorem orp_keys(x:DD):x.pl.orp.map (·.1)=x.orp.map (·.1):=by unfold DD.pl;simp only[Lgi];rfl
theorem mget_of_key[DecidableEq κ]{k:κ}(h:k∈fs.map (·.1)):∃v,Au fs k=some v:=by
  obtain⟨p,hp,rfl⟩:=La6.1 h;unfold Au;cases hf:fs.find? (fun q=>decide (q.1=p.1))with
  |none=>rw[Lg4]at hf;have:=hf p hp;simp at this
  |some q=>exact⟨q.2,rfl⟩
def AdmR(x:DD)(p:Nat)(n:List UInt8)(D:DB)(v:Value)(out:List Blk):Prop:=v= .tuple #[]∧∃x':DD,out=x'.blks p∧x'.ok∧x'.pl=x.pl.adm n D∧x'.names.length=x.names.length+1∧x'.orp.length=x.orp.length
theorem dag_admit2(x:DD)(hx:x.ok)(p:Nat)(n:List UInt8)(h32:n.length=32)(B:Block)(D:DB)(hB:Held x.cb B D)(hs:D.ls.length≤500000)(hroom:x.names.length+x.orp.length<20000):
    Meets prog 86 [ptr p 0,agg (Aa n),agg B.cells] ((x.blks p).map (·.n)) (fun W=>Lent (x.blks p) W) (AdmR x p n D):=
  (dag_admit x hx p n h32 B D hB hs hroom).imp (fun w h=>h) fun v out ⟨h1,s,bl,rp,rw,h2,h3,h4,h5⟩=>⟨h1,_,h2,h3,adm_pl hB.1 h4 h5,by show(x.names++[n]).length=_;rw[La5,Lbq],rfl⟩
theorem judge_cases(P:List (List UInt8×DB))(D:DB):B9 P D=0∨B9 P D=1∨B9 P D=2:=by
  unfold B9;split
  ·exact .inr (.inr rfl)
  · split
    ·exact .inr (.inl rfl)
    ·exact .inl rfl
theorem settle_go{x x2:DD}(hf:x.pl.first=some kk)(hob:Au x.orp kk=some ob)(hj:B9 x.P ob.2=1)(hp:x2.pl=(x.drop1 kk).pl.adm kk ob.2)(ho:x2.orp.length=(x.drop1 kk).orp.length):
    PD.settle x.orp.length x.pl=((PD.settle x2.orp.length x2.pl).1,kk::(PD.settle x2.orp.length x2.pl).2):=by
  have h1:=mdel_one hob;have h2:x2.orp.length=(mdel x.orp kk).length:=ho;rw[←h1,settle_fit hf (by rw[x.getO,hob];rfl) hj,h2,hp,drop1_pl]
theorem settle_no{x:DD}(hf:x.pl.first=some kk)(hob:Au x.orp kk=some ob)(hj:B9 x.P ob.2≠1):PD.settle x.orp.length x.pl=PD.settle (x.drop1 kk).orp.length (x.drop1 kk).pl:=by
  have h1:=mdel_one hob;have h2:(x.drop1 kk).orp.length=(mdel x.orp kk).length:=rfl;rw[←h1,settle_wrong hf (by rw[x.getO,hob];rfl) hj,h2,drop1_pl]
def SetR(x0:DD)(p:Nat)(v:Value)(out:List Blk):Prop:=∃(x:DD) (s:Sl) (bl:List Blk) (l:List (List UInt8)),v=s.v∧out=x.blks p++bl∧x.ok∧Hw.Acc s bl (Ay l) 31 l.length 32∧(∀n∈l,n.length=32)∧x.names.length+x.orp.length≤x0.names.length+x0.orp.length∧l.length≤x0.orp.length∧x.pl=(PD.settle x0.orp.length x0.pl).1∧l=(PD.settle x0.orp.length x0.pl).2
theorem acc_one{k:List UInt8}{E:TypeId}{m:Nat}(h:Hw.Acc s bl (Ay l++Aa k) E (m+1) 32)(hm:l.length=m):Hw.Acc s bl (Ay (l++[k])) E (l++[k]).length 32:=by
  rw[La5,Lbq,flatB_append,hm];simpa[Ay]using h
theorem all_snoc{k:List UInt8}(h:∀n∈l,n.length=32)(hk:k.length=32):∀n∈l++[k],n.length=32:=fun n hn=>by rcases Lac.1 hn with h1|h1;exact h n h1;rw[La1.1 h1];exact hk
theorem dag_settle(x0:DD)(hx0:x0.ok)(p:Nat):Meets prog 87 [ptr p 0] ((x0.blks p).map (·.n)) (fun W=>Lent (x0.blks p) W) (SetR x0 p):=by
 intro W hW;have hbig0:=hx0.big;refine calls_of (hp0:=(⟨p,[ptr p 0,x0.nm.v, .map (some x0.bE), .map (some x0.bH), .map (some x0.bO), .map (some x0.bP), .map (some x0.bW)],86,7⟩::(Az x0.bE (Ar 32 evE) x0.ent::(Az x0.bH (Ar 32 evU) x0.hds::(Az x0.bO (Ar 32 evB) x0.orp::(Az x0.bP (placeT 32 evR) x0.pls::(Az x0.bW (Ar 32 evR) x0.wrs::(x0.nb++(x0.cb++(rbl x0.pls++(rbl x0.wrs++[]))))))))))) func87 J 50 ntmps87 J hW.rep (G5 ?_);refine .again (l:=0) (ι:=DD×Sl×List Blk×List (List UInt8)) (fun i=>⟨[(0,ptr p 0),(3,i.2.1.v)],(⟨p,[ptr p 0,i.1.nm.v, .map (some i.1.bE), .map (some i.1.bH), .map (some i.1.bO), .map (some i.1.bP), .map (some i.1.bW)],86,7⟩::(Az i.1.bE (Ar 32 evE) i.1.ent::(Az i.1.bH (Ar 32 evU) i.1.hds::(Az i.1.bO (Ar 32 evB) i.1.orp::(Az i.1.bP (placeT 32 evR) i.1.pls::(Az i.1.bW (Ar 32 evR) i.1.wrs::(i.1.nb++(i.1.cb++(rbl i.1.pls++(rbl i.1.wrs++(i.2.2.1++[])))))))))))⟩) (fun i=>i.1.ok∧Hw.Acc i.2.1 i.2.2.1 (Ay i.2.2.2) 31 i.2.2.2.length 32∧(∀n∈i.2.2.2,n.length=32)∧i.1.names.length+i.1.orp.length≤x0.names.length+x0.orp.length∧i.2.2.2.length+i.1.orp.length≤x0.orp.length∧(PD.settle i.1.orp.length i.1.pl).1=(PD.settle x0.orp.length x0.pl).1∧i.2.2.2++(PD.settle i.1.orp.length i.1.pl).2=(PD.settle x0.orp.length x0.pl).2) (fun i=>i.1.orp.length) J ?_ ?_
 ·
  refine G4 ?_;exact⟨(x0,Sl.nil,[],[]),⟨hx0,Acc.none,fun n (h:n∈([]:List (List UInt8)))=>(by cases h),Laf _,(by show 0+x0.orp.length≤_;omega),rfl,Lal _⟩,An wN (Ab rM (Ab rM (Ab rM (Ab rM (Ab rM (Ab rM (Ad sG (Ad sG (Ad sG (Ad sG (Ad (by repeat(exact sg_end)) Ak)))))))))))⟩
 rintro⟨x,s,bl,l⟩ hi;simp only at hi ⊢;obtain⟨hx,hac3,h32l,hn1,hn2,hpl1,hpl2⟩:=hi;have hbigx:=hx.big;have hls:=hac3.num;refine G7 ?_;refine .call4 J J J J J Body57 (dag_sortedB MO x.bO x.orp (fun p hp=>(hx.orp p hp).1) oM) (fun w h=>h.cells _ Z3) ?_;rintro v11 out11 ⟨s11,ks,hkp,hks,rfl,hac⟩;have hn11:=hac.num;have hke:ks=isort (x.pl.orp.map (·.1)):=isort_eq (by rw[orp_keys];exact hkp) hks;have hrow:∀l∈ks,l.length=32:=fun l hl=>by obtain⟨q,hq,rfl⟩:=La6.1 (hkp.mem_iff.1 hl);exact(hx.orp q hq).1
 refine G5 ?_;refine .loop (ι:=Nat) (fun k=>⟨[(0,ptr p 0),(3,s.v),(11,s11.v),(12,i64 (s11.n:Int)),(13,i64 (k:Int))],(⟨p,[ptr p 0,x.nm.v, .map (some x.bE), .map (some x.bH), .map (some x.bO), .map (some x.bP), .map (some x.bW)],86,7⟩::(Az x.bE (Ar 32 evE) x.ent::(Az x.bH (Ar 32 evU) x.hds::(Az x.bO (Ar 32 evB) x.orp::(Az x.bP (placeT 32 evR) x.pls::(Az x.bW (Ar 32 evR) x.wrs::(x.nb++(x.cb++(rbl x.pls++(rbl x.wrs++(bl++(out11++[]))))))))))))⟩) (fun k=>k≤ks.length∧∀j,j<k→B9 x.pl.P ((Au x.pl.orp (ks.getD j [])).getD DB.zero)=0) (fun k=>ks.length-k) (0) ?_ ?_ ?_
 ·exact⟨Laj _,fun j hj=>by omega⟩
 ·exact An wN (Ab (by repeat(first|exact A7|apply Cs)) (Ab (by repeat(first|exact A7|apply Cs)) (Ab (by repeat(first|exact A7|apply Cs)) (Ab (by repeat(first|exact A7|apply Cs)) (Ab (by repeat(first|exact A7|apply Cs)) (Ab (by repeat(first|exact A7|apply Cs)) (Ad (by repeat(first|exact sg_here|apply sg_seg)) (Ad (by repeat(first|exact sg_here|apply sg_seg)) (Ad (by repeat(first|exact sg_here|apply sg_seg)) (Ad (by repeat(first|exact sg_here|apply sg_seg)) (Ad (by repeat(first|exact sg_here|apply sg_seg)) (Ad sG Ak))))))))))))
 rintro k ⟨hk0,hall⟩;refine G6 ?_;refine .condP J (fun hc0=>?_) (fun hc0=>?_)
 ·
  refine G6 ?_;have hk:k<ks.length:=by omega
  have hkb:k≤600000:=by have:=hkp.length_eq;simp only[La0]at this;omega
  rcases hac with ⟨_,_,_,h0⟩|⟨qr,cr,rfl,hnc,hfl,rfl⟩
  ·exfalso;omega
  obtain⟨kk,hkk⟩:∃kk,kk=ks.getD k []:=⟨_,rfl⟩;have hkm:kk∈ks:=by rw[hkk,La2,La4 hk];exact Lc9 hk
  have h32k:kk.length=32:=hrow _ hkm;obtain⟨ob,hob⟩:=mget_of_key (fs:=x.orp) (hkp.mem_iff.1 hkm);have hheld:=hx.orp _ (Bs hob);simp only at hheld;have hgo:Au x.pl.orp kk=some ob.2:=by rw[x.getO,hob];rfl
  have hm1:=mdel_one hob;refine .idxSlP 32 J J J J J Y32.h Sz31 k J oM (.loadSN (n:=32) (Aa kk) J J J Y31.h J Sz31 (by rw[Aa,La0];exact h32k) (fun w h=>by rw[hkk];simpa using sees_row hrow (Aq h mR) hk) ?_);refine .alloc (cs:=(Aa (List.replicate 32 0))) J Zr31 J ?_;intro n5 hn5 hf5;refine .sA J J J J zE Sz31 (by(rw[Aa,La0];assumption)) Z0 sP zU ?_;refine G3 ?_;refine .draw (oPq [0,1,2,103,104,105,206,407]) Ap zK (G4 ?_);refine .lA J J J Y31.h J Sz31 Z0 (by(rw[Aa,La0];assumption)) ?_;refine .lookS evB MO hob J J J J h32k Z4 ?_;refine .alloc (cs:=Block.zero.cells) J Block.zr J ?_;intro n6 hn6 hf6;refine .sA J J J J (Block.isCell (by exact hheld.2.1.1.ok)) Sz37 (Block.length (by exact hheld.2.1.1.ok)) Z0 (Block.length (by exact Block.zero_ok)) zU ?_;refine G5 ?_;refine .lA J J J Y37.h J Sz37 Z0 (Block.length (by exact hheld.2.1.1.ok)) ?_;refine .cV J J J J Body85 (dag_judge x hx p ob.1 ob.2 hheld.2.1.1 oM) (fun w h=>⟨DagSee.of h Z2 Z3,hheld.2.1.2 w (Lies.of h (by repeat(first|exact Bu|refine Cc ?_|refine in_seg ?_)))⟩) ?_;refine G9 ?_;refine .condP J (fun hc1=>?_) (fun hc1=>?_)
  ·
   refine .seq (.draw (oPq [0,1,2,103,104,405]) Ap zK (G4 ?_));refine .lA J J J Y31.h J Sz31 Z1 (by(rw[Aa,La0];assumption)) ?_;refine .mapDel MO J J J J h32k rM ?_;refine G5 ?_;refine .lA J J J Y31.h J Sz31 Z2 (by(rw[Aa,La0];assumption)) ?_;refine .lA J J J Y37.h J Sz37 Z1 (Block.length (by exact hheld.2.1.1.ok)) ?_;refine .callL (L:=((x.drop1 kk).blks p)) J J J J J Body86 (dag_admit2 (x.drop1 kk) (hx.drop1 kk) p kk h32k ob.1 ob.2 hheld.2.1 oM (by show x.names.length+(mdel x.orp kk).length<20000;omega)) (Ab rM (Ab rM (Ab rM (Ab rM (Ab rM (Ab rM (Ad sG (Ad sG (Ad sG (Ad sG Ak)))))))))) (lent_ok J) (fun w h=>Lent.of h (Ab rM (Ab rM (Ab rM (Ab rM (Ab rM (Ab rM (Ad sG (Ad sG (Ad sG (Ad sG Ak))))))))))) ?_;rintro v36 out36 ⟨rfl,x2,rfl,hx2,hplx,hnlx,holx⟩;simp only[DD.blks,Lap,Lal,La8];refine G5 ?_;refine .lA J J J Y31.h J Sz31 mR (by(rw[Aa,La0];assumption)) ?_;refine .mkRow2 (z:=agg (Aa (List.replicate 32 0))) [agg (Aa kk)] (Aa kk) J J Y32.h Sz31 Zr31 J J (by intro v hv;rw[La1.1 hv];simp[Value.cells,Aa,h32k]) dE (by simp[Value.cells,agg]) ?_;intro q39;refine .appendAcc (z:=agg (Aa (List.replicate 32 0))) (by':=32) (Aa kk) J J J J J Y32.h Y32.h Sz31 Zr31 (by unfold By;kernel_rfl) J hac3 sG (fun w h=>SeesP.of (Aq h Z0)) (fun e=>by cases e) (Av _) oM oM (by rw[Aa,La0,h32k]) ?_;intro s40 bl40 hac40;refine G3 ?_;refine .goto (bl_g (bl_g (at_g (at_g (bl_g (at_g (jm_g ?_)))))));have hf:x.pl.first=some kk:=by rw[hkk];exact first_at hke hk hall (by rw[←hkk,hgo];show B9 x.P ob.2≠0;omega)
   have hst:=settle_go (x2:=x2) hf hob hc1 hplx holx;rw[hst]at hpl1 hpl2;have hol2:x2.orp.length=(mdel x.orp kk).length:=holx;have hnl2:x2.names.length=x.names.length+1:=hnlx;exact⟨(x2,s40,bl40,l++[kk]),⟨hx2,acc_one hac40 rfl,all_snoc h32l h32k,by simp only;omega,by simp only[La5,Lbq];omega,hpl1,by simp only[La8,Lcd];exact hpl2⟩,by simp only;omega,An wN (Ab rM (Ab rM (Ab rM (Ab rM (Ab rM (Ab rM (Ad sG (Ad sG (Ad sG (Ad sG (Ad sG Ak)))))))))))⟩
  refine G6 ?_;refine .condP J (fun hc2=>?_) (fun hc2=>?_)
  ·
   refine .seq (.draw (oPq [0,1,2,103,104,405]) Ap zK (G4 ?_));refine .lA J J J Y31.h J Sz31 Z1 (by(rw[Aa,La0];assumption)) ?_;refine .mapDel MO J J J J h32k rM ?_;refine G2 ?_;refine .goto (bl_g (bl_g (at_g (at_g (bl_g (at_g (jm_g ?_)))))));have hf:x.pl.first=some kk:=by rw[hkk];exact first_at hke hk hall (by rw[←hkk,hgo];show B9 x.P ob.2≠0;omega)
   have hst:=settle_no hf hob oM;rw[hst]at hpl1 hpl2;have hol2:(x.drop1 kk).orp.length=(mdel x.orp kk).length:=rfl;have hnl2:(x.drop1 kk).names.length=x.names.length:=rfl;exact⟨(x.drop1 kk,s,bl,l),⟨hx.drop1 kk,hac3,h32l,by simp only;omega,by simp only;omega,hpl1,hpl2⟩,by simp only;omega,An wN (Ab rM (Ab rM (Ab rM (Ab rM (Ab rM (Ab rM (Ad sG (Ad sG (Ad sG (Ad sG (Ad sG Ak)))))))))))⟩
  refine G9 ?_;exact⟨k+1,⟨hk,fun j hj=>by rcases Lg1 (Nat.le_of_lt_succ hj)with h|h;exact hall j h;rw[h,←hkk,hgo];show B9 x.P ob.2=0;rcases judge_cases x.P ob.2 with h9|h9|h9<;>omega⟩,by omega,An wN (Ab rM (Ab rM (Ab rM (Ab rM (Ab rM (Ab rM (Ad sG (Ad sG (Ad sG (Ad sG (Ad sG (Ad sG Ak))))))))))))⟩
 refine G11 ?_;refine .ret (jm_r (en_r (A3 (out:=(⟨p,[ptr p 0,x.nm.v, .map (some x.bE), .map (some x.bH), .map (some x.bO), .map (some x.bP), .map (some x.bW)],86,7⟩::(Az x.bE (Ar 32 evE) x.ent::(Az x.bH (Ar 32 evU) x.hds::(Az x.bO (Ar 32 evB) x.orp::(Az x.bP (placeT 32 evR) x.pls::(Az x.bW (Ar 32 evR) x.wrs::(x.nb++(x.cb++(rbl x.pls++(rbl x.wrs++(bl++[])))))))))))) (Al J J) (Ab rM (Ab rM (Ab rM (Ab rM (Ab rM (Ab rM (Ad sG (Ad sG (Ad sG (Ad sG (Ad sG Ak))))))))))) ?_)));rw[settle_done (first_none hke (by rw[show k=ks.length by omega]at hall;exact hall))]at hpl1 hpl2;exact⟨x,s,bl,l,rfl,(by simp only[DD.blks,Lap,Lal,Lak,La8]),hx,hac3,h32l,hn1,by omega,hpl1,by simpa using hpl2⟩
noncomputable def PD.add(X:PD)(D:DB):PD×List (List UInt8)×Int:=
  if dgood D=0 then
    (if((Au X.orp (Be D)).isSome||(Au X.P (Be D)).isSome)=true then(X,[],8)
     else if B9 X.P D=2 then(X,[],4)
     else if B9 X.P D=0 then(if 64≤X.orp.length then(X,[],7)else({ X with orp:=Bf X.orp (Be D) D },[],0))
     else((PD.settle (X.adm (Be D) D).orp.length (X.adm (Be D) D)).1,Be D::(PD.settle (X.adm (Be D) D).orp.length (X.adm (Be D) D)).2,0))
  else(X,[],dgood D)
theorem add_bad{X:PD}(h:¬dgood D=0):X.add D=(X,[],dgood D):=if_neg h
theorem add_there{X:PD}(h:dgood D=0)(h2:((Au X.orp (Be D)).isSome||(Au X.P (Be D)).isSome)=true):X.add D=(X,[],8):=by unfold PD.add;rw[if_pos h,if_pos h2]
theorem add_wrong{X:PD}(h:dgood D=0)(h2:((Au X.orp (Be D)).isSome||(Au X.P (Be D)).isSome)=false)(h3:B9 X.P D=2):X.add D=(X,[],4):=by unfold PD.add;rw[if_pos h,if_neg (by rw[h2];decide),if_pos h3]
theorem add_full{X:PD}(h:dgood D=0)(h2:((Au X.orp (Be D)).isSome||(Au X.P (Be D)).isSome)=false)(h3:B9 X.P D=0)(h4:64≤X.orp.length):X.add D=(X,[],7):=by unfold PD.add;rw[if_pos h,if_neg (by rw[h2];decide),if_neg oM,if_pos h3,if_pos h4]
theorem add_keep{X:PD}(h:dgood D=0)(h2:((Au X.orp (Be D)).isSome||(Au X.P (Be D)).isSome)=false)(h3:B9 X.P D=0)(h4:¬64≤X.orp.length):X.add D=({ X with orp:=Bf X.orp (Be D) D },[],0):=by unfold PD.add;rw[if_pos h,if_neg (by rw[h2];decide),if_neg oM,if_pos h3,if_neg h4]
theorem add_fits{X:PD}(h:dgood D=0)(h2:((Au X.orp (Be D)).isSome||(Au X.P (Be D)).isSome)=false)(h3:B9 X.P D=1):
    X.add D=((PD.settle (X.adm (Be D) D).orp.length (X.adm (Be D) D)).1,Be D::(PD.settle (X.adm (Be D) D).orp.length (X.adm (Be D) D)).2,0):=by unfold PD.add;rw[if_pos h,if_neg (by rw[h2];decide),if_neg oM,if_neg oM]
theorem good_check(h:dgood D=0):D.check=0:=by
  unfold dgood at h;split at h
  ·assumption
  ·exact h
def DD.hold(x:DD)(o:List Blk):DD:={ x with cb:=x.cb++o }
theorem DD.ok.hold{x:DD}(h:x.ok)(o:List Blk):(x.hold o).ok:={ h with
  ent:=fun p hp=>⟨(h.ent p hp).1,(h.ent p hp).2.1.more fun b hb=>Lax _ hb,(h.ent p hp).2.2⟩
  orp:=fun p hp=>⟨(h.orp p hp).1,(h.orp p hp).2.1.more fun b hb=>Lax _ hb,(h.orp p hp).2.2⟩ }
def DD.wait(x:DD)(n:List UInt8)(B:Block)(D:DB)(o:List Blk):DD:={ x with orp:=Bf x.orp n (B,D),cb:=x.cb++o }
theorem DD.ok.wait{x:DD}(h:x.ok)(h32:n.length=32)(hB:SameB B D)(hi:∀W2,Lies o W2→BlockIs W2 B D)(hl:D.ls.length≤16)(hroom:x.names.length+x.orp.length<20000)(hfew:¬64≤x.orp.length):(x.wait n B D o).ok:={ h with
  orpn:=by
    have:=mput_len x.orp n (B,D);show(Bf x.orp n (B,D)).length≤64;omega
  big:=by
    have:=mput_len x.orp n (B,D);show x.names.length+(Bf x.orp n (B,D)).length≤20000;omega
  ent:=fun p hp=>⟨(h.ent p hp).1,(h.ent p hp).2.1.more fun b hb=>Lax _ hb,(h.ent p hp).2.2⟩
  orp:=fun p hp=>by
    rcases mput_mem hp with hp|rfl
    ·exact⟨(h.orp p hp).1,(h.orp p hp).2.1.more fun b hb=>Lax _ hb,(h.orp p hp).2.2⟩
    ·exact⟨h32,⟨hB,fun W hW=>hi W (hW.sub fun b hb=>Lb6 _ hb)⟩,hl⟩ }
theorem wait_pl(x:DD)(n:List UInt8)(B:Block)(D:DB)(o:List Blk):(x.wait n B D o).pl= { x.pl with orp:=Bf x.pl.orp n D }:=by
  unfold DD.pl DD.wait;simp only;rw[mput_map (fun b:BV=>b.2)];rfl
def AddR(x:DD)(p:Nat)(D:DB)(al:List Blk)(v:Value)(out:List Blk):Prop:=∃(x':DD) (s:Sl) (bl:List Blk),v= .tuple #[s.v,i64 (x.pl.add D).2.2]∧out=x'.blks p++(bl++al)∧x'.ok∧Hw.Acc s bl (Ay (x.pl.add D).2.1) 31 (x.pl.add D).2.1.length 32∧(∀n∈(x.pl.add D).2.1,n.length=32)∧x'.pl=(x.pl.add D).1∧x'.names.length+x'.orp.length≤x.names.length+x.orp.length+1
def SetF(x0:DD)(p:Nat)(s:Sl)(out:List Blk):Prop:=∃(x:DD) (bl:List Blk),out=x.blks p++bl∧x.ok∧Hw.Acc s bl (Ay (PD.settle x0.orp.length x0.pl).2) 31 (PD.settle x0.orp.length x0.pl).2.length 32∧x.names.length+x.orp.length≤x0.names.length+x0.orp.length∧x.pl=(PD.settle x0.orp.length x0.pl).1
def SetL(x0:DD)(p:Nat)(v:Value)(out:List Blk):Prop:=∃s:Sl,v=s.v∧s.n=(PD.settle x0.orp.length x0.pl).2.length∧(s.p=none→s.n=0)∧(PD.settle x0.orp.length x0.pl).2.length≤20000∧(∀n∈(PD.settle x0.orp.length x0.pl).2,n.length=32)∧∀W2,Lies out W2→SetF x0 p s out
theorem settle_len:∀(f:Nat) (X:PD),(PD.settle f X).2.length≤f
  |0,X=>Laf _
  | f +1,X=>by
    unfold PD.settle;cases X.first with
    |none=>exact Laj _
    | some n=>
      simp only;split
      ·simpa using settle_len f _
      ·exact Nat.le_succ_of_le (settle_len f _)
theorem settle_32:∀(f:Nat) (X:PD),(∀p∈X.orp,p.1.length=32)→∀n∈(PD.settle f X).2,n.length=32
  |0,X,_,n,h=>by cases h
  | f + 1,X,hX,n,h=>by
    unfold PD.settle at h;cases hf:X.first with
    |none=>rw[hf]at h;cases h
    | some m=>
      have hd:∀p∈(X.drop1 m).orp,p.1.length=32:=fun p hp=>hX p (mdel_mem hp);rw[hf]at h;simp only at h;split at h
      · rcases Lag.1 h with rfl|h
        · have:=Lf3 hf
          obtain⟨q,hq,e⟩:=La6.1 ((Cm _).mem_iff.1 this);rw[←e];exact hX q hq
        ·exact settle_32 f _ (by exact hd) n h
      ·exact settle_32 f _ hd n h
theorem there_eq(x:DD)(n:List UInt8):((Au x.pl.orp n).isSome||(Au x.pl.P n).isSome)=((Au x.orp n).isSome||(Au x.ent n).isSome):=by
  rw[x.getO,show x.pl.P=x.P from rfl,x.getP,Lfn,Lfn]
theorem addR_err{x:DD}{e:Int}(hx:x.ok)(h:x.pl.add D=(x.pl,[],e)):AddR x p D al (.tuple #[.slice none 0 0,i64 e]) (x.blks p++al):=by
  unfold AddR;rw[h];exact⟨x,Sl.nil,[],rfl,rfl,hx,Acc.none,(fun n (h:n∈([]:List (List UInt8)))=>(by cases h)),rfl,Nat.le_succ _⟩
theorem addR_keep{x:DD}(hx:x.ok)(hB:SameB B D)(hi:∀W2,Lies o W2→BlockIs W2 B D)(hl:D.ls.length≤16)(hroom:x.names.length+x.orp.length<20000)(hfew:¬64≤x.orp.length)
    (h:x.pl.add D=({ x.pl with orp:=Bf x.pl.orp (Be D) D },[],0)):AddR x p D al (.tuple #[.slice none 0 0,i64 0]) ((x.wait (Be D) B D o).blks p++al):=by
  unfold AddR;rw[h];refine⟨x.wait (Be D) B D o,Sl.nil,[],rfl,rfl,hx.wait (nameD_length D) hB hi hl hroom hfew,Acc.none,(fun n (h:n∈([]:List (List UInt8)))=>(by cases h)),wait_pl ..,?_⟩;have:=mput_len x.orp (Be D) (B,D);show x.names.length+(Bf x.orp (Be D) (B,D)).length≤_;omega
theorem addR_fits{x x2 x3:DD}{al bl3 bl:List Blk}(hplx:x2.pl=x.pl.adm (Be D) D)(hol:x2.names.length+x2.orp.length=x.names.length+x.orp.length+1)(hx2:x2.ok)(hx3:x3.ok)(hn3:x3.names.length+x3.orp.length≤x2.names.length+x2.orp.length)(hpl3:x3.pl=(PD.settle x2.orp.length x2.pl).1)
    (h32:∀n∈(PD.settle x2.orp.length x2.pl).2,n.length=32) (hac:Hw.Acc s bl (Aa (Be D)++Ay (PD.settle x2.orp.length x2.pl).2) 31 (1+(PD.settle x2.orp.length x2.pl).2.length) 32)
    (h:x.pl.add D=((PD.settle (x.pl.adm (Be D) D).orp.length (x.pl.adm (Be D) D)).1,Be D::(PD.settle (x.pl.adm (Be D) D).orp.length (x.pl.adm (Be D) D)).2,0)):AddR x p D al (.tuple #[s.v,i64 0]) (x3.blks p++(bl++al)):=by
  have e:(x.pl.adm (Be D) D).orp.length=x2.orp.length:=by rw[←hplx];show(x2.orp.map _).length=_;rw[La0]
  rw[e,←hplx]at h;unfold AddR;rw[h];refine⟨x3,s,bl,rfl,rfl,hx3,?_,?_,hpl3,by omega⟩
  · show Hw.Acc s bl (Ay (Be D::_)) 31 (Be D::_).length 32
    rw[Lbh,Ldp];have e2:∀l:List (List UInt8),Ay (Be D::l)=Aa (Be D)++Ay l:=fun l=>by simp[Ay]
    rw[e2];exact hac
  · intro n hn
    rcases Lag.1 hn with rfl|hn
    ·exact nameD_length D
    ·exact h32 n hn
theorem dag_settleL(x0:DD)(hx0:x0.ok)(p:Nat):Meets prog 87 [ptr p 0] ((x0.blks p).map (·.n)) (fun W=>Lent (x0.blks p) W) (SetL x0 p):=
  (dag_settle x0 hx0 p).imp (fun w h=>h) fun v out ⟨x,s,bl,l,h1,h2,h3,h4,h5,h6,h7,h8,h9⟩=>by
    subst h9;exact⟨s,h1,h4.num,h4.nil,by have:=hx0.big;omega,h5,fun W2 _=>⟨x,bl,h2,h3,h4,h6,h8⟩⟩
theorem no_lieU{n:Nat}(h:Lies [⟨n,[undef],0,0⟩] w):False:=by
  exact lie_none h
theorem SetL.loose(x0:DD)(hx0:x0.ok)(p:Nat)(lent:List Nat):LooseL lent (SetL x0 p):=fun l hl _=>by
  obtain⟨n,_,hn⟩:=fresh_is 0 l;have h32:∀q∈x0.pl.orp,q.1.length=32:=fun q hq=>by
    obtain⟨r,hr,rfl⟩:=La6.1 hq;exact(hx0.orp r hr).1
  refine⟨_,[⟨n,[undef],0,0⟩],⟨⟨some ⟨0,0,none⟩,(PD.settle x0.orp.length x0.pl).2.length,0⟩,rfl,rfl,(fun e=>by cases e),by have:=settle_len x0.orp.length x0.pl;have:=hx0.big;omega,settle_32 _ _ h32,fun W2 h=>(no_lieU h).elim⟩,?_⟩;simp only[Lcd,Lao,Lb0];exact⟨fun h=>by obtain⟨b,hb,e⟩:=La6.1 h;exact hn b hb e,hl⟩
theorem dag_add(x:DD)(hx:x.ok)(p:Nat)(B:Block)(D:DB)(al:List Blk)(hB:Held al B D)(hroom:x.names.length+x.orp.length<20000):Meets prog 42 [ptr p 0,agg B.cells] ((x.blks p++al).map (·.n)) (fun W=>Lent (x.blks p++al) W) (AddR x p D al):=by
 intro W hW;have hbig:=hx.big;have hbd:=hB.2 W (hW.1.sub (fun b hb=>Lb6 _ hb));have hn32:=nameD_length D;generalize hlt:(x.blks p++al).map (·.n)=lt;have AGR:AddR x p D al=AddR x p D al:=rfl;refine calls_of (hp0:=(x.blks p++al)) func42 J 65 ntmps42 J (hlt▸hW.rep) (G2 ?_);simp only[DD.blks,Lap,Lal,La8];refine G1 ?_;intro n3 hn3 hf3;refine G8 ?_;refine .cV J J J J Body45 (dag_valid x p) (fun w h=>DagSee.of h Z1 Z2) ?_;refine G3 ?_;refine .cond_f J J (G5 ?_);refine .lA J J J Y37.h J Sz37 Z0 (Block.length (by exact hB.1.ok)) ?_;refine .cV J J J J Body83 (db_good B D hB.1.ok) (fun w h=>hB.2 w (Lies.of h (by repeat(first|exact in_all|refine Cc ?_|refine in_seg ?_)))) ?_;refine G9 ?_;refine .condNP J (fun hc1=>?_) (fun hc1=>?_)
 ·
  refine G7 ?_;skip;refine G3 ?_;refine A3 (out:=(⟨p,[ptr p 0,x.nm.v, .map (some x.bE), .map (some x.bH), .map (some x.bO), .map (some x.bP), .map (some x.bW)],86,7⟩::(Az x.bE (Ar 32 evE) x.ent::(Az x.bH (Ar 32 evU) x.hds::(Az x.bO (Ar 32 evB) x.orp::(Az x.bP (placeT 32 evR) x.pls::(Az x.bW (Ar 32 evR) x.wrs::(x.nb++(x.cb++(rbl x.pls++(rbl x.wrs++(al++[])))))))))))) (res_tmp2 J J J) (Ab rM (Ab rM (Ab rM (Ab rM (Ab rM (Ab rM (Ad sG (Ad sG (Ad sG (Ad sG (Ad (by repeat(first|exact sg_end|apply sg_there)) Ak))))))))))) ?_;have h9:=addR_err (p:=p) (al:=al) hx (add_bad hc1);simp only[DD.blks,DD.wait,Lap,Lal,Lak,La8]at h9 ⊢;exact h9
 have hgd:dgood D=0:=by omega
 have hck:=good_check hgd;obtain⟨hs1,hs2⟩:=D.head_small hck;refine G4 ?_;refine .lA J J J Y37.h J Sz37 Z0 (Block.length (by exact hB.1.ok)) ?_;refine .cV J J J J Body84 (db_name B D) (fun w h=>hB.2 w (Lies.of h (by repeat(first|exact in_all|refine Cc ?_|refine in_seg ?_)))) ?_;refine .alloc (cs:=(Aa (List.replicate 32 0))) J Zr31 J ?_;intro n7 hn7 hf7;refine .sA J J J J zE Sz31 (by(rw[Aa,La0];assumption)) Z0 sP zU ?_;refine G4 ?_;refine .draw (oPq [0,1,2,103,104,105,6,7,8,209,410,11]) Ap zK (G4 ?_);refine .lA J J J Y31.h J Sz31 Z0 (by(rw[Aa,La0];assumption)) ?_;refine .lookF evB MO J J J J hn32 (by exact mem5) (fun hg=>?_) (fun e hg=>?_)
 ·
  skip;refine G3 ?_;refine .alloc (cs:=Block.zero.cells) J Block.zr J ?_;intro n8 hn8 hf8;refine G9 ?_;refine .lA J J J Y31.h J Sz31 Z1 (by(rw[Aa,La0];assumption)) ?_;refine .cV J J J J Body59 (dag_has x hx p (Be D) hn32) (fun w h=>DagSee.of h Z3 Z4) ?_;refine G3 ?_;refine .cond J (fun hc2=>?_) (fun hc2=>?_)
  ·
   refine G6 ?_;skip;refine G3 ?_;refine A3 (out:=(⟨p,[ptr p 0,x.nm.v, .map (some x.bE), .map (some x.bH), .map (some x.bO), .map (some x.bP), .map (some x.bW)],86,7⟩::(Az x.bE (Ar 32 evE) x.ent::(Az x.bH (Ar 32 evU) x.hds::(Az x.bO (Ar 32 evB) x.orp::(Az x.bP (placeT 32 evR) x.pls::(Az x.bW (Ar 32 evR) x.wrs::(x.nb++(x.cb++(rbl x.pls++(rbl x.wrs++(al++[])))))))))))) (res_tmp2 J J J) (Ab rM (Ab rM (Ab rM (Ab rM (Ab rM (Ab rM (Ad sG (Ad sG (Ad sG (Ad sG (Ad (by repeat(first|exact sg_end|apply sg_there)) Ak))))))))))) ?_;have h9:=addR_err (p:=p) (al:=al) hx (add_there hgd (by rw[there_eq,hg,hc2];rfl));simp only[DD.blks,DD.wait,Lap,Lal,Lak,La8]at h9 ⊢;exact h9
  refine G6 ?_;refine .lA J J J Y37.h J Sz37 Z2 (Block.length (by exact hB.1.ok)) ?_;refine .cV J J J J Body85 (dag_judge x hx p B D hB.1 oM) (fun w h=>⟨DagSee.of h Z3 Z4,hB.2 w (Lies.of h (by repeat(first|exact in_all|refine Cc ?_|refine in_seg ?_)))⟩) ?_;refine G9 ?_;refine .condP J (fun hc3=>?_) (fun hc3=>?_)
  ·
   refine G6 ?_;skip;refine G4 ?_;refine A3 (out:=(⟨p,[ptr p 0,x.nm.v, .map (some x.bE), .map (some x.bH), .map (some x.bO), .map (some x.bP), .map (some x.bW)],86,7⟩::(Az x.bE (Ar 32 evE) x.ent::(Az x.bH (Ar 32 evU) x.hds::(Az x.bO (Ar 32 evB) x.orp::(Az x.bP (placeT 32 evR) x.pls::(Az x.bW (Ar 32 evR) x.wrs::(x.nb++(x.cb++(rbl x.pls++(rbl x.wrs++(al++[])))))))))))) (res_tmp2 J J J) (Ab rM (Ab rM (Ab rM (Ab rM (Ab rM (Ab rM (Ad sG (Ad sG (Ad sG (Ad sG (Ad (by repeat(first|exact sg_end|apply sg_there)) Ak))))))))))) ?_;have h9:=addR_err (p:=p) (al:=al) hx (add_wrong hgd (by rw[there_eq,hg,hc2];rfl) hc3);simp only[DD.blks,DD.wait,Lap,Lal,Lak,La8]at h9 ⊢;exact h9
  refine G6 ?_;refine .condP J (fun hc4=>?_) (fun hc4=>?_)
  ·
   refine G7 ?_;refine .lenMap Y82.h J J J (by exact mem6) ?_;refine G3 ?_;refine .condP J (fun hc5=>?_) (fun hc5=>?_)
   ·
    refine G6 ?_;skip;refine G5 ?_;refine A3 (out:=(⟨p,[ptr p 0,x.nm.v, .map (some x.bE), .map (some x.bH), .map (some x.bO), .map (some x.bP), .map (some x.bW)],86,7⟩::(Az x.bE (Ar 32 evE) x.ent::(Az x.bH (Ar 32 evU) x.hds::(Az x.bO (Ar 32 evB) x.orp::(Az x.bP (placeT 32 evR) x.pls::(Az x.bW (Ar 32 evR) x.wrs::(x.nb++(x.cb++(rbl x.pls++(rbl x.wrs++(al++[])))))))))))) (res_tmp2 J J J) (Ab rM (Ab rM (Ab rM (Ab rM (Ab rM (Ab rM (Ad sG (Ad sG (Ad sG (Ad sG (Ad (by repeat(first|exact sg_end|apply sg_there)) Ak))))))))))) ?_;have h9:=addR_err (p:=p) (al:=al) hx (add_full hgd (by rw[there_eq,hg,hc2];rfl) hc4 (by show 64≤(x.orp.map _).length;rw[La0];omega));simp only[DD.blks,DD.wait,Lap,Lal,Lak,La8]at h9 ⊢;exact h9
   refine G3 ?_;refine .draw (oPq [0,1,2,103,104,105,306,407]) Ap zK (G4 ?_);refine .lA J J J Y31.h J Sz31 Z1 (by(rw[Aa,La0];assumption)) ?_;refine .lA J J J Y37.h J Sz37 Z2 (Block.length (by exact hB.1.ok)) ?_;refine .call J J J J Body52 (dag_clone B D hB.1 oM oM) (BlkV.loose D hbd.dok) (fun w h=>hB.2 w (Lies.of h (by repeat(first|exact in_all|refine Cc ?_|refine in_seg ?_)))) ?_;rintro v54 out54 ⟨B2,hB2,rfl,hbi⟩;refine .mapPut (v:=((B2,D):BV)) MO J J J J J hn32 rM ?_;refine G8 ?_;skip;refine G4 ?_;refine A3 (out:=(⟨p,[ptr p 0,x.nm.v, .map (some x.bE), .map (some x.bH), .map (some x.bO), .map (some x.bP), .map (some x.bW)],86,7⟩::(Az x.bE (Ar 32 evE) x.ent::(Az x.bH (Ar 32 evU) x.hds::(Az x.bO (Ar 32 evB) (Bf x.orp (Be D) (B2,D))::(Az x.bP (placeT 32 evR) x.pls::(Az x.bW (Ar 32 evR) x.wrs::(x.nb++(x.cb++(out54++(rbl x.pls++(rbl x.wrs++(al++[]))))))))))))) (res_tmp2 J J J) (Ab rM (Ab rM (Ab rM (Ab rM (Ab rM (Ab rM (Ad sG (Ad sG (Ad sG (Ad sG (Ad sG (Ad (by repeat(first|exact sg_end|apply sg_there)) Ak)))))))))))) ?_;have h9:=addR_keep (p:=p) (al:=al) hx hB2 hbi oM hroom oM (add_keep hgd (by rw[there_eq,hg,hc2];rfl) hc4 (by show ¬64≤(x.orp.map _).length;rw[La0];omega));simp only[DD.blks,DD.wait,Lap,Lal,Lak,La8]at h9 ⊢;exact h9
  refine G3 ?_;refine .join (ι:=Unit×DD) (fun j=>⟨[(0,ptr p 0),(7,ptr n7 0)],(⟨n7,Aa (Be D),31,32⟩::(⟨p,[ptr p 0,j.2.nm.v, .map (some j.2.bE), .map (some j.2.bH), .map (some j.2.bO), .map (some j.2.bP), .map (some j.2.bW)],86,7⟩::(Az j.2.bE (Ar 32 evE) j.2.ent::(Az j.2.bH (Ar 32 evU) j.2.hds::(Az j.2.bO (Ar 32 evB) j.2.orp::(Az j.2.bP (placeT 32 evR) j.2.pls::(Az j.2.bW (Ar 32 evR) j.2.wrs::(j.2.nb++(j.2.cb++(rbl j.2.pls++(rbl j.2.wrs++(al++[]))))))))))))⟩) (fun j=>j.2.ok∧j.2.pl=x.pl.adm (Be D) D∧j.2.names.length=x.names.length+1∧j.2.orp.length=x.orp.length) ?_ ?_
  ·
   refine .draw (oPq [0,101,102,303,404]) Ap zK (G1 ?_);refine .lA J J J Y31.h J Sz31 Z1 (by(rw[Aa,La0];assumption)) ?_;refine .lA J J J Y37.h J Sz37 Z2 (Block.length (by exact hB.1.ok)) ?_;refine .call J J J J Body52 (dag_clone B D hB.1 oM oM) (BlkV.loose D hbd.dok) (fun w h=>hB.2 w (Lies.of h (by repeat(first|exact in_all|refine Cc ?_|refine in_seg ?_)))) ?_;rintro v58 out58 ⟨B2,hB2,rfl,hbi⟩;refine .callL (L:=((x.hold out58).blks p)) J J J J J Body86 (dag_admit2 (x.hold out58) (hx.hold out58) p (Be D) hn32 B2 D ⟨hB2,fun W hW=>hbi W (hW.sub fun b hb=>Lb6 _ hb)⟩ oM hroom) (Ab rM (Ab rM (Ab rM (Ab rM (Ab rM (Ab rM (Ad sG (pm_two (Ad sG (Ad sG (Ad sG (Ad sG Ak)))))))))))) (lent_ok J) (fun w h=>Lent.of h (Ab rM (Ab rM (Ab rM (Ab rM (Ab rM (Ab rM (Ad sG (pm_two (Ad sG (Ad sG (Ad sG (Ad sG Ak))))))))))))) ?_;rintro v59 out59 ⟨rfl,x2,rfl,hx2,hplx,hnlx,holx⟩;simp only[DD.blks,Lap,Lal,La8];refine G2 ?_;exact⟨((),x2),⟨hx2,hplx,hnlx,holx⟩,An wN (Ab rM (Ab rM (Ab rM (Ab rM (Ab rM (Ab rM (Ab rM (Ad sG (Ad sG (Ad sG (Ad sG (Ad (by repeat(first|exact sg_end|apply sg_there)) Ak))))))))))))⟩
  intro j hj;obtain⟨j0,x2⟩:=j;simp only at hj ⊢;obtain⟨hx2,hplx,hnlx,holx⟩:=hj;refine .seq (.withK (sp_k (sp_v (sp_v (sp_v (sp_v (sp_v (sp_v (sp_x (sp_x (sp_x (sp_x (sp_x sp_n)))))))))))) J (.draw (oPq [0,2,503,201,404,5,6]) Ap zK (.kloadAll J J J Y31.h J Sz31 Z0 (by(rw[Aa,La0];assumption)) ?_)));refine G1 ?_;refine .callL5 (L:=(x2.blks p)) J J J J J Body87 (dag_settleL x2 hx2 p) (SetL.loose x2 hx2 p _) (Ab rM (Ab rM (Ab rM (Ab rM (Ab rM (Ab rM (Ad sG (Ad sG (Ad sG (Ad sG Ak)))))))))) (lent_ok J) (fun w h=>Lent.of h (Ab rM (Ab rM (Ab rM (Ab rM (Ab rM (Ab rM (Ad sG (Ad sG (Ad sG (Ad sG Ak))))))))))) ?_;rintro v63 out63 ⟨⟨p63,n63,c63⟩,rfl,hn63,hnil63,hle63,h3263,hsf⟩;refine .mkRow2 (z:=agg (Aa (List.replicate 32 0))) [agg (Aa (Be D))] (Aa (Be D)) J J Y32.h Sz31 Zr31 J J (by intro v hv;rw[La1.1 hv];simp[Value.cells,Aa,hn32]) dE (by simp[Value.cells,agg]) ?_;intro q61;refine .appendAcc (n:=1) (z:=agg (Aa (List.replicate 32 0))) (by':=32) (Ay (PD.settle x2.orp.length x2.pl).2) J J J J J Y32.h Y32.h Sz31 Zr31 (by unfold By;kernel_rfl) J (Acc.some (cells:=Aa (Be D)) (Laf 1) (by rw[Aa,La0,hn32])) (pm_consE rM J (by rw[Aa,La0,hn32]) Ak) (fun w h=>by have hL:Lies out63 w:=Lies.of h (by repeat(first|exact Bu|refine Cc ?_));obtain⟨x3,bl3,e3,hx3,hac3,hr3⟩:=hsf w hL;exact hac3.see (hL.sub (fun b hb=>by rw[e3];exact Lb6 _ hb))) hnil63 (flatB_cell _) oM oM (by rw[A1 h3263,←hn63]) ?_;intro s64 bl64 hac64;refine G4 ?_;simp only[Lap,Lal,Lak,La8];refine .know (fun w h=>hsf w (Lies.of h (by repeat(first|exact Bu|refine in_seg ?_)))) (fun hF=>?_);obtain⟨x3,bl3,rfl,hx3,hac3,hr3,hpl3⟩:=hF;simp only[DD.blks,Lap,Lal,La8];refine G2 ?_;refine A3 (out:=(⟨p,[ptr p 0,x3.nm.v, .map (some x3.bE), .map (some x3.bH), .map (some x3.bO), .map (some x3.bP), .map (some x3.bW)],86,7⟩::(Az x3.bE (Ar 32 evE) x3.ent::(Az x3.bH (Ar 32 evU) x3.hds::(Az x3.bO (Ar 32 evB) x3.orp::(Az x3.bP (placeT 32 evR) x3.pls::(Az x3.bW (Ar 32 evR) x3.wrs::(x3.nb++(x3.cb++(rbl x3.pls++(rbl x3.wrs++(bl64++(al++[]))))))))))))) (res_tmp2 J J J) (Ab (by repeat(first|exact A7|apply Cs)) (Ab (by repeat(first|exact A7|apply Cs)) (Ab (by repeat(first|exact A7|apply Cs)) (Ab (by repeat(first|exact A7|apply Cs)) (Ab (by repeat(first|exact A7|apply Cs)) (Ab (by repeat(first|exact A7|apply Cs)) (Ad (by repeat(first|exact sg_here|apply sg_seg)) (Ad (by repeat(first|exact sg_here|apply sg_seg)) (Ad (by repeat(first|exact sg_here|apply sg_seg)) (Ad (by repeat(first|exact sg_here|apply sg_seg)) (Ad sG (Ad (by repeat(first|exact sg_here|apply sg_seg)) Ak)))))))))))) ?_
  have h9:=addR_fits (p:=p) (al:=al) (bl3:=bl3) hplx oM hx2 hx3 hr3 hpl3 h3263 (by rw[←hn63];exact hac64) (add_fits hgd (by rw[there_eq,hg,hc2];rfl) (by rcases judge_cases x.P D with h8|h8|h8<;>first|exact h8|exact absurd h8 zA));simp only[DD.blks,DD.wait,Lap,Lal,Lak,La8]at h9 ⊢;exact h9
 skip;refine G3 ?_;refine .alloc (cs:=Block.zero.cells) J Block.zr J ?_;intro n8 hn8 hf8;refine .sA J J J J (Block.isCell (by exact hx.orpOk hg)) Sz37 (Block.length (by exact hx.orpOk hg)) Z0 (Block.length (by exact Block.zero_ok)) zU ?_;refine G13 ?_;refine .cond_t J J (G6 ?_);skip;refine G3 ?_;refine A3 (out:=(⟨p,[ptr p 0,x.nm.v, .map (some x.bE), .map (some x.bH), .map (some x.bO), .map (some x.bP), .map (some x.bW)],86,7⟩::(Az x.bE (Ar 32 evE) x.ent::(Az x.bH (Ar 32 evU) x.hds::(Az x.bO (Ar 32 evB) x.orp::(Az x.bP (placeT 32 evR) x.pls::(Az x.bW (Ar 32 evR) x.wrs::(x.nb++(x.cb++(rbl x.pls++(rbl x.wrs++(al++[])))))))))))) (res_tmp2 J J J) (Ab rM (Ab rM (Ab rM (Ab rM (Ab rM (Ab rM (Ad sG (Ad sG (Ad sG (Ad sG (Ad (by repeat(first|exact sg_end|apply sg_there)) Ak))))))))))) ?_;have h9:=addR_err (p:=p) (al:=al) hx (add_there hgd (by rw[there_eq,hg];rfl));simp only[DD.blks,DD.wait,Lap,Lal,Lak,La8]at h9 ⊢;exact h9
theorem DD.m0(x:DD)(p:Nat):(⟨p,[ptr p 0,x.nm.v, .map (some x.bE), .map (some x.bH), .map (some x.bO), .map (some x.bP), .map (some x.bW)],86,7⟩:Blk)∈x.blks p:=by unfold DD.blks;exact La9
theorem DD.mE(x:DD)(p:Nat):Az x.bE (Ar 32 evE) x.ent∈x.blks p:=by unfold DD.blks;exact mem1
theorem DD.mO(x:DD)(p:Nat):Az x.bO (Ar 32 evB) x.orp∈x.blks p:=by unfold DD.blks;exact mem3
theorem DD.mP(x:DD)(p:Nat):Az x.bP (placeT 32 evR) x.pls∈x.blks p:=by unfold DD.blks;exact mem4
theorem DD.mW(x:DD)(p:Nat):Az x.bW (Ar 32 evR) x.wrs∈x.blks p:=by unfold DD.blks;exact mem5
theorem DD.mcb(x:DD)(p:Nat):∀b∈x.cb,b∈x.blks p:=by unfold DD.blks;exact(by repeat(first|exact Bu|refine Cc ?_|refine in_seg ?_))
theorem DD.mnb(x:DD)(p:Nat):∀b∈x.nb,b∈x.blks p:=by unfold DD.blks;exact(by repeat(first|exact Bu|refine Cc ?_))
theorem DagSee.lies{x:DD}(h:Lies (x.blks p) W):DagSee x p W:=⟨h _ (x.m0 p),h _ (x.mE p)⟩
theorem lies_keep{hp L:List Blk}(h:Lies L C.W0)(hh:HRep C hp w)(hl:C.lent=[]:=by rfl):Lies L w:=fun b hb=>mblk_keep (h b hb) hh hl
def ddp(l:List (List UInt8)):List (List UInt8):=l.foldr (fun a acc=>if a∈acc then acc else a::acc) []
theorem mem_ddp{a:List UInt8}:∀ {l:List (List UInt8)},a∈ddp l↔a∈l
  | []=>Iff.rfl
  | b ::l=>by
    have ih:= @mem_ddp a l;show a∈(if b∈ddp l then ddp l else b::ddp l)↔_;split
    · rename_i h
      rw[ih,Lag];exact⟨.inr,fun h2=>by rcases h2 with rfl|h2;exact ih.1 h;exact h2⟩
    ·rw[Lag,Lag,ih]
theorem ddp_nodup:∀l,(ddp l).Nodup
  | []=>Lbv
  | b::l=>by
    show(if b∈ddp l then ddp l else b::ddp l).Nodup;split
    ·exact ddp_nodup l
    ·rename_i h;exact Lb0.2 ⟨h,ddp_nodup l⟩
def PD.lacks(X:PD)(n:List UInt8):Bool:= !(Au X.orp n).isSome&& !(Au X.P n).isSome
def PD.missing(X:PD):List (List UInt8):=isort (ddp (((X.orp.map fun p=>Cp p.2).flatten).filter X.lacks))
def PD.orphans(X:PD):List (List UInt8):=isort (X.orp.map (·.1))
theorem keys_put(fs:List (List UInt8×ν))(k:List UInt8)(v:ν)(n:List UInt8):n∈(Bf fs k v).map (·.1)↔n∈fs.map (·.1)∨n=k:=by
  have key:∀j,midx fs k=some j→(fs.set j (k,v)).map (·.1)=fs.map (·.1)∧k∈fs.map (·.1):=fun j h=>by
    unfold midx at h;rw[Lbu]at h;obtain⟨hl,he,_⟩:=h;have e:fs[j].1=k:=by simpa using he
    refine⟨?_,La6.2 ⟨fs[j],Lc9 hl,e⟩⟩;rw[Ldq];refine Lci fun i=>?_;rw[Lcn];split
    · rename_i hij
      subst hij;rw[if_pos (by simpa using hl),Lai,La4 hl];simp[e]
    ·rfl
  unfold Bf;cases h:midx fs k with
  | some j=>
    simp only;rw[(key j h).1];exact⟨.inl,fun h2=>by rcases h2 with h2|rfl;exact h2;exact(key j h).2⟩
  |none=>simp only[Lae,Lao,Let,Lac,La1]
structure MissI(x:DD)(done todo:List (List UInt8×BV))(ms:List (List UInt8×Unit)):Prop where
  perm:(done++todo).Perm x.orp
  r32:∀q∈ms,q.1.length=32
  nd:(ms.map (·.1)).Nodup
  len:ms.length+17*todo.length≤17*x.orp.length
  keys:∀n,n∈ms.map (·.1)↔∃q∈done,n∈Cp q.2.2∧x.pl.lacks n=true
structure MissJ(x:DD)(L:List (List UInt8))(k:Nat)(ms ms2:List (List UInt8×Unit)):Prop where
  r32:∀q∈ms2,q.1.length=32
  nd:(ms2.map (·.1)).Nodup
  len:ms2.length≤ms.length+k
  keys:∀n,n∈ms2.map (·.1)↔n∈ms.map (·.1)∨(n∈L.take k∧x.pl.lacks n=true)
theorem lacks_eq(x:DD)(n:List UInt8):x.pl.lacks n=(!(Au x.orp n).isSome&& !(Au x.ent n).isSome):=by
  unfold PD.lacks;rw[x.getO,show x.pl.P=x.P from rfl,x.getP,Lfn,Lfn]
theorem MissJ.yes{x:DD}(h:MissJ x L k ms ms2)(hk:k<L.length)(hkk:kk=L.getD k [])(h32:kk.length=32)(hl:x.pl.lacks kk=true):MissJ x L (k+1) ms (Bf ms2 kk ()) where
  r32:=fun q hq=>by rcases mput_mem hq with hq|rfl;exact h.r32 q hq;exact h32
  nd:=mput_nodup h.nd kk ()
  len:=by have:=mput_len ms2 kk ();have:=h.len;omega
  keys:=fun n=>by
    rw[keys_put,h.keys,take_one hk hkk,Lac,La1];constructor
    · rintro((h1|h1)|rfl)
      ·exact .inl h1
      ·exact .inr ⟨.inl h1.1,h1.2⟩
      ·exact .inr ⟨.inr rfl,hl⟩
    · rintro(h1|⟨h1|rfl,h2⟩)
      ·exact .inl (.inl h1)
      ·exact .inl (.inr ⟨h1,h2⟩)
      ·exact .inr rfl
theorem MissJ.no{x:DD}(h:MissJ x L k ms ms2)(hk:k<L.length)(hkk:kk=L.getD k [])(hl:x.pl.lacks kk=false):MissJ x L (k+1) ms ms2 where
  r32:=h.r32
  nd:=h.nd
  len:=by have:=h.len;omega
  keys:=fun n=>by
    rw[h.keys,take_one hk hkk,Lac,La1];constructor
    · rintro(h1|h1)
      ·exact .inl h1
      ·exact .inr ⟨.inl h1.1,h1.2⟩
    · rintro(h1|⟨h1|rfl,h2⟩)
      ·exact .inl h1
      ·exact .inr ⟨h1,h2⟩
      ·rw[hl]at h2;cases h2
theorem MissI.next{x:DD}{done todo:List (List UInt8×BV)}{j:Nat}{q:List UInt8×BV}(h:MissI x done todo ms)(hj:todo[j]? =some q)(hJ:MissJ x (Cp q.2.2) (Cp q.2.2).length ms ms2)(hl:(Cp q.2.2).length≤17):MissI x (done++[q]) (todo.eraseIdx j) ms2 where
  perm:=perm_step h.perm hj
  r32:=hJ.r32
  nd:=hJ.nd
  len:=by
    have h1:=hJ.len;have h2:=h.len;have h3:=(Lab.1 hj).1;rw[Ldl,if_pos h3];omega
  keys:=fun n=>by
    rw[hJ.keys,h.keys,Ldh];constructor
    · rintro(⟨r,hr,h1⟩|h1)
      ·exact⟨r,Lax _ hr,h1⟩
      ·exact⟨q,Lb6 _ (La1.2 rfl),h1⟩
    · rintro⟨r,hr,h1⟩
      rcases Lac.1 hr with hr|hr
      ·exact .inl ⟨r,hr,h1⟩
      ·rw[La1.1 hr]at h1;exact .inr h1
theorem MissI.fin{x:DD}(h:MissI x done [] ms)(hp:ks.Perm (ms.map (·.1)))(hs:SortB ks):ks=x.pl.missing:=by
  unfold PD.missing;refine isort_eq (hp.trans ((List.perm_ext_iff_of_nodup h.nd (ddp_nodup _)).2 fun n=>?_)) hs;rw[mem_ddp,h.keys,Ld2,Lcu];have hm:∀q,q∈done↔q∈x.orp:=fun q=>by have:=h.perm.mem_iff (a:=q);rwa[Lak]at this
  constructor
  · rintro⟨q,hq,h1,h2⟩
    exact⟨⟨Cp q.2.2,La6.2 ⟨(q.1,q.2.2),La6.2 ⟨q,(hm q).1 hq,rfl⟩,rfl⟩,h1⟩,h2⟩
  · rintro⟨⟨l,hl,h1⟩,h2⟩
    obtain⟨r,hr,rfl⟩:=La6.1 hl;obtain⟨q,hq,rfl⟩:=La6.1 hr;exact⟨q,(hm q).2 hq,h1,h2⟩
theorem dag_orphans(x:DD)(hx:x.ok)(p:Nat):Meets prog 13 [ptr p 0] [] (fun W=>Lies (x.blks p) W) (RowA x.pl.orphans):=by
 intro W hW;refine Ac func13 J 11 ntmps13 J (G9 ?_);refine .cV J J J J Body45 (dag_valid x p) (fun w h=>DagSee.ext h (DagSee.lies hW)) (G3 ?_);refine .cond_f J J (G7 ?_);refine .loadE J J J Y82.h J sP ((DagSee.lies hW).at (o:=4) J) (.call4 J J J J J Body57 (dag_sortedB MO x.bO x.orp (fun p hp=>(hx.orp p hp).1) (by have:=hx.big;omega)) (fun w h=>mblk_keep (hW _ (x.mO p)) h) ?_);rintro v10 out10 ⟨s10,ks,hkp,hks,rfl,hac⟩;obtain rfl:ks=x.pl.orphans:=isort_eq (by rw[orp_keys];exact hkp) hks;refine G3 ?_;refine G2 ?_;refine A3 (out:=(out10++[])) (Al J J) (Ad sG Ak) ?_;exact⟨s10,rfl,by simpa using hac⟩
theorem dag_missing(x:DD)(hx:x.ok)(p:Nat):Meets prog 15 [ptr p 0] [] (fun W=>Lies (x.blks p) W) (RowA x.pl.missing):=by
 intro W hW;obtain⟨es,clock,hb,F⟩:=(hW _ (x.mO p)).map;have hbig:=hx.orpn;refine Ac func15 J 53 ntmps15 J (G9 ?_);refine .cV J J J J Body45 (dag_valid x p) (fun w h=>DagSee.ext h (DagSee.lies hW)) (G3 ?_);refine .cond_f J J (G4 ?_);refine .mkMap (Ar 32 evU) J J ?_;intro m3;refine G9 ?_;refine .loadE J J J Y82.h J sP ((DagSee.lies hW).at (o:=4) J) (.rangeMapC Y82.h hb sP J J J J ?_);intro q18;refine G3 ?_;refine .loop (ι:=Array Nat×List (List UInt8×BV)×List (List UInt8×BV)×List (List UInt8×Unit)) (fun q=>⟨[(0,ptr p 0),(3, .map (some m3)),(18,ptr q18 0)],[iblk q18 x.bO clock q.1,Az m3 (Ar 32 evU) q.2.2.2]⟩) (fun q=>ItOk (Ar 32 evB) es q.1 q.2.2.1∧MissI x q.2.1 q.2.2.1 q.2.2.2) (fun q=>q.2.2.1.length) ((#[],[],x.orp,[])) ?_ ?_ ?_
 ·exact⟨ItOk.start F,⟨Lcb _,fun q h=>(by cases h),Lbv,by simp,fun n=>by simp⟩⟩
 ·exact An wN (Ab rM (Ab rM Ak))
 rintro q ⟨hi,hI⟩;refine G2 ?_;refine .nextMapC F hi hb sP J J J J rM ?_ ?_
 ·
  intro htd;refine G4 ?_;refine .cond_f J J (G7 ?_);rw[htd]at hI;have hj9:=hI;refine G1 ?_;refine .call4 J J J J J Body60 (dag_sortedU MH m3 q.2.2.2 hj9.r32 (by have:=hj9.len;omega)) (fun w h=>h.cells _ Z0) ?_;rintro v52 out52 ⟨s52,ks,hkp,hks,rfl,hac⟩;obtain rfl:=hj9.fin hkp hks;refine G3 ?_;refine G2 ?_;refine A3 (out:=(out52++[])) (Al J J) (Ad sG Ak) ?_;exact⟨s52,rfl,by simpa using hac⟩
 intro j k0 v seen2 hj hit hat;have hmem:(k0,v)∈x.orp:=hI.perm.mem_iff.1 (Lb6 _ (Lbs hj));have hvo:=hx.orp _ hmem;simp only at hvo;have hrow:=parL_row (hvo.2.1.2 W (hW.sub (x.mcb p))).dok;refine G4 ?_;refine .cond_t J J (G5 ?_);refine .entryMapC F hat hb sP J J J Z0 ?_;refine G1 ?_;refine .alloc (cs:=Block.zero.cells) J Block.zr J ?_;intro n5 hn5 hf5;refine .sA J J J J (Block.isCell (by exact hvo.2.1.1.ok)) Sz37 (Block.length (by exact hvo.2.1.1.ok)) Z0 (Block.length (by exact Block.zero_ok)) zU ?_;refine G4 ?_;refine .lA J J J Y37.h J Sz37 Z0 (Block.length (by exact hvo.2.1.1.ok)) ?_;refine .call4 J J J J J Body58 (db_parA v.1 v.2 oM) (fun w h=>hvo.2.1.2 w ((lies_keep hW h).sub (x.mcb p))) ?_;rintro v24 out24 ⟨s24,rfl,hac⟩;have hn24:s24.n=(Cp v.2).length:=hac.num;have hp17:(Cp v.2).length≤17:=by have:=parL_len v.2;omega
 refine G5 ?_;refine .loop (ι:=Nat×List (List UInt8×Unit)) (fun r=>⟨[(0,ptr p 0),(3, .map (some m3)),(18,ptr q18 0),(24,s24.v),(25,i64 (s24.n:Int)),(26,i64 (r.1:Int))],(iblk q18 x.bO clock seen2::(Az m3 (Ar 32 evU) r.2::(out24++[])))⟩) (fun r=>r.1≤(Cp v.2).length∧MissJ x (Cp v.2) r.1 q.2.2.2 r.2) (fun r=>(Cp v.2).length-r.1) ((0,q.2.2.2)) ?_ ?_ ?_
 ·exact⟨Laj _,⟨hI.r32,hI.nd,Laf _,fun n=>by simp⟩⟩
 ·exact An wN (Ab rM (Ab rM (Ad sG Ak)))
 rintro⟨k,ms2⟩ ⟨hk0,hJ⟩;simp only at hk0 hJ ⊢;refine G6 ?_;refine .condP J (fun hc2=>?_) (fun hc2=>?_)
 ·
  refine G6 ?_;have hk:k<(Cp v.2).length:=by omega
  have hkb:k≤600000:=by omega
  rcases hac with ⟨_,_,_,h0⟩|⟨qr,cr,rfl,hnc,hfl,rfl⟩
  ·exfalso;omega
  obtain⟨kk,hkk⟩:∃kk,kk=(Cp v.2).getD k []:=⟨_,rfl⟩;have h32k:kk.length=32:=by rw[hkk,La2,La4 hk];exact hrow _ (Lc9 hk)
  refine .idxSlP 32 J J J J J Y32.h Sz31 k J oM (.loadSN (n:=32) (Aa kk) J J J Y31.h J Sz31 (by rw[Aa,La0];exact h32k) (fun w h=>by rw[hkk];simpa using sees_row hrow (Aq h Z2) hk) ?_);refine .alloc (cs:=(Aa (List.replicate 32 0))) J Zr31 J ?_;intro n7 hn7 hf7;refine .sA J J J J zE Sz31 (by(rw[Aa,La0];assumption)) Z0 sP zU ?_;refine G3 ?_;refine .draw (oPq [0,1,2,103,104,105,6,7,8,209,410,11]) Ap zK (G3 ?_);refine .loadE J J J Y82.h J sP ((DagSee.lies hW).at (o:=4) J) (.lA J J J Y31.h J Sz31 Z0 (by(rw[Aa,La0];assumption)) ?_);refine .lookFC evB MO (hW _ (x.mO p)) sP J J J J h32k (fun hg=>?_) (fun e hg=>?_)
  ·
   skip;refine G3 ?_;refine .alloc (cs:=Block.zero.cells) J Block.zr J ?_;intro n8 hn8 hf8;refine G10 ?_;refine .lA J J J Y31.h J Sz31 Z1 (by(rw[Aa,La0];assumption)) ?_;refine .cV J J J J Body59 (dag_has x hx p kk h32k) (fun w h=>DagSee.ext h (DagSee.lies hW)) (G4 ?_);refine .cond J (fun hc3=>?_) (fun hc3=>?_)
   ·
    refine G2 ?_;refine .lA J J J Y31.h J Sz31 Z1 (by(rw[Aa,La0];assumption)) ?_;refine .build (cs:=[]) J J J (fun w=>by kernel_rfl) ?_;refine .mapPut (v:=()) MH J J J J J h32k rM ?_;refine G8 ?_;exact⟨(k+1,Bf ms2 kk ()),⟨hk,hJ.yes hk hkk h32k (by rw[lacks_eq,hg];simpa using hc3)⟩,by simp only;omega,An wN (Ab rM (Ab rM (Ad sG Ak)))⟩
   refine G8 ?_;exact⟨(k+1,ms2),⟨hk,hJ.no hk hkk (by rw[lacks_eq,hg];simpa using hc3)⟩,by simp only;omega,An wN (Ab rM (Ab rM (Ad sG Ak)))⟩
  skip;refine G3 ?_;refine .alloc (cs:=Block.zero.cells) J Block.zr J ?_;intro n8 hn8 hf8;refine .sA J J J J (Block.isCell (by exact hx.orpOk hg)) Sz37 (Block.length (by exact hx.orpOk hg)) Z0 (Block.length (by exact Block.zero_ok)) zU ?_;refine G15 ?_;refine .cond_f J J (G8 ?_);exact⟨(k+1,ms2),⟨hk,hJ.no hk hkk (by rw[lacks_eq,hg];rfl)⟩,by simp only;omega,An wN (Ab rM (Ab rM (Ad sG Ak)))⟩
 refine G6 ?_;exact⟨(seen2,q.2.1++[(k0,v)],q.2.2.1.eraseIdx j,ms2),⟨hit,hI.next hj (by rw[show(Cp v.2).length=k by omega];exact hJ) hp17⟩,by have h8:=(Lab.1 hj).1;simp only[Ldl,h8,if_true];omega,An wN (Ab rM (Ab rM Ak))⟩
end Go.Proofs.YtbdfihcjddbhaaaGreat
namespace Go.Proofs.YtbdfihcjddbhaaaGreat
open Go Hw Ed
def affX(n:Nat):Nat:=force (fastN n) fun s=>ux s*pwm PF 256 (uz s%PF) (PF-2)%PF
def affY(n:Nat):Nat:=force (fastN n) fun s=>uy s*pwm PF 256 (uz s%PF) (PF-2)%PF
theorem fast_at{n X Y:Nat}(hn:n<2^256)(hx:affX n=X)(hy:affY n=Y):cv.mul n bP=⟨fe X,fe Y⟩:=by
  refine fastN_pt hn ?_ ?_
  ·rw[←hx,affX,force_eq,fe_mod,fe_mul];rfl
  ·rw[←hy,affY,force_eq,fe_mod,fe_mul];rfl
end Go.Proofs.YtbdfihcjddbhaaaGreat
namespace Go.Proofs.YtbdfihcjddbhaaaGreat
open Go Hw Ed
def seB:List UInt8:=[1,0,0,0,0,0,0,0,0,0,0,0,0,0,0,0,0,0,0,0,0,0,0,0,0,0,0,0,0,0,0,77]
def seH:List UInt8:=[87,159,104,236,80,14,38,174,240,0,164,75,108,245,33,87,115,113,131,28,237,105,185,222,57,145,233,242,112,190,170,213,35,11,137,144,70,23,17,214,148,220,86,67,25,124,131,91,42,247,30,195,63,213,16,142,181,57,199,82,96,7,203,83]
def seN:List UInt8:=[80,159,104,236,80,14,38,174,240,0,164,75,108,245,33,87,115,113,131,28,237,105,185,222,57,145,233,242,112,190,170,85]
def seK:List UInt8:=[96,107,246,169,182,86,212,252,106,138,137,108,60,10,195,142,100,120,65,80,61,64,193,87,241,248,221,83,126,228,255,164]
theorem se_h:Cr seB=seH:=by kernel_rfl
theorem se_n:clampB (seH.take 32)=seN:=by kernel_rfl
theorem se_n1:le seN=38748270507491543869280182973643753799655646515636239770492563660028217171792:=by kernel_rfl
theorem se_kp:cv.mul 38748270507491543869280182973643753799655646515636239770492563660028217171792 bP=⟨fe 28707919823945954948053480135173306747324634050804968349977642706858962874917,fe 16735385554468660665858041024650955505467194536748309173234908357429617388384⟩:=fast_at dE zK zK
theorem se_kb:pb ⟨fe 28707919823945954948053480135173306747324634050804968349977642706858962874917,fe 16735385554468660665858041024650955505467194536748309173234908357429617388384⟩=seK:=by kernel_rfl
theorem se_k:sgK seH=seK:=by rw[sgK,se_n,se_n1,se_kp,se_kb]
end Go.Proofs.YtbdfihcjddbhaaaGreat
namespace Go.Proofs.YtbdfihcjddbhaaaGreat
open Go Hw Ed
def caT:List UInt8:=[98,108,111,99,107,96,107,246,169,182,86,212,252,106,138,137,108,60,10,195,142,100,120,65,80,61,64,193,87,241,248,221,83,126,228,255,164,0,0,0,0,0,0,0,0,0,0,0,0,0,0,0,0,0,0,0,0,0,0,0,0,0,0,0,0,0,0,0,0,0,0,0]
def caH1:List UInt8:=[175,245,139,51,122,16,147,33,38,39,224,157,222,105,232,188,152,149,109,97,216,125,234,179,159,81,122,195,242,72,74,119,53,216,210,42,46,223,69,11,135,148,195,158,63,50,252,208,249,136,161,26,50,44,85,195,247,211,139,14,82,224,120,42]
def caH2:List UInt8:=[94,68,37,235,75,3,179,227,182,168,24,97,151,39,145,159,85,188,197,58,181,59,46,167,161,148,253,26,77,111,57,247,223,4,85,65,115,67,54,205,150,114,139,244,13,183,50,14,182,243,250,185,18,161,221,142,41,60,249,199,226,150,120,220]
def caF:List UInt8:=[168,217,184,90,171,153,102,32,85,221,230,215,79,168,176,196,238,161,142,119,27,171,182,97,56,89,7,177,97,96,106,222]
def caS:List UInt8:=[168,217,184,90,171,153,102,32,85,221,230,215,79,168,176,196,238,161,142,119,27,171,182,97,56,89,7,177,97,96,106,222,147,245,169,6,87,234,48,223,156,70,165,238,89,18,170,116,162,60,219,161,170,149,137,114,121,52,200,59,2,8,234,7]
def caBy:List UInt8:=[96,107,246,169,182,86,212,252,106,138,137,108,60,10,195,142,100,120,65,80,61,64,193,87,241,248,221,83,126,228,255,164,0,0,0,0,0,0,0,0,0,0,0,0,0,0,0,0,0,0,0,0,0,0,0,0,0,0,0,0,0,0,0,0,0,0,0,168,217,184,90,171,153,102,32,85,221,230,215,79,168,176,196,238,161,142,119,27,171,182,97,56,89,7,177,97,96,106,222,147,245,169,6,87,234,48,223,156,70,165,238,89,18,170,116,162,60,219,161,170,149,137,114,121,52,200,59,2,8,234,7]
def caN:List UInt8:=[245,128,166,236,115,103,218,171,156,152,104,209,8,35,100,255,250,6,117,248,138,242,55,247,9,42,190,105,223,108,180,214]
theorem ca_h1:Cr (seH.drop 32++caT)=caH1:=by kernel_rfl
theorem ca_r1:le (sgR caH1)=565907765622320541399421425701583650488762096448569470237382742425803974514:=by kernel_rfl
theorem ca_fp:cv.mul 565907765622320541399421425701583650488762096448569470237382742425803974514 bP=⟨fe 18245592651785512595255292360529423542044015622478525998739077956776277608981,fe 42705358757100966483473454035153470381756883780899493976395842344226991430056⟩:=fast_at dE zK zK
theorem ca_fb:pb ⟨fe 18245592651785512595255292360529423542044015622478525998739077956776277608981,fe 42705358757100966483473454035153470381756883780899493976395842344226991430056⟩=caF:=by kernel_rfl
theorem ca_f:sgF caH1=caF:=by rw[sgF,ca_r1,ca_fp,ca_fb]
theorem ca_h2:Cr (caF++(seK++caT))=caH2:=by kernel_rfl
theorem ca_s1:caF++sgS seH caH1 caH2=caS:=by kernel_rfl
theorem ca_s:sgF caH1++sgS seH caH1 caH2=caS:=by rw[ca_f,ca_s1]
theorem ca_h2':Cr (sgF caH1++(sgK seH++caT))=caH2:=by rw[ca_f,se_k,ca_h2]
theorem ca_good:goodB seK caT caS=true:=by
  have h:=good_self seH caH1 caT ca_h2';rwa[ca_s,se_k]at h
theorem ca_n:sha256 caBy=caN:=by kernel_rfl
def cbT:List UInt8:=[98,108,111,99,107,96,107,246,169,182,86,212,252,106,138,137,108,60,10,195,142,100,120,65,80,61,64,193,87,241,248,221,83,126,228,255,164,1,245,128,166,236,115,103,218,171,156,152,104,209,8,35,100,255,250,6,117,248,138,242,55,247,9,42,190,105,223,108,180,214,0,0]
def cbH1:List UInt8:=[196,73,168,87,171,43,90,194,135,153,214,166,91,130,87,83,242,50,206,135,18,65,8,143,242,112,25,184,169,110,105,32,190,46,237,148,70,102,122,113,239,245,136,1,131,151,134,231,11,7,209,170,44,2,235,117,140,65,168,109,134,117,29,166]
def cbH2:List UInt8:=[124,134,186,26,147,86,203,33,170,107,23,245,118,24,203,227,5,156,2,79,18,244,180,18,8,90,50,54,201,37,175,214,96,120,151,90,93,212,114,61,209,242,90,73,32,87,208,81,139,106,219,229,91,171,202,119,237,83,242,87,178,30,10,30]
def cbF:List UInt8:=[243,120,3,82,236,210,11,7,232,87,94,184,218,48,247,84,134,241,240,121,131,106,27,57,114,211,64,247,135,107,125,145]
def cbS:List UInt8:=[243,120,3,82,236,210,11,7,232,87,94,184,218,48,247,84,134,241,240,121,131,106,27,57,114,211,64,247,135,107,125,145,164,5,140,165,50,216,79,85,199,86,81,76,89,78,250,62,4,128,30,192,136,209,82,233,192,68,44,83,251,25,240,15]
def cbBy:List UInt8:=[96,107,246,169,182,86,212,252,106,138,137,108,60,10,195,142,100,120,65,80,61,64,193,87,241,248,221,83,126,228,255,164,1,245,128,166,236,115,103,218,171,156,152,104,209,8,35,100,255,250,6,117,248,138,242,55,247,9,42,190,105,223,108,180,214,0,0,243,120,3,82,236,210,11,7,232,87,94,184,218,48,247,84,134,241,240,121,131,106,27,57,114,211,64,247,135,107,125,145,164,5,140,165,50,216,79,85,199,86,81,76,89,78,250,62,4,128,30,192,136,209,82,233,192,68,44,83,251,25,240,15]
def cbN:List UInt8:=[245,56,56,94,136,118,14,12,106,47,72,229,131,0,228,9,165,106,181,17,1,42,218,115,48,50,158,110,139,100,212,101]
theorem cb_h1:Cr (seH.drop 32++cbT)=cbH1:=by kernel_rfl
theorem cb_r1:le (sgR cbH1)=1042854690461855033549293643297295419211154182590953024946931292553013138148:=by kernel_rfl
theorem cb_fp:cv.mul 1042854690461855033549293643297295419211154182590953024946931292553013138148 bP=⟨fe 31504235370280623203979679539904128444430040929016018108543993433498125859967,fe 7910916461503537195174013472796533390692371390526138762380987721455419750643⟩:=fast_at dE zK zK
theorem cb_fb:pb ⟨fe 31504235370280623203979679539904128444430040929016018108543993433498125859967,fe 7910916461503537195174013472796533390692371390526138762380987721455419750643⟩=cbF:=by kernel_rfl
theorem cb_f:sgF cbH1=cbF:=by rw[sgF,cb_r1,cb_fp,cb_fb]
theorem cb_h2:Cr (cbF++(seK++cbT))=cbH2:=by kernel_rfl
theorem cb_s1:cbF++sgS seH cbH1 cbH2=cbS:=by kernel_rfl
theorem cb_s:sgF cbH1++sgS seH cbH1 cbH2=cbS:=by rw[cb_f,cb_s1]
theorem cb_h2':Cr (sgF cbH1++(sgK seH++cbT))=cbH2:=by rw[cb_f,se_k,cb_h2]
theorem cb_good:goodB seK cbT cbS=true:=by
  have h:=good_self seH cbH1 cbT cb_h2';rwa[cb_s,se_k]at h
theorem cb_n:sha256 cbBy=cbN:=by kernel_rfl
def ccT:List UInt8:=[98,108,111,99,107,96,107,246,169,182,86,212,252,106,138,137,108,60,10,195,142,100,120,65,80,61,64,193,87,241,248,221,83,126,228,255,164,2,245,56,56,94,136,118,14,12,106,47,72,229,131,0,228,9,165,106,181,17,1,42,218,115,48,50,158,110,139,100,212,101,0,0]
def ccH1:List UInt8:=[142,5,57,247,165,189,239,219,100,209,68,204,233,255,175,153,170,230,62,248,195,235,81,130,129,5,190,152,154,253,247,107,200,192,28,179,197,5,11,163,28,66,130,33,163,234,139,43,189,106,176,241,102,94,32,224,243,171,186,136,141,227,67,213]
def ccH2:List UInt8:=[255,41,48,1,72,2,158,48,48,11,244,35,227,176,216,97,189,190,185,100,205,14,242,104,247,24,216,61,79,101,221,182,90,124,203,51,114,20,55,230,201,93,70,16,43,39,50,140,53,70,1,71,239,142,56,157,159,17,70,53,108,158,120,147]
def ccF:List UInt8:=[33,233,228,76,114,18,211,171,214,17,235,80,53,103,34,80,15,20,0,70,233,236,182,246,117,12,240,153,87,118,173,26]
def ccS:List UInt8:=[33,233,228,76,114,18,211,171,214,17,235,80,53,103,34,80,15,20,0,70,233,236,182,246,117,12,240,153,87,118,173,26,122,12,43,32,238,16,54,16,32,19,206,83,139,255,255,233,77,78,50,219,150,51,217,91,128,101,113,73,252,76,73,5]
def ccBy:List UInt8:=[96,107,246,169,182,86,212,252,106,138,137,108,60,10,195,142,100,120,65,80,61,64,193,87,241,248,221,83,126,228,255,164,2,245,56,56,94,136,118,14,12,106,47,72,229,131,0,228,9,165,106,181,17,1,42,218,115,48,50,158,110,139,100,212,101,0,0,33,233,228,76,114,18,211,171,214,17,235,80,53,103,34,80,15,20,0,70,233,236,182,246,117,12,240,153,87,118,173,26,122,12,43,32,238,16,54,16,32,19,206,83,139,255,255,233,77,78,50,219,150,51,217,91,128,101,113,73,252,76,73,5]
def ccN:List UInt8:=[212,62,189,158,35,18,49,93,224,51,147,160,235,224,219,57,188,215,67,150,52,134,93,210,253,141,208,11,140,224,9,192]
theorem cc_h1:Cr (seH.drop 32++ccT)=ccH1:=by kernel_rfl
theorem cc_r1:le (sgR ccH1)=4918219388157574454008950300951600336261496714867819213746146962254068804302:=by kernel_rfl
theorem cc_fp:cv.mul 4918219388157574454008950300951600336261496714867819213746146962254068804302 bP=⟨fe 31473630399167731649095412638876055820990104693738438102576263511153593068624,fe 12066615373167398837812297369869085678792139161754506735642922152132469909793⟩:=fast_at dE zK zK
theorem cc_fb:pb ⟨fe 31473630399167731649095412638876055820990104693738438102576263511153593068624,fe 12066615373167398837812297369869085678792139161754506735642922152132469909793⟩=ccF:=by kernel_rfl
theorem cc_f:sgF ccH1=ccF:=by rw[sgF,cc_r1,cc_fp,cc_fb]
theorem cc_h2:Cr (ccF++(seK++ccT))=ccH2:=by kernel_rfl
theorem cc_s1:ccF++sgS seH ccH1 ccH2=ccS:=by kernel_rfl
theorem cc_s:sgF ccH1++sgS seH ccH1 ccH2=ccS:=by rw[cc_f,cc_s1]
theorem cc_h2':Cr (sgF ccH1++(sgK seH++ccT))=ccH2:=by rw[cc_f,se_k,cc_h2]
theorem cc_good:goodB seK ccT ccS=true:=by
  have h:=good_self seH ccH1 ccT cc_h2';rwa[cc_s,se_k]at h
theorem cc_n:sha256 ccBy=ccN:=by kernel_rfl
end Go.Proofs.YtbdfihcjddbhaaaGreat
namespace Go.Proofs.YtbdfihcjddbhaaaGreat
open Go Hw _root_.Go.Proofs.Tryz
open Ed
theorem seB_length:seB.length=32:=rfl
theorem kit_seed1  :Mv 116 [i64 1] (fun _=>True) (agg (Aa seB)):=by
 intro W hW;refine Ac func116 J 9 ntmps116 J (G2 ?_);refine .alloc (cs:=(Aa (List.replicate 32 0))) J Zr28 J ?_;intro n2 hn2 hf2;refine G5 ?_;refine .conv J J J Y3.h Y5.h (show Value.int .u8 (IntKind.u8.wrap 1)=u8 1 from rfl) (G1 ?_)
 refine .shrN 1 8 J J J J J dE (.conv J J J Y3.h Y5.h (show Value.int .u8 (IntKind.u8.wrap ((1/2^8:Nat):Int))=u8 0 from rfl) (.build (cs:=Aa seB) J J J (fun w=>by kernel_rfl) ?_));refine .sA J J J J zE Sz28 (by(simp[seB_length];done)) Z0 sP zU ?_;refine G2 ?_;refine G2 ?_;refine⟨_,[],Ao J J Y28.h J Sz28 Z0 (by simp[seB_length]),sP,sP,?_,rfl⟩;rfl
def ca0:DB:={ DB.zero with seq:=0,prev:=List.replicate 32 0 }
def caD:DB:=bsg ca0 seK caS
theorem caD_ok:caD.ok:=⟨rfl,by rfl,by kernel_rfl,fun l hl=>by cases hl⟩
theorem ca_txt0:btxt { ca0 with w:=seK }=caT:=by kernel_rfl
theorem ca_txt:btxt caD=caT:=by kernel_rfl
theorem ca_chk0:(ca0).check=0:=by kernel_rfl
theorem ca_chk:(caD).check=0:=by kernel_rfl
theorem ca_g:dgood caD=0:=by
  unfold dgood;rw[if_pos ca_chk,ca_txt];exact if_pos ca_good
theorem ca_by:(caD).bytes=caBy:=by kernel_rfl
theorem ca_nm:Be caD=caN:=by
  unfold Be;rw[if_pos ca_chk,ca_by,ca_n]
theorem ca_sign(B:Block)(hB:B.ok):Meets prog 115 [agg (Aa seB),agg B.cells] [] (fun W=>BlockIs W B ca0) (BlkR 0 caD):=by
  have hT:btxt { ca0 with w:=sgK seH }=caT:=by rw[se_k];exact ca_txt0
  have cS:=r15_Sign B ca0 hB (Laj _) (Laj _) seB rfl seH caH1 caH2 ⟨se_h⟩ ⟨by rw[hT];exact ca_h1⟩ ⟨by rw[hT];exact ca_h2'⟩ ca_chk0;rw[ca_s,se_k]at cS;exact cS
def cb0:DB:={ DB.zero with seq:=1,prev:=caN }
def cbD:DB:=bsg cb0 seK cbS
theorem cbD_ok:cbD.ok:=⟨rfl,by rfl,by kernel_rfl,fun l hl=>by cases hl⟩
theorem cb_txt0:btxt { cb0 with w:=seK }=cbT:=by kernel_rfl
theorem cb_txt:btxt cbD=cbT:=by kernel_rfl
theorem cb_chk0:(cb0).check=0:=by kernel_rfl
theorem cb_chk:(cbD).check=0:=by kernel_rfl
theorem cb_g:dgood cbD=0:=by
  unfold dgood;rw[if_pos cb_chk,cb_txt];exact if_pos cb_good
theorem cb_by:(cbD).bytes=cbBy:=by kernel_rfl
theorem cb_nm:Be cbD=cbN:=by
  unfold Be;rw[if_pos cb_chk,cb_by,cb_n]
theorem cb_sign(B:Block)(hB:B.ok):Meets prog 115 [agg (Aa seB),agg B.cells] [] (fun W=>BlockIs W B cb0) (BlkR 0 cbD):=by
  have hT:btxt { cb0 with w:=sgK seH }=cbT:=by rw[se_k];exact cb_txt0
  have cS:=r15_Sign B cb0 hB (Laj _) (Laj _) seB rfl seH cbH1 cbH2 ⟨se_h⟩ ⟨by rw[hT];exact cb_h1⟩ ⟨by rw[hT];exact cb_h2'⟩ cb_chk0;rw[cb_s,se_k]at cS;exact cS
def cc0:DB:={ DB.zero with seq:=2,prev:=cbN }
def ccD:DB:=bsg cc0 seK ccS
theorem ccD_ok:ccD.ok:=⟨rfl,by rfl,by kernel_rfl,fun l hl=>by cases hl⟩
theorem cc_txt0:btxt { cc0 with w:=seK }=ccT:=by kernel_rfl
theorem cc_txt:btxt ccD=ccT:=by kernel_rfl
theorem cc_chk0:(cc0).check=0:=by kernel_rfl
theorem cc_chk:(ccD).check=0:=by kernel_rfl
theorem cc_g:dgood ccD=0:=by
  unfold dgood;rw[if_pos cc_chk,cc_txt];exact if_pos cc_good
theorem cc_by:(ccD).bytes=ccBy:=by kernel_rfl
theorem cc_nm:Be ccD=ccN:=by
  unfold Be;rw[if_pos cc_chk,cc_by,cc_n]
theorem cc_sign(B:Block)(hB:B.ok):Meets prog 115 [agg (Aa seB),agg B.cells] [] (fun W=>BlockIs W B cc0) (BlkR 0 ccD):=by
  have hT:btxt { cc0 with w:=sgK seH }=ccT:=by rw[se_k];exact cc_txt0
  have cS:=r15_Sign B cc0 hB (Laj _) (Laj _) seB rfl seH ccH1 ccH2 ⟨se_h⟩ ⟨by rw[hT];exact cc_h1⟩ ⟨by rw[hT];exact cc_h2'⟩ cc_chk0;rw[cc_s,se_k]at cS;exact cS
theorem law16_signed(n:Int)(seed:List UInt8)(h32:seed.length=32)(B:Block)(hB:B.ok)(D D1:DB)(hD1:D1.ok)(cSeed:Mv 116 [i64 n] (fun _=>True) (agg (Aa seed)))(cS:∀B:Block,B.ok→Meets prog 115 [agg (Aa seed),agg B.cells] [] (fun W=>BlockIs W B D) (BlkR 0 D1)):Meets prog 82 [i64 n,agg B.cells] [] (fun W=>BlockIs W B D) (BlkV D1):=by
 intro W hW;refine Ac func82 J 15 ntmps82 J (G3 ?_);intro n3 hn3 hf3;refine .alloc (cs:=Block.zero.cells) J Block.zr J ?_;intro n4 hn4 hf4;refine G3 ?_;refine .draw (oPq [0,102,301,303,4,5,6,207,408,9]) Ap zK (G1 ?_);refine .lA J J J Y37.h J Sz37 Z1 (Block.length (by exact hB)) ?_;refine .cV J J J J Body116 (cSeed) tV (.call J J J J Body115 (cS B hB) (BlkR.loose 0 D1 hD1) (fun w h=>hW.ext h J) ?_);rintro v11 out11 ⟨B11,h11,rfl,ho11⟩;refine G3 ?_;refine .alloc (cs:=Block.zero.cells) J Block.zr J ?_;intro n5 hn5 hf5;refine .sA J J J J (Block.isCell (by exact h11.ok)) Sz37 (Block.length (by exact h11.ok)) Z0 (Block.length (by exact Block.zero_ok)) zU ?_;refine G5 ?_;refine .lA J J J Y37.h J Sz37 Z0 (Block.length (by exact h11.ok)) ?_;refine .sA J J J J (Block.isCell (by exact h11.ok)) Sz37 (Block.length (by exact h11.ok)) mR (Block.length (by exact Block.zero_ok)) uU ?_;refine G2 ?_;refine G2 ?_;refine A3 (out:=(out11++[])) (Ao J J Y37.h J Sz37 mR (by exact Block.length (by exact h11.ok))) (Ad sG Ak) ?_;exact⟨B11,h11,rfl,by simpa using ho11⟩
def PD.new:PD:=⟨[],[],[],[],[],[],[]⟩
def chX1:PD:={ PD.new with orp:=[(ccN,ccD)] }
def chX2:PD:=chX1.adm caN caD
def chX3:PD:=((chX2.adm cbN cbD).drop1 ccN).adm ccN ccD
theorem ch_add1:PD.new.add ccD=(chX1,[],0):=by
  have h:=add_keep (X:=PD.new) cc_g zK zK dE;rw[cc_nm]at h;exact h
theorem ch_add2:chX1.add caD=(chX2,[caN],0):=by
  have h:=add_fits (X:=chX1) ca_g (by rw[ca_nm];kernel_rfl) zK;rw[ca_nm]at h;have e:PD.settle (chX1.adm caN caD).orp.length (chX1.adm caN caD)=(chX2,[]):=by kernel_rfl
  rw[h,e]
theorem ch_add3:chX2.add cbD=(chX3,[cbN,ccN],0):=by
  have h:=add_fits (X:=chX2) cb_g (by rw[cb_nm];kernel_rfl) zK;rw[cb_nm]at h;have e:PD.settle (chX2.adm cbN cbD).orp.length (chX2.adm cbN cbD)=(chX3,[ccN]):=by kernel_rfl
  rw[h,e]
theorem ch_orp:chX2.orphans=[ccN]:=by kernel_rfl
theorem ch_mis:chX2.missing=[cbN]:=by kernel_rfl
theorem chain_facts:∃(Da Db Dc:DB) (na nb nc:List UInt8) (X1 X2 X3:PD),(Da.ok∧Db.ok∧Dc.ok)∧(na.length=32∧nb.length=32∧nc.length=32)∧(Be Da=na∧Be Db=nb∧Be Dc=nc)
    ∧(∀B:Block,B.ok→Meets prog 115 [agg (Aa seB),agg B.cells] [] (fun W=>BlockIs W B DB.zero) (BlkR 0 Da))
    ∧(∀B:Block,B.ok→Meets prog 115 [agg (Aa seB),agg B.cells] [] (fun W=>BlockIs W B { DB.zero with seq:=1,prev:=na }) (BlkR 0 Db))
    ∧(∀B:Block,B.ok→Meets prog 115 [agg (Aa seB),agg B.cells] [] (fun W=>BlockIs W B { DB.zero with seq:=2,prev:=nb }) (BlkR 0 Dc))
    ∧PD.new.add Dc=(X1,[],0)∧X1.add Da=(X2,[na],0)∧X2.orphans=[nc]∧X2.missing=[nb]∧X2.add Db=(X3,[nb,nc],0):=
  ⟨caD,cbD,ccD,caN,cbN,ccN,chX1,chX2,chX3,⟨caD_ok,cbD_ok,ccD_ok⟩,⟨rfl,rfl,rfl⟩,⟨ca_nm,cb_nm,cc_nm⟩,ca_sign,cb_sign,cc_sign,ch_add1,ch_add2,ch_orp,ch_mis,ch_add3⟩
end Go.Proofs.YtbdfihcjddbhaaaGreat
namespace Go.Proofs.YtbdfihcjddbhaaaGreat
open Go Hw _root_.Go.Proofs.Tryz
section
variable{κ ν:Type}[DecidableEq κ]
variable{fs:List (κ×ν)}{k:κ}
theorem mget_cons(k:κ)(v:ν)(fs:List (κ×ν))(n:κ):Au ((k,v)::fs) n=if k=n then some v else Au fs n:=by
  unfold Au;rw[List.find?_cons];by_cases h:k=n<;>simp[h]
theorem mget_no(h:Au fs k=none):∀p∈fs,p.1≠k:=fun p hp e=>by
  obtain⟨v,hv⟩:=mget_of_key (fs:=fs) (La6.2 ⟨p,hp,e⟩);rw[h]at hv;cases hv
theorem mput_app(h:Au fs k=none)(v:ν):Bf fs k v=fs++[(k,v)]:=by
  unfold Bf;rw[midx_none (mget_no h)]
theorem mget_app(fs:List (κ×ν))(k:κ)(v:ν)(n:κ):Au (fs++[(k,v)]) n=if(Au fs n).isSome then Au fs n else if k=n then some v else none:=by
  induction fs with
  |nil=>rw[Lal,mget_cons];rfl
  | cons p fs ih=>
    obtain⟨a,b⟩:=p;rw[Lap,mget_cons,mget_cons,ih];by_cases h:a=n<;>simp[h]
theorem mget_new(h:Au fs k=none)(v:ν):Au (Bf fs k v) k=some v:=by rw[mput_app h,mget_app,h];simp
theorem mget_old(h:Au fs k=none)(v:ν){n:κ}(hn:k≠n):Au (Bf fs k v) n=Au fs n:=by
  rw[mput_app h,mget_app];cases Au fs n<;>simp[hn]
theorem mdel_head(k:κ)(v:ν)(fs:List (κ×ν)):mdel ((k,v)::fs) k=fs:=by
  have h:midx ((k,v)::fs) k=some 0:=by unfold midx;rw[Lg3];simp
  unfold mdel;rw[h];rfl
end
section
theorem ofNat_ne{i:Nat}(h:i<66):UInt64.ofNat (i+1)≠0:=fun e=>by
  have:=congrArg UInt64.toNat e;simp at this;omega
end
variable{a b c:Block}{n prev:List UInt8}{x:DD}
theorem cons_of{α:Type}{l:List α}{n:Nat}(h:l.length=n+1):∃a t,l=a::t∧t.length=n:=by
  cases l with
  |nil=>cases h
  |cons a t=>exact⟨a,t,rfl,by simpa using h⟩
theorem build_sp(s:UInt64)(prev:List UInt8)(h:prev.length=32)(w:World):(Instr.build 37 #[(1,u64 s),(2,agg (Aa prev))]).run prog w= .ok (agg ({ Block.zero with fSeq:=s,fPrev:=prev }:Block).cells) w:=by
  iterate 32 (obtain⟨a,l,e,h2⟩:=cons_of h;clear h;subst e;have h:=h2;clear h2)
  obtain rfl:=Las h
  (refine Eq.trans ?_ rfl;kernel_rfl)
def tri(a b c:Block):List Value:=a.cells++(b.cells++(c.cells++[]))
theorem tri_len(ha:a.ok)(hb:b.ok)(hc:c.ok):(tri a b c).length=393:=by simp[tri,Block.length ha,Block.length hb,Block.length hc]
theorem tri_cell(ha:a.ok)(hb:b.ok)(hc:c.ok):∀u∈tri a b c,isCell u=true:=fun u hu=>by
  simp only[tri,Lak,Lac]at hu;rcases hu with h|h|h
  ·exact Block.isCell ha u h
  ·exact Block.isCell hb u h
  ·exact Block.isCell hc u h
theorem tri_0(ha:a.ok):((tri a b c).drop 0).take 131=a.cells:=by
  rw[tri,Lej,Ldi (by rw[Block.length ha];omega),La7 (by rw[Block.length ha];omega)]
theorem tri_1(ha:a.ok)(hb:b.ok):((tri a b c).drop 131).take 131=b.cells:=by
  have h1:=Block.length ha;rw[tri,Ldj oM,Lah oM,Lal,Ldi (by rw[Block.length hb];omega),La7 (by rw[Block.length hb];omega)]
theorem tri_2(ha:a.ok)(hb:b.ok)(hc:c.ok):((tri a b c).drop 262).take 131=c.cells:=by
  have h1:=Block.length ha;have h2:=Block.length hb;have e:(tri a b c)=(a.cells++b.cells)++(c.cells++[]):=by rw[tri,La8]
  rw[e,Ldj (by rw[La5];omega),Lah (by rw[La5];omega),Lal,Lak,La7 (by rw[Block.length hc];omega)]
def ChainR(Da Db Dc:DB)(v:Value)(out:List Blk):Prop:=∃Ba Bb Bc:Block,SameB Ba Da∧SameB Bb Db∧SameB Bc Dc∧v=agg (tri Ba Bb Bc)∧∀W2,Lies out W2→BlockIs W2 Ba Da∧BlockIs W2 Bb Db∧BlockIs W2 Bc Dc
theorem sp_is(W:World)(s:UInt64)(h:prev.length=32):BlockIs W ({ Block.zero with fSeq:=s,fPrev:=prev }:Block) { DB.zero with seq:=s,prev:=prev }:=⟨⟨rfl,h,rfl⟩,rfl,rfl,rfl,(zero_is W).ls,(zero_is W).ds,rfl⟩
theorem sp_ok(s:UInt64)(h:prev.length=32):({ Block.zero with fSeq:=s,fPrev:=prev }:Block).ok:=⟨rfl,h,rfl⟩
theorem new_ok(bE bH bO bP bW:Nat):(⟨Sl.nil,[],[],[],[],[],[],[],[],bE,bH,bO,bP,bW⟩:DD).ok:=⟨Acc.none,fun l h=>(by cases h),Laj _,Laj _,fun p h=>(by cases h),Laj _,fun p h=>(by cases h),Laj _,fun p h=>(by cases h),fun p h=>(by cases h),fun p h=>(by cases h)⟩
theorem dag_new2:Meets prog 41 [] [] (fun _=>True) (fun v out=>∃(p:Nat) (x:DD),v=ptr p 0∧out=x.blks p∧x.ok∧x.pl=PD.new∧x.names.length+x.orp.length=0):=
  dag_new.imp (fun w h=>h) fun v out ⟨p,bE,bH,bO,bP,bW,h1,h2⟩=>⟨p,_,h1,h2,new_ok ..,rfl,rfl⟩
theorem dig_same(p q:Option Addr)(n c1 c2:Nat)(xs:List (List UInt8))(hx:∀l∈xs,l.length=32)(h1:xs.length=n)(hn:n≤1000000):Mv 16 [.slice p n c1, .slice q n c2] (fun W=>SeesP W p (Ay xs)∧SeesP W q (Ay xs)) (.bool true):=
  (digests_eq p q n c1 c2 xs xs hx hx h1 h1 hn).imp (fun w h=>h) fun v out h=>by rwa[decide_eq_true rfl]at h
theorem one_32(h:n.length=32):∀l∈ [n],l.length=32:=fun l hl=>by rw[La1.1 hl];exact h
theorem two_32{n m:List UInt8}(h:n.length=32)(h2:m.length=32):∀l∈ [n,m],l.length=32:=fun l hl=>by rcases Lag.1 hl with rfl|hl;exact h;exact one_32 h2 l hl
theorem law16_chain(Da Db Dc:DB)(na nb:List UInt8)(hDa:Da.ok)(hDb:Db.ok)(hDc:Dc.ok)(lna:na.length=32)(lnb:nb.length=32)(hna:Be Da=na)(hnb:Be Db=nb)(cSa:∀B:Block,B.ok→Meets prog 115 [agg (Aa seB),agg B.cells] [] (fun W=>BlockIs W B DB.zero) (BlkR 0 Da))(cSb:∀B:Block,B.ok→Meets prog 115 [agg (Aa seB),agg B.cells] [] (fun W=>BlockIs W B { DB.zero with seq:=1,prev:=na }) (BlkR 0 Db))(cSc:∀B:Block,B.ok→Meets prog 115 [agg (Aa seB),agg B.cells] [] (fun W=>BlockIs W B { DB.zero with seq:=2,prev:=nb }) (BlkR 0 Dc)):Meets prog 40 [] [] (fun _=>True) (ChainR Da Db Dc):=by
 intro W hW;refine Ac func40 J 16 ntmps40 J (G2 ?_);refine .alloc (cs:=(List.replicate 3 ((Aa (List.replicate 32 0))++[u64 0]++(Aa (List.replicate 32 0))++[.slice none 0 0]++[.slice none 0 0]++(Aa (List.replicate 64 0)))).flatten) J Zr74 J ?_;intro n0 hn0 hf0;refine G4 ?_;refine .build (cs:=Block.zero.cells) J J J (fun w=>by kernel_rfl) ?_;refine .call4 J J J J J Body82 (law16_signed 1 seB J Block.zero Block.zero_ok DB.zero Da hDa kit_seed1 cSa) (fun w h=>zero_is w) ?_;rintro v4 out4 ⟨Ba,ha,rfl,hoa⟩;have cNa:=r15_Name Ba Da ha.ok;rw[hna]at cNa;refine .alloc (cs:=Block.zero.cells) J Block.zr J ?_;intro n1 hn1 hf1;refine .sA J J J J (Block.isCell (by exact ha.ok)) Sz37 (Block.length (by exact ha.ok)) Z0 (Block.length (by exact Block.zero_ok)) zU ?_;refine G4 ?_;refine .lA J J J Y37.h J Sz37 Z0 (Block.length (by exact ha.ok)) ?_;refine .cV J J J J Body43 (cNa) (fun w h=>hoa w (Lies.of h (by repeat(first|exact Bu|refine Cc ?_)))) ?_;refine .build (cs:=({ Block.zero with fSeq:=1,fPrev:=na }:Block).cells) J J J (fun w=>build_sp 1 na lna w) (.call4 J J J J J Body82 (law16_signed 1 seB J _ (sp_ok 1 lna) _ Db hDb kit_seed1 cSb) (fun w h=>sp_is w 1 lna) ?_);rintro v8 out8 ⟨Bb,hb,rfl,hob⟩;have cNb:=r15_Name Bb Db hb.ok;rw[hnb]at cNb;refine .alloc (cs:=Block.zero.cells) J Block.zr J ?_;intro n2 hn2 hf2;refine .sA J J J J (Block.isCell (by exact hb.ok)) Sz37 (Block.length (by exact hb.ok)) Z0 (Block.length (by exact Block.zero_ok)) zU ?_;refine G3 ?_;refine .draw (oPq [100,101,102,303,4,305,6,407]) Ap zK (.lA J J J Y37.h J Sz37 mR (Block.length (by exact ha.ok)) ?_);refine .lA J J J Y37.h J Sz37 Z0 (Block.length (by exact hb.ok)) ?_;refine .lA J J J Y37.h J Sz37 Z0 (Block.length (by exact hb.ok)) ?_;refine .cV J J J J Body43 (cNb) (fun w h=>hob w (Lies.of h (by repeat(first|exact Bu|refine Cc ?_)))) ?_;refine .build (cs:=({ Block.zero with fSeq:=2,fPrev:=nb }:Block).cells) J J J (fun w=>build_sp 2 nb lnb w) (.call J J J J Body82 (law16_signed 1 seB J _ (sp_ok 2 lnb) _ Dc hDc kit_seed1 cSc) (BlkV.loose Dc hDc) (fun w h=>sp_is w 2 lnb) ?_);rintro v14 out14 ⟨Bc,hc,rfl,hoc⟩;refine .build (cs:=tri Ba Bb Bc) J J J (fun w=>run_buildA [agg Ba.cells,agg Bb.cells,agg Bc.cells] Zr74 Y74 Sz37 (fun v hv=>by simp only[Lag,Lc6,or_false]at hv;rcases hv with rfl|rfl|rfl<;>simp[Value.cells,Block.length ha.ok,Block.length hb.ok,Block.length hc.ok]) zK w) ?_;refine .sA J J J J (tri_cell ha.ok hb.ok hc.ok) Sz74 (tri_len ha.ok hb.ok hc.ok) mR zK uU ?_;refine G2 ?_;refine G2 ?_;refine A3 (out:=(out4++(out8++(out14++[])))) (Ao J J Y74 J Sz74 mR (tri_len ha.ok hb.ok hc.ok)) (Ad sG (Ad sG (Ad sG Ak))) ?_;exact⟨Ba,Bb,Bc,ha,hb,hc,rfl,fun W2 hl=>⟨hoa W2 (hl.sub (by repeat(exact Bu))),hob W2 (hl.sub (by repeat(first|exact Bu|refine in_seg ?_))),hoc W2 (hl.sub (by repeat(first|exact Bu|refine in_seg ?_)))⟩⟩
theorem law16_lives  :Mv 5 [] (fun _=>True) (.bool true):=by
 intro W hW;obtain⟨Da,Db,Dc,na,nb,nc,X1,X2,X3,⟨hDa,hDb,hDc⟩,⟨lna,lnb,lnc⟩,⟨hna,hnb,hnc⟩,cSa,cSb,cSc,hadd1,hadd2,horp,hmis,hadd3⟩:=chain_facts;refine Ac func5 J 92 ntmps5 J (G7 ?_);refine .call4 J J J J J Body40 (law16_chain Da Db Dc na nb hDa hDb hDc lna lnb hna hnb cSa cSb cSc) tV ?_;rintro v14 out14 ⟨Ba,Bb,Bc,ha,hb,hc,rfl,hch⟩;have cNa:=r15_Name Ba Da ha.ok;have cNb:=r15_Name Bb Db hb.ok;have cNc:=r15_Name Bc Dc hc.ok;rw[hna]at cNa;rw[hnb]at cNb;rw[hnc]at cNc;refine .alloc (cs:=(List.replicate 3 ((Aa (List.replicate 32 0))++[u64 0]++(Aa (List.replicate 32 0))++[.slice none 0 0]++[.slice none 0 0]++(Aa (List.replicate 64 0)))).flatten) J Zr74 J ?_;intro n1 hn1 hf1;refine .sA J J J J (tri_cell ha.ok hb.ok hc.ok) Sz74 (tri_len ha.ok hb.ok hc.ok) Z0 zK zU ?_;refine G4 ?_;refine .call4 J J J J J Body41 (dag_new2) tV ?_;rintro v15 out15 ⟨p,x0,rfl,rfl,hx0,hplx0,hnx0⟩;refine G7 ?_;refine .eqNilP J J J J Y25.h (G2 ?_);refine .cond_f J J (G5 ?_);refine .idxArr 131 J J J J Y74 Sz37 2 J dE (.lN (Bc.cells) J J J Y37.h J Sz37 mR (tri_2 ha.ok hb.ok hc.ok) (Block.length hc.ok) ?_);refine .callL (L:=(x0.blks p++out14)) J J J J J Body42 (dag_add x0 hx0 p Bc Dc out14 ⟨hc,fun W hW=>(hch W hW).2.2⟩ oM) (sg_two sG sG) (lent_ok J) (fun w h=>Lent.of h (sg_two sG sG)) ?_;rintro v22 out22 ⟨x1,⟨p22,n22,c22⟩,bl22,rfl,rfl,hx1,hac22,h3222,hplx1,hnx1⟩;rw[hplx0,hadd1]at hac22 h3222 hplx1 ⊢;simp only[La8]at hac22 h3222 hplx1 ⊢;obtain rfl:n22=0:=hac22.num;refine G10 ?_;refine .idxArr 131 J J J J Y74 Sz37 0 J dE (.lN (Ba.cells) J J J Y37.h J Sz37 mR (tri_0 ha.ok) (Block.length ha.ok) ?_);refine .callL (L:=(x1.blks p++out14)) J J J J J Body42 (dag_add x1 hx1 p Ba Da out14 ⟨ha,fun W hW=>(hch W hW).1⟩ oM) (sg_two sG (by repeat(first|exact sg_here|apply sg_seg))) (lent_ok J) (fun w h=>Lent.of h (sg_two sG (by repeat(first|exact sg_here|apply sg_seg)))) ?_;rintro v29 out29 ⟨x2,⟨p29,n29,c29⟩,bl29,rfl,rfl,hx2,hac29,h3229,hplx2,hnx2⟩;rw[hplx1,hadd2]at hac29 h3229 hplx2 ⊢;simp only[La8]at hac29 h3229 hplx2 ⊢;obtain rfl:n29=1:=hac29.num;refine G10 ?_;refine .call4 J J J J J Body13 (dag_orphans x2 hx2 p) (fun w h=>Lies.of h (by repeat(exact Bu))) ?_;rintro v33 out33 ⟨⟨p33,n33,c33⟩,rfl,hac33⟩;rw[hplx2,horp]at hac33;obtain rfl:n33=1:=hac33.num;refine G1 ?_;refine .call4 J J J J J Body15 (dag_missing x2 hx2 p) (fun w h=>Lies.of h (by repeat(first|exact Bu|refine in_seg ?_))) ?_;rintro v35 out35 ⟨⟨p35,n35,c35⟩,rfl,hac35⟩;rw[hplx2,hmis]at hac35;obtain rfl:n35=1:=hac35.num;refine G7 ?_;refine .idxArr 131 J J J J Y74 Sz37 1 J dE (.lN (Bb.cells) J J J Y37.h J Sz37 mR (tri_1 ha.ok hb.ok) (Block.length hb.ok) ?_)
 refine .callL (L:=(x2.blks p++out14)) J J J J J Body42 (dag_add x2 hx2 p Bb Db out14 ⟨hb,fun W hW=>(hch W hW).2.1⟩ oM) (sg_two (by repeat(first|exact sg_here|apply sg_seg)) (by repeat(first|exact sg_here|apply sg_seg))) (lent_ok J) (fun w h=>Lent.of h (sg_two (by repeat(first|exact sg_here|apply sg_seg)) (by repeat(first|exact sg_here|apply sg_seg)))) ?_;rintro v40 out40 ⟨x3,⟨p40,n40,c40⟩,bl40,rfl,rfl,hx3,hac40,h3240,hplx3,hnx3⟩;rw[hplx2,hadd3]at hac40 h3240 hplx3 ⊢;simp only[La8]at hac40 h3240 hplx3 ⊢;obtain rfl:n40=2:=hac40.num;refine G8 ?_;refine .draw (oPq [0,101,3,104,6,107,302,305,308,209,210,211,412,413,414]) Ap zK (.idxArr 131 J J J J Y74 Sz37 0 J dE (.lN (Ba.cells) J J J Y37.h J Sz37 mR (tri_0 ha.ok) (Block.length ha.ok) ?_));refine .idxArr 131 J J J J Y74 Sz37 1 J dE (.lN (Bb.cells) J J J Y37.h J Sz37 mR (tri_1 ha.ok hb.ok) (Block.length hb.ok) ?_);refine .idxArr 131 J J J J Y74 Sz37 2 J dE (.lN (Bc.cells) J J J Y37.h J Sz37 mR (tri_2 ha.ok hb.ok hc.ok) (Block.length hc.ok) ?_);refine .cV J J J J Body43 (cNa) (fun w h=>(hch w (Lies.of h (by repeat(first|exact Bu|refine Cc ?_|refine in_seg ?_)))).1) ?_;refine .cV J J J J Body43 (cNb) (fun w h=>(hch w (Lies.of h (by repeat(first|exact Bu|refine Cc ?_|refine in_seg ?_)))).2.1) ?_;refine .cV J J J J Body43 (cNc) (fun w h=>(hch w (Lies.of h (by repeat(first|exact Bu|refine Cc ?_|refine in_seg ?_)))).2.2) ?_;refine .alloc (cs:=(Aa (List.replicate 32 0))) J Zr31 J ?_;intro n11 hn11 hf11;refine .alloc (cs:=(Aa (List.replicate 32 0))) J Zr31 J ?_;intro n12 hn12 hf12;refine .alloc (cs:=(Aa (List.replicate 32 0))) J Zr31 J ?_;intro n13 hn13 hf13;refine .sA J J J J zE Sz31 (by(simp[lna];done)) Z2 sP (by exact upd2) ?_;refine .sA J J J J zE Sz31 (by(simp[lnb];done)) Z1 sP zV ?_;refine .sA J J J J zE Sz31 (by(simp[lnc];done)) Z0 sP zU ?_;refine G5 ?_;refine .eqi J J J J (decide_eq_true (rfl)) (G3 ?_);refine .eqi J J J J (decide_eq_true (rfl)) (G3 ?_);refine .eqi J J J J (decide_eq_true (rfl)) (G3 ?_);refine .lA J J J Y31.h J Sz31 Z2 (by(simp[lna];done)) ?_;refine .mkRow (z:=agg (Aa (List.replicate 32 0))) [agg (Aa na)] (Ay [na]) J J J Y32.h Sz31 Zr31 J J (by intro v hv;simp only[Lag,Lc6,or_false]at hv;rcases hv with rfl<;>simp[Value.cells,Aa,lna]) dE (by simp[Value.cells,agg,Ay]) ?_;intro q66;refine .cV J J J J Body16 (dig_same p29 _ 1 c29 1 [na] (one_32 lna) J dE) (fun w h=>⟨hac29.see (Lies.of h (by repeat(first|exact Bu|refine Cc ?_|refine in_seg ?_))),SeesP.of (Aq h Z0)⟩) ?_;refine G3 ?_;refine .lA J J J Y31.h J Sz31 Z1 (by(simp[lnc];done)) ?_;refine .mkRow (z:=agg (Aa (List.replicate 32 0))) [agg (Aa nc)] (Ay [nc]) J J J Y32.h Sz31 Zr31 J J (by intro v hv;simp only[Lag,Lc6,or_false]at hv;rcases hv with rfl<;>simp[Value.cells,Aa,lnc]) dE (by simp[Value.cells,agg,Ay]) ?_;intro q72
 refine .cV J J J J Body16 (dig_same p33 _ 1 c33 1 [nc] (one_32 lnc) J dE) (fun w h=>⟨hac33.see (Lies.of h (by repeat(first|exact Bu|refine Cc ?_|refine in_seg ?_))),SeesP.of (Aq h Z0)⟩) ?_;refine G3 ?_;refine .lA J J J Y31.h J Sz31 Z3 (by(simp[lnb];done)) ?_;refine .mkRow (z:=agg (Aa (List.replicate 32 0))) [agg (Aa nb)] (Ay [nb]) J J J Y32.h Sz31 Zr31 J J (by intro v hv;simp only[Lag,Lc6,or_false]at hv;rcases hv with rfl<;>simp[Value.cells,Aa,lnb]) dE (by simp[Value.cells,agg,Ay]) ?_;intro q78;refine .cV J J J J Body16 (dig_same p35 _ 1 c35 1 [nb] (one_32 lnb) J dE) (fun w h=>⟨hac35.see (Lies.of h (by repeat(first|exact Bu|refine Cc ?_|refine in_seg ?_))),SeesP.of (Aq h Z0)⟩) ?_;refine G3 ?_;refine .eqi J J J J (decide_eq_true (rfl)) (G3 ?_);refine .lA J J J Y31.h J Sz31 Z4 (by(simp[lnb];done)) ?_;refine .lA J J J Y31.h J Sz31 Z3 (by(simp[lnc];done)) ?_;refine .mkRow (z:=agg (Aa (List.replicate 32 0))) [agg (Aa nb),agg (Aa nc)] (Ay [nb,nc]) J J J Y32.h Sz31 Zr31 J J (by intro v hv;simp only[Lag,Lc6,or_false]at hv;rcases hv with rfl|rfl<;>simp[Value.cells,Aa,lnb,lnc]) dE (by simp[Value.cells,agg,Ay]) ?_;intro q89;refine .cV J J J J Body16 (dig_same p40 _ 2 c40 2 [nb,nc] (two_32 lnb lnc) J dE) (fun w h=>⟨hac40.see (Lies.of h (by repeat(first|exact Bu|refine Cc ?_|refine in_seg ?_))),SeesP.of (Aq h Z0)⟩) ?_;refine G4 ?_;refine G2 ?_;refine A3 (out:=[]) (Al J J) Ak ?_;exact⟨rfl,rfl⟩
theorem Held.at{B:Block}{D:DB}(h:Held [] B D)(W:World):BlockIs W B D:=h.2 W (fun b hb=>by cases hb)
theorem dag_names(x:DD)(hx:x.ok)(p:Nat):Meets prog 12 [ptr p 0] [] (fun W=>Lies (x.blks p) W) (RowA x.pl.names):=by
 intro W hW;refine Ac func12 J 11 ntmps12 J (G9 ?_);refine .cV J J J J Body45 (dag_valid x p) (fun w h=>DagSee.ext h (DagSee.lies hW)) (G3 ?_);refine .cond_f J J (G7 ?_);refine .loadE J J J Y32.h J sP ((DagSee.lies hW).at (o:=1) J) (.call4 J J J J J Body46 (cl_digs x.nm x.names (by have:=hx.nm.num;have:=hx.big;omega)) (fun w h=>acc_rows hx.nm ((lies_keep hW h).sub (x.mnb p)) hx.n32 J (by have:=hx.nm.num;have:=hx.big;omega)) ?_);rintro v10 out10 ⟨s10,rfl,hac⟩;have hn10:=hx.nm.num;rw[hn10]at hac;refine G3 ?_;refine G2 ?_;refine A3 (out:=(out10++[])) (Al J J) (Ad sG Ak) ?_;refine⟨s10,rfl,?_⟩;rw[Lak];exact hac
inductive PD.Reach(X:PD)(above:Int)(L:List (List UInt8)):List UInt8→Prop
  |base {n:List UInt8} {D:DB} (h:n∈L) (hP:Au X.P n=some D) (hd:above<(Au X.dep n).getD 0):Reach X above L n
  |step {m n:List UInt8} {D E:DB} (h:Reach X above L m) (hP:Au X.P m=some D) (hn:n∈Cp D) (hE:Au X.P n=some E) (hd:above<(Au X.dep n).getD 0):Reach X above L n
theorem DD.getDep(x:DD)(k:List UInt8):Au x.pl.dep k=(Au x.ent k).map (fun e=>e.1.fDepth):=mget_map (fun e:EV=>e.1.fDepth) x.ent k
theorem DD.atP{e:EV}(h:Au x.ent n=some e):Au x.pl.P n=some e.2∧(Au x.pl.dep n).getD 0=e.1.fDepth:=⟨by rw[show x.pl.P=x.P from rfl,x.getP,h];rfl,by rw[x.getDep,h];rfl⟩
theorem DD.noP(h:Au x.ent n=none):Au x.pl.P n=none:=by rw[show x.pl.P=x.P from rfl,x.getP,h];rfl
theorem dag_drop(x:DD)(hx:x.ok)(p:Nat):Meets prog 14 [ptr p 0] ((x.blks p).map (·.n)) (fun W=>Lent (x.blks p) W) (fun v out=>v=i64 (x.orp.length:Int)∧out=({ x with orp:=[] }:DD).blks p):=by
 intro W hW;refine calls_of (hp0:=(x.blks p)) func14 J 17 ntmps14 J hW.rep (G2 ?_);simp only[DD.blks,Lap,Lal,La8];refine G7 ?_;refine .cV J J J J Body45 (dag_valid x p) (fun w h=>DagSee.of h Z0 Z1) ?_;refine G3 ?_;refine .cond_f J J (G8 ?_);refine .lenMap Y82.h J J J Z3 ?_;refine G9 ?_;refine .mapClear Y82.h J J J rM ?_;refine G8 ?_;refine G2 ?_;refine A3 (out:=(⟨p,[ptr p 0,x.nm.v, .map (some x.bE), .map (some x.bH), .map (some x.bO), .map (some x.bP), .map (some x.bW)],86,7⟩::(Az x.bE (Ar 32 evE) x.ent::(Az x.bH (Ar 32 evU) x.hds::(Az x.bO (Ar 32 evB) []::(Az x.bP (placeT 32 evR) x.pls::(Az x.bW (Ar 32 evR) x.wrs::(x.nb++(x.cb++(rbl x.pls++(rbl x.wrs++[]))))))))))) (Al J J) (Ab rM (Ab rM (Ab rM (Ab rM (Ab rM (Ab rM (Ad sG (Ad sG (Ad sG (Ad sG Ak)))))))))) ?_;exact⟨rfl,by simp only[DD.blks]⟩
end Go.Proofs.YtbdfihcjddbhaaaGreat
end
