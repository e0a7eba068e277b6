/- Contracts of functions of the loaded program, and the lemmas that they need (part 6). It proves no statement by itself; it has no conditions. -/
import Derived.WalkKit
import Derived.Orders
import Derived.Deep.LoopGhost
import Derived.IntWalk
import Derived.Laws.StructEq
import Derived.ArgAppend
import Derived.Deep.AppendSrc
import Derived.Lib.Bytealg
import Derived.Lib.BytesEntry
import Derived.Laws.IdiomStrings
import Derived.WideKeyArr2
import Derived.ProofKit
import Derived.OpenShut
import Derived.Deep.Slices
import Derived.Laws.Pointers
import Derived.Laws.Cover3
import Derived.LaidEqlPtr
import Derived.LoopN
import Derived.RangeFuncLeaves
import Derived.RangeFuncSeq
import Derived.OrdersIn
import Derived.Maps.Keyed
import Derived.Maps.RangeRun
import Derived.DeepKeys4
import Derived.Below
import Derived.Test.YtpogmfngccolbaaGreatRows
import Derived.KernelRfl
import Derived.Laws.Externs
import Derived.Defers
import Derived.Laws.MathBits
import Derived.Shelf.SlSortCmp.WholeK
import Derived.Shelf.SlGeneric
import Derived.Test.YtpogmfngccolbaaGreatProg
import Derived.Shelf.SlSortCmp.NoneTotal
import Derived.Deep.QuietTactic
import Derived.BigQuiet
import Derived.ScopeJumps
import Derived.DeepKeys3
import Derived.ChangeOld
import Derived.JoinedOf
import Derived.Test.YtpogmfngccolbaaGreatCClX5
set_option maxRecDepth 100000
set_option maxHeartbeats 8000000
set_option linter.unusedVariables false
set_option linter.unusedSimpArgs false
set_option linter.unusedSectionVars false
set_option linter.unnecessarySimpa false
section
namespace Go.Proofs.YtpogmfngccolbaaGreat
open Go Hw _root_.Go.Proofs.Tryz
abbrev EV:=DEnt×DB
abbrev BV:=Block×DB
structure RV where
  s:Sl
  bl:List Blk
  ks:List (List UInt8)
def RV.none:RV:=⟨Sl.nil,[],[]⟩
structure RV.ok(r:RV):Prop where
  acc:Hw.Acc r.s r.bl (A3 r.ks) 34 r.ks.length 32
  r32:∀l∈r.ks,l.length=32
theorem RV.none_ok:RV.none.ok:=⟨.inl ⟨rfl,rfl,rfl,rfl⟩,fun l h=>by cases h⟩
abbrev evE(x:EV):Value:=agg x.1.cells
abbrev evB(x:BV):Value:=agg x.1.cells
abbrev evU(_:Unit):Value:=agg []
abbrev evR(r:RV):Value:=r.s.v
theorem A25:WideMaps.ArrKey prog 34 5 32:=⟨Y34.h,by kernel_rfl,by kernel_rfl,by kernel_rfl⟩
theorem A23:WideMaps.ArrKey prog 44 5 32:=⟨Y44.h,by kernel_rfl,by kernel_rfl,by kernel_rfl⟩
theorem K25:Maps.Keyed prog 34:= .of_law (deep_law (m:=3) dE zK zK (by rw[Y34.h]))
theorem K23:Maps.Keyed prog 44:= .of_law (deep_law (m:=3) dE zK zK (by rw[Y44.h]))
theorem K87:Maps.Keyed prog 177:= .of_law (deep_law (m:=4) dE zK zK (by rw[underlying177]))
theorem size_pos:∃m,prog.types.size=m+1:=⟨prog.types.size-1,by kernel_rfl⟩
theorem size_two:∃m,prog.types.size=m+2:=⟨prog.types.size-2,by kernel_rfl⟩
theorem zr_run{T:TypeId}{v:Value}(h:Zr prog T v)(w:World):(zeroValue T).run prog w= .ok v w:=by
  unfold Zr at h;cases hi:prog.info? T with
  |none=>rw[hi]at h;cases h
  | some i=>
    rw[hi]at h;simp only[Lc2]at h;simp[zeroValue,typeInfo,hi,h]
theorem ME:MOk prog 131 34 164 (Au 32 evE) (agg DEnt.zero.cells):=bytesT_ok _ Y131.h A25 Y5.h size_pos K25 (zr_run DEnt.zr)
theorem MH:MOk prog 114 34 145 (Au 32 evU) (agg []):=bytesT_ok _ Y114.h A25 Y5.h size_pos K25 (zr_run Zr145)
theorem MO:MOk prog 132 34 50 (Au 32 evB) (agg Block.zero.cells):=bytesT_ok _ Y132.h A25 Y5.h size_pos K25 (zr_run Block.zr)
theorem MW:MOk prog 134 44 30 (Au 32 evR) (.slice none 0 0):=bytesT_ok _ underlying134 A23 Y5.h size_pos K23 (zr_run Zr30)
theorem MP:MOk prog 133 177 30 (placeT 32 evR) (.slice none 0 0):=
  placeT_ok _ underlying133 (fun l x hl=>keyOf_place underlying177 rfl zK rfl rfl zK zK zK A23 Y5.h Y45.h zK size_two hl x) K87 (zr_run Zr30)
section
variable{κ ν μ:Type}[DecidableEq κ]
variable{fs:List (κ×ν)}{k:κ}{p:κ×ν}{v:ν}
theorem Cs(h:Av fs k=some v):(k,v)∈fs:=by
  unfold Av at h;cases hf:fs.find? (fun p=>decide (p.1=k))with
  |none=>rw[hf]at h;cases h
  | some p=>
    rw[hf]at h;simp only[Lbq,La6]at h;have h1:=Lfe hf;have h2:=List.find?_some hf;simp only[decide_eq_true_eq]at h2;rw[←h2,←h];exact h1
theorem mput_mem(h:p∈Bo fs k v):p∈fs∨p=(k,v):=by
  unfold Bo at h;split at h
  ·exact Lfd h
  · rcases Lac.1 h with h|h
    ·exact .inl h
    ·exact .inr (La0.1 h)
theorem mdel_mem(h:p∈mdel fs k):p∈fs:=by
  unfold mdel at h;split at h
  ·exact(Ldj _ _).subset h
  ·exact h
theorem mput_len(fs:List (κ×ν))(k:κ)(v:ν):(Bo fs k v).length≤fs.length+1:=by
  unfold Bo;split
  ·rw[Lc0];omega
  ·simp
theorem mdel_len(fs:List (κ×ν))(k:κ):(mdel fs k).length≤fs.length:=by
  unfold mdel;split
  ·exact(Ldj _ _).length_le
  ·exact Lae _
theorem midx_map(f:ν→μ)(fs:List (κ×ν))(k:κ):midx (fs.map fun p=>(p.1,f p.2)) k=midx fs k:=by
  unfold midx;rw[List.findIdx?_map];rfl
theorem mget_map(f:ν→μ)(fs:List (κ×ν))(k:κ):Av (fs.map fun p=>(p.1,f p.2)) k=(Av fs k).map f:=by
  unfold Av;rw[List.find?_map];cases h:fs.find? (fun p=>decide (p.1=k))with
  | none=>
    have:List.find? ((fun p:κ×μ=>decide (p.1=k))∘fun p:κ×ν=>(p.1,f p.2)) fs=none:=h;rw[this];rfl
  | some p=>
    have:List.find? ((fun p:κ×μ=>decide (p.1=k))∘fun p:κ×ν=>(p.1,f p.2)) fs=some p:=h;rw[this];rfl
theorem mput_map(f:ν→μ)(fs:List (κ×ν))(k:κ)(v:ν):(Bo fs k v).map (fun p=>(p.1,f p.2))=Bo (fs.map fun p=>(p.1,f p.2)) k (f v):=by
  unfold Bo;rw[midx_map];split
  ·rw[Ldv]
  ·rw[Lad];rfl
theorem mdel_map(f:ν→μ)(fs:List (κ×ν))(k:κ):(mdel fs k).map (fun p=>(p.1,f p.2))=mdel (fs.map fun p=>(p.1,f p.2)) k:=by
  unfold mdel;rw[midx_map];split
  ·exact(ChangeMaps.map_eraseIdx ..)
  ·rfl
theorem mput_mput(k:κ)(v v2:ν):Bo (Bo fs k v) k v2=Bo fs k v2:=by
  cases h:midx fs k with
  | some j=>
    have e1:Bo fs k v=fs.set j (k,v):=by unfold Bo;rw[h]
    have e2:Bo fs k v2=fs.set j (k,v2):=by unfold Bo;rw[h]
    have h2:midx (fs.set j (k,v)) k=some j:=by
      unfold midx at h ⊢;rw[Lc1]at h ⊢;obtain⟨hl,he,hn⟩:=h;refine⟨by simpa using hl,by simp,fun i hi=>?_⟩;rw[List.getElem_set_ne oM];exact hn i hi
    rw[e1,e2];unfold Bo;rw[h2];simp
  | none=>
    have e1:Bo fs k v=fs++[(k,v)]:=by unfold Bo;rw[h]
    have e2:Bo fs k v2=fs++[(k,v2)]:=by unfold Bo;rw[h]
    have h2:midx (fs++[(k,v)]) k=some fs.length:=by
      unfold midx at h ⊢;rw[List.findIdx?_append,h];simp[List.findIdx?_cons]
    rw[e1,e2];unfold Bo;rw[h2];simp
theorem flat_set{α:Type}(f:α→List Blk){l:List α}{j:Nat}{x:α}(h:l[j]? =some x):∃R,(l.map f).flatten.Perm (f x++R)∧∀y,((l.set j y).map f).flatten.Perm (f y++R):=by
  obtain⟨hl,he⟩:=Laf.1 h;refine⟨((l.take j).map f).flatten++((l.drop (j+1)).map f).flatten,?_,?_⟩
  · have e:l=l.take j++x::l.drop (j+1):=by rw[←he,←Lbx hl,Lcj]
    have e2:(l.map f).flatten=((l.take j).map f).flatten++(f x++((l.drop (j+1)).map f).flatten):=by
      conv=>lhs;rw[e]
      simp[Lad,Lc4]
    rw[e2,←La8,←La8];exact Lda _ Le6
  · intro y
    have e:l.set j y=l.take j++y::l.drop (j+1):=Lfr .. |>.trans (by rw[if_pos hl]);have e2:((l.set j y).map f).flatten=((l.take j).map f).flatten++(f y++((l.drop (j+1)).map f).flatten):=by
      rw[e];simp[Lad,Lc4]
    rw[e2,←La8,←La8];exact Lda _ Le6
end
def rbl{κ:Type}(fs:List (κ×RV)):List Blk:=(fs.map fun p=>p.2.bl).flatten
variable{B:Block}{C:Cx}{D:DB}{L ks l:List (List UInt8)}{W w:World}{a k kk n:List UInt8}{al bl hp o:List Blk}{e:EV}{hds:List (List UInt8×Unit)}{ob:BV}{p:Nat}{rp rw:RV}{s:Sl}{v:Value}{κ ν:Type}{fs:List (κ×ν)}
theorem rbl_put[DecidableEq κ](fs:List (κ×RV))(k:κ):∃R,(rbl fs).Perm (((Av fs k).getD RV.none).bl++R)∧∀r,(rbl (Bo fs k r)).Perm (r.bl++R):=by
  cases h:midx fs k with
  | some j=>
    have e:∀r,Bo fs k r=fs.set j (k,r):=fun r=>by unfold Bo;rw[h]
    unfold midx at h;have hg:∃x,fs[j]? =some x∧Av fs k=some x.2:=by
      have h2:=h;rw[Lc1]at h2;obtain⟨hl,he,hn⟩:=h2;refine⟨fs[j],La3 hl,?_⟩;unfold Av;have h3:fs.find? (fun q=>decide (q.1=k))=some fs[j]:=Ldi.2 ⟨he,j,hl,rfl,fun i hi=>by simpa using hn i hi⟩;rw[h3];rfl
    obtain⟨x,hx,hm⟩:=hg;rw[hm];obtain⟨R,h1,h2⟩:=flat_set (fun p:κ×RV=>p.2.bl) hx;exact⟨R,h1,fun r=>by rw[e r];exact h2 (k,r)⟩
  | none=>
    have e:∀r,Bo fs k r=fs++[(k,r)]:=fun r=>by unfold Bo;rw[h]
    have hm:Av fs k=none:=by
      refine mget_none fun p hp e2=>?_;unfold midx at h;rw[Le9]at h;have:=h p hp;simp[e2]at this
    rw[hm];refine⟨rbl fs,Ldw _,fun r=>?_⟩;rw[e r];unfold rbl;simp only[Lad,Lc4,Lao,Ldh,Lcg,Lg5,Lat];exact Le6
structure DD where
  nm:Sl
  nb:List Blk
  names:List (List UInt8)
  ent:List (List UInt8×EV)
  hds:List (List UInt8×Unit)
  orp:List (List UInt8×BV)
  pls:List ((List UInt8×UInt64)×RV)
  wrs:List (List UInt8×RV)
  cb:List Blk
  bE:Nat
  bH:Nat
  bO:Nat
  bP:Nat
  bW:Nat
def DD.blks(x:DD)(p:Nat):List Blk:=
  ⟨p,[ptr p 0,x.nm.v, .map (some x.bE), .map (some x.bH), .map (some x.bO), .map (some x.bP), .map (some x.bW)],136,7⟩::A9 x.bE (Au 32 evE) x.ent::A9 x.bH (Au 32 evU) x.hds::A9 x.bO (Au 32 evB) x.orp::A9 x.bP (placeT 32 evR) x.pls::A9 x.bW (Au 32 evR) x.wrs::(x.nb++(x.cb++(rbl x.pls++(rbl x.wrs++[]))))
def Held(cb:List Blk)(B:Block)(D:DB):Prop:=SameB B D∧∀W,Lies cb W→BlockIs W B D
structure DD.ok(x:DD):Prop where
  nm:Hw.Acc x.nm x.nb (A3 x.names) 34 x.names.length 32
  n32:∀l∈x.names,l.length=32
  big:x.names.length+x.orp.length≤20000
  orpn:x.orp.length≤64
  ent:∀p∈x.ent,p.1.length=32∧Held x.cb p.2.1.fBlock p.2.2∧0≤p.2.1.fDepth∧p.2.1.fDepth≤x.names.length
  entn:x.ent.length≤x.names.length
  hds:∀p∈x.hds,p.1.length=32
  hdsn:x.hds.length≤x.names.length
  orp:∀p∈x.orp,p.1.length=32∧Held x.cb p.2.1 p.2.2∧p.2.2.ls.length≤16
  pls:∀p∈x.pls,p.1.1.length=32∧p.2.ok∧p.2.ks.length≤x.names.length
  wrs:∀p∈x.wrs,p.1.length=32∧p.2.ok∧p.2.ks.length≤x.names.length
theorem DD.ok.entOk{x:DD}(h:x.ok)(hg:Av x.ent k=some e):e.1.ok:=⟨(h.ent _ (Cs hg)).2.1.1.ok⟩
theorem DD.ok.orpOk{x:DD}(h:x.ok){e:BV}(hg:Av x.orp k=some e):e.1.ok:=(h.orp _ (Cs hg)).2.1.1.ok
theorem DEnt.part{e:DEnt}(h:e.ok)(o n:Nat)(hn:o+n≤131):(e.cells.drop o).take n=(e.fBlock.cells.drop o).take n:=by
  have hl:=Block.length h.o_fBlock;unfold DEnt.cells;rw[Ldn oM,Ld1 (by rw[Lc3];omega)]
theorem Held.more{cb cb2:List Blk}(h:Held cb B D)(hs:∀b∈cb,b∈cb2):Held cb2 B D:=⟨h.1,fun W hW=>h.2 W (hW.sub hs)⟩
def RowA(L:List (List UInt8))(v:Value)(out:List Blk):Prop:=∃s:Sl,v=s.v∧Hw.Acc s out (A3 L) 34 L.length 32
theorem fresh_rowA{n:Nat}(hr:∀l∈L,l.length=32)(hn:L.length=n){out:List Blk}(h:FreshRow v out (A3 L) 34 n 32):RowA L v out:=by
  obtain⟨q,c,h1,h2,h3⟩:=h;subst h3;subst hn;exact⟨⟨some ⟨q,0,none⟩,L.length,c⟩,h1,Acc.some h2 (Ax hr)⟩
theorem db_parA(B:Block)(D:DB)(hn:D.ls.length≤500000):Meets prog 116 [agg B.cells] [] (fun W=>BlockIs W B D) (RowA (Cu D)):=fun W hW=>by
  have e1:=hW.ls.len;have hsq:=hW.seq;have hL:=parL_row hW.dok;by_cases hs:(B.fSeq.toNat:Int)=0
  · have hp:Cu D=D.ls:=if_pos (by rw[←hsq];exact Lbg.1 (by show B.fSeq.toNat=0;omega))
    rw[hp]at hL ⊢;by_cases h0:B.fLinks.n=0
    · have hl0:D.ls=[]:=Laa oM
      exact(parents_nil B hW.ok D.ls oM hs h0 W hW.ls).mono fun e W' ⟨v,out,h1,⟨h2,h3⟩,h4⟩=>⟨v,out,h1,⟨Sl.nil,h2,by rw[hl0,h3];exact Acc.none⟩,h4⟩
    ·exact(parents_0 B hW.ok D.ls oM hs oM W hW.ls).mono fun e W' ⟨v,out,h1,h2,h4⟩=>⟨v,out,h1,fresh_rowA hL e1 h2,h4⟩
  · have hp:Cu D=D.prev::D.ls:=if_neg (fun e=>hs (by rw[hsq,e];rfl))
    rw[hp]at hL ⊢;rw[←hW.prev]at hL ⊢;exact(parents_s B hW.ok D.ls oM hs W hW.ls).mono fun e W' ⟨v,out,h1,h2,h4⟩=>⟨v,out,h1,fresh_rowA hL (by rw[Lb2];omega) h2,h4⟩
def DD.P(x:DD):List (List UInt8×DB):=x.ent.map fun p=>(p.1,p.2.2)
theorem DD.getP(x:DD)(k:List UInt8):Av x.P k=(Av x.ent k).map (·.2):=mget_map (fun e:EV=>e.2) x.ent k
def wrongB(P:List (List UInt8×DB))(D:DB):Bool:=decide (D.seq≠0)&&(match Av P D.prev with|none=>false|some e=>decide (e.w≠D.w)||decide (e.seq≠D.seq-1))
def readyB(P:List (List UInt8×DB))(D:DB):Bool:=(Cu D).all fun n=>(Av P n).isSome
def C1(P:List (List UInt8×DB))(D:DB):Int:=if wrongB P D=true then 2 else if readyB P D=true then 1 else 0
theorem parL_len(D:DB):(Cu D).length≤D.ls.length+1:=by unfold Cu;split<;>simp
theorem judge_wrong{P:List (List UInt8×DB)}(h:wrongB P D=true):C1 P D=2:=if_pos h
theorem judge_waits{P:List (List UInt8×DB)}(h:wrongB P D=false){k:Nat}(hk:k<(Cu D).length)(hn:Av P ((Cu D).getD k [])=none):C1 P D=0:=by
  have h2:readyB P D=false:=by
    unfold readyB;rw[Lgl];refine⟨(Cu D)[k],Lcp hk,?_⟩;rw[La2,La3 hk]at hn;simp only[Lbn]at hn;rw[hn];simp
  unfold C1;rw[h,h2];rfl
theorem judge_fits{P:List (List UInt8×DB)}(h:wrongB P D=false)(hall:∀j,j<(Cu D).length→(Av P ((Cu D).getD j [])).isSome=true):C1 P D=1:=by
  have h2:readyB P D=true:=by
    unfold readyB;rw[Lbk];intro n hn;obtain⟨j,hj,rfl⟩:=Ldb hn;have:=hall j hj;rwa[La2,La3 hj]at this
  unfold C1;rw[h,h2];rfl
theorem u64_ne{a b:UInt64}(h:¬((a.toNat:Int)=(b.toNat:Int))):a≠b:=fun e=>h (by rw[e])
theorem u64_eq{a b:UInt64}(h:(a.toNat:Int)=(b.toNat:Int)):a=b:=Lbg.1 oM
theorem wrong_seq{P:List (List UInt8×DB)}(h:D.seq=0):wrongB P D=false:=by simp[wrongB,h]
theorem wrong_none{P:List (List UInt8×DB)}(h:Av P D.prev=none):wrongB P D=false:=by simp[wrongB,h]
theorem wrong_some{P:List (List UInt8×DB)}{D e:DB}(hs:D.seq≠0)(h:Av P D.prev=some e):wrongB P D=(decide (e.w≠D.w)||decide (e.seq≠D.seq-1)):=by simp[wrongB,h,hs]
def DagSee(x:DD)(p:Nat)(W:World):Prop:=BlkOk W ⟨p,[ptr p 0,x.nm.v, .map (some x.bE), .map (some x.bH), .map (some x.bO), .map (some x.bP), .map (some x.bW)],136,7⟩∧BlkOk W (A9 x.bE (Au 32 evE) x.ent)
theorem DagSee.of{x:DD}(hh:HRep C hp w)(h1:⟨p,[ptr p 0,x.nm.v, .map (some x.bE), .map (some x.bH), .map (some x.bO), .map (some x.bP), .map (some x.bW)],136,7⟩∈hp)(h2:A9 x.bE (Au 32 evE) x.ent∈hp):DagSee x p w:=⟨hh.cells _ h1,hh.cells _ h2⟩
theorem DagSee.at{x:DD}(h:DagSee x p W){o:Nat}(hv:[ptr p 0,x.nm.v, .map (some x.bE), .map (some x.bH), .map (some x.bO), .map (some x.bP), .map (some x.bW)][o]? =some v):W.cell? ⟨p,o,none⟩=some v:=h.1.cell hv
theorem DagSee.ext{x:DD}(hh:HRep C hp w)(h:DagSee x p C.W0)(hl:C.lent=[]:=by rfl):DagSee x p w:=⟨mblk_keep h.1 hh hl,mblk_keep h.2 hh hl⟩
theorem dag_new  :Meets prog 77 [] [] (fun _=>True) (fun v out=>∃p bE bH bO bP bW,v=ptr p 0∧out=(⟨Sl.nil,[],[],[],[],[],[],[],[],bE,bH,bO,bP,bW⟩:DD).blks p):=by
 intro W hW;refine Ac func77 J 14 ntmps77 J (G7 ?_);refine .mkMap (Au 32 evE) J J ?_;intro bE;refine .mkMap (Au 32 evU) J J ?_;intro bH;refine .mkMap (Au 32 evB) J J ?_;intro bO;refine .mkMap (placeT 32 evR) J J ?_;intro bP;refine .mkMap (Au 32 evR) J J ?_;intro bW;refine .build (cs:=[.pointer none, .slice none 0 0, .map (some bE), .map (some bH), .map (some bO), .map (some bP), .map (some bW)]) J J J (fun w=>by kernel_rfl) ?_;refine G1 ?_;intro n8 hn8 hf8;refine G9 ?_;refine .s1 J J J J J Sz26 Z0 sP (by rfl) zU ?_;refine G8 ?_;refine G2 ?_;refine Aw (out:=(⟨n8,[ptr n8 0, .slice none 0 0, .map (some bE), .map (some bH), .map (some bO), .map (some bP), .map (some bW)],136,7⟩::(A9 bE (Au 32 evE) []::(A9 bH (Au 32 evU) []::(A9 bO (Au 32 evB) []::(A9 bP (placeT 32 evR) []::(A9 bW (Au 32 evR) []::[]))))))) (Ae J J) (Ab rM (Ab rM (Ab rM (Ab rM (Ab rM (Ab rM Ai)))))) ?_;exact⟨n8,bE,bH,bO,bP,bW,rfl,rfl⟩
theorem dag_valid(x:DD)(p:Nat):Mv 96 [ptr p 0] (fun W=>DagSee x p W) (.bool true):=by
 intro W hW;refine Ac func96 J 13 ntmps96 J (G8 ?_);refine .neqNilP J J J J underlying26 (G4 ?_);refine .loadE J J J underlying26 J sP (hW.at (o:=0) J) (G1 ?_);refine .eqSameP J J J J underlying26 Sz136 (G4 ?_);refine G2 ?_;refine⟨_,[],Ae J J,sP,sP,?_,rfl⟩;rfl
theorem dag_has(x:DD)(hx:x.ok)(p:Nat)(n:List UInt8)(h32:n.length=32):Mv 79 [ptr p 0,agg (Aa n)] (fun W=>DagSee x p W) (.bool (Av x.ent n).isSome):=by
 intro W hW;refine Ac func79 J 20 ntmps79 J (G3 ?_);intro n3 hn3 hf3;refine G7 ?_;refine .cV J J J J Body96 (dag_valid x p) (fun w h=>hW.ext h) (G3 ?_);refine .cond_f J J (G3 ?_);refine .draw (oP [0,1,2,103,104,105,6,7,8,209,410,11]) Ao zK (G3 ?_);refine .loadE J J J Y131.h J sP (hW.at (o:=2) J) (.lA J J J Y34.h J Sz34 Z0 (by(simp[h32];done)) ?_);refine .lookFC evE ME hW.2 sP J J J J h32 (fun hg=>?_) (fun e hg=>?_)
 ·
  skip;refine G3 ?_;refine .alloc (cs:=DEnt.zero.cells) J DEnt.zr J ?_;intro n5 hn5 hf5;refine G10 ?_;refine G2 ?_;refine⟨_,[],Ae J J,sP,sP,?_,rfl⟩;rw[hg];rfl
 skip;refine G3 ?_;refine .alloc (cs:=DEnt.zero.cells) J DEnt.zr J ?_;intro n5 hn5 hf5;refine .sA J J J J (DEnt.isCell (by exact hx.entOk hg)) Sz164 (DEnt.length (by exact hx.entOk hg)) Z0 (DEnt.length (by exact DEnt.zero_ok)) zU ?_;refine G9 ?_;refine G2 ?_;refine⟨_,[],Ae J J,sP,sP,?_,rfl⟩;rw[hg];rfl
theorem dag_judge(x:DD)(hx:x.ok)(p:Nat)(B:Block)(D:DB)(hB:SameB B D)(hs:D.ls.length≤500000):Mv 99 [ptr p 0,agg B.cells] (fun W=>DagSee x p W∧BlockIs W B D) (i64 (C1 x.P D)):=by
 intro W hW;have hrow0:=parL_row hW.2.dok;refine Ac func99 J 61 ntmps99 J (G3 ?_);intro n3 hn3 hf3;refine G3 ?_;refine .join (ι:=Unit) (fun u=>⟨[(0,ptr p 0),(3,ptr n3 0)],[⟨n3,B.cells,50,B.cells.length⟩]⟩) (fun u=>wrongB x.P D=false) ?_ ?_
 ·
  refine G3 ?_;refine .load1 J J J Y45.h J Z0 (by exact Block.get_fSeq (by exact hB.ok)) ?_;refine G3 ?_;refine .condP J (fun hc0=>?_) (fun hc0=>?_)
  ·
   refine .seq (.draw (oP [0,1,2,103,4,105,106,7,8,9,210,411,12]) Ao zK (G3 ?_));refine .loadE J J J Y131.h J sP (hW.1.at (o:=2) J) (G1 ?_);refine .lN (Aa _) J J J Y34.h J Sz34 Z0 (Block.row_fPrev (by exact hB.ok)) (Block.rl_fPrev (by exact hB.ok)) ?_;refine .lookFC evE ME hW.1.2 sP J J J J hB.ok.l_fPrev (fun hg=>?_) (fun e hg=>?_)
   ·
    skip;refine G3 ?_;refine .alloc (cs:=DEnt.zero.cells) J DEnt.zr J ?_;intro n5 hn5 hf5;refine G26 ?_;refine .cond_f J J (G2 ?_);exact⟨(),wrong_none (by rw[x.getP,←hB.prev,hg];rfl),An wN (Ab rM Ai)⟩
   have he:=(hx.ent _ (Cs hg)).2.1.1;have hP:Av x.P D.prev=some e.2:=by rw[x.getP,←hB.prev,hg];rfl
   have hsq:D.seq≠0:=fun h=>by rw[hB.seq,h]at hc0;simp at hc0
   refine G3 ?_;refine .alloc (cs:=DEnt.zero.cells) J DEnt.zr J ?_;intro n5 hn5 hf5;refine .sA J J J J (DEnt.isCell (by exact hx.entOk hg)) Sz164 (DEnt.length (by exact hx.entOk hg)) Z0 (DEnt.length (by exact DEnt.zero_ok)) zU ?_;refine G9 ?_;have hwl:=(hx.entOk hg).o_fBlock.l_fWriter;refine .lN (Aa e.1.fBlock.fWriter) J J J Y44.h J Sz44 Z0 ((DEnt.part (hx.entOk hg) 0 32 dE).trans (Block.row_fWriter (hx.entOk hg).o_fBlock)) (by rw[Aa,La1];exact hwl) ?_;refine G1 ?_;refine .lN (Aa _) J J J Y44.h J Sz44 Z1 (Block.row_fWriter (by exact hB.ok)) (Block.rl_fWriter (by exact hB.ok)) ?_;refine two (fun r hr k=>Tr.neq_bytes J J J J eqGuardType44 Y44.h Y5.h Sz5 zA (by(simp[hB.ok.l_fWriter];done)) hr k) (fun hs3_70=>?_) (fun hs3_70=>?_)
   ·
    have hs3_7:=nd_t hs3_70;refine G12 ?_;refine .cond_t J J (G5 ?_);refine G3 ?_;refine⟨_,[],Ae J J,sP,sP,?_,rfl⟩;rw[judge_wrong (by rw[wrong_some hsq hP,←he.w,←hB.w];simp[hs3_7])]
   have hs3_7:=nd_f hs3_70;refine G3 ?_;refine .load1 J J J Y45.h J Z0 (DEnt.see_fBlock (hx.entOk hg) 32 _ (Block.get_fSeq (hx.entOk hg).o_fBlock)) ?_;refine G1 ?_;refine .load1 J J J Y45.h J Z1 (by exact Block.get_fSeq (by exact hB.ok)) ?_;refine .sub_u64 J J J (show Ag _ _=some (u64 1)from rfl) (G5 ?_);refine .condNP J (fun hc1=>?_) (fun hc1=>?_)
   ·
    refine G5 ?_;refine G3 ?_;refine⟨_,[],Ae J J,sP,sP,?_,rfl⟩;rw[judge_wrong (by have h9:=u64_ne hc1;rw[wrong_some hsq hP,←he.seq,←hB.seq];simp[h9])]
   refine G2 ?_;exact⟨(),(by have h9:=u64_eq hc1;rw[wrong_some hsq hP,←he.w,←he.seq,←hB.w,←hB.seq,hs3_7,h9];simp),An wN (Ab rM Ai)⟩
  refine G2 ?_;exact⟨(),wrong_seq (by rw[←hB.seq];exact u64_eq (b:=0) (by have h9:((0:UInt64).toNat:Int)=0:=rfl;omega)),An wN (Ab rM Ai)⟩
 intro u hj;skip;refine G3 ?_;refine .lA J J J Y50.h J Sz50 Z0 (Block.length (by exact hB.ok)) ?_;refine .call4 J J J J J Body116 (db_parA B D hs) (fun w h=>hW.2.ext h J) ?_;rintro v43 out43 ⟨s43,rfl,hac⟩;have hn43:s43.n=(Cu D).length:=hac.num;refine G5 ?_;refine .loop (ι:=Nat) (fun k=>⟨[(0,ptr p 0),(3,ptr n3 0),(43,s43.v),(44,i64 (s43.n:Int)),(45,i64 (k:Int))],(⟨n3,B.cells,50,B.cells.length⟩::(out43++[]))⟩) (fun k=>k≤(Cu D).length∧∀j,j<k→(Av x.P ((Cu D).getD j [])).isSome=true) (fun k=>(Cu D).length-k) (0) ?_ ?_ ?_
 ·exact⟨Laj _,fun j hj=>by omega⟩
 ·exact An wN (Ab (by repeat(first|exact Az|apply Ce)) (Af sG Ai))
 rintro k ⟨hk0,hall⟩;refine G6 ?_;refine .condP J (fun hc2=>?_) (fun hc2=>?_)
 ·
  refine G6 ?_;have hk:k<(Cu D).length:=by omega
  have hkb:k≤600000:=by have:=parL_len D;omega
  rcases hac with ⟨_,_,_,h0⟩|⟨qr,cr,rfl,hnc,hfl,rfl⟩
  ·exfalso;omega
  have hrow:=hrow0;obtain⟨kk,hkk⟩:∃kk,kk=(Cu D).getD k []:=⟨_,rfl⟩;have h32k:kk.length=32:=by rw[hkk,La2,La3 hk];exact hrow _ (Lcp hk)
  refine .idxSlP 32 J J J J J Y30.h Sz34 k J oM (.loadSN (n:=32) (Aa kk) J J J Y34.h J Sz34 (by rw[Aa,La1];exact h32k) (fun w h=>by rw[hkk];simpa using Bu hrow (Ap h Z1) hk) ?_);refine .alloc (cs:=(Aa (List.replicate 32 0))) J Ck J ?_;intro n8 hn8 hf8;refine .sA J J J J zE Sz34 (by(rw[Aa,La1];assumption)) Z0 sP zU ?_;refine G3 ?_;refine .draw (oP [0,1,2,103,104,105,6,7,8,209,410,11]) Ao zK (G3 ?_);refine .loadE J J J Y131.h J sP (hW.1.at (o:=2) J) (.lA J J J Y34.h J Sz34 Z0 (by(rw[Aa,La1];assumption)) ?_);refine .lookFC evE ME hW.1.2 sP J J J J h32k (fun hg=>?_) (fun e hg=>?_)
  ·
   skip;refine G3 ?_;refine .alloc (cs:=DEnt.zero.cells) J DEnt.zr J ?_;intro n9 hn9 hf9;refine G10 ?_;refine .cond_t J J (G5 ?_);refine G7 ?_;refine⟨_,[],Ae J J,sP,sP,?_,rfl⟩;rw[judge_waits hj hk (by rw[←hkk,x.getP,hg];rfl)]
  skip;refine G3 ?_;refine .alloc (cs:=DEnt.zero.cells) J DEnt.zr J ?_;intro n9 hn9 hf9;refine .sA J J J J (DEnt.isCell (by exact hx.entOk hg)) Sz164 (DEnt.length (by exact hx.entOk hg)) Z0 (DEnt.length (by exact DEnt.zero_ok)) zU ?_;refine G9 ?_;refine .cond_f J J (G8 ?_);exact⟨k+1,⟨hk,fun j hj=>by rcases Lfo (Lgi hj)with h|h;exact hall j h;rw[h,←hkk,x.getP,hg];rfl⟩,by omega,An wN (Ab rM (Af sG Ai))⟩
 refine G10 ?_;refine G2 ?_;refine⟨_,[],Ae J J,sP,sP,?_,rfl⟩;rw[judge_fits hj (by rw[Nat.le_antisymm hk0 oM]at hall;exact hall)]
theorem dag_clone(B:Block)(D:DB)(hB:SameB B D)(h1:D.ls.length≤90000)(h2:D.ds.length≤90000):Meets prog 100 [agg B.cells] [] (fun W=>BlockIs W B D) (BlkV D):=by
 intro W hW;have f1:(A3 D.ls).length=B.fLinks.n*32:=by rw[Ax hW.ls.row,hW.ls.len]
 have f2:(Aa D.ds).length=B.fData.n*1:=by rw[Aa,La1,hB.dn];omega
 have g1:=hB.ln;have g2:=hB.dn;refine Ac func100 J 12 ntmps100 J (G3 ?_);intro n1 hn1 hf1;refine .alloc (cs:=Block.zero.cells) J Block.zr J ?_;intro n2 hn2 hf2;refine G3 ?_;refine .draw (oP [0,101,3,104,302,6,305,407,8,409]) Ao zK (G1 ?_);refine .load1 J J J Y30.h J Z1 (by exact Block.get_fLinks (by exact hB.ok)) ?_;refine G1 ?_;refine .load1 J J J Y46.h J Z1 (by exact Block.get_fData (by exact hB.ok)) ?_;refine .call J J J J Body81 (cl_digs B.fLinks D.ls oM) (acc_loose _ _ _ _ f1) (fun w h=>(hW.ext h J).ls) ?_;rintro v5 out5 ⟨⟨p5,n5,c5⟩,rfl,hac5⟩;have hn5:=hac5.num;refine G1 ?_;refine .call J J J J Body158 (cl_byte B.fData D.ds oM) (acc_loose _ _ _ _ f2) (fun w h=>(hW.ext h J).ds) ?_;rintro v8 out8 ⟨⟨p8,n8,c8⟩,rfl,hac8⟩;have hn8:=hac8.num;refine .s1 J J J J J Sz30 mR (by rw[Block.length (by exact hB.ok)];decide) (by exact Block.set_fLinks (by exact hB.ok) _) uU ?_;refine G1 ?_;refine .s1 J J J J J Sz46 mR (by rw[Block.length (by exact⟨hB.ok.l_fWriter,hB.ok.l_fPrev,hB.ok.l_fSig⟩)];decide) (by exact Block.set_fData (by exact⟨hB.ok.l_fWriter,hB.ok.l_fPrev,hB.ok.l_fSig⟩) _) uU ?_;refine G4 ?_;refine .lA J J J Y50.h J Sz50 mR (Block.length (by exact⟨hB.ok.l_fWriter,hB.ok.l_fPrev,hB.ok.l_fSig⟩)) ?_;refine .sA J J J J (Block.isCell (by exact⟨hB.ok.l_fWriter,hB.ok.l_fPrev,hB.ok.l_fSig⟩)) Sz50 (Block.length (by exact⟨hB.ok.l_fWriter,hB.ok.l_fPrev,hB.ok.l_fSig⟩)) mR (Block.length (by exact Block.zero_ok)) (by(repeat(first|exact upd0|apply Upd.seg))) ?_;refine G2 ?_;refine G2 ?_;refine Aw (out:=(out8++(out5++[]))) (Am J J Y50.h J Sz50 mR (by exact Block.length (by exact⟨hB.ok.l_fWriter,hB.ok.l_fPrev,hB.ok.l_fSig⟩))) (Af sG (Af sG Ai)) ?_;exact⟨{ B with fLinks:=⟨p5,n5,c5⟩,fData:=⟨p8,n8,c8⟩ },⟨⟨hB.ok.l_fWriter,hB.ok.l_fPrev,hB.ok.l_fSig⟩,hB.w,hB.seq,hB.prev,hB.sg,hn5.trans g1,hn8.trans g2⟩,rfl,fun W2 hl=>⟨⟨hB.ok.l_fWriter,hB.ok.l_fPrev,hB.ok.l_fSig⟩,hB.w,hB.seq,hB.prev,acc_rows hac5 (hl.sub (by repeat(first|exact A4|refine in_seg ?_))) hW.ls.row hW.ls.len oM,acc_bytes hac8 (hl.sub (by repeat(exact A4))) g2.symm oM,hB.sg⟩⟩
def stepD(ent:List (List UInt8×EV))(d:Int)(n:List UInt8):Int:=if((Av ent n).map fun e=>e.1.fDepth).getD 0+1>d then((Av ent n).map fun e=>e.1.fDepth).getD 0+1 else d
def depL(ent:List (List UInt8×EV))(L:List (List UInt8)):Int:=L.foldl (stepD ent) 0
def delL(hds:List (List UInt8×Unit))(L:List (List UInt8)):List (List UInt8×Unit):=L.foldl mdel hds
theorem take_one{α:Type}{L:List α}{k:Nat}{a:α}{d:α}(hk:k<L.length)(ha:a=L.getD k d):L.take (k+1)=L.take k++[a]:=by
  rw[ha,La2,La3 hk,Lar hk];rfl
theorem depL_none{x:DD}{k:Nat}(hk:k<L.length)(ha:a=L.getD k [])(h:Av x.ent a=none):depL x.ent (L.take (k+1))=if(0:Int)+1>depL x.ent (L.take k)then 0+1 else depL x.ent (L.take k):=by
  unfold depL;rw[take_one hk ha,Lee];simp only[Lf1,Lg3,stepD,h,Option.map_none,Lgs]
theorem depL_some{x:DD}{k:Nat}(hk:k<L.length)(ha:a=L.getD k [])(h:Av x.ent a=some e):depL x.ent (L.take (k+1))=if e.1.fDepth+1>depL x.ent (L.take k)then e.1.fDepth+1 else depL x.ent (L.take k):=by
  unfold depL;rw[take_one hk ha,Lee];simp only[Lf1,Lg3,stepD,h,Lbq,Lbn]
theorem delL_one{k:Nat}(hk:k<L.length)(ha:a=L.getD k []):delL hds (L.take (k+1))=mdel (delL hds (L.take k)) a:=by
  unfold delL;rw[take_one hk ha,Lee];rfl
theorem delL_mem:∀p∈delL hds L,p∈hds:=by
  unfold delL
  induction L generalizing hds with
  |nil=>intro p h;exact h
  |cons a L ih=>intro p h;exact mdel_mem (ih p h)
theorem delL_len{hds:List (List UInt8×Unit)}{L:List (List UInt8)}:(delL hds L).length≤hds.length:=by
  unfold delL
  induction L generalizing hds with
  |nil=>exact Lae _
  |cons a L ih=>exact Lbc ih (mdel_len _ _)
def DD.adm(x:DD)(s:Sl)(bl:List Blk)(n:List UInt8)(B:Block)(D:DB)(rp rw:RV):DD:=
  { x with nm:=s,nb:=bl,names:=x.names++[n],ent:=Bo x.ent n (⟨B,depL x.ent (Cu D)⟩,D),hds:=Bo (delL x.hds (Cu D)) n (),pls:=Bo x.pls (B.fWriter,B.fSeq) rp,wrs:=Bo x.wrs B.fWriter rw }
def MoreR(old:Option RV)(n:List UInt8)(r:RV):Prop:=r.ok∧r.ks=(old.getD RV.none).ks++[n]
theorem DD.ok.plsR{x:DD}(hx:x.ok)(k:List UInt8×UInt64):((Av x.pls k).getD RV.none).ok∧((Av x.pls k).getD RV.none).ks.length≤x.names.length:=by
  cases h:Av x.pls k with
  |none=>exact⟨RV.none_ok,Laj _⟩
  |some r=>exact(hx.pls _ (Cs h)).2
theorem DD.ok.wrsR{x:DD}(hx:x.ok)(k:List UInt8):((Av x.wrs k).getD RV.none).ok∧((Av x.wrs k).getD RV.none).ks.length≤x.names.length:=by
  cases h:Av x.wrs k with
  |none=>exact⟨RV.none_ok,Laj _⟩
  |some r=>exact(hx.wrs _ (Cs h)).2
theorem depL_le{x:DD}(hx:x.ok)(L:List (List UInt8)):0≤depL x.ent L∧depL x.ent L≤x.names.length+1:=by
  have key:∀(L:List (List UInt8)) (d:Int),0≤d→d≤x.names.length+1→0≤L.foldl (stepD x.ent) d∧L.foldl (stepD x.ent) d≤x.names.length+1:=by
    intro L
    induction L with
    |nil=>intro d h0 h1;exact⟨h0,h1⟩
    | cons a L ih=>
      intro d h0 h1;refine ih _ ?_ ?_<;>unfold stepD<;>cases h:Av x.ent a with
      |none=>simp only[Option.map_none,Lgs];split<;>omega
      | some e=>
        have:=(hx.ent _ (Cs h)).2.2;simp only[Lbq,Lbn];simp only at this;split<;>omega
  exact key L 0 (Int.le_refl _) oM
theorem DD.ok.adm{x:DD}(hx:x.ok)(h32:n.length=32)(hB:Held x.cb B D)(hroom:x.names.length+x.orp.length<20000)
    (hs:Hw.Acc s bl (A3 x.names++Aa n) 34 (x.names.length+1) 32) (hp:MoreR (Av x.pls (B.fWriter,B.fSeq)) n rp) (hw:MoreR (Av x.wrs B.fWriter) n rw):(x.adm s bl n B D rp rw).ok where
  nm:=by
    show Hw.Acc s bl (A3 (x.names++[n])) 34 (x.names++[n]).length 32;rw[La4,flatB_append];simpa[A3]using hs
  n32:=fun l hl=>by rcases Lac.1 hl with h|h;exact hx.n32 l h;rw[La0.1 h];exact h32
  big:=by show(x.names++[n]).length+x.orp.length≤20000;rw[La4,Lb5];omega
  ent :=fun p hp=>by
    have e:((x.names++[n]).length:Int)=x.names.length+1:=by rw[La4,Lb5];rfl
    show p.1.length=32∧Held x.cb p.2.1.fBlock p.2.2∧0≤p.2.1.fDepth∧p.2.1.fDepth≤((x.names++[n]).length:Int);rw[e];rcases mput_mem hp with h|h
    · have:=hx.ent p h
      exact⟨this.1,this.2.1,this.2.2.1,by omega⟩
    · subst h
      exact⟨h32,hB,depL_le hx _⟩
  entn:=by
    show(Bo x.ent n _).length≤(x.names++[n]).length;rw[La4,Lb5];exact Lbc (mput_len ..) (by have:=hx.entn;omega)
  hds:=fun p hp=>by
    rcases mput_mem hp with h|h
    ·exact hx.hds p (delL_mem p h)
    ·subst h;exact h32
  hdsn:=by
    show(Bo _ n _).length≤(x.names++[n]).length;rw[La4,Lb5];exact Lbc (mput_len ..) (by have:=hx.hdsn;have:= @delL_len x.hds (Cu D);omega)
  orp:=hx.orp
  orpn:=hx.orpn
  pls :=fun p h=>by
    show p.1.1.length=32∧p.2.ok∧p.2.ks.length≤(x.names++[n]).length;rw[La4,Lb5];rcases mput_mem h with h|h
    · have:=hx.pls p h
      exact⟨this.1,this.2.1,by omega⟩
    · subst h
      refine⟨hB.1.ok.l_fWriter,hp.1,?_⟩;show rp.ks.length≤_;rw[hp.2,La4,Lb5];have:=(hx.plsR (B.fWriter,B.fSeq)).2;omega
  wrs :=fun p h=>by
    show p.1.length=32∧p.2.ok∧p.2.ks.length≤(x.names++[n]).length;rw[La4,Lb5];rcases mput_mem h with h|h
    · have:=hx.wrs p h
      exact⟨this.1,this.2.1,by omega⟩
    · subst h
      refine⟨hB.1.ok.l_fWriter,hw.1,?_⟩;show rw.ks.length≤_;rw[hw.2,La4,Lb5];have:=(hx.wrsR B.fWriter).2;omega
theorem dag_admit(x:DD)(hx:x.ok)(p:Nat)(n:List UInt8)(h32:n.length=32)(B:Block)(D:DB)(hB:Held x.cb B D)(hs:D.ls.length≤500000)(hroom:x.names.length+x.orp.length<20000):Meets prog 101 [ptr p 0,agg (Aa n),agg B.cells] ((x.blks p).map (·.n)) (fun W=>Lent (x.blks p) W) (fun v out=>v= .tuple #[]∧∃s bl rp rw,out=(x.adm s bl n B D rp rw).blks p∧(x.adm s bl n B D rp rw).ok∧MoreR (Av x.pls (B.fWriter,B.fSeq)) n rp∧MoreR (Av x.wrs B.fWriter) n rw):=by
 intro W hW;have hbd:=hB.2 W (hW.1.sub (by unfold DD.blks;exact(by repeat(first|exact A4|refine Bl ?_|refine in_seg ?_))));have hrow:=parL_row hbd.dok;have hwp:((⟨B.fWriter,B.fSeq⟩:DPl)).ok:=⟨hB.1.ok.l_fWriter⟩;have hbig:=hx.big;refine Br (hp0:=(⟨p,[ptr p 0,x.nm.v, .map (some x.bE), .map (some x.bH), .map (some x.bO), .map (some x.bP), .map (some x.bW)],136,7⟩::A9 x.bE (Au 32 evE) (x.ent)::A9 x.bH (Au 32 evU) (x.hds)::A9 x.bO (Au 32 evB) (x.orp)::A9 x.bP (placeT 32 evR) (x.pls)::A9 x.bW (Au 32 evR) (x.wrs)::(x.nb++(x.cb++(rbl x.pls++(rbl x.wrs++[])))))) func101 J 85 ntmps101 J hW.rep (G3 ?_);intro n4 hn4 hf4;refine G1 ?_;intro n5 hn5 hf5;refine G10 ?_;refine .lA J J J Y50.h J Sz50 Z0 (Block.length (by exact hB.1.ok)) ?_;refine .call4 J J J J J Body116 (db_parA B D hs) (fun w h=>hB.2 w (Lies.of h (by repeat(first|exact A4|refine Bl ?_|refine in_seg ?_)))) ?_;rintro v11 out11 ⟨s11,rfl,hac⟩;have hn11:s11.n=(Cu D).length:=hac.num;refine G5 ?_;refine .loop (ι:=Nat×Int×List (List UInt8×Unit)) (fun q=>⟨[(0,ptr p 0),(4,ptr n4 0),(5,ptr n5 0),(6,i64 q.2.1),(11,s11.v),(12,i64 (s11.n:Int)),(13,i64 (q.1:Int))],(⟨n5,B.cells,50,B.cells.length⟩::(⟨n4,Aa n,34,(Aa n).length⟩::(⟨p,[ptr p 0,x.nm.v, .map (some x.bE), .map (some x.bH), .map (some x.bO), .map (some x.bP), .map (some x.bW)],136,7⟩::(A9 x.bE (Au 32 evE) (x.ent)::(A9 x.bH (Au 32 evU) (q.2.2)::(A9 x.bO (Au 32 evB) (x.orp)::(A9 x.bP (placeT 32 evR) (x.pls)::(A9 x.bW (Au 32 evR) (x.wrs)::(x.nb++(x.cb++(rbl x.pls++(rbl x.wrs++(out11++[])))))))))))))⟩) (fun q=>q.1≤(Cu D).length∧q.2.1=depL x.ent ((Cu D).take q.1)∧q.2.2=delL x.hds ((Cu D).take q.1)) (fun q=>(Cu D).length-q.1) ((0,0,x.hds)) ?_ ?_ ?_
 ·exact⟨Laj _,rfl,rfl⟩
 ·exact An wN (Ab (by repeat(first|exact Az|apply Ce)) (Ab (by repeat(first|exact Az|apply Ce)) (Ab (by repeat(first|exact Az|apply Ce)) (Ab (by repeat(first|exact Az|apply Ce)) (Ab (by repeat(first|exact Az|apply Ce)) (Ab (by repeat(first|exact Az|apply Ce)) (Ab (by repeat(first|exact Az|apply Ce)) (Ab (by repeat(first|exact Az|apply Ce)) (Af (by repeat(first|exact sg_here|apply sg_seg)) (Af (by repeat(first|exact sg_here|apply sg_seg)) (Af (by repeat(first|exact sg_here|apply sg_seg)) (Af (by repeat(first|exact sg_here|apply sg_seg)) (Af sG Ai)))))))))))))
 rintro⟨k,dp,hd⟩ ⟨hk0,hdp,hhd⟩;simp only at hk0 hdp hhd ⊢;have hdl:=depL_le hx ((Cu D).take k);rw[←hdp]at hdl;refine G6 ?_;refine .condP J (fun hc0=>?_) (fun hc0=>?_)
 ·
  refine G6 ?_;have hk:k<(Cu D).length:=by omega
  have hkb:k≤600000:=by have:=parL_len D;omega
  rcases hac with ⟨_,_,_,h0⟩|⟨qr,cr,rfl,hnc,hfl,rfl⟩
  ·exfalso;omega
  obtain⟨kk,hkk⟩:∃kk,kk=(Cu D).getD (k) []:=⟨_,rfl⟩;have h32k:kk.length=32:=by rw[hkk,La2,La3 hk];exact hrow _ (Lcp hk)
  refine .idxSlP 32 J J J J J Y30.h Sz34 (k) J oM (.loadSN (n:=32) (Aa kk) J J J Y34.h J Sz34 (by rw[Aa,La1];exact h32k) (fun w h=>by rw[hkk];simpa using Bu hrow (Ap h mR) hk) ?_);refine .alloc (cs:=(Aa (List.replicate 32 0))) J Ck J ?_;intro n8 hn8 hf8;refine .sA J J J J zE Sz34 (by(rw[Aa,La1];assumption)) Z0 sP zU ?_;refine G3 ?_;refine .draw (oP [0,1,2,3,104,105,106,7,8,9,10]) Ao zK (G5 ?_);refine .lA J J J Y34.h J Sz34 Z0 (by(rw[Aa,La1];assumption)) ?_;refine .lookG evE ME J J J J h32k Z4 (fun hg=>?_) (fun e hg=>?_)
  ·
   have hdv:DEnt.zero.fDepth=0:=rfl;refine .field1 J J J Y164.h J Y3.h J (DEnt.get_fDepth DEnt.zero_ok) (G1 ?_);refine .max2 J J J J (rfl) (G3 ?_);refine .draw (oP [0,1,2,103,104,405]) Ao zK (G4 ?_);refine .lA J J J Y34.h J Sz34 Z0 (by(rw[Aa,La1];assumption)) ?_;refine .mapDel MH J J J J h32k rM ?_;refine G8 ?_;refine⟨(k+1,_,_),⟨hk,?_,?_⟩,by simp only;omega,An wN (Ab rM (Ab rM (Ab rM (Ab rM (Ab rM (Ab rM (Ab rM (Ab rM (Af sG (Af sG (Af sG (Af sG (Af sG Ai)))))))))))))⟩
   ·rw[depL_none hk hkk hg,←hdp];rfl
   ·rw[delL_one hk hkk,←hhd];rfl
  have hdv:0≤e.1.fDepth∧e.1.fDepth≤(x.names.length:Int):=(hx.ent _ (Cs hg)).2.2;refine .field1 J J J Y164.h J Y3.h J (DEnt.get_fDepth (hx.entOk hg)) (G1 ?_);refine .max2 J J J J (rfl) (G3 ?_);refine .draw (oP [0,1,2,103,104,405]) Ao zK (G4 ?_);refine .lA J J J Y34.h J Sz34 Z0 (by(rw[Aa,La1];assumption)) ?_;refine .mapDel MH J J J J h32k rM ?_;refine G8 ?_;refine⟨(k+1,_,_),⟨hk,?_,?_⟩,by simp only;omega,An wN (Ab rM (Ab rM (Ab rM (Ab rM (Ab rM (Ab rM (Ab rM (Ab rM (Af sG (Af sG (Af sG (Af sG (Af sG Ai)))))))))))))⟩
  ·rw[depL_some hk hkk hg,←hdp];rfl
  ·rw[delL_one hk hkk,←hhd];rfl
 have hkl:k=(Cu D).length:=by omega
 rw[hkl,Ldm]at hdp hhd;refine G6 ?_;refine .draw (oP [0,1,2,103,104,105,6,7,408]) Ao zK (G4 ?_);refine .lA J J J Y34.h J Sz34 Z1 (by(simp[h32];done)) ?_;refine .lA J J J Y50.h J Sz50 Z0 (Block.length (by exact hB.1.ok)) ?_;refine G1 ?_;refine .build (cs:=(⟨B,dp⟩:DEnt).cells) J J J (fun w=>run_build2 (a:=agg B.cells) (b:=i64 dp) (ca:=B.cells) (cb:=[i64 dp]) DEnt.zr Y164.h J J Sz50 Sz3 (DEnt.length DEnt.zero_ok) J J (Block.length hB.1.ok) J w) (.mapPut (v:=((⟨B,dp⟩,D):EV)) ME J J J J J h32 rM ?_);refine G3 ?_;refine .draw (oP [0,1,2,3,104,105,206,407,8,9,410]) Ao zK (G5 ?_);refine .lA J J J Y34.h J Sz34 Z2 (by(simp[h32];done)) ?_;refine .mkRow2 (z:=agg (Aa (List.replicate 32 0))) [agg (Aa n)] (Aa n) J J Y30.h Sz34 Ck J J (by intro v hv;rw[La0.1 hv];simp[Value.cells,Aa,h32]) dE (by simp[Value.cells,agg]) ?_;intro q9;refine .appendAcc (z:=agg (Aa (List.replicate 32 0))) (by':=32) (Aa n) J J J J J Y30.h Y30.h Sz34 Ck (by unfold By;kernel_rfl) J hx.nm sG (fun w h=>SeesP.of (Ap h Z0)) (fun e=>by cases e) (Ay _) oM oM (by rw[Aa,La1,h32]) ?_;intro s9 bl9 hac9;refine G2 ?_;refine .s1 J J J J J Sz30 mR sP (by rfl) uU ?_;refine G3 ?_;refine .draw (oP [0,1,2,103,104,5,406]) Ao zK (G4 ?_);refine .lA J J J Y34.h J Sz34 mR (by(simp[h32];done)) ?_;refine .build (cs:=[]) J J J (fun w=>by kernel_rfl) ?_;refine .mapPut (v:=()) MH J J J J J h32 rM ?_;refine G2 ?_;refine .join (ι:=Nat×Sl×List Blk) (fun j=>⟨[(0,ptr p 0),(4,ptr n4 0),(5,ptr n5 0),(9,ptr j.1 0)],(⟨n5,B.cells,50,B.cells.length⟩::(⟨n4,Aa n,34,(Aa n).length⟩::(⟨j.1,(⟨B.fWriter,B.fSeq⟩:DPl).cells,177,33⟩::(⟨p,[ptr p 0,j.2.1.v, .map (some x.bE), .map (some x.bH), .map (some x.bO), .map (some x.bP), .map (some x.bW)],136,7⟩::(A9 x.bE (Au 32 evE) (Bo x.ent n (⟨B,dp⟩,D))::(A9 x.bH (Au 32 evU) (Bo hd n ())::(A9 x.bO (Au 32 evB) (x.orp)::(A9 x.bP (placeT 32 evR) (x.pls)::(A9 x.bW (Au 32 evR) (x.wrs)::(j.2.2++(x.cb++(rbl x.pls++(rbl x.wrs++[])))))))))))))⟩) (fun j=>Hw.Acc j.2.1 j.2.2 (A3 x.names++Aa n) 34 (x.names.length+1) 32) ?_ ?_
 ·
  refine G2 ?_;refine .lN (Aa _) J J J Y44.h J Sz44 mR (Block.row_fWriter (by exact hB.1.ok)) (Block.rl_fWriter (by exact hB.1.ok)) ?_;refine G1 ?_;refine .load1 J J J Y45.h J mR (by exact Block.get_fSeq (by exact hB.1.ok)) ?_;refine .build (cs:=(⟨B.fWriter,B.fSeq⟩:DPl).cells) J J J (fun w=>run_build2 (a:=agg (Aa B.fWriter)) (b:=u64 B.fSeq) (ca:=Aa B.fWriter) (cb:=[u64 B.fSeq]) DPl.zr underlying177 J J Sz44 Sz45 (DPl.length DPl.zero_ok) J J (by rw[Aa,La1];exact hB.1.ok.l_fWriter) J w) ?_;refine .alloc (cs:=DPl.zero.cells) J DPl.zr J ?_;intro n9 hn9 hf9;refine .sA J J J J (DPl.isCell (by exact hwp)) Sz177 (DPl.length (by exact hwp)) Z0 (DPl.length (by exact DPl.zero_ok)) zU ?_;refine G2 ?_;exact⟨(n9,s9,bl9),hac9,An wN (Ab rM (Ab rM (Ab rM (Ab rM (Ab rM (Ab rM (Ab rM (Ab rM (Ab rM (Af sG (Af sG (Af sG (Af sG Ai)))))))))))))⟩
 intro j hj;obtain⟨m9,s9,bl9⟩:=j;simp only at hj ⊢;have hac9:=hj;refine .join (ι:=RV) (fun r=>⟨[(0,ptr p 0),(4,ptr n4 0),(5,ptr n5 0)],(⟨n5,B.cells,50,B.cells.length⟩::(⟨n4,Aa n,34,(Aa n).length⟩::(⟨p,[ptr p 0,s9.v, .map (some x.bE), .map (some x.bH), .map (some x.bO), .map (some x.bP), .map (some x.bW)],136,7⟩::(A9 x.bE (Au 32 evE) (Bo x.ent n (⟨B,dp⟩,D))::(A9 x.bH (Au 32 evU) (Bo hd n ())::(A9 x.bO (Au 32 evB) (x.orp)::(A9 x.bP (placeT 32 evR) (Bo x.pls (B.fWriter,B.fSeq) r)::(A9 x.bW (Au 32 evR) (x.wrs)::(bl9++(x.cb++(rbl (Bo x.pls (B.fWriter,B.fSeq) r)++(rbl x.wrs++[]))))))))))))⟩) (fun r=>MoreR (Av x.pls (B.fWriter,B.fSeq)) n r) ?_ ?_
 ·
  refine .withK (sp_k (sp_k (sp_k (sp_k (sp_v (sp_v (sp_v (sp_v (sp_v (sp_x (sp_x (sp_x (sp_x sp_n))))))))))))) J (.draw (oP [0,1,2,3,4,5,206,407,8,10,409,411]) Ao zK (G3 ?_));refine .kload1 J J J underlying133 J Z3 (by rfl) ?_;refine .kloadAll J J J underlying177 J Sz177 Z2 (DPl.length (by exact hwp)) ?_;refine .kloadAll J J J Y34.h J Sz34 Z1 (by(simp[h32];done)) ?_;refine .mkRow2 (z:=agg (Aa (List.replicate 32 0))) [agg (Aa n)] (Aa n) J J Y30.h Sz34 Ck J J (by intro v hv;rw[La0.1 hv];simp[Value.cells,Aa,h32]) dE (by simp[Value.cells,agg]) ?_;intro q12;obtain⟨R12,hR12,hS12⟩:=rbl_put x.pls (B.fWriter,B.fSeq);have hrk12:=hx.plsR (B.fWriter,B.fSeq);refine .mapEntry (d0:=RV.none) (k:=(B.fWriter,B.fSeq)) MP J J J J J J hB.1.ok.l_fWriter rM ?_;intro st12;obtain⟨row12,hrow12⟩:∃r,r=(Av x.pls (B.fWriter,B.fSeq)).getD RV.none:=⟨_,rfl⟩;rw[←hrow12]at hR12 hrk12 ⊢;refine G2 ?_;refine .appendAcc (z:=agg (Aa (List.replicate 32 0))) (by':=32) (Aa n) J J J J J Y30.h Y30.h Sz34 Ck (by unfold By;kernel_rfl) J hrk12.1.acc (perm_open sG hR12) (fun w h=>SeesP.of (Ap h Z1)) (fun e=>by cases e) (Ay _) oM oM (by rw[Aa,La1,h32]) ?_;intro s12 bl12 hac12;refine .entryStore (k:=(B.fWriter,B.fSeq)) (v:=(⟨s12,bl12,row12.ks++[n]⟩:RV)) J J J J J hB.1.ok.l_fWriter (by repeat(first|exact Az|apply Ce)) ?_;rw[mput_mput];refine G2 ?_;refine⟨(⟨s12,bl12,row12.ks++[n]⟩:RV),(⟨⟨by rw[flatB_append,La4];simpa[A3]using hac12,fun l hl=>by rcases Lac.1 hl with h|h;exact hrk12.1.r32 l h;rw[La0.1 h];exact h32⟩,by rw[←hrow12]⟩:MoreR _ n (⟨s12,bl12,row12.ks++[n]⟩:RV)),?_⟩;refine wk_norm (by simp only[Lam,Lak,Lat,La8];exact rfl) ?_;exact An wN (Ab rM (Ab rM (Ab rM (Ab rM (Ab rM (Ab rM (Ab rM (Ab rM (Af sG (Af sG (pm_join sG sG (hS12 (⟨s12,bl12,row12.ks++[n]⟩:RV)) (Af sG Ai))))))))))))
 intro r hj;have hr:=hj;refine .withK (sp_k (sp_k (sp_k (sp_v (sp_v (sp_v (sp_v (sp_v (sp_x (sp_x (sp_x (sp_x sp_n)))))))))))) J (.draw (oP [0,1,2,3,4,5,6,207,408,9,11,410,412]) Ao zK (G3 ?_));refine .kload1 J J J underlying134 J Z2 (by rfl) ?_;refine G1 ?_;refine .kloadN (Aa _) J J J Y44.h J Sz44 Z0 (Block.row_fWriter (by exact hB.1.ok)) (Block.rl_fWriter (by exact hB.1.ok)) ?_;refine .kloadAll J J J Y34.h J Sz34 Z1 (by(simp[h32];done)) ?_;refine .mkRow2 (z:=agg (Aa (List.replicate 32 0))) [agg (Aa n)] (Aa n) J J Y30.h Sz34 Ck J J (by intro v hv;rw[La0.1 hv];simp[Value.cells,Aa,h32]) dE (by simp[Value.cells,agg]) ?_;intro q13;obtain⟨R13,hR13,hS13⟩:=rbl_put x.wrs B.fWriter;have hrk13:=hx.wrsR B.fWriter;refine .mapEntry (d0:=RV.none) (k:=B.fWriter) MW J J J J J J hB.1.ok.l_fWriter rM ?_;intro st13;obtain⟨row13,hrow13⟩:∃r,r=(Av x.wrs B.fWriter).getD RV.none:=⟨_,rfl⟩;rw[←hrow13]at hR13 hrk13 ⊢;refine G2 ?_;refine .appendAcc (z:=agg (Aa (List.replicate 32 0))) (by':=32) (Aa n) J J J J J Y30.h Y30.h Sz34 Ck (by unfold By;kernel_rfl) J hrk13.1.acc (perm_open sG hR13) (fun w h=>SeesP.of (Ap h Z1)) (fun e=>by cases e) (Ay _) oM oM (by rw[Aa,La1,h32]) ?_;intro s13 bl13 hac13;refine .entryStore (k:=B.fWriter) (v:=(⟨s13,bl13,row13.ks++[n]⟩:RV)) J J J J J hB.1.ok.l_fWriter (by repeat(first|exact Az|apply Ce)) ?_;rw[mput_mput];refine G2 ?_;simp only[Lam,Lak,Lat,La8];refine Aw (out:=(⟨p,[ptr p 0,s9.v, .map (some x.bE), .map (some x.bH), .map (some x.bO), .map (some x.bP), .map (some x.bW)],136,7⟩::(A9 x.bE (Au 32 evE) (Bo x.ent n (⟨B,dp⟩,D))::(A9 x.bH (Au 32 evU) (Bo hd n ())::(A9 x.bO (Au 32 evB) (x.orp)::(A9 x.bP (placeT 32 evR) (Bo x.pls (B.fWriter,B.fSeq) r)::(A9 x.bW (Au 32 evR) (Bo x.wrs B.fWriter (⟨s13,bl13,row13.ks++[n]⟩:RV))::(bl9++(x.cb++(rbl (Bo x.pls (B.fWriter,B.fSeq) r)++(rbl (Bo x.wrs B.fWriter (⟨s13,bl13,row13.ks++[n]⟩:RV))++[]))))))))))) (res_none J) (Ab rM (Ab rM (Ab rM (Ab rM (Ab rM (Ab rM (Af sG (Af sG (Af sG (pm_join sG sG (hS13 (⟨s13,bl13,row13.ks++[n]⟩:RV)) Ai)))))))))) ?_;have hm13:=(⟨⟨by rw[flatB_append,La4];simpa[A3]using hac13,fun l hl=>by rcases Lac.1 hl with h|h;exact hrk13.1.r32 l h;rw[La0.1 h];exact h32⟩,by rw[←hrow13]⟩:MoreR _ n (⟨s13,bl13,row13.ks++[n]⟩:RV));subst hdp;subst hhd;exact⟨rfl,s9,bl9,r,(⟨s13,bl13,row13.ks++[n]⟩:RV),(by simp only[DD.blks,DD.adm,Lat]),hx.adm h32 hB hroom hac9 hr hm13,hr,hm13⟩
def insB(a:List UInt8):List (List UInt8)→List (List UInt8)
  | []=>[a]
  |b::l=>if Cw a b≤0 then a::b::l else b::insB a l
def isort(l:List (List UInt8)):List (List UInt8):=l.foldr insB []
theorem insB_perm(a:List UInt8):∀l,(insB a l).Perm (a::l)
  | []=>Ldw _
  | b::l=>by
    unfold insB;split
    ·exact Ldw _
    ·exact(List.Perm.cons b (insB_perm a l)).trans (List.Perm.swap a b l)
theorem isort_perm:∀l,(isort l).Perm l
  | []=>Ldw _
  |a::l=>(insB_perm a (isort l)).trans (List.Perm.cons a (isort_perm l))
theorem insB_sort(a:List UInt8):∀l,SortB l→SortB (insB a l)
  | [],_=>by simp[insB,SortB]
  | b ::l,h=>by
    obtain⟨h1,h2⟩:=Ler.1 h;unfold insB;split
    · rename_i hab
      refine Ler.2 ⟨fun c hc=>?_,h⟩;rcases Lal.1 hc with rfl|hc
      ·exact hab
      ·exact(cmpB_trans a b c hab (h1 c hc)).1
    · rename_i hab
      refine Ler.2 ⟨fun c hc=>?_,insB_sort a l h2⟩;rcases Lal.1 ((insB_perm a l).mem_iff.1 hc)with rfl|hc
      ·have:=cmpB_neg c b;omega
      ·exact h1 c hc
theorem isort_sort:∀l,SortB (isort l)
  | []=>List.Pairwise.nil
  |a::l=>insB_sort a _ (isort_sort l)
theorem sort_unique:∀ {a b:List (List UInt8)},a.Perm b→SortB a→SortB b→a=b
  | [],b,hp,_,_=>(List.nil_perm.1 hp).symm
  |x::a,[],hp,_,_=>by have:=hp.length_eq;simp at this
  | x ::a,y::b,hp,ha,hb=>by
    obtain⟨h1,h2⟩:=Ler.1 ha;obtain⟨h3,h4⟩:=Ler.1 hb;have e:x=y:=by
      have hx:=hp.mem_iff.1 (La9 (a:=x) (l:=a));have hy:=hp.mem_iff.2 (La9 (a:=y) (l:=b));rcases Lal.1 hx with h|h
      ·exact h
      · rcases Lal.1 hy with h5|h5
        ·exact h5.symm
        · have u1:=h3 x h
          have u2:=h1 y h5;have u3:=cmpB_neg x y;exact(cmpB_zero x y).1 oM
    subst e;rw[sort_unique (List.Perm.cons_inv hp) h2 h4]
theorem isort_eq(hp:ks.Perm l)(hs:SortB ks):ks=isort l:=sort_unique (hp.trans (isort_perm l).symm) hs (isort_sort l)
structure PD where
  names:List (List UInt8)
  P:List (List UInt8×DB)
  dep:List (List UInt8×Int)
  hds:List (List UInt8×Unit)
  orp:List (List UInt8×DB)
  pls:List ((List UInt8×UInt64)×List (List UInt8))
  wrs:List (List UInt8×List (List UInt8))
def DD.pl(x:DD):PD:=⟨x.names,x.P,x.ent.map fun p=>(p.1,p.2.1.fDepth),x.hds,x.orp.map fun p=>(p.1,p.2.2),x.pls.map fun p=>(p.1,p.2.ks),x.wrs.map fun p=>(p.1,p.2.ks)⟩
def stepP(dep:List (List UInt8×Int))(d:Int)(n:List UInt8):Int:=if(Av dep n).getD 0+1>d then(Av dep n).getD 0+1 else d
def PD.adm(X:PD)(n:List UInt8)(D:DB):PD:=
  ⟨X.names++[n],Bo X.P n D,Bo X.dep n ((Cu D).foldl (stepP X.dep) 0),Bo (delL X.hds (Cu D)) n (),X.orp,Bo X.pls (D.w,D.seq) ((Av X.pls (D.w,D.seq)).getD []++[n]),Bo X.wrs D.w ((Av X.wrs D.w).getD []++[n])⟩
theorem get_ks[DecidableEq κ](fs:List (κ×RV))(k:κ):((Av fs k).getD RV.none).ks=(Av (fs.map fun p=>(p.1,p.2.ks)) k).getD []:=by
  rw[mget_map (fun r:RV=>r.ks)];cases Av fs k<;>rfl
theorem adm_pl{x:DD}(hB:SameB B D)(hp:MoreR (Av x.pls (B.fWriter,B.fSeq)) n rp)(hw:MoreR (Av x.wrs B.fWriter) n rw):(x.adm s bl n B D rp rw).pl=x.pl.adm n D:=by
  have e1:(Bo x.ent n ((⟨B,depL x.ent (Cu D)⟩,D):EV)).map (fun p=>(p.1,p.2.2))=Bo x.P n D:=mput_map (fun e:EV=>e.2) x.ent n (⟨B,depL x.ent (Cu D)⟩,D);have ed:∀m,((Av x.ent m).map fun e=>e.1.fDepth)=Av (x.ent.map fun p=>(p.1,p.2.1.fDepth)) m:=fun m=>(mget_map (fun e:EV=>e.1.fDepth) x.ent m).symm;have es:depL x.ent (Cu D)=(Cu D).foldl (stepP (x.ent.map fun p=>(p.1,p.2.1.fDepth))) 0:=by
    unfold depL;congr 1;funext d m;unfold stepD stepP;rw[ed m]
  have e2:(Bo x.ent n ((⟨B,depL x.ent (Cu D)⟩,D):EV)).map (fun p=>(p.1,p.2.1.fDepth))=Bo (x.ent.map fun p=>(p.1,p.2.1.fDepth)) n (depL x.ent (Cu D)):=mput_map (fun e:EV=>e.1.fDepth) x.ent n (⟨B,depL x.ent (Cu D)⟩,D);have e3:(Bo x.pls (B.fWriter,B.fSeq) rp).map (fun p=>(p.1,p.2.ks))=Bo (x.pls.map fun p=>(p.1,p.2.ks)) (B.fWriter,B.fSeq) rp.ks:=mput_map (fun r:RV=>r.ks) x.pls (B.fWriter,B.fSeq) rp;have e4:(Bo x.wrs B.fWriter rw).map (fun p=>(p.1,p.2.ks))=Bo (x.wrs.map fun p=>(p.1,p.2.ks)) B.fWriter rw.ks:=mput_map (fun r:RV=>r.ks) x.wrs B.fWriter rw;unfold DD.pl PD.adm DD.adm DD.P;simp only;rw[e1,e2,es,e3,e4,hp.2,hw.2,get_ks,get_ks,hB.w,hB.seq];rfl
def PD.drop1(X:PD)(n:List UInt8):PD:={ X with orp:=mdel X.orp n }
def DD.drop1(x:DD)(n:List UInt8):DD:={ x with orp:=mdel x.orp n }
theorem drop1_pl(x:DD)(n:List UInt8):(x.drop1 n).pl=x.pl.drop1 n:=by
  unfold DD.pl DD.drop1 PD.drop1;simp only;rw[mdel_map (fun b:BV=>b.2)];rfl
theorem mdel_one[DecidableEq κ]{k:κ}{v:ν}(h:Av fs k=some v):(mdel fs k).length+1=fs.length:=by
  have hi:∃j,midx fs k=some j∧j<fs.length:=by
    unfold Av at h;unfold midx;cases hf:fs.find? (fun p=>decide (p.1=k))with
    |none=>rw[hf]at h;cases h
    | some p=>
      obtain⟨hp,j,hj,_,hn⟩:=Ldi.1 hf
      rename_i e1
      exact⟨j,by rw[Lc1];exact⟨hj,by rw[e1];exact hp,fun i hi=>by simpa using hn i hi⟩,hj⟩
  obtain⟨j,hj,hl⟩:=hi;unfold mdel;rw[hj];simp only[Lg6,hl,if_true];omega
theorem DD.ok.drop1{x:DD}(h:x.ok)(n:List UInt8):(x.drop1 n).ok:={ h with
  big:=Lbc (Nat.add_le_add_left (mdel_len _ _) _) h.big
  orpn:=Lbc (mdel_len _ _) h.orpn
  orp:=fun p hp=>h.orp p (mdel_mem hp) }
def PD.first(X:PD):Option (List UInt8):=(isort (X.orp.map (·.1))).find? fun n=>C1 X.P ((Av X.orp n).getD DB.zero) !=0
def PD.settle:Nat→PD→PD×List (List UInt8)
  |0,X=>(X,[])
  | f+1,X=>match X.first with
    |none=>(X,[])
    |some n=>if C1 X.P ((Av X.orp n).getD DB.zero)=1 then(let r:=PD.settle f ((X.drop1 n).adm n ((Av X.orp n).getD DB.zero));(r.1,n::r.2))else PD.settle f (X.drop1 n)
theorem settle_done{X:PD}(h:X.first=none)(f:Nat):PD.settle f X=(X,[]):=by
  cases f with
  |zero=>rfl
  |succ f=>rw[PD.settle,h]
theorem settle_fit{X:PD}(h:X.first=some n)(hD:Av X.orp n=some D)(hj:C1 X.P D=1)(f:Nat):PD.settle (f+1) X=((PD.settle f ((X.drop1 n).adm n D)).1,n::(PD.settle f ((X.drop1 n).adm n D)).2):=by
  rw[PD.settle,h];simp only[hD,Lbn];rw[if_pos hj]
theorem settle_wrong{X:PD}(h:X.first=some n)(hD:Av X.orp n=some D)(hj:C1 X.P D≠1)(f:Nat):PD.settle (f+1) X=PD.settle f (X.drop1 n):=by
  rw[PD.settle,h];simp only[hD,Lbn];rw[if_neg hj]
theorem first_at{X:PD}(hks:ks=isort (X.orp.map (·.1))){k:Nat}(hk:k<ks.length)(hall:∀j,j<k→C1 X.P ((Av X.orp (ks.getD j [])).getD DB.zero)=0)(h:C1 X.P ((Av X.orp (ks.getD k [])).getD DB.zero)≠0):X.first=some (ks.getD k []):=by
  unfold PD.first;rw[←hks,Ldi];have e:∀j (hj:j<ks.length),ks.getD j []=ks[j]:=fun j hj=>by rw[La2,La3 hj];rfl
  refine⟨by simpa using h,k,hk,(e k hk).symm,fun j hj=>?_⟩;have:=hall j hj;rw[e j oM]at this;rw[this];rfl
theorem first_none{X:PD}(hks:ks=isort (X.orp.map (·.1)))(hall:∀j,j<ks.length→C1 X.P ((Av X.orp (ks.getD j [])).getD DB.zero)=0):X.first=none:=by
  unfold PD.first;rw[←hks,Lgf];intro n hn;obtain⟨j,hj,rfl⟩:=Ldb hn;have:=hall j hj;rw[La2,La3 hj]at this;simp only[Lbn]at this;rw[this];simp
theorem DD.getO(x:DD)(k:List UInt8):Av x.pl.orp k=(Av x.orp k).map (·.2):=mget_map (fun b:BV=>b.2) x.orp k
theorem orp_keys(x:DD):x.pl.orp.map (·.1)=x.orp.map (·.1):=by unfold DD.pl;simp only[List.map_map];rfl
theorem mget_of_key[DecidableEq κ]{k:κ}(h:k∈fs.map (·.1)):∃v,Av fs k=some v:=by
  obtain⟨p,hp,rfl⟩:=La7.1 h;unfold Av;cases hf:fs.find? (fun q=>decide (q.1=p.1))with
  |none=>rw[Lgf]at hf;have:=hf p hp;simp at this
  |some q=>exact⟨q.2,rfl⟩
def AdmR(x:DD)(p:Nat)(n:List UInt8)(D:DB)(v:Value)(out:List Blk):Prop:=v= .tuple #[]∧∃x':DD,out=x'.blks p∧x'.ok∧x'.pl=x.pl.adm n D∧x'.names.length=x.names.length+1∧x'.orp.length=x.orp.length
theorem dag_admit2(x:DD)(hx:x.ok)(p:Nat)(n:List UInt8)(h32:n.length=32)(B:Block)(D:DB)(hB:Held x.cb B D)(hs:D.ls.length≤500000)(hroom:x.names.length+x.orp.length<20000):
    Meets prog 101 [ptr p 0,agg (Aa n),agg B.cells] ((x.blks p).map (·.n)) (fun W=>Lent (x.blks p) W) (AdmR x p n D):=
  (dag_admit x hx p n h32 B D hB hs hroom).imp (fun w h=>h) fun v out ⟨h1,s,bl,rp,rw,h2,h3,h4,h5⟩=>⟨h1,_,h2,h3,adm_pl hB.1 h4 h5,by show(x.names++[n]).length=_;rw[La4,Lb5],rfl⟩
theorem judge_cases(P:List (List UInt8×DB))(D:DB):C1 P D=0∨C1 P D=1∨C1 P D=2:=by
  unfold C1;split
  ·exact .inr (.inr rfl)
  · split
    ·exact .inr (.inl rfl)
    ·exact .inl rfl
theorem settle_go{x x2:DD}(hf:x.pl.first=some kk)(hob:Av x.orp kk=some ob)(hj:C1 x.P ob.2=1)(hp:x2.pl=(x.drop1 kk).pl.adm kk ob.2)(ho:x2.orp.length=(x.drop1 kk).orp.length):
    PD.settle x.orp.length x.pl=((PD.settle x2.orp.length x2.pl).1,kk::(PD.settle x2.orp.length x2.pl).2):=by
  have h1:=mdel_one hob;have h2:x2.orp.length=(mdel x.orp kk).length:=ho;rw[←h1,settle_fit hf (by rw[x.getO,hob];rfl) hj,h2,hp,drop1_pl]
theorem settle_no{x:DD}(hf:x.pl.first=some kk)(hob:Av x.orp kk=some ob)(hj:C1 x.P ob.2≠1):PD.settle x.orp.length x.pl=PD.settle (x.drop1 kk).orp.length (x.drop1 kk).pl:=by
  have h1:=mdel_one hob;have h2:(x.drop1 kk).orp.length=(mdel x.orp kk).length:=rfl;rw[←h1,settle_wrong hf (by rw[x.getO,hob];rfl) hj,h2,drop1_pl]
def SetR(x0:DD)(p:Nat)(v:Value)(out:List Blk):Prop:=∃(x:DD) (s:Sl) (bl:List Blk) (l:List (List UInt8)),v=s.v∧out=x.blks p++bl∧x.ok∧Hw.Acc s bl (A3 l) 34 l.length 32∧(∀n∈l,n.length=32)∧x.names.length+x.orp.length≤x0.names.length+x0.orp.length∧l.length≤x0.orp.length∧x.pl=(PD.settle x0.orp.length x0.pl).1∧l=(PD.settle x0.orp.length x0.pl).2
theorem acc_one{E:TypeId}{m:Nat}(h:Hw.Acc s bl (A3 l++Aa k) E (m+1) 32)(hm:l.length=m):Hw.Acc s bl (A3 (l++[k])) E (l++[k]).length 32:=by
  rw[La4,Lb5,flatB_append,hm];simpa[A3]using h
theorem all_snoc(h:∀n∈l,n.length=32)(hk:k.length=32):∀n∈l++[k],n.length=32:=fun n hn=>by rcases Lac.1 hn with h1|h1;exact h n h1;rw[La0.1 h1];exact hk
theorem dag_settle(x0:DD)(hx0:x0.ok)(p:Nat):Meets prog 102 [ptr p 0] ((x0.blks p).map (·.n)) (fun W=>Lent (x0.blks p) W) (SetR x0 p):=by
 intro W hW;have hbig0:=hx0.big;refine Br (hp0:=(⟨p,[ptr p 0,x0.nm.v, .map (some x0.bE), .map (some x0.bH), .map (some x0.bO), .map (some x0.bP), .map (some x0.bW)],136,7⟩::(A9 x0.bE (Au 32 evE) x0.ent::(A9 x0.bH (Au 32 evU) x0.hds::(A9 x0.bO (Au 32 evB) x0.orp::(A9 x0.bP (placeT 32 evR) x0.pls::(A9 x0.bW (Au 32 evR) x0.wrs::(x0.nb++(x0.cb++(rbl x0.pls++(rbl x0.wrs++[]))))))))))) func102 J 50 ntmps102 J hW.rep (G5 ?_);refine .again (l:=0) (ι:=DD×Sl×List Blk×List (List UInt8)) (fun i=>⟨[(0,ptr p 0),(3,i.2.1.v)],(⟨p,[ptr p 0,i.1.nm.v, .map (some i.1.bE), .map (some i.1.bH), .map (some i.1.bO), .map (some i.1.bP), .map (some i.1.bW)],136,7⟩::(A9 i.1.bE (Au 32 evE) i.1.ent::(A9 i.1.bH (Au 32 evU) i.1.hds::(A9 i.1.bO (Au 32 evB) i.1.orp::(A9 i.1.bP (placeT 32 evR) i.1.pls::(A9 i.1.bW (Au 32 evR) i.1.wrs::(i.1.nb++(i.1.cb++(rbl i.1.pls++(rbl i.1.wrs++(i.2.2.1++[])))))))))))⟩) (fun i=>i.1.ok∧Hw.Acc i.2.1 i.2.2.1 (A3 i.2.2.2) 34 i.2.2.2.length 32∧(∀n∈i.2.2.2,n.length=32)∧i.1.names.length+i.1.orp.length≤x0.names.length+x0.orp.length∧i.2.2.2.length+i.1.orp.length≤x0.orp.length∧(PD.settle i.1.orp.length i.1.pl).1=(PD.settle x0.orp.length x0.pl).1∧i.2.2.2++(PD.settle i.1.orp.length i.1.pl).2=(PD.settle x0.orp.length x0.pl).2) (fun i=>i.1.orp.length) J ?_ ?_
 ·
  refine G4 ?_;exact⟨(x0,Sl.nil,[],[]),⟨hx0,Acc.none,fun n (h:n∈([]:List (List UInt8)))=>(by cases h),Lae _,(by show 0+x0.orp.length≤_;omega),rfl,Lak _⟩,An wN (Ab rM (Ab rM (Ab rM (Ab rM (Ab rM (Ab rM (Af sG (Af sG (Af sG (Af sG (Af (by repeat(exact sg_end)) Ai)))))))))))⟩
 rintro⟨x,s,bl,l⟩ hi;simp only at hi ⊢;obtain⟨hx,hac3,h32l,hn1,hn2,hpl1,hpl2⟩:=hi;have hbigx:=hx.big;have hls:=hac3.num;refine G7 ?_;refine .call4 J J J J J Body159 (dag_sortedB MO x.bO x.orp (fun p hp=>(hx.orp p hp).1) oM) (fun w h=>h.cells _ Z3) ?_;rintro v11 out11 ⟨s11,ks,hkp,hks,rfl,hac⟩;have hn11:=hac.num;have hke:ks=isort (x.pl.orp.map (·.1)):=isort_eq (by rw[orp_keys];exact hkp) hks;have hrow:∀l∈ks,l.length=32:=fun l hl=>by obtain⟨q,hq,rfl⟩:=La7.1 (hkp.mem_iff.1 hl);exact(hx.orp q hq).1
 refine G5 ?_;refine .loop (ι:=Nat) (fun k=>⟨[(0,ptr p 0),(3,s.v),(11,s11.v),(12,i64 (s11.n:Int)),(13,i64 (k:Int))],(⟨p,[ptr p 0,x.nm.v, .map (some x.bE), .map (some x.bH), .map (some x.bO), .map (some x.bP), .map (some x.bW)],136,7⟩::(A9 x.bE (Au 32 evE) x.ent::(A9 x.bH (Au 32 evU) x.hds::(A9 x.bO (Au 32 evB) x.orp::(A9 x.bP (placeT 32 evR) x.pls::(A9 x.bW (Au 32 evR) x.wrs::(x.nb++(x.cb++(rbl x.pls++(rbl x.wrs++(bl++(out11++[]))))))))))))⟩) (fun k=>k≤ks.length∧∀j,j<k→C1 x.pl.P ((Av x.pl.orp (ks.getD j [])).getD DB.zero)=0) (fun k=>ks.length-k) (0) ?_ ?_ ?_
 ·exact⟨Laj _,fun j hj=>by omega⟩
 ·exact An wN (Ab (by repeat(first|exact Az|apply Ce)) (Ab (by repeat(first|exact Az|apply Ce)) (Ab (by repeat(first|exact Az|apply Ce)) (Ab (by repeat(first|exact Az|apply Ce)) (Ab (by repeat(first|exact Az|apply Ce)) (Ab (by repeat(first|exact Az|apply Ce)) (Af (by repeat(first|exact sg_here|apply sg_seg)) (Af (by repeat(first|exact sg_here|apply sg_seg)) (Af (by repeat(first|exact sg_here|apply sg_seg)) (Af (by repeat(first|exact sg_here|apply sg_seg)) (Af (by repeat(first|exact sg_here|apply sg_seg)) (Af sG Ai))))))))))))
 rintro k ⟨hk0,hall⟩;refine G6 ?_;refine .condP J (fun hc0=>?_) (fun hc0=>?_)
 ·
  refine G6 ?_;have hk:k<ks.length:=by omega
  have hkb:k≤600000:=by have:=hkp.length_eq;simp only[La1]at this;omega
  rcases hac with ⟨_,_,_,h0⟩|⟨qr,cr,rfl,hnc,hfl,rfl⟩
  ·exfalso;omega
  obtain⟨kk,hkk⟩:∃kk,kk=ks.getD k []:=⟨_,rfl⟩;have hkm:kk∈ks:=by rw[hkk,La2,La3 hk];exact Lcp hk
  have h32k:kk.length=32:=hrow _ hkm;obtain⟨ob,hob⟩:=mget_of_key (fs:=x.orp) (hkp.mem_iff.1 hkm);have hheld:=hx.orp _ (Cs hob);simp only at hheld;have hgo:Av x.pl.orp kk=some ob.2:=by rw[x.getO,hob];rfl
  have hm1:=mdel_one hob;refine .idxSlP 32 J J J J J Y30.h Sz34 k J oM (.loadSN (n:=32) (Aa kk) J J J Y34.h J Sz34 (by rw[Aa,La1];exact h32k) (fun w h=>by rw[hkk];simpa using Bu hrow (Ap h mR) hk) ?_);refine .alloc (cs:=(Aa (List.replicate 32 0))) J Ck J ?_;intro n5 hn5 hf5;refine .sA J J J J zE Sz34 (by(rw[Aa,La1];assumption)) Z0 sP zU ?_;refine G3 ?_;refine .draw (oP [0,1,2,103,104,105,206,407]) Ao zK (G4 ?_);refine .lA J J J Y34.h J Sz34 Z0 (by(rw[Aa,La1];assumption)) ?_;refine .lookS evB MO hob J J J J h32k Z4 ?_;refine .alloc (cs:=Block.zero.cells) J Block.zr J ?_;intro n6 hn6 hf6;refine .sA J J J J (Block.isCell (by exact hheld.2.1.1.ok)) Sz50 (Block.length (by exact hheld.2.1.1.ok)) Z0 (Block.length (by exact Block.zero_ok)) zU ?_;refine G5 ?_;refine .lA J J J Y50.h J Sz50 Z0 (Block.length (by exact hheld.2.1.1.ok)) ?_;refine .cV J J J J Body99 (dag_judge x hx p ob.1 ob.2 hheld.2.1.1 oM) (fun w h=>⟨DagSee.of h Z2 Z3,hheld.2.1.2 w (Lies.of h (by repeat(first|exact A4|refine Bl ?_|refine in_seg ?_)))⟩) ?_;refine G9 ?_;refine .condP J (fun hc1=>?_) (fun hc1=>?_)
  ·
   refine .seq (.draw (oP [0,1,2,103,104,405]) Ao zK (G4 ?_));refine .lA J J J Y34.h J Sz34 Z1 (by(rw[Aa,La1];assumption)) ?_;refine .mapDel MO J J J J h32k rM ?_;refine G5 ?_;refine .lA J J J Y34.h J Sz34 Z2 (by(rw[Aa,La1];assumption)) ?_;refine .lA J J J Y50.h J Sz50 Z1 (Block.length (by exact hheld.2.1.1.ok)) ?_;refine .callL (L:=((x.drop1 kk).blks p)) J J J J J Body101 (dag_admit2 (x.drop1 kk) (hx.drop1 kk) p kk h32k ob.1 ob.2 hheld.2.1 oM (by show x.names.length+(mdel x.orp kk).length<20000;omega)) (Ab rM (Ab rM (Ab rM (Ab rM (Ab rM (Ab rM (Af sG (Af sG (Af sG (Af sG Ai)))))))))) (Cf J) (fun w h=>Lent.of h (Ab rM (Ab rM (Ab rM (Ab rM (Ab rM (Ab rM (Af sG (Af sG (Af sG (Af sG Ai))))))))))) ?_;rintro v36 out36 ⟨rfl,x2,rfl,hx2,hplx,hnlx,holx⟩;simp only[DD.blks,Lam,Lak,La8];refine G5 ?_;refine .lA J J J Y34.h J Sz34 mR (by(rw[Aa,La1];assumption)) ?_;refine .mkRow2 (z:=agg (Aa (List.replicate 32 0))) [agg (Aa kk)] (Aa kk) J J Y30.h Sz34 Ck J J (by intro v hv;rw[La0.1 hv];simp[Value.cells,Aa,h32k]) dE (by simp[Value.cells,agg]) ?_;intro q39;refine .appendAcc (z:=agg (Aa (List.replicate 32 0))) (by':=32) (Aa kk) J J J J J Y30.h Y30.h Sz34 Ck (by unfold By;kernel_rfl) J hac3 sG (fun w h=>SeesP.of (Ap h Z0)) (fun e=>by cases e) (Ay _) oM oM (by rw[Aa,La1,h32k]) ?_;intro s40 bl40 hac40;refine G3 ?_;refine .goto (bl_g (bl_g (at_g (at_g (bl_g (at_g (jm_g ?_)))))));have hf:x.pl.first=some kk:=by rw[hkk];exact first_at hke hk hall (by rw[←hkk,hgo];show C1 x.P ob.2≠0;omega)
   have hst:=settle_go (x2:=x2) hf hob hc1 hplx holx;rw[hst]at hpl1 hpl2;have hol2:x2.orp.length=(mdel x.orp kk).length:=holx;have hnl2:x2.names.length=x.names.length+1:=hnlx;exact⟨(x2,s40,bl40,l++[kk]),⟨hx2,acc_one hac40 rfl,all_snoc h32l h32k,by simp only;omega,by simp only[La4,Lb5];omega,hpl1,by simp only[La8,Lck];exact hpl2⟩,by simp only;omega,An wN (Ab rM (Ab rM (Ab rM (Ab rM (Ab rM (Ab rM (Af sG (Af sG (Af sG (Af sG (Af sG Ai)))))))))))⟩
  refine G6 ?_;refine .condP J (fun hc2=>?_) (fun hc2=>?_)
  ·
   refine .seq (.draw (oP [0,1,2,103,104,405]) Ao zK (G4 ?_));refine .lA J J J Y34.h J Sz34 Z1 (by(rw[Aa,La1];assumption)) ?_;refine .mapDel MO J J J J h32k rM ?_;refine G2 ?_;refine .goto (bl_g (bl_g (at_g (at_g (bl_g (at_g (jm_g ?_)))))));have hf:x.pl.first=some kk:=by rw[hkk];exact first_at hke hk hall (by rw[←hkk,hgo];show C1 x.P ob.2≠0;omega)
   have hst:=settle_no hf hob oM;rw[hst]at hpl1 hpl2;have hol2:(x.drop1 kk).orp.length=(mdel x.orp kk).length:=rfl;have hnl2:(x.drop1 kk).names.length=x.names.length:=rfl;exact⟨(x.drop1 kk,s,bl,l),⟨hx.drop1 kk,hac3,h32l,by simp only;omega,by simp only;omega,hpl1,hpl2⟩,by simp only;omega,An wN (Ab rM (Ab rM (Ab rM (Ab rM (Ab rM (Ab rM (Af sG (Af sG (Af sG (Af sG (Af sG Ai)))))))))))⟩
  refine G9 ?_;exact⟨k+1,⟨hk,fun j hj=>by rcases Lfo (Lgi hj)with h|h;exact hall j h;rw[h,←hkk,hgo];show C1 x.P ob.2=0;rcases judge_cases x.P ob.2 with h9|h9|h9<;>omega⟩,by omega,An wN (Ab rM (Ab rM (Ab rM (Ab rM (Ab rM (Ab rM (Af sG (Af sG (Af sG (Af sG (Af sG (Af sG Ai))))))))))))⟩
 refine G11 ?_;refine .ret (jm_r (en_r (Aw (out:=(⟨p,[ptr p 0,x.nm.v, .map (some x.bE), .map (some x.bH), .map (some x.bO), .map (some x.bP), .map (some x.bW)],136,7⟩::(A9 x.bE (Au 32 evE) x.ent::(A9 x.bH (Au 32 evU) x.hds::(A9 x.bO (Au 32 evB) x.orp::(A9 x.bP (placeT 32 evR) x.pls::(A9 x.bW (Au 32 evR) x.wrs::(x.nb++(x.cb++(rbl x.pls++(rbl x.wrs++(bl++[])))))))))))) (Ae J J) (Ab rM (Ab rM (Ab rM (Ab rM (Ab rM (Ab rM (Af sG (Af sG (Af sG (Af sG (Af sG Ai))))))))))) ?_)));rw[settle_done (first_none hke (by rw[show k=ks.length by omega]at hall;exact hall))]at hpl1 hpl2;exact⟨x,s,bl,l,rfl,(by simp only[DD.blks,Lam,Lak,Lat,La8]),hx,hac3,h32l,hn1,by omega,hpl1,by simpa using hpl2⟩
noncomputable def PD.add(X:PD)(D:DB):PD×List (List UInt8)×Int:=
  if dgood D=0 then
    (if((Av X.orp (Bm D)).isSome||(Av X.P (Bm D)).isSome)=true then(X,[],8)
     else if C1 X.P D=2 then(X,[],4)
     else if C1 X.P D=0 then(if 64≤X.orp.length then(X,[],7)else({ X with orp:=Bo X.orp (Bm D) D },[],0))
     else((PD.settle (X.adm (Bm D) D).orp.length (X.adm (Bm D) D)).1,Bm D::(PD.settle (X.adm (Bm D) D).orp.length (X.adm (Bm D) D)).2,0))
  else(X,[],dgood D)
theorem add_bad{X:PD}(h:¬dgood D=0):X.add D=(X,[],dgood D):=if_neg h
theorem add_there{X:PD}(h:dgood D=0)(h2:((Av X.orp (Bm D)).isSome||(Av X.P (Bm D)).isSome)=true):X.add D=(X,[],8):=by unfold PD.add;rw[if_pos h,if_pos h2]
theorem add_wrong{X:PD}(h:dgood D=0)(h2:((Av X.orp (Bm D)).isSome||(Av X.P (Bm D)).isSome)=false)(h3:C1 X.P D=2):X.add D=(X,[],4):=by unfold PD.add;rw[if_pos h,if_neg (by rw[h2];decide),if_pos h3]
theorem add_full{X:PD}(h:dgood D=0)(h2:((Av X.orp (Bm D)).isSome||(Av X.P (Bm D)).isSome)=false)(h3:C1 X.P D=0)(h4:64≤X.orp.length):X.add D=(X,[],7):=by unfold PD.add;rw[if_pos h,if_neg (by rw[h2];decide),if_neg oM,if_pos h3,if_pos h4]
theorem add_keep{X:PD}(h:dgood D=0)(h2:((Av X.orp (Bm D)).isSome||(Av X.P (Bm D)).isSome)=false)(h3:C1 X.P D=0)(h4:¬64≤X.orp.length):X.add D=({ X with orp:=Bo X.orp (Bm D) D },[],0):=by unfold PD.add;rw[if_pos h,if_neg (by rw[h2];decide),if_neg oM,if_pos h3,if_neg h4]
theorem add_fits{X:PD}(h:dgood D=0)(h2:((Av X.orp (Bm D)).isSome||(Av X.P (Bm D)).isSome)=false)(h3:C1 X.P D=1):
    X.add D=((PD.settle (X.adm (Bm D) D).orp.length (X.adm (Bm D) D)).1,Bm D::(PD.settle (X.adm (Bm D) D).orp.length (X.adm (Bm D) D)).2,0):=by unfold PD.add;rw[if_pos h,if_neg (by rw[h2];decide),if_neg oM,if_neg oM]
theorem good_check(h:dgood D=0):D.check=0:=by
  unfold dgood at h;split at h
  ·assumption
  ·exact h
def DD.hold(x:DD)(o:List Blk):DD:={ x with cb:=x.cb++o }
theorem DD.ok.hold{x:DD}(h:x.ok)(o:List Blk):(x.hold o).ok:={ h with
  ent:=fun p hp=>⟨(h.ent p hp).1,(h.ent p hp).2.1.more fun b hb=>Lb6 _ hb,(h.ent p hp).2.2⟩
  orp:=fun p hp=>⟨(h.orp p hp).1,(h.orp p hp).2.1.more fun b hb=>Lb6 _ hb,(h.orp p hp).2.2⟩ }
def DD.wait(x:DD)(n:List UInt8)(B:Block)(D:DB)(o:List Blk):DD:={ x with orp:=Bo x.orp n (B,D),cb:=x.cb++o }
theorem DD.ok.wait{x:DD}(h:x.ok)(h32:n.length=32)(hB:SameB B D)(hi:∀W2,Lies o W2→BlockIs W2 B D)(hl:D.ls.length≤16)(hroom:x.names.length+x.orp.length<20000)(hfew:¬64≤x.orp.length):(x.wait n B D o).ok:={ h with
  orpn:=by
    have:=mput_len x.orp n (B,D);show(Bo x.orp n (B,D)).length≤64;omega
  big:=by
    have:=mput_len x.orp n (B,D);show x.names.length+(Bo x.orp n (B,D)).length≤20000;omega
  ent:=fun p hp=>⟨(h.ent p hp).1,(h.ent p hp).2.1.more fun b hb=>Lb6 _ hb,(h.ent p hp).2.2⟩
  orp:=fun p hp=>by
    rcases mput_mem hp with hp|rfl
    ·exact⟨(h.orp p hp).1,(h.orp p hp).2.1.more fun b hb=>Lb6 _ hb,(h.orp p hp).2.2⟩
    ·exact⟨h32,⟨hB,fun W hW=>hi W (hW.sub fun b hb=>Lbz _ hb)⟩,hl⟩ }
theorem wait_pl(x:DD)(n:List UInt8)(B:Block)(D:DB)(o:List Blk):(x.wait n B D o).pl= { x.pl with orp:=Bo x.pl.orp n D }:=by
  unfold DD.pl DD.wait;simp only;rw[mput_map (fun b:BV=>b.2)];rfl
def AddR(x:DD)(p:Nat)(D:DB)(al:List Blk)(v:Value)(out:List Blk):Prop:=∃(x':DD) (s:Sl) (bl:List Blk),v= .tuple #[s.v,i64 (x.pl.add D).2.2]∧out=x'.blks p++(bl++al)∧x'.ok∧Hw.Acc s bl (A3 (x.pl.add D).2.1) 34 (x.pl.add D).2.1.length 32∧(∀n∈(x.pl.add D).2.1,n.length=32)∧x'.pl=(x.pl.add D).1∧x'.names.length+x'.orp.length≤x.names.length+x.orp.length+1
def SetF(x0:DD)(p:Nat)(s:Sl)(out:List Blk):Prop:=∃(x:DD) (bl:List Blk),out=x.blks p++bl∧x.ok∧Hw.Acc s bl (A3 (PD.settle x0.orp.length x0.pl).2) 34 (PD.settle x0.orp.length x0.pl).2.length 32∧x.names.length+x.orp.length≤x0.names.length+x0.orp.length∧x.pl=(PD.settle x0.orp.length x0.pl).1
def SetL(x0:DD)(p:Nat)(v:Value)(out:List Blk):Prop:=∃s:Sl,v=s.v∧s.n=(PD.settle x0.orp.length x0.pl).2.length∧(s.p=none→s.n=0)∧(PD.settle x0.orp.length x0.pl).2.length≤20000∧(∀n∈(PD.settle x0.orp.length x0.pl).2,n.length=32)∧∀W2,Lies out W2→SetF x0 p s out
theorem settle_len:∀(f:Nat) (X:PD),(PD.settle f X).2.length≤f
  |0,X=>Lae _
  | f +1,X=>by
    unfold PD.settle;cases X.first with
    |none=>exact Laj _
    | some n=>
      simp only;split
      ·simpa using settle_len f _
      ·exact Nat.le_succ_of_le (settle_len f _)
theorem settle_32:∀(f:Nat) (X:PD),(∀p∈X.orp,p.1.length=32)→∀n∈(PD.settle f X).2,n.length=32
  |0,X,_,n,h=>by cases h
  | f + 1,X,hX,n,h=>by
    unfold PD.settle at h;cases hf:X.first with
    |none=>rw[hf]at h;cases h
    | some m=>
      have hd:∀p∈(X.drop1 m).orp,p.1.length=32:=fun p hp=>hX p (mdel_mem hp);rw[hf]at h;simp only at h;split at h
      · rcases Lal.1 h with rfl|h
        · have:=Lfe hf
          obtain⟨q,hq,e⟩:=La7.1 ((isort_perm _).mem_iff.1 this);rw[←e];exact hX q hq
        ·exact settle_32 f _ (by exact hd) n h
      ·exact settle_32 f _ hd n h
theorem there_eq(x:DD)(n:List UInt8):((Av x.pl.orp n).isSome||(Av x.pl.P n).isSome)=((Av x.orp n).isSome||(Av x.ent n).isSome):=by
  rw[x.getO,show x.pl.P=x.P from rfl,x.getP,Lgh,Lgh]
theorem addR_err{x:DD}{e:Int}(hx:x.ok)(h:x.pl.add D=(x.pl,[],e)):AddR x p D al (.tuple #[.slice none 0 0,i64 e]) (x.blks p++al):=by
  unfold AddR;rw[h];exact⟨x,Sl.nil,[],rfl,rfl,hx,Acc.none,(fun n (h:n∈([]:List (List UInt8)))=>(by cases h)),rfl,Nat.le_succ _⟩
theorem addR_keep{x:DD}(hx:x.ok)(hB:SameB B D)(hi:∀W2,Lies o W2→BlockIs W2 B D)(hl:D.ls.length≤16)(hroom:x.names.length+x.orp.length<20000)(hfew:¬64≤x.orp.length)
    (h:x.pl.add D=({ x.pl with orp:=Bo x.pl.orp (Bm D) D },[],0)):AddR x p D al (.tuple #[.slice none 0 0,i64 0]) ((x.wait (Bm D) B D o).blks p++al):=by
  unfold AddR;rw[h];refine⟨x.wait (Bm D) B D o,Sl.nil,[],rfl,rfl,hx.wait (nameD_length D) hB hi hl hroom hfew,Acc.none,(fun n (h:n∈([]:List (List UInt8)))=>(by cases h)),wait_pl ..,?_⟩;have:=mput_len x.orp (Bm D) (B,D);show x.names.length+(Bo x.orp (Bm D) (B,D)).length≤_;omega
theorem addR_fits{x x2 x3:DD}{al bl3 bl:List Blk}(hplx:x2.pl=x.pl.adm (Bm D) D)(hol:x2.names.length+x2.orp.length=x.names.length+x.orp.length+1)(hx2:x2.ok)(hx3:x3.ok)(hn3:x3.names.length+x3.orp.length≤x2.names.length+x2.orp.length)(hpl3:x3.pl=(PD.settle x2.orp.length x2.pl).1)
    (h32:∀n∈(PD.settle x2.orp.length x2.pl).2,n.length=32) (hac:Hw.Acc s bl (Aa (Bm D)++A3 (PD.settle x2.orp.length x2.pl).2) 34 (1+(PD.settle x2.orp.length x2.pl).2.length) 32)
    (h:x.pl.add D=((PD.settle (x.pl.adm (Bm D) D).orp.length (x.pl.adm (Bm D) D)).1,Bm D::(PD.settle (x.pl.adm (Bm D) D).orp.length (x.pl.adm (Bm D) D)).2,0)):AddR x p D al (.tuple #[s.v,i64 0]) (x3.blks p++(bl++al)):=by
  have e:(x.pl.adm (Bm D) D).orp.length=x2.orp.length:=by rw[←hplx];show(x2.orp.map _).length=_;rw[La1]
  rw[e,←hplx]at h;unfold AddR;rw[h];refine⟨x3,s,bl,rfl,rfl,hx3,?_,?_,hpl3,by omega⟩
  · show Hw.Acc s bl (A3 (Bm D::_)) 34 (Bm D::_).length 32
    rw[Lb2,Ldt];have e2:∀l:List (List UInt8),A3 (Bm D::l)=Aa (Bm D)++A3 l:=fun l=>by simp[A3]
    rw[e2];exact hac
  · intro n hn
    rcases Lal.1 hn with rfl|hn
    ·exact nameD_length D
    ·exact h32 n hn
theorem dag_settleL(x0:DD)(hx0:x0.ok)(p:Nat):Meets prog 102 [ptr p 0] ((x0.blks p).map (·.n)) (fun W=>Lent (x0.blks p) W) (SetL x0 p):=
  (dag_settle x0 hx0 p).imp (fun w h=>h) fun v out ⟨x,s,bl,l,h1,h2,h3,h4,h5,h6,h7,h8,h9⟩=>by
    subst h9;exact⟨s,h1,h4.num,h4.nil,by have:=hx0.big;omega,h5,fun W2 _=>⟨x,bl,h2,h3,h4,h6,h8⟩⟩
theorem no_lieU{n:Nat}(h:Lies [⟨n,[undef],0,0⟩] w):False:=by
  exact lie_none h
theorem SetL.loose(x0:DD)(hx0:x0.ok)(p:Nat)(lent:List Nat):LooseL lent (SetL x0 p):=fun l hl _=>by
  obtain⟨n,_,hn⟩:=fresh_is 0 l;have h32:∀q∈x0.pl.orp,q.1.length=32:=fun q hq=>by
    obtain⟨r,hr,rfl⟩:=La7.1 hq;exact(hx0.orp r hr).1
  refine⟨_,[⟨n,[undef],0,0⟩],⟨⟨some ⟨0,0,none⟩,(PD.settle x0.orp.length x0.pl).2.length,0⟩,rfl,rfl,(fun e=>by cases e),by have:=settle_len x0.orp.length x0.pl;have:=hx0.big;omega,settle_32 _ _ h32,fun W2 h=>(no_lieU h).elim⟩,?_⟩;simp only[Lck,Lao,Lb7];exact⟨fun h=>by obtain⟨b,hb,e⟩:=La7.1 h;exact hn b hb e,hl⟩
theorem dag_add(x:DD)(hx:x.ok)(p:Nat)(B:Block)(D:DB)(al:List Blk)(hB:Held al B D)(hroom:x.names.length+x.orp.length<20000):Meets prog 41 [ptr p 0,agg B.cells] ((x.blks p++al).map (·.n)) (fun W=>Lent (x.blks p++al) W) (AddR x p D al):=by
 intro W hW;have hbig:=hx.big;have hbd:=hB.2 W (hW.1.sub (fun b hb=>Lbz _ hb));have hn32:=nameD_length D;generalize hlt:(x.blks p++al).map (·.n)=lt;have AGR:AddR x p D al=AddR x p D al:=rfl;refine Br (hp0:=(x.blks p++al)) func41 J 65 ntmps41 J (hlt▸hW.rep) (G2 ?_);simp only[DD.blks,Lam,Lak,La8];refine G1 ?_;intro n3 hn3 hf3;refine G8 ?_;refine .cV J J J J Body96 (dag_valid x p) (fun w h=>DagSee.of h Z1 Z2) ?_;refine G3 ?_;refine .cond_f J J (G5 ?_);refine .lA J J J Y50.h J Sz50 Z0 (Block.length (by exact hB.1.ok)) ?_;refine .cV J J J J Body97 (db_good B D hB.1.ok) (fun w h=>hB.2 w (Lies.of h (by repeat(first|exact in_all|refine Bl ?_|refine in_seg ?_)))) ?_;refine G9 ?_;refine .condNP J (fun hc1=>?_) (fun hc1=>?_)
 ·
  refine G7 ?_;skip;refine G3 ?_;refine Aw (out:=(⟨p,[ptr p 0,x.nm.v, .map (some x.bE), .map (some x.bH), .map (some x.bO), .map (some x.bP), .map (some x.bW)],136,7⟩::(A9 x.bE (Au 32 evE) x.ent::(A9 x.bH (Au 32 evU) x.hds::(A9 x.bO (Au 32 evB) x.orp::(A9 x.bP (placeT 32 evR) x.pls::(A9 x.bW (Au 32 evR) x.wrs::(x.nb++(x.cb++(rbl x.pls++(rbl x.wrs++(al++[])))))))))))) (Cj J J J) (Ab rM (Ab rM (Ab rM (Ab rM (Ab rM (Ab rM (Af sG (Af sG (Af sG (Af sG (Af (by repeat(first|exact sg_end|apply sg_there)) Ai))))))))))) ?_;have h9:=addR_err (p:=p) (al:=al) hx (add_bad hc1);simp only[DD.blks,DD.wait,Lam,Lak,Lat,La8]at h9 ⊢;exact h9
 have hgd:dgood D=0:=by omega
 have hck:=good_check hgd;obtain⟨hs1,hs2⟩:=D.head_small hck;refine G4 ?_;refine .lA J J J Y50.h J Sz50 Z0 (Block.length (by exact hB.1.ok)) ?_;refine .cV J J J J Body98 (db_name B D) (fun w h=>hB.2 w (Lies.of h (by repeat(first|exact in_all|refine Bl ?_|refine in_seg ?_)))) ?_;refine .alloc (cs:=(Aa (List.replicate 32 0))) J Ck J ?_;intro n7 hn7 hf7;refine .sA J J J J zE Sz34 (by(rw[Aa,La1];assumption)) Z0 sP zU ?_;refine G4 ?_;refine .draw (oP [0,1,2,103,104,105,6,7,8,209,410,11]) Ao zK (G4 ?_);refine .lA J J J Y34.h J Sz34 Z0 (by(rw[Aa,La1];assumption)) ?_;refine .lookF evB MO J J J J hn32 (by exact mem5) (fun hg=>?_) (fun e hg=>?_)
 ·
  skip;refine G3 ?_;refine .alloc (cs:=Block.zero.cells) J Block.zr J ?_;intro n8 hn8 hf8;refine G9 ?_;refine .lA J J J Y34.h J Sz34 Z1 (by(rw[Aa,La1];assumption)) ?_;refine .cV J J J J Body79 (dag_has x hx p (Bm D) hn32) (fun w h=>DagSee.of h Z3 Z4) ?_;refine G3 ?_;refine .cond J (fun hc2=>?_) (fun hc2=>?_)
  ·
   refine G6 ?_;skip;refine G3 ?_;refine Aw (out:=(⟨p,[ptr p 0,x.nm.v, .map (some x.bE), .map (some x.bH), .map (some x.bO), .map (some x.bP), .map (some x.bW)],136,7⟩::(A9 x.bE (Au 32 evE) x.ent::(A9 x.bH (Au 32 evU) x.hds::(A9 x.bO (Au 32 evB) x.orp::(A9 x.bP (placeT 32 evR) x.pls::(A9 x.bW (Au 32 evR) x.wrs::(x.nb++(x.cb++(rbl x.pls++(rbl x.wrs++(al++[])))))))))))) (Cj J J J) (Ab rM (Ab rM (Ab rM (Ab rM (Ab rM (Ab rM (Af sG (Af sG (Af sG (Af sG (Af (by repeat(first|exact sg_end|apply sg_there)) Ai))))))))))) ?_;have h9:=addR_err (p:=p) (al:=al) hx (add_there hgd (by rw[there_eq,hg,hc2];rfl));simp only[DD.blks,DD.wait,Lam,Lak,Lat,La8]at h9 ⊢;exact h9
  refine G6 ?_;refine .lA J J J Y50.h J Sz50 Z2 (Block.length (by exact hB.1.ok)) ?_;refine .cV J J J J Body99 (dag_judge x hx p B D hB.1 oM) (fun w h=>⟨DagSee.of h Z3 Z4,hB.2 w (Lies.of h (by repeat(first|exact in_all|refine Bl ?_|refine in_seg ?_)))⟩) ?_;refine G9 ?_;refine .condP J (fun hc3=>?_) (fun hc3=>?_)
  ·
   refine G6 ?_;skip;refine G4 ?_;refine Aw (out:=(⟨p,[ptr p 0,x.nm.v, .map (some x.bE), .map (some x.bH), .map (some x.bO), .map (some x.bP), .map (some x.bW)],136,7⟩::(A9 x.bE (Au 32 evE) x.ent::(A9 x.bH (Au 32 evU) x.hds::(A9 x.bO (Au 32 evB) x.orp::(A9 x.bP (placeT 32 evR) x.pls::(A9 x.bW (Au 32 evR) x.wrs::(x.nb++(x.cb++(rbl x.pls++(rbl x.wrs++(al++[])))))))))))) (Cj J J J) (Ab rM (Ab rM (Ab rM (Ab rM (Ab rM (Ab rM (Af sG (Af sG (Af sG (Af sG (Af (by repeat(first|exact sg_end|apply sg_there)) Ai))))))))))) ?_;have h9:=addR_err (p:=p) (al:=al) hx (add_wrong hgd (by rw[there_eq,hg,hc2];rfl) hc3);simp only[DD.blks,DD.wait,Lam,Lak,Lat,La8]at h9 ⊢;exact h9
  refine G6 ?_;refine .condP J (fun hc4=>?_) (fun hc4=>?_)
  ·
   refine G7 ?_;refine .lenMap Y132.h J J J (by exact mem6) ?_;refine G3 ?_;refine .condP J (fun hc5=>?_) (fun hc5=>?_)
   ·
    refine G6 ?_;skip;refine G5 ?_;refine Aw (out:=(⟨p,[ptr p 0,x.nm.v, .map (some x.bE), .map (some x.bH), .map (some x.bO), .map (some x.bP), .map (some x.bW)],136,7⟩::(A9 x.bE (Au 32 evE) x.ent::(A9 x.bH (Au 32 evU) x.hds::(A9 x.bO (Au 32 evB) x.orp::(A9 x.bP (placeT 32 evR) x.pls::(A9 x.bW (Au 32 evR) x.wrs::(x.nb++(x.cb++(rbl x.pls++(rbl x.wrs++(al++[])))))))))))) (Cj J J J) (Ab rM (Ab rM (Ab rM (Ab rM (Ab rM (Ab rM (Af sG (Af sG (Af sG (Af sG (Af (by repeat(first|exact sg_end|apply sg_there)) Ai))))))))))) ?_;have h9:=addR_err (p:=p) (al:=al) hx (add_full hgd (by rw[there_eq,hg,hc2];rfl) hc4 (by show 64≤(x.orp.map _).length;rw[La1];omega));simp only[DD.blks,DD.wait,Lam,Lak,Lat,La8]at h9 ⊢;exact h9
   refine G3 ?_;refine .draw (oP [0,1,2,103,104,105,306,407]) Ao zK (G4 ?_);refine .lA J J J Y34.h J Sz34 Z1 (by(rw[Aa,La1];assumption)) ?_;refine .lA J J J Y50.h J Sz50 Z2 (Block.length (by exact hB.1.ok)) ?_;refine .call J J J J Body100 (dag_clone B D hB.1 oM oM) (BlkV.loose D hbd.dok) (fun w h=>hB.2 w (Lies.of h (by repeat(first|exact in_all|refine Bl ?_|refine in_seg ?_)))) ?_;rintro v54 out54 ⟨B2,hB2,rfl,hbi⟩;refine .mapPut (v:=((B2,D):BV)) MO J J J J J hn32 rM ?_;refine G8 ?_;skip;refine G4 ?_;refine Aw (out:=(⟨p,[ptr p 0,x.nm.v, .map (some x.bE), .map (some x.bH), .map (some x.bO), .map (some x.bP), .map (some x.bW)],136,7⟩::(A9 x.bE (Au 32 evE) x.ent::(A9 x.bH (Au 32 evU) x.hds::(A9 x.bO (Au 32 evB) (Bo x.orp (Bm D) (B2,D))::(A9 x.bP (placeT 32 evR) x.pls::(A9 x.bW (Au 32 evR) x.wrs::(x.nb++(x.cb++(out54++(rbl x.pls++(rbl x.wrs++(al++[]))))))))))))) (Cj J J J) (Ab rM (Ab rM (Ab rM (Ab rM (Ab rM (Ab rM (Af sG (Af sG (Af sG (Af sG (Af sG (Af (by repeat(first|exact sg_end|apply sg_there)) Ai)))))))))))) ?_;have h9:=addR_keep (p:=p) (al:=al) hx hB2 hbi oM hroom oM (add_keep hgd (by rw[there_eq,hg,hc2];rfl) hc4 (by show ¬64≤(x.orp.map _).length;rw[La1];omega));simp only[DD.blks,DD.wait,Lam,Lak,Lat,La8]at h9 ⊢;exact h9
  refine G3 ?_;refine .join (ι:=Unit×DD) (fun j=>⟨[(0,ptr p 0),(7,ptr n7 0)],(⟨n7,Aa (Bm D),34,32⟩::(⟨p,[ptr p 0,j.2.nm.v, .map (some j.2.bE), .map (some j.2.bH), .map (some j.2.bO), .map (some j.2.bP), .map (some j.2.bW)],136,7⟩::(A9 j.2.bE (Au 32 evE) j.2.ent::(A9 j.2.bH (Au 32 evU) j.2.hds::(A9 j.2.bO (Au 32 evB) j.2.orp::(A9 j.2.bP (placeT 32 evR) j.2.pls::(A9 j.2.bW (Au 32 evR) j.2.wrs::(j.2.nb++(j.2.cb++(rbl j.2.pls++(rbl j.2.wrs++(al++[]))))))))))))⟩) (fun j=>j.2.ok∧j.2.pl=x.pl.adm (Bm D) D∧j.2.names.length=x.names.length+1∧j.2.orp.length=x.orp.length) ?_ ?_
  ·
   refine .draw (oP [0,101,102,303,404]) Ao zK (G1 ?_);refine .lA J J J Y34.h J Sz34 Z1 (by(rw[Aa,La1];assumption)) ?_;refine .lA J J J Y50.h J Sz50 Z2 (Block.length (by exact hB.1.ok)) ?_;refine .call J J J J Body100 (dag_clone B D hB.1 oM oM) (BlkV.loose D hbd.dok) (fun w h=>hB.2 w (Lies.of h (by repeat(first|exact in_all|refine Bl ?_|refine in_seg ?_)))) ?_;rintro v58 out58 ⟨B2,hB2,rfl,hbi⟩;refine .callL (L:=((x.hold out58).blks p)) J J J J J Body101 (dag_admit2 (x.hold out58) (hx.hold out58) p (Bm D) hn32 B2 D ⟨hB2,fun W hW=>hbi W (hW.sub fun b hb=>Lbz _ hb)⟩ oM hroom) (Ab rM (Ab rM (Ab rM (Ab rM (Ab rM (Ab rM (Af sG (pm_two (Af sG (Af sG (Af sG (Af sG Ai)))))))))))) (Cf J) (fun w h=>Lent.of h (Ab rM (Ab rM (Ab rM (Ab rM (Ab rM (Ab rM (Af sG (pm_two (Af sG (Af sG (Af sG (Af sG Ai))))))))))))) ?_;rintro v59 out59 ⟨rfl,x2,rfl,hx2,hplx,hnlx,holx⟩;simp only[DD.blks,Lam,Lak,La8];refine G2 ?_;exact⟨((),x2),⟨hx2,hplx,hnlx,holx⟩,An wN (Ab rM (Ab rM (Ab rM (Ab rM (Ab rM (Ab rM (Ab rM (Af sG (Af sG (Af sG (Af sG (Af (by repeat(first|exact sg_end|apply sg_there)) Ai))))))))))))⟩
  intro j hj;obtain⟨j0,x2⟩:=j;simp only at hj ⊢;obtain⟨hx2,hplx,hnlx,holx⟩:=hj;refine .seq (.withK (sp_k (sp_v (sp_v (sp_v (sp_v (sp_v (sp_v (sp_x (sp_x (sp_x (sp_x (sp_x sp_n)))))))))))) J (.draw (oP [0,2,503,201,404,5,6]) Ao zK (.kloadAll J J J Y34.h J Sz34 Z0 (by(rw[Aa,La1];assumption)) ?_)));refine G1 ?_;refine .callL5 (L:=(x2.blks p)) J J J J J Body102 (dag_settleL x2 hx2 p) (SetL.loose x2 hx2 p _) (Ab rM (Ab rM (Ab rM (Ab rM (Ab rM (Ab rM (Af sG (Af sG (Af sG (Af sG Ai)))))))))) (Cf J) (fun w h=>Lent.of h (Ab rM (Ab rM (Ab rM (Ab rM (Ab rM (Ab rM (Af sG (Af sG (Af sG (Af sG Ai))))))))))) ?_;rintro v63 out63 ⟨⟨p63,n63,c63⟩,rfl,hn63,hnil63,hle63,h3263,hsf⟩;refine .mkRow2 (z:=agg (Aa (List.replicate 32 0))) [agg (Aa (Bm D))] (Aa (Bm D)) J J Y30.h Sz34 Ck J J (by intro v hv;rw[La0.1 hv];simp[Value.cells,Aa,hn32]) dE (by simp[Value.cells,agg]) ?_;intro q61;refine .appendAcc (n:=1) (z:=agg (Aa (List.replicate 32 0))) (by':=32) (A3 (PD.settle x2.orp.length x2.pl).2) J J J J J Y30.h Y30.h Sz34 Ck (by unfold By;kernel_rfl) J (Acc.some (cells:=Aa (Bm D)) (Lae 1) (by rw[Aa,La1,hn32])) (pm_consE rM J (by rw[Aa,La1,hn32]) Ai) (fun w h=>by have hL:Lies out63 w:=Lies.of h (by repeat(first|exact A4|refine Bl ?_));obtain⟨x3,bl3,e3,hx3,hac3,hr3⟩:=hsf w hL;exact hac3.see (hL.sub (fun b hb=>by rw[e3];exact Lbz _ hb))) hnil63 (flatB_cell _) oM oM (by rw[Ax h3263,←hn63]) ?_;intro s64 bl64 hac64;refine G4 ?_;simp only[Lam,Lak,Lat,La8];refine .know (fun w h=>hsf w (Lies.of h (by repeat(first|exact A4|refine in_seg ?_)))) (fun hF=>?_);obtain⟨x3,bl3,rfl,hx3,hac3,hr3,hpl3⟩:=hF;simp only[DD.blks,Lam,Lak,La8];refine G2 ?_;refine Aw (out:=(⟨p,[ptr p 0,x3.nm.v, .map (some x3.bE), .map (some x3.bH), .map (some x3.bO), .map (some x3.bP), .map (some x3.bW)],136,7⟩::(A9 x3.bE (Au 32 evE) x3.ent::(A9 x3.bH (Au 32 evU) x3.hds::(A9 x3.bO (Au 32 evB) x3.orp::(A9 x3.bP (placeT 32 evR) x3.pls::(A9 x3.bW (Au 32 evR) x3.wrs::(x3.nb++(x3.cb++(rbl x3.pls++(rbl x3.wrs++(bl64++(al++[]))))))))))))) (Cj J J J) (Ab (by repeat(first|exact Az|apply Ce)) (Ab (by repeat(first|exact Az|apply Ce)) (Ab (by repeat(first|exact Az|apply Ce)) (Ab (by repeat(first|exact Az|apply Ce)) (Ab (by repeat(first|exact Az|apply Ce)) (Ab (by repeat(first|exact Az|apply Ce)) (Af (by repeat(first|exact sg_here|apply sg_seg)) (Af (by repeat(first|exact sg_here|apply sg_seg)) (Af (by repeat(first|exact sg_here|apply sg_seg)) (Af (by repeat(first|exact sg_here|apply sg_seg)) (Af sG (Af (by repeat(first|exact sg_here|apply sg_seg)) Ai)))))))))))) ?_
  have h9:=addR_fits (p:=p) (al:=al) (bl3:=bl3) hplx oM hx2 hx3 hr3 hpl3 h3263 (by rw[←hn63];exact hac64) (add_fits hgd (by rw[there_eq,hg,hc2];rfl) (by rcases judge_cases x.P D with h8|h8|h8<;>first|exact h8|exact absurd h8 zA));simp only[DD.blks,DD.wait,Lam,Lak,Lat,La8]at h9 ⊢;exact h9
 skip;refine G3 ?_;refine .alloc (cs:=Block.zero.cells) J Block.zr J ?_;intro n8 hn8 hf8;refine .sA J J J J (Block.isCell (by exact hx.orpOk hg)) Sz50 (Block.length (by exact hx.orpOk hg)) Z0 (Block.length (by exact Block.zero_ok)) zU ?_;refine G13 ?_;refine .cond_t J J (G6 ?_);skip;refine G3 ?_;refine Aw (out:=(⟨p,[ptr p 0,x.nm.v, .map (some x.bE), .map (some x.bH), .map (some x.bO), .map (some x.bP), .map (some x.bW)],136,7⟩::(A9 x.bE (Au 32 evE) x.ent::(A9 x.bH (Au 32 evU) x.hds::(A9 x.bO (Au 32 evB) x.orp::(A9 x.bP (placeT 32 evR) x.pls::(A9 x.bW (Au 32 evR) x.wrs::(x.nb++(x.cb++(rbl x.pls++(rbl x.wrs++(al++[])))))))))))) (Cj J J J) (Ab rM (Ab rM (Ab rM (Ab rM (Ab rM (Ab rM (Af sG (Af sG (Af sG (Af sG (Af (by repeat(first|exact sg_end|apply sg_there)) Ai))))))))))) ?_;have h9:=addR_err (p:=p) (al:=al) hx (add_there hgd (by rw[there_eq,hg];rfl));simp only[DD.blks,DD.wait,Lam,Lak,Lat,La8]at h9 ⊢;exact h9
theorem DD.m0(x:DD)(p:Nat):(⟨p,[ptr p 0,x.nm.v, .map (some x.bE), .map (some x.bH), .map (some x.bO), .map (some x.bP), .map (some x.bW)],136,7⟩:Blk)∈x.blks p:=by unfold DD.blks;exact La9
theorem DD.mE(x:DD)(p:Nat):A9 x.bE (Au 32 evE) x.ent∈x.blks p:=by unfold DD.blks;exact mem1
theorem DD.mH(x:DD)(p:Nat):A9 x.bH (Au 32 evU) x.hds∈x.blks p:=by unfold DD.blks;exact mem2
theorem DD.mcb(x:DD)(p:Nat):∀b∈x.cb,b∈x.blks p:=by unfold DD.blks;exact(by repeat(first|exact A4|refine Bl ?_|refine in_seg ?_))
theorem DagSee.lies{x:DD}(h:Lies (x.blks p) W):DagSee x p W:=⟨h _ (x.m0 p),h _ (x.mE p)⟩
theorem lies_keep{hp L:List Blk}(h:Lies L C.W0)(hh:HRep C hp w)(hl:C.lent=[]:=by rfl):Lies L w:=fun b hb=>mblk_keep (h b hb) hh hl
theorem keys_put(fs:List (List UInt8×ν))(k:List UInt8)(v:ν)(n:List UInt8):n∈(Bo fs k v).map (·.1)↔n∈fs.map (·.1)∨n=k:=by
  have key:∀j,midx fs k=some j→(fs.set j (k,v)).map (·.1)=fs.map (·.1)∧k∈fs.map (·.1):=fun j h=>by
    unfold midx at h;rw[Lc1]at h;obtain⟨hl,he,_⟩:=h;have e:fs[j].1=k:=by simpa using he
    refine⟨?_,La7.2 ⟨fs[j],Lcp hl,e⟩⟩;rw[Ldv];refine Lcs fun i=>?_;rw[Lcx];split
    · rename_i hij
      subst hij;rw[if_pos (by simpa using hl),Lan,La3 hl];simp[e]
    ·rfl
  unfold Bo;cases h:midx fs k with
  | some j=>
    simp only;rw[(key j h).1];exact⟨.inl,fun h2=>by rcases h2 with h2|rfl;exact h2;exact(key j h).2⟩
  |none=>simp only[Lad,Lao,Ldh,Lac,La0]
end Go.Proofs.YtpogmfngccolbaaGreat
namespace Go.Proofs.YtpogmfngccolbaaGreat
open Go Hw Ed
def affX(n:Nat):Nat:=force (fastN n) fun s=>ux s*pwm PF 256 (uz s%PF) (PF-2)%PF
def affY(n:Nat):Nat:=force (fastN n) fun s=>uy s*pwm PF 256 (uz s%PF) (PF-2)%PF
theorem fast_at{n X Y:Nat}(hn:n<2^256)(hx:affX n=X)(hy:affY n=Y):cv.mul n bP=⟨fe X,fe Y⟩:=by
  refine fastN_pt hn ?_ ?_
  ·rw[←hx,affX,force_eq,fe_mod,fe_mul];rfl
  ·rw[←hy,affY,force_eq,fe_mod,fe_mul];rfl
end Go.Proofs.YtpogmfngccolbaaGreat
namespace Go.Proofs.YtpogmfngccolbaaGreat
open Go Hw _root_.Go.Proofs.Tryz
open Ed
def PD.new:PD:=⟨[],[],[],[],[],[],[]⟩
end Go.Proofs.YtpogmfngccolbaaGreat
namespace Go.Proofs.YtpogmfngccolbaaGreat
open Go Hw _root_.Go.Proofs.Tryz
section
variable{κ ν:Type}[DecidableEq κ]
variable{fs:List (κ×ν)}{k:κ}
theorem mget_cons(k:κ)(v:ν)(fs:List (κ×ν))(n:κ):Av ((k,v)::fs) n=if k=n then some v else Av fs n:=by
  unfold Av;rw[List.find?_cons];by_cases h:k=n<;>simp[h]
theorem mget_no(h:Av fs k=none):∀p∈fs,p.1≠k:=fun p hp e=>by
  obtain⟨v,hv⟩:=mget_of_key (fs:=fs) (La7.2 ⟨p,hp,e⟩);rw[h]at hv;cases hv
theorem mput_app(h:Av fs k=none)(v:ν):Bo fs k v=fs++[(k,v)]:=by
  unfold Bo;rw[midx_none (mget_no h)]
theorem mget_app(fs:List (κ×ν))(k:κ)(v:ν)(n:κ):Av (fs++[(k,v)]) n=if(Av fs n).isSome then Av fs n else if k=n then some v else none:=by
  induction fs with
  |nil=>rw[Lak,mget_cons];rfl
  | cons p fs ih=>
    obtain⟨a,b⟩:=p;rw[Lam,mget_cons,mget_cons,ih];by_cases h:a=n<;>simp[h]
theorem mget_new(h:Av fs k=none)(v:ν):Av (Bo fs k v) k=some v:=by rw[mput_app h,mget_app,h];simp
theorem mget_old(h:Av fs k=none)(v:ν){n:κ}(hn:k≠n):Av (Bo fs k v) n=Av fs n:=by
  rw[mput_app h,mget_app];cases Av fs n<;>simp[hn]
theorem mdel_head(k:κ)(v:ν)(fs:List (κ×ν)):mdel ((k,v)::fs) k=fs:=by
  have h:midx ((k,v)::fs) k=some 0:=by unfold midx;rw[List.findIdx?_cons];simp
  unfold mdel;rw[h];rfl
end
section
theorem ofNat_ne{i:Nat}(h:i<66):UInt64.ofNat (i+1)≠0:=fun e=>by
  have:=congrArg UInt64.toNat e;simp at this;omega
end
variable{D:DB}{L st:List (List UInt8)}{X:PD}{a b c:Block}{above:Int}{ms:List (List UInt8×Unit)}{n prev:List UInt8}{x:DD}{α κ ν:Type}{fs:List (κ×ν)}{l:List α}
theorem cons_of{n:Nat}(h:l.length=n+1):∃a t,l=a::t∧t.length=n:=by
  cases l with
  |nil=>cases h
  |cons a t=>exact⟨a,t,rfl,by simpa using h⟩
theorem build_sp(s:UInt64)(prev:List UInt8)(h:prev.length=32)(w:World):(Instr.build 50 #[(1,u64 s),(2,agg (Aa prev))]).run prog w= .ok (agg ({ Block.zero with fSeq:=s,fPrev:=prev }:Block).cells) w:=by
  iterate 32 (obtain⟨a,l,e,h2⟩:=cons_of h;clear h;subst e;have h:=h2;clear h2)
  obtain rfl:=Laa h
  (refine Eq.trans ?_ rfl;kernel_rfl)
def tri(a b c:Block):List Value:=a.cells++(b.cells++(c.cells++[]))
theorem tri_0(ha:a.ok):((tri a b c).drop 0).take 131=a.cells:=by
  rw[tri,Lea,Ld1 (by rw[Block.length ha];omega),La5 (by rw[Block.length ha];omega)]
theorem tri_1(ha:a.ok)(hb:b.ok):((tri a b c).drop 131).take 131=b.cells:=by
  have h1:=Block.length ha;rw[tri,Ldn oM,Lap oM,Lak,Ld1 (by rw[Block.length hb];omega),La5 (by rw[Block.length hb];omega)]
theorem tri_2(ha:a.ok)(hb:b.ok)(hc:c.ok):((tri a b c).drop 262).take 131=c.cells:=by
  have h1:=Block.length ha;have h2:=Block.length hb;have e:(tri a b c)=(a.cells++b.cells)++(c.cells++[]):=by rw[tri,La8]
  rw[e,Ldn (by rw[La4];omega),Lap (by rw[La4];omega),Lak,Lat,La5 (by rw[Block.length hc];omega)]
theorem sp_is(W:World)(s:UInt64)(h:prev.length=32):BlockIs W ({ Block.zero with fSeq:=s,fPrev:=prev }:Block) { DB.zero with seq:=s,prev:=prev }:=⟨⟨rfl,h,rfl⟩,rfl,rfl,rfl,(zero_is W).ls,(zero_is W).ds,rfl⟩
theorem sp_ok(s:UInt64)(h:prev.length=32):({ Block.zero with fSeq:=s,fPrev:=prev }:Block).ok:=⟨rfl,h,rfl⟩
theorem new_ok(bE bH bO bP bW:Nat):(⟨Sl.nil,[],[],[],[],[],[],[],[],bE,bH,bO,bP,bW⟩:DD).ok:=⟨Acc.none,fun l h=>(by cases h),Laj _,Laj _,fun p h=>(by cases h),Laj _,fun p h=>(by cases h),Laj _,fun p h=>(by cases h),fun p h=>(by cases h),fun p h=>(by cases h)⟩
theorem dag_new2:Meets prog 77 [] [] (fun _=>True) (fun v out=>∃(p:Nat) (x:DD),v=ptr p 0∧out=x.blks p∧x.ok∧x.pl=PD.new∧x.names.length+x.orp.length=0):=
  dag_new.imp (fun w h=>h) fun v out ⟨p,bE,bH,bO,bP,bW,h1,h2⟩=>⟨p,_,h1,h2,new_ok ..,rfl,rfl⟩
theorem one_32(h:n.length=32):∀l∈ [n],l.length=32:=fun l hl=>by rw[La0.1 hl];exact h
theorem two_32{n m:List UInt8}(h:n.length=32)(h2:m.length=32):∀l∈ [n,m],l.length=32:=fun l hl=>by rcases Lal.1 hl with rfl|hl;exact h;exact one_32 h2 l hl
def PD.heads(X:PD):List (List UInt8):=isort (X.hds.map (·.1))
theorem heads_len(X:PD):X.heads.length=X.hds.length:=by unfold PD.heads;rw[(isort_perm _).length_eq,La1]
theorem Held.at{B:Block}(h:Held [] B D)(W:World):BlockIs W B D:=h.2 W (fun b hb=>by cases hb)
theorem pm_in0{hp l R:List Blk}{x:Blk}(h:hp.Perm ((x::l)++R)):hp.Perm (([x]++l)++R):=h
theorem dag_heads(x:DD)(hx:x.ok)(p:Nat):Meets prog 147 [ptr p 0] [] (fun W=>Lies (x.blks p) W) (RowA x.pl.heads):=by
 intro W hW;refine Ac func147 J 11 ntmps147 J (G9 ?_);refine .cV J J J J Body96 (dag_valid x p) (fun w h=>DagSee.ext h (DagSee.lies hW)) (G3 ?_);refine .cond_f J J (G7 ?_);refine .loadE J J J Y114.h J sP ((DagSee.lies hW).at (o:=3) J) (.call4 J J J J J Body145 (dag_sortedU MH x.bH x.hds hx.hds (by have:=hx.hdsn;have:=hx.big;omega)) (fun w h=>mblk_keep (hW _ (x.mH p)) h) ?_);rintro v10 out10 ⟨s10,ks,hkp,hks,rfl,hac⟩;obtain rfl:ks=x.pl.heads:=isort_eq hkp hks;refine G3 ?_;refine G2 ?_;refine Aw (out:=(out10++[])) (Ae J J) (Af sG Ai) ?_;exact⟨s10,rfl,by simpa using hac⟩
inductive PD.Reach(X:PD)(above:Int)(L:List (List UInt8)):List UInt8→Prop
  |base {n:List UInt8} {D:DB} (h:n∈L) (hP:Av X.P n=some D) (hd:above<(Av X.dep n).getD 0):Reach X above L n
  |step {m n:List UInt8} {D E:DB} (h:Reach X above L m) (hP:Av X.P m=some D) (hn:n∈Cu D) (hE:Av X.P n=some E) (hd:above<(Av X.dep n).getD 0):Reach X above L n
def PD.Edge(X:PD)(L:List (List UInt8))(ms:List (List UInt8×Unit))(n:List UInt8):Prop:=n∈L∨∃m D,m∈ms.map (·.1)∧Av X.P m=some D∧n∈Cu D
def cntW:List (List UInt8×DB)→List (List UInt8×Unit)→Nat
  | [],_=>0
  |p::P,ms=>(if(Av ms p.1).isSome=true then 0 else 1)+cntW P ms
theorem put_some(h:Av ms n=none)(k:List UInt8):(Av (Bo ms n ()) k).isSome=(decide (n=k)||(Av ms k).isSome):=by
  by_cases e:n=k
  ·subst e;rw[mget_new h];simp
  ·rw[mget_old h _ e];simp[e]
theorem cnt_le{ms:List (List UInt8×Unit)}{n:List UInt8}(h:Av ms n=none):∀P:List (List UInt8×DB),cntW P (Bo ms n ())≤cntW P ms
  | []=>Lae _
  | p ::P=>by
    have ih:=cnt_le h P;have h1:(if(decide (n=p.1)||(Av ms p.1).isSome)=true then 0 else 1)≤(if(Av ms p.1).isSome=true then 0 else 1):=by
      cases(Av ms p.1).isSome<;>cases decide (n=p.1)<;>decide
    rw[cntW,cntW,put_some h];omega
theorem cnt_put{ms:List (List UInt8×Unit)}{n:List UInt8}(h:Av ms n=none):∀P:List (List UInt8×DB),n∈P.map (·.1)→cntW P (Bo ms n ())+1≤cntW P ms
  | [],hn=>by cases hn
  | p ::P,hn=>by
    have hle:=cnt_le h P;rw[cntW,cntW,put_some h];by_cases e:n=p.1
    · rw[←e,h,decide_eq_true rfl,if_pos (by rfl),if_neg sP]
      omega
    · have hn2:n∈P.map (·.1):=by
        rcases Lal.1 hn with h3|h3
        ·exact absurd h3 e
        ·exact h3
      have ih:=cnt_put h P hn2;rw[decide_eq_false e,Lgq];omega
theorem cnt_nil:∀P:List (List UInt8×DB),cntW P []=P.length
  | []=>rfl
  | p::P=>by
    have h:Av ([]:List (List UInt8×Unit)) p.1=none:=rfl;rw[cntW,cnt_nil P,h,Lb2];simp;omega
structure WalkI(X:PD)(above:Int)(L:List (List UInt8))(ms:List (List UInt8×Unit))(st:List (List UInt8)):Prop where
  r32:∀q∈ms,q.1.length=32
  s32:∀n∈st,n.length=32
  nd:(ms.map (·.1)).Nodup
  snd:∀n∈ms.map (·.1),X.Reach above L n
  sub:∀n∈st,X.Edge L ms n
  cov:∀n,X.Edge L ms n→n∈st∨n∈ms.map (·.1)∨Av X.P n=none∨(Av X.dep n).getD 0≤above
  cnt:ms.length+cntW X.P ms≤X.P.length
  len:st.length+17*cntW X.P ms≤L.length+17*X.P.length
theorem WalkI.start(X:PD)(above:Int)(h:∀n∈L,n.length=32):WalkI X above L [] L where
  r32:=fun q hq=>by cases hq
  s32:=h
  nd:=Le8
  snd:=fun n hn=>by cases hn
  sub:=fun n hn=> .inl hn
  cov:=fun n hn=>by
    rcases hn with hn|⟨m,D,hm,_⟩
    ·exact .inl hn
    ·cases hm
  cnt:=by rw[cnt_nil];exact Lgd (Las _)
  len:=by rw[cnt_nil];exact Lae _
theorem WalkI.pass(h:WalkI X above L ms (st++[n]))(hn:n∈ms.map (·.1)∨Av X.P n=none∨(Av X.dep n).getD 0≤above):WalkI X above L ms st:={ h with
  s32:=fun m hm=>h.s32 m (Lb6 _ hm)
  sub:=fun m hm=>h.sub m (Lb6 _ hm)
  cov :=fun m hm=>by
    rcases h.cov m hm with h1|h1
    · rcases Lac.1 h1 with h2|h2
      ·exact .inl h2
      ·rw[La0.1 h2];exact .inr hn
    ·exact .inr h1
  len:=by have:=h.len;rw[La4,Lb5]at this;omega }
theorem keys_in(h:Av X.P n=some D):n∈X.P.map (·.1):=La7.2 ⟨(n,D),Cs h,rfl⟩
theorem WalkI.meet(h:WalkI X above L ms (st++[n]))(hm:Av ms n=none)(hP:Av X.P n=some D)(hd:above<(Av X.dep n).getD 0)(hpar:∀l∈Cu D,l.length=32)(h17:(Cu D).length≤17):WalkI X above L (Bo ms n ()) (st++Cu D) where
  r32:=fun q hq=>by
    rcases mput_mem hq with hq|rfl
    ·exact h.r32 q hq
    ·exact h.s32 n (Lbz _ (La0.2 rfl))
  s32:=fun m hm2=>by
    rcases Lac.1 hm2 with h1|h1
    ·exact h.s32 m (Lb6 _ h1)
    ·exact hpar m h1
  nd:=mput_nodup h.nd n ()
  snd :=fun m hm2=>by
    rcases(keys_put ms n () m).1 hm2 with h1|rfl
    ·exact h.snd m h1
    · rcases h.sub m (Lbz _ (La0.2 rfl))with h1|⟨k,E,hk,hE,hn⟩
      ·exact .base h1 hP hd
      ·exact .step (h.snd k hk) hE hn hP hd
  sub :=fun m hm2=>by
    rcases Lac.1 hm2 with h1|h1
    · rcases h.sub m (Lb6 _ h1)with h2|⟨k,E,hk,hE,hn⟩
      ·exact .inl h2
      ·exact .inr ⟨k,E,(keys_put ms n () k).2 (.inl hk),hE,hn⟩
    ·exact .inr ⟨n,D,(keys_put ms n () n).2 (.inr rfl),hP,h1⟩
  cov :=fun m hm2=>by
    have old:X.Edge L ms m→m∈st++Cu D∨m∈(Bo ms n ()).map (·.1)∨Av X.P m=none∨(Av X.dep m).getD 0≤above:=fun he=>by
      rcases h.cov m he with h1|h1|h1
      · rcases Lac.1 h1 with h2|h2
        ·exact .inl (Lb6 _ h2)
        ·exact .inr (.inl ((keys_put ms n () m).2 (.inr (La0.1 h2))))
      ·exact .inr (.inl ((keys_put ms n () m).2 (.inl h1)))
      ·exact .inr (.inr h1)
    rcases hm2 with h1|⟨k,E,hk,hE,hn⟩
    ·exact old (.inl h1)
    · rcases(keys_put ms n () k).1 hk with h1|rfl
      ·exact old (.inr ⟨k,E,h1,hE,hn⟩)
      · rw[hP]at hE
        rw[←Lfm hE]at hn;exact .inl (Lbz _ hn)
  cnt:=by
    have h1:=h.cnt;have h2:=cnt_put hm X.P (keys_in hP);have h3:=mput_len ms n ();omega
  len:=by
    have h1:=h.len;have h2:=cnt_put hm X.P (keys_in hP);rw[La4,Lb5]at h1;rw[La4];omega
theorem WalkI.fin(h:WalkI X above L ms [])(n:List UInt8):n∈ms.map (·.1)↔X.Reach above L n:=by
  refine⟨h.snd n,fun hr=>?_⟩;have key:∀ {n D},X.Edge L ms n→Av X.P n=some D→above<(Av X.dep n).getD 0→n∈ms.map (·.1):=fun {n D} he hP hd=>by
    rcases h.cov n he with h1|h1|h1|h1
    ·cases h1
    ·exact h1
    ·rw[hP]at h1;cases h1
    ·omega
  induction hr with
  |base h1 hP hd=>exact key (.inl h1) hP hd
  |step h1 hP hn hE hd ih=>exact key (.inr ⟨_,_,ih,hP,hn⟩) hE hd
theorem DD.getDep(x:DD)(k:List UInt8):Av x.pl.dep k=(Av x.ent k).map (fun e=>e.1.fDepth):=mget_map (fun e:EV=>e.1.fDepth) x.ent k
theorem DD.atP{e:EV}(h:Av x.ent n=some e):Av x.pl.P n=some e.2∧(Av x.pl.dep n).getD 0=e.1.fDepth:=⟨by rw[show x.pl.P=x.P from rfl,x.getP,h];rfl,by rw[x.getDep,h];rfl⟩
theorem DD.noP(h:Av x.ent n=none):Av x.pl.P n=none:=by rw[show x.pl.P=x.P from rfl,x.getP,h];rfl
theorem mget_keys(h:Av ms n=some ()):n∈ms.map (·.1):=La7.2 ⟨(n,()),Cs h,rfl⟩
def WalkR(X:PD)(above:Int)(L:List (List UInt8))(v:Value)(out:List Blk):Prop:=∃(m:Nat) (ms:List (List UInt8×Unit)),v= .map (some m)∧out=[A9 m (Au 32 evU) ms]∧WalkI X above L ms []
theorem sees_last{w:World}{b:Nat}{kk:List UInt8}(h:∀l∈st++[kk],l.length=32)(hs:Cd w b 0 (A3 (st++[kk]))):Cd w b (0+st.length*32) (Aa kk):=by
  have:=Bu h hs (k:=st.length) sP;simpa[La2]using this
theorem dag_walk(x:DD)(hx:x.ok)(h16:∀p∈x.P,p.2.ls.length≤16)(p:Nat)(s0:Sl)(L:List (List UInt8))(hL:s0.n≤90000)(above:Int):Meets prog 146 [ptr p 0,s0.v,i64 above] [] (fun W=>Lies (x.blks p) W∧RowsAt W s0 32 L) (WalkR x.pl above L):=by
 intro W hW;have hlies:=hW.1;have hd:=DagSee.lies hW.1;have hbig:=hx.big;have hen:=hx.entn;have hPl:x.pl.P.length=x.ent.length:=by show(x.ent.map _).length=_;rw[La1]
 have hL2:=hW.2.len;refine Ac func146 J 66 ntmps146 J (G7 ?_);refine .mkMap (Au 32 evU) J J ?_;intro m14;refine G6 ?_;refine .call4 J J J J J Body81 (cl_digs s0 L hL) (fun w h=>rows_ext h J hW.2) ?_;rintro v16 out16 ⟨s16,rfl,hac16⟩;have hn16:=hac16.num;refine G5 ?_;refine .loop (ι:=List (List UInt8×Unit)×List (List UInt8)×Sl×List Blk) (fun r=>⟨[(0,ptr p 0),(2,i64 above),(7, .map (some m14)),(8,r.2.2.1.v)],(A9 m14 (Au 32 evU) r.1::(r.2.2.2++[]))⟩) (fun r=>WalkI x.pl above L r.1 r.2.1∧Hw.Acc r.2.2.1 r.2.2.2 (A3 r.2.1) 34 r.2.1.length 32) (fun r=>r.2.1.length+18*cntW x.pl.P r.1) (([],L,s16,out16)) ?_ ?_ ?_
 ·exact⟨WalkI.start x.pl above hW.2.row,(by simp only;rw[hL2];exact hac16)⟩
 ·exact An wN (Ab (by repeat(first|exact Az|apply Ce)) (Af sG Ai))
 rintro⟨ms,st,sl,bl⟩ ⟨hI,hac⟩;simp only at hI hac ⊢;have hsn:=hac.num;refine G8 ?_;refine .condP J (fun hc0=>?_) (fun hc0=>?_)
 ·
  have hpos:0<st.length:=by omega
  obtain⟨st2,kk,rfl⟩:=snoc_of hpos;have hlen:(st2++[kk]).length=st2.length+1:=by simp
  have hmx:=hI.len;obtain⟨NN,hNN⟩:∃NN,NN=(st2++[kk]).length:=⟨_,rfl⟩;rw[←hNN]at hac;have h32k:kk.length=32:=hI.s32 kk sP;have hlast:=fun(w:World) (b:Nat)=>sees_last (w:=w) (b:=b) hI.s32;rcases hac with ⟨_,_,_,h0⟩|⟨qr,cr,rfl,hnc,hfl,rfl⟩
  ·exfalso;omega
  refine G9 ?_;refine .idxSlP 32 J J J J J Y30.h Sz34 st2.length (by show(NN:Int)-1=(st2.length:Int);omega) (by show st2.length<NN;omega) ?_;refine .loadSN (n:=32) (Aa kk) J J J Y34.h J Sz34 (by rw[Aa,La1];exact h32k) (fun w h=>hlast w qr (Ap h Z1)) ?_;refine .alloc (cs:=(Aa (List.replicate 32 0))) J Ck J ?_;intro n9 hn9 hf9;refine .sA J J J J zE Sz34 (by(simp[h32k];done)) Z0 sP zU ?_;refine G8 ?_;refine .sliceHiA ⟨some ⟨qr,0,none⟩,NN,cr⟩ st2.length J J J J (by show(NN:Int)-1=(st2.length:Int);omega) (by show st2.length≤cr;omega) Y30.h Sz34 ?_;refine G4 ?_;rw[flatB_append];refine .trunc (q:=qr) rM ?_;have hacn:Hw.Acc ⟨some ⟨qr,0,none⟩,st2.length,cr⟩ [⟨qr,A3 st2,34,cr*32⟩] (A3 st2) 34 st2.length 32:=Acc.some oM (Ax (fun l hl=>hI.s32 l (Lb6 _ hl)));refine .draw (oP [0,1,2,103,104,105,6,7,8,209,410,11]) Ao zK (G3 ?_);refine .loadE J J J Y131.h J sP (hd.at (o:=2) J) (.lA J J J Y34.h J Sz34 Z1 (by(simp[h32k];done)) ?_);refine .lookFC evE ME hd.2 sP J J J J h32k (fun hg=>?_) (fun e hg=>?_)
  ·
   skip;refine G3 ?_;refine .alloc (cs:=DEnt.zero.cells) J DEnt.zr J ?_;intro n10 hn10 hf10;refine G8 ?_;refine .lA J J J Y34.h J Sz34 Z2 (by(simp[h32k];done)) ?_;refine .lookF evU MH J J J J h32k Z3 (fun hg2=>?_) (fun e2 hg2=>?_)
   ·
    skip;refine G3 ?_;refine .alloc (cs:=[]) J Zr145 J ?_;intro n12 hn12 hf12;refine .sA J J J J zB Sz145 sP Z0 sP zU ?_;refine G18 ?_;refine .cond_t J J (G4 ?_)
    (refine⟨(ms,st2,⟨some ⟨qr,0,none⟩,st2.length,cr⟩,[⟨qr,A3 st2,34,cr*32⟩]),⟨hI.pass (by exact .inr (.inl (DD.noP hg))),hacn⟩,(by simp only[La4,Lb5];omega),?_⟩;exact An wN (Ab rM (pm_in0 (Ab rM Ai))))
   skip;refine G3 ?_;refine .alloc (cs:=[]) J Zr145 J ?_;intro n12 hn12 hf12;refine .sA J J J J zB Sz145 sP Z0 sP zU ?_;refine G18 ?_;refine .cond_t J J (G4 ?_)
   (refine⟨(ms,st2,⟨some ⟨qr,0,none⟩,st2.length,cr⟩,[⟨qr,A3 st2,34,cr*32⟩]),⟨hI.pass (by exact .inl (mget_keys hg2)),hacn⟩,(by simp only[La4,Lb5];omega),?_⟩;exact An wN (Ab rM (pm_in0 (Ab rM Ai))))
  have hP:=(DD.atP hg).1;have hdp:=(DD.atP hg).2;have h16e:e.2.ls.length≤16:=h16 _ (La7.2 ⟨_,Cs hg,rfl⟩);have h17:(Cu e.2).length≤17:=by have:=parL_len e.2;omega
  have hprow:=parL_row ((hx.ent _ (Cs hg)).2.1.2 W (hlies.sub (x.mcb p))).dok;refine G3 ?_;refine .alloc (cs:=DEnt.zero.cells) J DEnt.zr J ?_;intro n10 hn10 hf10;refine .sA J J J J (DEnt.isCell (by exact hx.entOk hg)) Sz164 (DEnt.length (by exact hx.entOk hg)) Z0 (DEnt.length (by exact DEnt.zero_ok)) zU ?_;refine G7 ?_;refine .lA J J J Y34.h J Sz34 Z2 (by(simp[h32k];done)) ?_;refine .lookF evU MH J J J J h32k Z3 (fun hg2=>?_) (fun e2 hg2=>?_)
  ·
   skip;refine G3 ?_;refine .alloc (cs:=[]) J Zr145 J ?_;intro n12 hn12 hf12;refine .sA J J J J zB Sz145 sP Z0 sP zU ?_;refine G12 ?_;refine .load1 J J J Y3.h J Z1 (DEnt.get_fDepth (hx.entOk hg)) ?_;refine G5 ?_;refine .condP J (fun hc1=>?_) (fun hc1=>?_)
   ·
    refine G4 ?_
    (refine⟨(ms,st2,⟨some ⟨qr,0,none⟩,st2.length,cr⟩,[⟨qr,A3 st2,34,cr*32⟩]),⟨hI.pass (by exact .inr (.inr (by rw[(DD.atP hg).2];omega))),hacn⟩,(by simp only[La4,Lb5];omega),?_⟩;exact An wN (Ab rM (pm_in0 (Ab rM Ai))))
   refine G5 ?_;refine .lA J J J Y34.h J Sz34 Z3 (by(simp[h32k];done)) ?_;refine .build (cs:=[]) J J J (fun w=>by kernel_rfl) ?_;refine .mapPut (v:=()) MH J J J J J h32k rM ?_;refine G5 ?_;refine .lN (Block.cells _) J J J Y50.h J Sz50 Z2 (DEnt.row_fBlock (by exact hx.entOk hg)) (DEnt.rl_fBlock (by exact hx.entOk hg)) ?_;refine .call4 J J J J J Body116 (db_parA e.1.fBlock e.2 oM) (fun w h=>(hx.ent _ (Cs hg)).2.1.2 w ((lies_keep hlies h).sub (x.mcb p))) ?_;rintro v63 out63 ⟨⟨p63,n63,c63⟩,rfl,hac63⟩;have hn63:n63=(Cu e.2).length:=hac63.num;refine .appendAcc (n:=st2.length) (z:=agg (Aa (List.replicate 32 0))) (by':=32) (A3 (Cu e.2)) J J J J J Y30.h Y30.h Sz34 Ck (by unfold By;kernel_rfl) J hacn rM (fun w h=>hac63.see (Lies.of h (by repeat(exact A4)))) (fun e=>hac63.nil e) (flatB_cell _) (by show st2.length+n63≤1000000;omega) (by show(st2.length+n63)*32≤140737488355328;omega) (by rw[Ax hprow,←hn63]) ?_;intro s64 bl64 hac64;refine G4 ?_
   (refine⟨(Bo ms kk (),st2++Cu e.2,s64,bl64),⟨hI.meet hg2 hP (by rw[hdp];omega) hprow h17,by simp only;rw[flatB_append,La4,←hn63];exact hac64⟩,(by have:=cnt_put hg2 x.pl.P (keys_in hP);simp only[La4,Lb5];omega),?_⟩;exact An wN (Ab (by repeat(first|exact Az|apply Ce)) (Af sG Ai)))
  skip;refine G3 ?_;refine .alloc (cs:=[]) J Zr145 J ?_;intro n12 hn12 hf12;refine .sA J J J J zB Sz145 sP Z0 sP zU ?_;refine G18 ?_;refine .cond_t J J (G4 ?_)
  (refine⟨(ms,st2,⟨some ⟨qr,0,none⟩,st2.length,cr⟩,[⟨qr,A3 st2,34,cr*32⟩]),⟨hI.pass (by exact .inl (mget_keys hg2)),hacn⟩,(by simp only[La4,Lb5];omega),?_⟩;exact An wN (Ab rM (pm_in0 (Ab rM Ai))))
 obtain rfl:st=[]:=Laa oM;refine G11 ?_;refine G2 ?_;refine Aw (out:=(A9 m14 (Au 32 evU) ms::[])) (Ae J J) (Ab rM Ai) ?_;exact⟨m14,ms,rfl,rfl,hI⟩
theorem WalkR.keys{ks:List (List UInt8)}(h:WalkI X above L ms [])(hp:ks.Perm (ms.map (·.1))):ks.Nodup∧∀n,n∈ks↔X.Reach above L n:=⟨hp.nodup_iff.2 h.nd,fun n=>hp.mem_iff.trans (h.fin n)⟩
def ClosR(X:PD)(L:List (List UInt8))(v:Value)(out:List Blk):Prop:=
  (∃n∈L,Av X.P n=none)∧v= .tuple #[.slice none 0 0,i64 6]∧out=[]
  ∨(∀n∈L,(Av X.P n).isSome=true)∧∃(s:Sl) (ks:List (List UInt8)),v= .tuple #[s.v,i64 0]∧Hw.Acc s out (A3 ks) 34 ks.length 32∧SortB ks∧ks.Nodup∧∀n,n∈ks↔X.Reach (-1) L n
theorem has_P(x:DD)(n:List UInt8):(Av x.pl.P n).isSome=(Av x.ent n).isSome:=by rw[show x.pl.P=x.P from rfl,x.getP,Lgh]
theorem dag_closure(x:DD)(hx:x.ok)(h16:∀p∈x.P,p.2.ls.length≤16)(p:Nat)(s0:Sl)(L:List (List UInt8))(hL:s0.n≤90000):Meets prog 88 [ptr p 0,s0.v] [] (fun W=>Lies (x.blks p) W∧RowsAt W s0 32 L) (ClosR x.pl L):=by
  intro W hW;have hlies:=hW.1;have hd:=DagSee.lies hW.1;have hbig:=hx.big;have hen:=hx.entn;have hPl:x.pl.P.length=x.ent.length:=by show(x.ent.map _).length=_;rw[La1]
  have hL2:=hW.2.len;refine Ac func88 J 26 ntmps88 J (G10 ?_);refine .cV J J J J Body96 (dag_valid x p) (fun w h=>hd.ext h) (G3 ?_);refine .cond_f J J (G11 ?_);refine .loop (ι:=Nat) (fun k=>⟨[(0,ptr p 0),(1,s0.v),(11,s0.v),(12,i64 (s0.n:Int)),(13,i64 (k:Int))],[]⟩) (fun k=>k≤s0.n∧∀j,j<k→(Av x.pl.P (L.getD j [])).isSome=true) (fun k=>s0.n-k) (0) ?_ ?_ ?_
  ·exact⟨Laj _,fun j hj=>by omega⟩
  ·exact An wN Ai
  rintro k ⟨hk,hall⟩;refine G6 ?_;refine .condP J (fun hc1=>?_) (fun hc1=>?_)
  ·
    have hk2:k<s0.n:=by omega
    refine G6 ?_;obtain⟨kk,hkk⟩:∃kk,kk=L.getD k []:=⟨_,rfl⟩;have h32k:kk.length=32:=by rw[hkk,La2,La3 oM];exact hW.2.row _ (Lcp oM)
    obtain⟨b0,o0,hs0,hsee0⟩:=hW.2.see.at (by rw[show(L.map Aa).flatten=A3 L from rfl,Ax hW.2.row];omega);refine .idxSlP 32 J J J hs0 J Y30.h Sz34 k J oM (.loadSN (n:=32) (Aa kk) J J J Y34.h J Sz34 (by rw[Aa,La1];exact h32k) (fun w h=>by rw[hkk];exact Bu hW.2.row (fun j v hj=>h.keeps.cell (p:=⟨b0,o0+j,none⟩) sP (hsee0 j v hj)) oM) ?_);refine .alloc (cs:=(Aa (List.replicate 32 0))) J Ck J ?_;intro n7 hn7 hf7;refine .sA J J J J zE Sz34 (by(simp[h32k];done)) Z0 sP zU ?_;refine G5 ?_;refine .lA J J J Y34.h J Sz34 Z0 (by(simp[h32k];done)) ?_;refine .cV J J J J Body79 (dag_has x hx p kk h32k) (fun w h=>hd.ext h) (G3 ?_);refine .cond J (fun hc2=>?_) (fun hc2=>?_)
    ·
      refine G6 ?_;refine G7 ?_;refine Aw (out:=[]) (Cj J J J) Ai (.inl ⟨⟨kk,?_,?_⟩,rfl,rfl⟩)
      · rw[hkk,La2,La3 oM]
        exact Lcp oM
      · cases h9:Av x.ent kk with
        |none=>exact DD.noP h9
        |some e=>rw[h9]at hc2;simp at hc2
    refine G8 ?_;exact⟨k+1,⟨by omega,fun j hj=>by rcases Lfo (Lgi hj)with h|h;exact hall j h;rw[h,←hkk,has_P];simpa using hc2⟩,by omega,An wN Ai⟩
  have hke:k=s0.n:=by omega
  refine G9 ?_;refine .call4 J J J J J Body146 (dag_walk x hx h16 p s0 L hL (-1)) (fun w h=>⟨lies_keep hlies h,rows_ext h J hW.2⟩) ?_;rintro v24 out24 ⟨m24,ms,rfl,rfl,hI⟩;have hmc:=hI.cnt;refine .call4 J J J J J Body145 (dag_sortedU MH m24 ms hI.r32 oM) (fun w h=>h.cells _ Z0) ?_;rintro v25 out25 ⟨s25,ks,hkp,hks,rfl,hac⟩;have hwk:=WalkR.keys hI hkp;refine G4 ?_;refine G2 ?_;refine Aw (out:=(out25++[])) (Cj J J J) (Af sG Ai) ?_;refine .inr ⟨fun n hn=>?_,s25,ks,rfl,by simpa using hac,hks,hwk.1,hwk.2⟩;obtain⟨j,hj,rfl⟩:=Ldb hn;have h9:=hall j oM;rwa[La2,La3 hj]at h9
theorem mem_erase_nd(h:l.Nodup){j:Nat}(hj:j<l.length)(n:α):n∈l.eraseIdx j↔n≠l[j]∧n∈l:=by
  rw[Lef,Lac];have e:l=l.take j++l[j]::l.drop (j+1):=by rw[←Lbx hj,Lcj]
  generalize hx:l[j]=x at*;have h2:=h;rw[e]at h2;obtain⟨h3,h4,h5⟩:=Lay.1 h2;have h6:=(Lb7.1 h4).1;constructor
  · rintro(h1|h1)
    ·exact⟨fun e2=>h5 n h1 x La9 e2,Lcz h1⟩
    ·exact⟨fun e2=>h6 (e2▸h1),List.mem_of_mem_drop h1⟩
  · rintro⟨h1,h7⟩
    rw[e,Lac,Lal]at h7;rcases h7 with h7|h7|h7
    ·exact .inl h7
    ·exact absurd h7 h1
    ·exact .inr h7
theorem map_erase{α β:Type}(f:α→β)(l:List α)(j:Nat):(l.eraseIdx j).map f=(l.map f).eraseIdx j:=by
  rw[Lef,Lef,Lad,Lcm,Le7]
theorem mdel_keys[DecidableEq κ](hn:(fs.map (·.1)).Nodup)(k n:κ):n∈(mdel fs k).map (·.1)↔n∈fs.map (·.1)∧n≠k:=by
  unfold mdel;cases h:midx fs k with
  | none=>
    refine⟨fun h1=>⟨h1,fun e=>?_⟩,fun h1=>h1.1⟩;unfold midx at h;rw[Le9]at h;obtain⟨p,hp,e2⟩:=La7.1 h1;have:=h p hp;simp[e2,e]at this
  | some j=>
    unfold midx at h;rw[Lc1]at h;obtain⟨hj,he,_⟩:=h;have e:fs[j].1=k:=by simpa using he
    have hj2:j<(fs.map (·.1)).length:=by rw[La1];exact hj
    have e2:(fs.map (·.1))[j]=k:=by rw[List.getElem_map];exact e
    show n∈(fs.eraseIdx j).map (·.1)↔_;rw[map_erase,mem_erase_nd hn hj2,e2];exact⟨fun h=>⟨h.2,h.1⟩,fun h=>⟨h.2,h.1⟩⟩
theorem delL_keys:∀(L:List (List UInt8)) {hds:List (List UInt8×Unit)},(hds.map (·.1)).Nodup→((delL hds L).map (·.1)).Nodup∧∀n,n∈(delL hds L).map (·.1)↔n∈hds.map (·.1)∧n∉L
  | [],hds,hn=>⟨hn,fun n=>by simp[delL]⟩
  | k ::L,hds,hn=>by
    have ih:=delL_keys L (mdel_nodup hn k);have e:delL hds (k::L)=delL (mdel hds k) L:=rfl;rw[e];refine⟨ih.1,fun n=>?_⟩;rw[ih.2,mdel_keys hn,Lal];constructor
    · rintro⟨⟨h1,h2⟩,h3⟩
      exact⟨h1,fun h=>by rcases h with h|h;exact h2 h;exact h3 h⟩
    · rintro⟨h1,h2⟩
      exact⟨⟨h1,fun h=>h2 (.inl h)⟩,fun h=>h2 (.inr h)⟩
theorem key_some[DecidableEq κ]{n:κ}:n∈fs.map (·.1)↔∃v,Av fs n=some v:=⟨mget_of_key,fun⟨v,h⟩=>La7.2 ⟨(n,v),Cs h,rfl⟩⟩
theorem key_none[DecidableEq κ]{n:κ}(h:n∉fs.map (·.1)):Av fs n=none:=by
  cases h2:Av fs n with
  |none=>rfl
  |some v=>exact absurd (key_some.2 ⟨v,h2⟩) h
theorem foldP_ge(dep:List (List UInt8×Int)):∀(L:List (List UInt8)) (d:Int),d≤L.foldl (stepP dep) d∧∀m∈L,(Av dep m).getD 0<L.foldl (stepP dep) d
  | [],d=>⟨Int.le_refl d,fun m hm=>by cases hm⟩
  | k::L,d=>by
    have ih:=foldP_ge dep L (stepP dep d k);have h1:d≤stepP dep d k∧(Av dep k).getD 0<stepP dep d k:=by unfold stepP;split<;>omega
    refine⟨Int.le_trans h1.1 ih.1,fun m hm=>?_⟩;rcases Lal.1 hm with rfl|hm
    ·exact Int.lt_of_lt_of_le h1.2 ih.1
    ·exact ih.2 m hm
theorem judge_ready{P:List (List UInt8×DB)}(h:C1 P D=1):readyB P D=true:=by
  unfold C1 at h;split at h
  ·omega
  · split at h
    ·assumption
    ·omega
structure PD.Inv(X:PD):Prop where
  nn:X.names=X.P.map (·.1)
  dk:X.dep.map (·.1)=X.P.map (·.1)
  nd:(X.P.map (·.1)).Nodup
  ck:∀p∈X.P,p.2.check=0
  par:∀n D,Av X.P n=some D→∀m∈Cu D,(∃E,Av X.P m=some E)∧(Av X.dep m).getD 0<(Av X.dep n).getD 0
  d0:∀n D,Av X.P n=some D→0≤(Av X.dep n).getD 0
  hn:(X.hds.map (·.1)).Nodup
  hd:∀n,n∈X.hds.map (·.1)↔(∃D,Av X.P n=some D)∧∀m D,Av X.P m=some D→n∉Cu D
  od:(X.orp.map (·.1)).Nodup
  oc:∀p∈X.orp,p.2.check=0∧p.1∉X.P.map (·.1)
theorem PD.Inv.new:PD.new.Inv where
  nn:=rfl
  dk:=rfl
  nd:=Le8
  ck:=fun p hp=>by cases hp
  par:=fun n D h=>by cases h
  d0:=fun n D h=>by cases h
  hn:=Le8
  hd:=fun n=>⟨fun h=>(by cases h),fun⟨⟨D,h⟩,_⟩=>(by cases h)⟩
  od:=Le8
  oc:=fun p hp=>by cases hp
theorem PD.Inv.drop(h:X.Inv)(n:List UInt8):(X.drop1 n).Inv:={ h with
  od:=mdel_nodup h.od n
  oc:=fun p hp=>h.oc p (mdel_mem hp) }
theorem PD.Inv.adm(h:X.Inv)(hnP:n∉X.P.map (·.1))(hno:n∉X.orp.map (·.1))(hc:D.check=0)(hr:readyB X.P D=true):(X.adm n D).Inv:=by
  have hP0:=key_none hnP;have hD0:Av X.dep n=none:=key_none (by rw[h.dk];exact hnP);have eP:(X.adm n D).P=X.P++[(n,D)]:=mput_app hP0 D;have eD:(X.adm n D).dep=X.dep++[(n,(Cu D).foldl (stepP X.dep) 0)]:=mput_app hD0 _;have gP:∀m,m≠n→Av (X.adm n D).P m=Av X.P m:=fun m hm=>mget_old hP0 D (fun e=>hm e.symm);have gPn:Av (X.adm n D).P n=some D:=mget_new hP0 D;have gD:∀m,m≠n→Av (X.adm n D).dep m=Av X.dep m:=fun m hm=>mget_old hD0 _ (fun e=>hm e.symm);have gDn:Av (X.adm n D).dep n=some ((Cu D).foldl (stepP X.dep) 0):=mget_new hD0 _;have rdy:∀m∈Cu D,∃E,Av X.P m=some E:=fun m hm=>by
    have:=Lbk.1 hr m hm;exact Option.isSome_iff_exists.1 this
  have ne:∀ {m E},Av X.P m=some E→m≠n:=fun {m E} hm e=>by rw[e,hP0]at hm;cases hm
  have old:∀ {m E},Av (X.adm n D).P m=some E→m=n∧E=D∨m≠n∧Av X.P m=some E:=fun {m E} hm=>by
    by_cases e:m=n
    · rw[e,gPn]at hm
      exact .inl ⟨e,(Lfm hm).symm⟩
    · rw[gP m e]at hm
      exact .inr ⟨e,hm⟩
  have hk:=delL_keys (Cu D) h.hn;refine⟨?_,?_,?_,?_,?_,?_,?_,?_,h.od,?_⟩
  · show X.names++[n]=_
    rw[eP,Lad,h.nn];rfl
  ·rw[eP,eD,Lad,Lad,h.dk];rfl
  · rw[eP,Lad]
    refine Lay.2 ⟨h.nd,by simp,fun a ha b hb e=>?_⟩;rw[Lao,Ldh,La0]at hb;rw[e,hb]at ha;exact hnP ha
  · intro p hp
    rw[eP]at hp;rcases Lac.1 hp with hp|hp
    ·exact h.ck p hp
    ·rw[La0.1 hp];exact hc
  · intro m E hm k hk2
    rcases old hm with ⟨rfl,rfl⟩|⟨e,hm⟩
    · obtain⟨F,hF⟩:=rdy k hk2
      refine⟨⟨F,by rw[gP k (ne hF)];exact hF⟩,?_⟩;rw[gD k (ne hF),gDn];exact(foldP_ge X.dep (Cu E) 0).2 k hk2
    · obtain⟨⟨F,hF⟩,hlt⟩:=h.par m E hm k hk2
      refine⟨⟨F,by rw[gP k (ne hF)];exact hF⟩,?_⟩;rw[gD k (ne hF),gD m e];exact hlt
  · intro m E hm
    rcases old hm with ⟨rfl,rfl⟩|⟨e,hm⟩
    · rw[gDn]
      exact(foldP_ge X.dep (Cu E) 0).1
    ·rw[gD m e];exact h.d0 m E hm
  ·exact mput_nodup hk.1 n ()
  · intro k
    show k∈(Bo (delL X.hds (Cu D)) n ()).map (·.1)↔_;rw[keys_put,hk.2,h.hd];constructor
    · rintro(⟨⟨⟨E,hE⟩,h1⟩,h2⟩|rfl)
      · refine⟨⟨E,by rw[gP k (ne hE)];exact hE⟩,fun m F hm=>?_⟩
        rcases old hm with ⟨rfl,rfl⟩|⟨e,hm⟩
        ·exact h2
        ·exact h1 m F hm
      · refine⟨⟨D,gPn⟩,fun m F hm hk2=>?_⟩
        rcases old hm with ⟨rfl,rfl⟩|⟨e,hm⟩
        · obtain⟨G,hG⟩:=rdy _ hk2
          exact ne hG rfl
        · obtain⟨⟨G,hG⟩,_⟩:=h.par m F hm _ hk2
          exact ne hG rfl
    · rintro⟨⟨E,hE⟩,h1⟩
      rcases old hE with ⟨rfl,rfl⟩|⟨e,hE⟩
      ·exact .inr rfl
      ·exact .inl ⟨⟨⟨E,hE⟩,fun m F hm=>h1 m F (by rw[gP m (ne hm)];exact hm)⟩,h1 n D gPn⟩
  · intro p hp
    have:=h.oc p hp;refine⟨this.1,fun hm=>?_⟩;rw[eP,Lad]at hm;rcases Lac.1 hm with hm|hm
    ·exact this.2 hm
    · rw[Lao,Ldh,La0]at hm
      have e9:p.1=n:=hm;exact hno (by rw[←e9];exact La7.2 ⟨p,hp,rfl⟩)
theorem first_key(h:X.first=some n):∃D,Av X.orp n=some D∧C1 X.P D≠0:=by
  have h1:=Lfe h;have h2:=List.find?_some h;obtain⟨D,hD⟩:=mget_of_key ((isort_perm _).mem_iff.1 h1);refine⟨D,hD,?_⟩;rw[hD,Lbn]at h2;simpa using h2
theorem PD.Inv.settle:∀(f:Nat) {X:PD},X.Inv→(PD.settle f X).1.Inv
  |0,X,h=>h
  | f + 1,X,h=>by
    cases hf:X.first with
    |none=>rw[settle_done hf];exact h
    | some n=>
      obtain⟨D,hD,hj⟩:=first_key hf;have hm:=h.oc _ (Cs hD);by_cases h1:C1 X.P D=1
      · rw[settle_fit hf hD h1]
        exact PD.Inv.settle f ((h.drop n).adm hm.2 (fun h2=>((mdel_keys h.od n n).1 h2).2 rfl) hm.1 (judge_ready h1))
      · rw[settle_wrong hf hD h1]
        exact PD.Inv.settle f (h.drop n)
theorem PD.Inv.add(h:X.Inv)(D:DB):(X.add D).1.Inv:=by
  by_cases hg:dgood D=0
  · cases ht:((Av X.orp (Bm D)).isSome||(Av X.P (Bm D)).isSome)with
    |true=>rw[add_there hg ht];exact h
    | false =>
      rw[Bool.or_eq_false_iff]at ht;have n1:Bm D∉X.orp.map (·.1):=fun hm=>by
        obtain⟨v,hv⟩:=mget_of_key hm;rw[hv]at ht;cases ht.1
      have n2:Bm D∉X.P.map (·.1):=fun hm=>by
        obtain⟨v,hv⟩:=mget_of_key hm;rw[hv]at ht;cases ht.2
      have hf:((Av X.orp (Bm D)).isSome||(Av X.P (Bm D)).isSome)=false:=by rw[ht.1,ht.2];rfl
      rcases judge_cases X.P D with hj|hj|hj
      · by_cases h64:64≤X.orp.length
        ·rw[add_full hg hf hj h64];exact h
        · rw [add_keep hg hf hj h64]
          exact{ h with
            od:=mput_nodup h.od _ _
            oc:=fun p hp=>by
              rcases mput_mem hp with hp|rfl
              ·exact h.oc p hp
              ·exact⟨good_check hg,n2⟩ }
      · rw[add_fits hg hf hj]
        exact PD.Inv.settle _ (h.adm n2 n1 (good_check hg) (judge_ready hj))
      ·rw[add_wrong hg hf hj];exact h
  ·rw[add_bad hg];exact h
noncomputable def fillP(X:PD)(ds:List DB):PD:=ds.foldl (fun X D=>(X.add D).1) X
theorem PD.Inv.fill:∀(ds:List DB) {X:PD},X.Inv→(fillP X ds).Inv
  | [],X,h=>h
  |D::ds,X,h=>PD.Inv.fill ds (h.add D)
section
variable{X:PD}
theorem reach_P{a:Int}{L:List (List UInt8)}{n:List UInt8}(h:X.Reach a L n):∃D,Av X.P n=some D:=by
  cases h with
  |base _ hP _=>exact⟨_,hP⟩
  |step _ _ _ hE _=>exact⟨_,hE⟩
end
section
variable{C:Cx}{ops:Array Oper}{rest:List (Nat×Oper)}{sl:List (Nat×Value)}{hp:List Blk}{Q:St→Prop}{c d:Nat}{ty:TypeId}{pos:String}{af:Array Edge}{g:Option (Nat×Bool)}
variable{xT yT:TypeId}{x y:Operand}{a b:Int}
end
def GetR(X:PD)(n:List UInt8)(v:Value)(out:List Blk):Prop:=
  Av X.P n=none∧v= .tuple #[agg Block.zero.cells,i64 6]∧out=[]
  ∨∃D B,Av X.P n=some D∧SameB B D∧v= .tuple #[agg B.cells,i64 0]∧∀W2,Lies out W2→BlockIs W2 B D
theorem ck_small{D:DB}(h:D.check=0):D.ls.length≤16∧D.ds.length≤90000:=by
  obtain⟨h1,h2⟩:=D.head_small h;exact⟨by omega,by omega⟩
theorem dag_get(x:DD)(hx:x.ok)(hck:∀p∈x.P,p.2.check=0)(p:Nat)(n:List UInt8)(h32:n.length=32):Meets prog 114 [ptr p 0,agg (Aa n)] [] (fun W=>Lies (x.blks p) W) (GetR x.pl n):=by
 intro W hW;have hlies:=hW;have hd:=DagSee.lies hW;refine Ac func114 J 27 ntmps114 J (G3 ?_);intro n3 hn3 hf3;refine .alloc (cs:=Block.zero.cells) J Block.zr J ?_;intro n4 hn4 hf4;refine G7 ?_;refine .cV J J J J Body96 (dag_valid x p) (fun w h=>hd.ext h) (G3 ?_);refine .cond_f J J (G3 ?_);refine .draw (oP [0,1,2,103,104,105,6,7,8,209,410,11]) Ao zK (G3 ?_);refine .loadE J J J Y131.h J sP (hd.at (o:=2) J) (.lA J J J Y34.h J Sz34 Z1 (by(simp[h32];done)) ?_);refine .lookFC evE ME hd.2 sP J J J J h32 (fun hg=>?_) (fun e hg=>?_)
 ·
  skip;refine G3 ?_;refine .alloc (cs:=DEnt.zero.cells) J DEnt.zr J ?_;intro n6 hn6 hf6;refine G11 ?_;refine .cond_t J J (G2 ?_);refine .build (cs:=Block.zero.cells) J J J (fun w=>by kernel_rfl) ?_;refine G4 ?_;refine G3 ?_;refine Aw (out:=[]) (Bd J J J Y50.h J Sz50 Z1 (by exact Block.length (by exact Block.zero_ok))) Ai ?_;exact .inl ⟨DD.noP hg,rfl,rfl⟩
 obtain⟨hs1,hs2⟩:=ck_small (hck _ (La7.2 ⟨_,Cs hg,rfl⟩));simp only at hs1 hs2;refine G3 ?_;refine .alloc (cs:=DEnt.zero.cells) J DEnt.zr J ?_;intro n6 hn6 hf6;refine .sA J J J J (DEnt.isCell (by exact hx.entOk hg)) Sz164 (DEnt.length (by exact hx.entOk hg)) Z0 (DEnt.length (by exact DEnt.zero_ok)) zU ?_;refine G10 ?_;refine .cond_f J J (G5 ?_);refine .lN (Block.cells _) J J J Y50.h J Sz50 Z0 (DEnt.row_fBlock (by exact hx.entOk hg)) (DEnt.rl_fBlock (by exact hx.entOk hg)) ?_;refine .call4 J J J J J Body100 (dag_clone e.1.fBlock e.2 (hx.ent _ (Cs hg)).2.1.1 oM oM) (fun w h=>(hx.ent _ (Cs hg)).2.1.2 w ((lies_keep hlies h).sub (x.mcb p))) ?_;rintro v26 out26 ⟨B26,h26,rfl,hb26⟩;refine .sA J J J J (Block.isCell (by exact h26.ok)) Sz50 (Block.length (by exact h26.ok)) mR (Block.length (by exact Block.zero_ok)) uU ?_;refine G3 ?_;refine G2 ?_;refine Aw (out:=(out26++[])) (Bd J J J Y50.h J Sz50 mR (by exact Block.length (by exact h26.ok))) (Af sG Ai) ?_;exact .inr ⟨e.2,B26,(DD.atP hg).1,h26,rfl,fun W2 hl=>hb26 W2 (by simpa using hl)⟩
theorem row_one{q:Nat}{w:World}{a:List UInt8}(ha:a.length=32)(h:Cd w q 0 (Aa a)):RowsAt w ⟨some ⟨q,0,none⟩,1,1⟩ 32 [a]:=⟨rfl,fun l hl=>by rw[La0.1 hl];exact ha,Lae 1,SeesP.of (by simpa using h),(by show 1≤maxLen;decide),fun e=>by cases e⟩
open Classical in
noncomputable def rB(X:PD)(above:Int)(L:List (List UInt8))(n:List UInt8):Bool:=decide (X.Reach above L n)
theorem rB_iff{X:PD}{above:Int}{L:List (List UInt8)}{n:List UInt8}:rB X above L n=true↔X.Reach above L n:=by unfold rB;simp
theorem fillP_snoc(X:PD)(l:List DB)(d:DB):fillP X (l++[d])=((fillP X l).add d).1:=by unfold fillP;rw[Lee];rfl
end Go.Proofs.YtpogmfngccolbaaGreat
namespace Go.Proofs.YtpogmfngccolbaaGreat
open Go Hw _root_.Go.Proofs.Tryz
variable{D:DB}{L c hs k1 ks ls:List (List UInt8)}{W:World}{X:PD}{ds:List DCut}{i k m:Nat}{n:List UInt8}{s:Sl}{x:DD}
theorem mid_u{i j:Nat}(h:i+j≤1000000):Value.int .u64 (IntKind.u64.wrap ((i:Int)+(j:Int)))=u64 (UInt64.ofNat (i+j)):=by
  rw[show(i:Int)+(j:Int)=((i+j:Nat):Int) by omega,cv_i64_u64,word_nat h]
theorem mid_i{n:Nat}(h:n≤1000000):Value.int .i64 (IntKind.i64.wrap ((Ar (UInt64.ofNat n) 1).toNat:Int))=i64 ((n/2:Nat):Int):=by
  have e:(Ar (UInt64.ofNat n) 1).toNat=n/2:=by rw[shr64_nat,ofNat_nat h]
  rw[cv_u64_i64 (by rw[e];omega),e]
theorem sort_at(hs:SortB ks)(hkm:k≤m)(hm:m<ks.length):Cw (ks.getD k []) (ks.getD m [])≤0:=by
  rcases Lfo hkm with h|rfl
  · rw[La2,La2,La3 hm,La3 (show k<ks.length by omega)]
    exact List.pairwise_iff_getElem.1 hs k m oM hm h
  ·rw[cmpB_self];exact Int.le_refl 0
theorem bs_lo(hs:SortB ks)(hkm:k≤m)(hm:m<ks.length)(h:Cw (ks.getD m []) n<0):Cw (ks.getD k []) n<0:=
  (cmpB_trans _ _ _ (sort_at hs hkm hm) (Int.le_of_lt h)).2 (.inr h)
theorem bs_hi(hs:SortB ks)(hkm:m≤k)(hk:k<ks.length)(h:¬Cw (ks.getD m []) n<0):0≤Cw (ks.getD k []) n:=by
  refine Int.not_lt.1 fun h2=>h ?_;exact(cmpB_trans _ _ _ (sort_at hs hkm hk) (Int.le_of_lt h2)).2 (.inr h2)
theorem bs_mem(hs:SortB ks)(hnd:ks.Nodup)(hlo:∀k,k<i→Cw (ks.getD k []) n<0)(hhi:∀k,i≤k→k<ks.length→0≤Cw (ks.getD k []) n):n∈ks↔i<ks.length∧Cw (ks.getD i []) n=0:=by
  constructor
  · intro h
    obtain⟨k,hk,e⟩:=Ldb h;have ek:ks.getD k []=n:=by rw[La2,La3 hk];exact e
    have hz:Cw (ks.getD k []) n=0:=(cmpB_zero _ _).2 ek;have hik:i≤k:=Nat.not_lt.1 fun h2=>by have:=hlo k h2;omega
    refine⟨by omega,?_⟩;have h1:=hhi i (Lae i) oM;have h2:=sort_at hs hik hk;rw[ek]at h2;omega
  · rintro⟨hi,h⟩
    rw[←(cmpB_zero _ _).1 h,La2,La3 hi];exact Lcp hi
theorem bs_yes(hs:SortB ks)(hnd:ks.Nodup)(hlo:∀k,k<i→Cw (ks.getD k []) n<0)(hhi:∀k,i≤k→k<ks.length→0≤Cw (ks.getD k []) n)(hi:i<ks.length):decide (Cw (ks.getD i []) n=0)=decide (n∈ks):=
  decide_eq_decide.2 ((bs_mem hs hnd hlo hhi).trans ⟨fun h=>h.2,fun h=>⟨hi,h⟩⟩).symm
theorem bs_no(hs:SortB ks)(hnd:ks.Nodup)(hlo:∀k,k<i→Cw (ks.getD k []) n<0)(hhi:∀k,i≤k→k<ks.length→0≤Cw (ks.getD k []) n)(hi:¬i<ks.length):false=decide (n∈ks):=
  (decide_eq_false fun h=>hi ((bs_mem hs hnd hlo hhi).1 h).1).symm
theorem bsearch(s:Sl)(ks:List (List UInt8))(n:List UInt8)(h32:n.length=32)(hs:SortB ks)(hnd:ks.Nodup)(hbig:ks.length≤400000):Meets prog 94 [s.v,agg (Aa n), .func (.func 95) #[] #[]] [] (fun W=>RowsAt W s 32 ks) (fun v out=>(∃i:Int,v= .tuple #[i64 i, .bool (decide (n∈ks))])∧out=[]):=by
 intro W hW;have hlen:=hW.len;have hrow:=hW.row;refine Ac func94 J 49 ntmps94 J (G3 ?_);intro n4 hn4 hf4;refine G20 ?_;refine .loop (ι:=Nat×Nat) (fun r=>⟨[(0,s.v),(2, .func (.func 95) #[] #[]),(4,ptr n4 0),(8,i64 (s.n:Int)),(9,i64 (r.1:Int)),(10,i64 (r.2:Int))],[⟨n4,Aa n,34,(Aa n).length⟩]⟩) (fun r=>r.1≤r.2∧r.2≤s.n∧(∀k,k<r.1→Cw (ks.getD k []) n<0)∧(∀k,r.2≤k→k<ks.length→0≤Cw (ks.getD k []) n)) (fun r=>r.2-r.1) ((0,s.n)) ?_ ?_ ?_
 ·exact⟨Laj _,Lae _,fun k hk=>absurd hk (Lfn _),fun k h1 h2=>by omega⟩
 ·exact An wN (Ab rM Ai)
 rintro⟨i,j⟩ ⟨hij,hjn,hlo,hhi⟩;simp only at hij hjn hlo hhi ⊢;refine G8 ?_;refine .condP J (fun hc0=>?_) (fun hc0=>?_)
 ·
  have hij2:i<j:=by omega
  obtain⟨b,o,hbp,hbs⟩:=hW.see.at (by rw[Ax hrow];omega);refine G8 ?_;refine .conv J J J Y3.h Y172.h (mid_u oM) (.shr_u64 J J J J 1 J dE (.conv J J J Y172.h Y3.h (mid_i oM) (G4 ?_)))
  refine .draw (oP [0,1,2,3,104,105,306,7]) Ao zK (G3 ?_);refine .idxSlP 32 J J J hbp J Y30.h Sz34 ((i+j)/2) J oM (.loadEN (Aa (ks.getD ((i+j)/2) [])) J J J Y34.h J Sz34 sP (by rw[Aa,La1];exact Bf hrow oM) (Bu hrow hbs oM) ?_);refine .lA J J J Y34.h J Sz34 Z0 (by(simp[h32];done)) ?_;refine .cV J J J J Body95 (block_cmp (ks.getD ((i+j)/2) []) n (Bf hrow oM) h32) tV (G3 ?_);refine .condP J (fun hc1=>?_) (fun hc1=>?_)
  ·
   refine G7 ?_;exact⟨((i+j)/2+1,j),⟨by simp only;omega,hjn,fun k hk=>bs_lo hs (m:=(i+j)/2) (by simp only at hk;omega) oM hc1,hhi⟩,by simp only;omega,An wN (Ab rM Ai)⟩
  refine G6 ?_;exact⟨(i,(i+j)/2),⟨by simp only;omega,by simp only;omega,hlo,fun k h1 h2=>bs_hi hs (m:=(i+j)/2) h1 h2 hc1⟩,by simp only;omega,An wN (Ab rM Ai)⟩
 obtain rfl:i=j:=by omega
 refine G6 ?_;refine .draw (oP [0,1,2,3,4,5,6,7,8,109,110,311,12,13,14,15]) Ao zK (G3 ?_);refine two (fun r hr k=>Tr.lss J J J J hr k) (fun hs8_30=>?_) (fun hs8_30=>?_)
 ·
  have hs8_3:=of_decide_eq_true hs8_30;obtain⟨b,o,hbp,hbs⟩:=hW.see.at (by rw[Ax hrow];omega);refine G4 ?_;refine .idxSlP 32 J J J hbp J Y30.h Sz34 (i) J oM (.loadEN (Aa (ks.getD (i) [])) J J J Y34.h J Sz34 sP (by rw[Aa,La1];exact Bf hrow oM) (Bu hrow hbs oM) ?_);refine .lA J J J Y34.h J Sz34 Z0 (by(simp[h32];done)) ?_;refine .cV J J J J Body95 (block_cmp (ks.getD i []) n (Bf hrow oM) h32) tV (G6 ?_);refine G2 ?_;refine Aw (out:=[]) (Cj J J J) Ai ?_;exact⟨⟨_,congrArg (fun z=>Value.tuple #[_, .bool z]) (bs_yes hs hnd hlo hhi oM)⟩,rfl⟩
 have hs8_3:=of_decide_eq_false hs8_30;skip;refine G14 ?_;refine G2 ?_;refine Aw (out:=[]) (Cj J J J) Ai ?_;exact⟨⟨_,congrArg (fun z=>Value.tuple #[_, .bool z]) (bs_no hs hnd hlo hhi oM)⟩,rfl⟩
theorem apart_1(n:List UInt8)(h32:n.length=32)(q:Nat)(sb:Sl)(ks:List (List UInt8))(hs:SortB ks)(hnd:ks.Nodup)(hbig:ks.length≤400000):Mv 152 [agg (Aa n),ptr q 0] (fun W=>RowsAt W sb 32 ks∧W.cell? ⟨q,0,none⟩=some sb.v) (.bool (decide (n∈ks))):=by
 intro W hW;refine Ac func152 J 13 ntmps152 J (G3 ?_);intro n2 hn2 hf2;refine G5 ?_;refine .loadE J J J Y30.h J sP (hW.2) (.lA J J J Y34.h J Sz34 Z0 (by(simp[h32];done)) ?_);refine .call4 J J J J J Body94 (bsearch sb ks n h32 hs hnd hbig) (fun w h=>rows_ext h J hW.1) ?_;rintro v9 out9 ⟨⟨i9,rfl⟩,rfl⟩;refine G13 ?_;refine G2 ?_;refine Aw (out:=[]) (Ae J J) Ai ?_;exact⟨rfl,rfl⟩
theorem index_apart(s:Sl)(ls:List (List UInt8))(q:Nat)(sb:Sl)(ks:List (List UInt8))(hs:SortB ks)(hnd:ks.Nodup)(hbig:ks.length≤400000):Mv 150 [s.v, .func (.func 152) #[] #[ptr q 0]] (fun W=>RowsAt W s 32 ls∧RowsAt W sb 32 ks∧W.cell? ⟨q,0,none⟩=some sb.v) (i64 (fstBad (fun n=>decide (n∈ks)) ls)):=by
 intro W hW;have hlen:=hW.1.len;have hrow:=hW.1.row;have hmax:=hW.1.max;simp only[maxLen]at hmax;have hcap:=hW.1.cap;refine Ac func150 J 19 ntmps150 J (G14 ?_);refine .loop (ι:=Nat) (fun k=>⟨[(0,s.v),(1, .func (.func 152) #[] #[ptr q 0]),(7,i64 (s.n:Int)),(8,i64 (k:Int))],[]⟩) (fun k=>k≤s.n∧∀j,j<k→(ls.map (fun n=>decide (n∈ks)))[j]? =some false) (fun k=>s.n-k) (0) ?_ ?_ ?_
 ·exact⟨by omega,fun j hj=>by omega⟩
 ·exact Ad wN wh0 nD
 rintro k ⟨hk,hg⟩;refine G6 ?_;refine .condP J (fun hc0=>?_) (fun hc0=>?_)
 ·
  have hk2:k<s.n:=by omega
  obtain⟨b,o,hbp,hbs⟩:=hW.1.see.at (by rw[Ax hrow];omega);have h32k:(ls.getD k []).length=32:=Bf hrow oM;have hd:ls[k]? =some (ls.getD k []):=by rw[La2,La3 (show k<ls.length by omega)];rfl
  refine G15 ?_;refine .idxSlP 32 J J J hbp J Y30.h Sz34 k oM oM (.loadEN (Aa (ls.getD k [])) J J J Y34.h J Sz34 sP (by rw[Aa,La1];exact h32k) (Bu hrow hbs oM) ?_);refine .callCV J J J J J Body152 (apart_1 (ls.getD k []) h32k q sb ks hs hnd hbig) (fun w h=>⟨rows_ext h J hW.2.1,h.keeps.cell sP hW.2.2⟩) (G2 ?_);refine .condP J (fun hc1=>?_) (fun hc1=>?_)
  ·
   refine G6 ?_;refine G7 ?_;refine⟨_,[],Ae J J,sP,sP,?_,rfl⟩;exact congrArg i64 (fstBad_at hg (by rw[Lan,hd];simpa using hc1)).symm
  refine G8 ?_;exact⟨k+1,⟨by omega,fun j hj=>by rcases Lcb.1 hj with h|rfl;exact hg j h;rw[Lan,hd];simpa using hc1⟩,by omega,Ad wN wh0 nD⟩
 obtain rfl:k=s.n:=by omega
 refine G10 ?_;refine G2 ?_;refine⟨_,[],Ae J J,sP,sP,?_,rfl⟩;exact congrArg i64 (fstBad_none (by intro j hj;exact hg j (by rw[hlen]at hj;exact hj))).symm
theorem contains_apart(s:Sl)(ls:List (List UInt8))(q:Nat)(sb:Sl)(ks:List (List UInt8))(hs:SortB ks)(hnd:ks.Nodup)(hbig:ks.length≤400000):Mv 115 [s.v, .func (.func 152) #[] #[ptr q 0]] (fun W=>RowsAt W s 32 ls∧RowsAt W sb 32 ks∧W.cell? ⟨q,0,none⟩=some sb.v) (.bool (ls.any (fun n=>decide (n∈ks)))):=by
 intro W hW;refine Ac func115 J 9 ntmps115 J (G9 ?_);refine .cV J J J J Body150 (index_apart s ls q sb ks hs hnd hbig) (fun w h=>⟨rows_ext h J hW.1,rows_ext h J hW.2.1,h.keeps.cell sP hW.2.2⟩) (G4 ?_);refine G2 ?_;refine⟨_,[],Ae J J,sP,sP,?_,rfl⟩;exact congrArg Value.bool (fstBad_ge _ _)
theorem nil_rows(W:World):RowsAt W Sl.nil 32 []:=rows_none
noncomputable def parsOf(X:PD)(hs:List (List UInt8)):List (List UInt8):=(hs.map fun h=>Cu ((Av X.P h).getD DB.zero)).flatten
noncomputable def apartB(X:PD)(hs:List (List UInt8)):Bool:= !(hs.any fun h=>rB X (-1) (parsOf X hs) h)
theorem parsOf_step(hk:k<hs.length)(hD:Av X.P (hs.getD k [])=some D):parsOf X (hs.take (k+1))=parsOf X (hs.take k)++Cu D:=by
  have e:hs[k]=hs.getD k []:=by rw[La2,La3 hk];rfl
  unfold parsOf;rw[Lar hk,Lad,Lc4,e];simp only[Lao,Ldh,Lcg,Lg5,Lat,hD,Lbn]
theorem parsOf_le(X:PD):∀hs:List (List UInt8),(∀h∈hs,(Cu ((Av X.P h).getD DB.zero)).length≤17)→(parsOf X hs).length≤17*hs.length
  | [],_=>Laj _
  | h::hs,hh=>by
    have ih:=parsOf_le X hs (fun k hk=>hh k (Lah _ hk));have h1:=hh h La9;have e:parsOf X (h::hs)=Cu ((Av X.P h).getD DB.zero)++parsOf X hs:=rfl;rw[e,La4,Lb2];omega
theorem parsOf_mem(h:n∈parsOf X hs):∃k∈hs,n∈Cu ((Av X.P k).getD DB.zero):=by
  obtain⟨l,hl,hn⟩:=List.mem_flatten.1 h;obtain⟨k,hk,rfl⟩:=La7.1 hl;exact⟨k,hk,hn⟩
theorem apart_eq(h:∀n,n∈ks↔X.Reach (-1) (parsOf X hs) n):(!(hs.any fun n=>decide (n∈ks)))=apartB X hs:=by
  unfold apartB;congr 1;refine congrArg (fun f=>hs.any f) (funext fun n=>?_);unfold rB;exact decide_eq_decide.2 (h n)
theorem cut_none(x:DD)(hx:x.ok)(h16:∀p∈x.P,p.2.ls.length≤16)(p:Nat):Mv 86 [ptr p 0] (fun W=>Lies (x.blks p) W) (.bool false):=by
 intro W hW;refine Ac func86 J 12 ntmps86 J (G8 ?_);refine .call4 J J J J J Body88 (dag_closure x hx h16 p Sl.nil [] (Laj _)) (fun w h=>⟨lies_keep hW h,nil_rows w⟩) ?_;rintro v7 out7 (⟨⟨n,hn,_⟩,_⟩|⟨_,s7,ks,rfl,_⟩)
 ·cases hn
 refine G10 ?_;refine .nei J J J J (show(!decide _)=false from congrArg not (decide_eq_true (rfl))) (G3 ?_);refine G2 ?_;refine Aw (out:=[]) (Ae J J) Ai ?_;exact⟨rfl,rfl⟩
theorem getD_mem2(h:k<L.length):L.getD k []∈L:=by
  rw[La2,La3 h];exact Lcp h
theorem P32(hx:x.ok)(h:∃D,Av x.pl.P n=some D):n.length=32:=by
  obtain⟨D,hD⟩:=h;obtain⟨p,hp,e⟩:=La7.1 (Cs (show Av x.P n=some D from hD));rw[←(Prod.mk.inj e).1];exact(hx.ent p hp).1
theorem names_mem(hI:X.Inv)(n:List UInt8):n∈X.names↔∃D,Av X.P n=some D:=by rw[hI.nn];exact key_some
theorem nd_len:∀ {l m:List (List UInt8)},l.Nodup→(∀n∈l,n∈m)→l.length≤m.length
  | [],m,_,_=>Laj _
  | a::l,m,h,hs=>by
    obtain⟨h1,h2⟩:=Lb7.1 h;have ha:=hs a La9;have ih:=nd_len (l:=l) (m:=m.erase a) h2 (fun n hn=>(List.mem_erase_of_ne (fun e=>h1 (by rw[←e];exact hn))).2 (hs n (Lah _ hn)));have hl:=List.length_erase_of_mem ha;have hp:=List.length_pos_of_mem ha;rw[Lb2];omega
theorem reach_len(hI:X.Inv)(hnd:ks.Nodup)(hks:∀n,n∈ks↔X.Reach (-1) L n):ks.length≤X.names.length:=nd_len hnd fun n hn=>(names_mem hI n).2 (reach_P ((hks n).1 hn))
theorem parsOf_take(X:PD)(ls:List (List UInt8))(h17:∀n∈ls,(Cu ((Av X.P n).getD DB.zero)).length≤17)(k:Nat):(parsOf X (ls.take k)).length≤17*ls.length:=by
  have h1:=parsOf_le X (ls.take k) (fun n hn=>h17 n (Lcz hn));have h2:(ls.take k).length≤ls.length:=by rw[Lag];exact Nat.min_le_right _ _
  omega
theorem parsOf_P(hI:X.Inv)(hP:∀n∈ls,∃D,Av X.P n=some D)(h:n∈parsOf X ls):∃D,Av X.P n=some D:=by
  obtain⟨k,hk,hn⟩:=parsOf_mem h;obtain⟨D,hD⟩:=hP k hk;rw[hD]at hn;exact(hI.par k D hD n hn).1
theorem parsOf_32(hI:x.pl.Inv)(hx:x.ok)(hP:∀n∈ls,∃D,Av x.pl.P n=some D):∀n∈parsOf x.pl ls,n.length=32:=fun _ hn=>P32 hx (parsOf_P hI hP hn)
theorem hB_ok(hx:x.ok){q:Nat}(hl:Lies (x.blks q) W)(h:Av x.pl.P n=some D):D.ok:=by
  obtain⟨p,hp,e⟩:=La7.1 (Cs (show Av x.P n=some D from h));have:=((hx.ent p hp).2.1.2 W (hl.sub (x.mcb q))).dok;rw[←(Prod.mk.inj e).2];exact this
theorem cut_apart(x:DD)(hx:x.ok)(hI:x.pl.Inv)(p:Nat)(s:Sl)(ls:List (List UInt8))(hls:ls.length≤1000)(hP:∀n∈ls,∃D,Av x.pl.P n=some D):Mv 93 [ptr p 0,s.v] (fun W=>Lies (x.blks p) W∧RowsAt W s 32 ls) (.bool (apartB x.pl ls)):=by
 intro W hW;have h32k:True:=trivial;have hck:∀q∈x.P,q.2.check=0:=hI.ck;have h16:∀q∈x.P,q.2.ls.length≤16:=fun q hq=>(ck_small (hck q hq)).1;have hlen:=hW.2.len;have hrow:=hW.2.row;have h17:∀n∈ls,(Cu ((Av x.pl.P n).getD DB.zero)).length≤17:=fun n hn=>by obtain⟨D,hD⟩:=hP n hn;have h9:D.ls.length≤16:=h16 _ (Cs hD);have h8:=parL_len D;rw[hD];show(Cu D).length≤17;omega
 have hpl:=parsOf_le x.pl ls h17;refine Ac func93 J 39 ntmps93 J (G19 ?_);refine .loop (ι:=Nat×Sl×List Blk) (fun r=>⟨[(0,ptr p 0),(1,s.v),(5,r.2.1.v),(12,s.v),(13,i64 (s.n:Int)),(14,i64 (r.1:Int))],(r.2.2++[])⟩) (fun r=>r.1≤s.n∧Hw.Acc r.2.1 r.2.2 (A3 (parsOf x.pl (ls.take r.1))) 34 (parsOf x.pl (ls.take r.1)).length 32) (fun r=>s.n-r.1) ((0,Sl.nil,[])) ?_ ?_ ?_
 ·exact⟨Laj _,Acc.none⟩
 ·exact An wN (Af (by repeat(exact sg_end)) Ai)
 rintro⟨k,s5,bl⟩ ⟨hk,hac⟩;simp only at hk hac ⊢;have hkl:=parsOf_take x.pl ls h17 k;refine G6 ?_;refine .condP J (fun hc0=>?_) (fun hc0=>?_)
 ·
  have hk2:k<s.n:=by omega
  obtain⟨b,o,hbp,hbs⟩:=hW.2.see.at (by rw[Ax hrow];omega);have h32k:(ls.getD k []).length=32:=Bf hrow oM;have hPk:=hP _ (getD_mem2 (show k<ls.length by omega));refine G6 ?_;refine .idxSlP 32 J J J hbp J Y30.h Sz34 k J oM (.loadEN (Aa (ls.getD k [])) J J J Y34.h J Sz34 sP (by rw[Aa,La1];exact h32k) (Bu hrow hbs oM) ?_);refine .alloc (cs:=(Aa (List.replicate 32 0))) J Ck J ?_;intro n7 hn7 hf7;refine .sA J J J J zE Sz34 (by(rw[Aa,La1];assumption)) Z0 sP zU ?_;refine G5 ?_;refine .lA J J J Y34.h J Sz34 Z0 (by(rw[Aa,La1];assumption)) ?_;refine .call4 J J J J J Body114 (dag_get x hx hck p (ls.getD k []) h32k) (fun w h=>lies_keep hW.1 h) ?_;rintro v21 out21 (⟨h0,_⟩|⟨D,B,hD,hB,rfl,hbi⟩)
  ·exfalso;obtain⟨D,hD⟩:=hPk;rw[h0]at hD;cases hD
  have hD16:D.ls.length≤16:=h16 _ (Cs hD);have hp17:(Cu D).length≤17:=by have:=parL_len D;omega
  refine G3 ?_;refine .alloc (cs:=Block.zero.cells) J Block.zr J ?_;intro n8 hn8 hf8;refine .sA J J J J (Block.isCell (by exact hB.ok)) Sz50 (Block.length (by exact hB.ok)) Z0 (Block.length (by exact Block.zero_ok)) zU ?_;refine G4 ?_;have hdok:D.ok:=(hB_ok hx hW.1 hD);have hprow:=parL_row hdok;refine G1 ?_;refine .lA J J J Y50.h J Sz50 Z0 (Block.length (by exact hB.ok)) ?_;refine .call4 J J J J J Body116 (db_parA B D oM) (fun w h=>hbi w (Lies.of h (by repeat(first|exact A4|refine Bl ?_)))) ?_;rintro v26 out26 ⟨⟨p26,n26,c26⟩,rfl,hac26⟩;have hn26:n26=(Cu D).length:=hac26.num;refine .appendAcc (n:=(parsOf x.pl (ls.take k)).length) (z:=agg (Aa (List.replicate 32 0))) (by':=32) (A3 (Cu D)) J J J J J Y30.h Y30.h Sz34 Ck (by unfold By;kernel_rfl) J hac sG (fun w h=>hac26.see (Lies.of h (by repeat(exact A4)))) (fun e=>hac26.nil e) (flatB_cell _) (by show(parsOf x.pl (ls.take k)).length+n26≤1000000;omega) (by show((parsOf x.pl (ls.take k)).length+n26)*32≤140737488355328;omega) (by rw[Ax hprow,←hn26]) ?_;intro s27 bl27 hac27;refine G9 ?_;refine⟨(k+1,s27,bl27),⟨by simp only;omega,?_⟩,by simp only;omega,An wN (Af sG Ai)⟩;simp only;rw[parsOf_step oM hD,flatB_append,La4,←hn26];exact hac27
 have hke:k=ls.length:=by omega
 rw[hke,Ldm]at hac;refine G9 ?_;refine .call4 J J J J J Body88 (dag_closure x hx h16 p s5 (parsOf x.pl ls) (by have:=hac.num;omega)) (fun w h=>⟨lies_keep hW.1 h,acc_rows hac (Lies.of h (by repeat(exact A4))) (parsOf_32 hI hx hP) J oM⟩) ?_;rintro v32 out32 (⟨⟨n,hn,h0⟩,_⟩|⟨hall,s32,ks,rfl,hac32,hso,hnd,hks⟩)
 ·exfalso;obtain⟨D,hD⟩:=parsOf_P hI hP hn;rw[h0]at hD;cases hD
 have hk32:∀l∈ks,l.length=32:=fun l hl=>P32 hx (reach_P ((hks l).1 hl));have hkb:ks.length≤400000:=by have h9:=reach_len hI hnd hks;have h8:x.pl.names.length=x.names.length:=rfl;have h7:=hx.big;omega
 refine G3 ?_;refine .alloc (cs:=[.slice none 0 0]) J Zr30 J ?_;intro n10 hn10 hf10;refine .s1 J J J J J Sz30 Z0 sP (by rfl) zU ?_;refine G7 ?_;refine .cV J J J J Body115 (contains_apart s ls n10 s32 ks hso hnd hkb) (fun w h=>⟨rows_ext h J hW.2,acc_rows hac32 (Lies.of h (by repeat(first|exact A4|refine Bl ?_))) hk32 J oM,(Bg h Z0).cell (o:=0) J⟩) ?_;refine G4 ?_;refine G2 ?_;refine Aw (out:=[]) (Ae J J) Ai ?_;exact⟨congrArg Value.bool (apart_eq hks),rfl⟩
theorem res_cell_cell_tmp{C:Cx}{fn:Func}{s:St}{t t2 t3:Tmp}{T T2:TypeId}{td td2:TypeDesc}{n n2 b b2:Nat}{cs cs2:List Value}{BT BT2:TypeId}{m m2:Nat}{v3:Value}(hr:fn.results= #[.cell t T, .cell t2 T2, .tmp t3])(hv:Hw.look s.sl t=some (ptr b 0))(hv2:Hw.look s.sl t2=some (ptr b2 0))(hv3:Hw.look s.sl t3=some v3)
    (hu:C.P.underlying T=some td) (hp':Bz td=false) (hs:Sz C.P T n) (hb:(⟨b,cs,BT,m⟩:Blk)∈s.hp) (hn:cs.length=n) (hu2:C.P.underlying T2=some td2) (hp2:Bz td2=false) (hs2:Sz C.P T2 n2) (hb2:(⟨b2,cs2,BT2,m2⟩:Blk)∈s.hp) (hn2:cs2.length=n2):Res C fn s (.tuple #[agg cs,agg cs2,v3]):=by
  intro a w r;have h1:=r.rs.slots t _ hv;have h2:=r.rs.slots t2 _ hv2;have h3:=r.rs.slots t3 _ hv3;simp[results,hr,h1,h2,h3,asAddr,run_cellAll r.rh hu hp' hs hb hn,run_cellAll r.rh hu2 hp2 hs2 hb2 hn2]
def lastC(rs:List Cut):Cut:=rs.getLastD Cut.zero
def lastD(ds:List DCut):DCut:=ds.getLastD DCut.zero
def lastN(ds:List DCut):List UInt8:=if ds.length=0 then List.replicate 32 0 else cnameD (lastD ds)
def lastE(ds:List DCut):Int:=if ds.length=0 then 0 else(lastD ds).check
theorem last_of{α:Type}{l:List α}{a z:α}(h:l[k]? =some a)(hk:k+1=l.length):l.getLastD z=a:=by
  rw[List.getLastD_eq_getLast?,List.getLast?_eq_getElem?,show l.length-1=k by omega,h];rfl
theorem lastN_length(ds:List DCut):(lastN ds).length=32:=by
  unfold lastN;split
  ·rfl
  ·exact cnameD_length _
abbrev CutsIn(W:World)(s:Sl)(rs:List Cut)(ds:List DCut):Prop:=SeqIs Cut.cells 34 CutIs W s rs ds
theorem cuts_last{rs:List Cut}(h:CutsIn W s rs ds):CutIs W (lastC rs) (lastD ds):=by
  have h1:=h.nr;have h2:=h.nd;by_cases h0:s.n=0
  · obtain rfl:rs=[]:=Laa oM
    obtain rfl:ds=[]:=Laa oM;exact cutz_is W
  · obtain⟨b,o,r,d,_,hr,hd,his,_⟩:=h.at (i:=s.n-1) dE oM
    rw[show lastC rs=r from last_of hr oM,show lastD ds=d from last_of hd oM];exact his
theorem last_small(h:lastE ds=0):(lastD ds).dHeads.length≤32:=by
  unfold lastE at h;split at h
  · obtain rfl:ds=[]:=Laa zA
    exact Laj _
  ·exact(lastD ds).small h
theorem cut_last(s:Sl)(rs:List Cut)(ds:List DCut):Mv 87 [s.v] (fun W=>CutsIn W s rs ds) (.tuple #[agg (lastC rs).cells,agg (Aa (lastN ds)),i64 (lastE ds)]):=by
 intro W hW;have hnd:=hW.nd;have hnr:=hW.nr;have hmax:=hW.max;simp only[maxLen]at hmax;refine Ac func87 J 22 ntmps87 J (G2 ?_);refine .alloc (cs:=Cut.zero.cells) J Cut.zr J ?_;intro n2 hn2 hf2;refine .alloc (cs:=(Aa (List.replicate 32 0))) J Ck J ?_;intro n3 hn3 hf3;refine G11 ?_;refine .condP J (fun hc0=>?_) (fun hc0=>?_)
 ·
  refine G2 ?_;refine .build (cs:=Cut.zero.cells) J J J (fun w=>by kernel_rfl) ?_;refine .build (cs:=Aa (List.replicate 32 0)) J J J (fun w=>by kernel_rfl) ?_;refine G1 ?_;refine .sA J J J J zE Sz34 sP Z0 sP zU ?_;refine G3 ?_;refine G3 ?_;refine⟨_,[],res_cell_cell_tmp J J J J Y57.h J Sz57 Z1 (by exact Cut.length (by exact Cut.zero_ok)) Y34.h J Sz34 Z0 sP,sP,sP,?_,rfl⟩;rw[show rs=[]from Laa oM,show ds=[]from Laa oM];rfl
 obtain⟨b,o,r,d,hsp,hr,hd,his,hlen,hsee⟩:=hW.at (i:=s.n-1) dE oM;refine G8 ?_;refine .idxSlP 34 J J J hsp J Y55.h Sz57 (s.n-1) oM oM (.loadEN r.cells J J J Y57.h J Sz57 sP hlen hsee (.alloc (cs:=Cut.zero.cells) J Cut.zr J ?_));intro n5 hn5 hf5;refine .sA J J J J (Cut.isCell (by exact his.ok)) Sz57 (Cut.length (by exact his.ok)) Z0 (Cut.length (by exact Cut.zero_ok)) zU ?_;refine G3 ?_;refine .withK (sp_k (sp_v (sp_v sp_n))) J (.draw (oP [0,1,3,302,304,405,406,7]) Ao zK (.kloadAll J J J Y57.h J Sz57 Z0 (Cut.length (by exact his.ok)) ?_));refine .kloadAll J J J Y57.h J Sz57 Z0 (Cut.length (by exact his.ok)) ?_;refine .kloadAll J J J Y57.h J Sz57 Z0 (Cut.length (by exact his.ok)) ?_;refine .cV J J J J Body56 (cut_name r d) (fun w h=>his.ext h J) (.cV J J J J Body57 (cut_check r d) (fun w h=>his.ext h J) (.sA J J J J (Cut.isCell (by exact his.ok)) Sz57 (Cut.length (by exact his.ok)) Z1 (Cut.length (by exact Cut.zero_ok)) zV ?_));refine .sA J J J J zE Sz34 (by(simp[cnameD_length];done)) Z0 sP zU ?_;refine G3 ?_;refine G2 ?_;refine⟨_,[],res_cell_cell_tmp J J J J Y57.h J Sz57 Z1 (by exact Cut.length (by exact his.ok)) Y34.h J Sz34 Z0 (by simp[cnameD_length]),sP,sP,?_,rfl⟩;rw[show lastC rs=r from last_of hr oM,lastN,lastE,if_neg oM,if_neg oM,show lastD ds=d from last_of hd oM]
def missB(X:PD)(L:List (List UInt8)):Bool:=L.any fun n=>(Av X.P n).isNone
noncomputable def beneath(X:PD)(L:List (List UInt8)):List (List UInt8):=(X.P.map (·.1)).filter fun n=>rB X (-1) L n
theorem clos_len(hI:X.Inv)(hnd:ks.Nodup)(hks:∀n,n∈ks↔X.Reach (-1) L n):ks.length=(beneath X L).length:=by
  refine((List.perm_ext_iff_of_nodup hnd (hI.nd.filter _)).2 fun n=>?_).length_eq;rw[hks,Lc6,rB_iff];refine⟨fun h=>⟨?_,h⟩,fun h=>h.2⟩;obtain⟨D,hD⟩:=reach_P h;exact La7.2 ⟨(n,D),Cs hD,rfl⟩
theorem miss_yes(h:∃n∈L,Av X.P n=none):missB X L=true:=by
  obtain⟨n,hn,h0⟩:=h;exact Ldo.2 ⟨n,hn,by rw[h0];rfl⟩
theorem miss_no(h:∀n∈L,(Av X.P n).isSome=true):missB X L=false:=by
  unfold missB;rw[Lg0];intro n hn;have:=h n hn;cases hm:Av X.P n with
  |none=>rw[hm]at this;cases this
  |some D=>simp
theorem all_not(hks:∀n,n∈k1↔X.Reach (-1) c n)(hk:k<L.length)(h:L.getD k []∉k1):(L.all fun n=>rB X (-1) c n)=false:=by
  cases he:L.all fun n=>rB X (-1) c n with
  |false=>rfl
  |true=>exact absurd ((hks _).2 (rB_iff.1 (Lbk.1 he _ (getD_mem2 hk)))) h
theorem all_yes(hks:∀n,n∈k1↔X.Reach (-1) c n)(h:∀j,j<L.length→L.getD j []∈k1):(L.all fun n=>rB X (-1) c n)=true:=by
  rw[Lbk];intro n hn;obtain⟨j,hj,e⟩:=Ldb hn;have h1:=h j hj;rw[La2,La3 hj]at h1;rw[←e];exact rB_iff.2 ((hks _).1 h1)
noncomputable def PD.ext(X:PD)(p:DCut)(nm:List UInt8)(e:Int)(c:DCut):Int:=
  if e≠0 then 2 else if c.check≠0 then 2 else if(c.dHeight.toNat:Int)≠((p.dHeight+1).toNat:Int)then 4 else if c.dPrev≠nm then 4
  else if missB X p.dHeads=true then 6 else if missB X c.dHeads=true then 6
  else if(beneath X c.dHeads).length≤(beneath X p.dHeads).length then 4 else if apartB X c.dHeads=false then 4
  else if(p.dHeads.all fun h=>rB X (-1) c.dHeads h)=false then 4 else 0
theorem cut_extends(x:DD)(hx:x.ok)(hI:x.pl.Inv)(p:Nat)(s:Sl)(rs:List Cut)(ds:List DCut)(C:Cut)(D:DCut):Mv 38 [ptr p 0,s.v,agg C.cells] (fun W=>Lies (x.blks p) W∧CutsIn W s rs ds∧CutIs W C D) (i64 (x.pl.ext (lastD ds) (lastN ds) (lastE ds) D)):=by
 intro W hW;have h32k:True:=trivial;have hck:∀q∈x.P,q.2.check=0:=hI.ck;have h16:∀q∈x.P,q.2.ls.length≤16:=fun q hq=>(ck_small (hck q hq)).1;have hC:=hW.2.2;have hL:=cuts_last hW.2.1;have hln:=lastN_length ds;have hlC:=hC.fHeads.len;have hlL:=hL.fHeads.len;have eC:=hC.fHeight;have eL:=hL.fHeight;have eP:=hC.fPrev;refine Ac func38 J 91 ntmps38 J (G3 ?_);intro n5 hn5 hf5;refine G7 ?_;refine .cV J J J J Body86 (cut_none x hx h16 p) (fun w h=>lies_keep hW.1 h) (G2 ?_);refine .cond_f J J (G5 ?_);refine .cV J J J J Body87 (cut_last s rs ds) (fun w h=>hW.2.1.ext h J fun r d hd=>hd.ext h J) (G4 ?_);refine .alloc (cs:=Cut.zero.cells) J Cut.zr J ?_;intro n7 hn7 hf7;refine .alloc (cs:=(Aa (List.replicate 32 0))) J Ck J ?_;intro n8 hn8 hf8;refine .sA J J J J (Cut.isCell (by exact hL.ok)) Sz57 (Cut.length (by exact hL.ok)) Z1 (Cut.length (by exact Cut.zero_ok)) zV ?_;refine .sA J J J J zE Sz34 (by(simp[lastN_length];done)) Z0 sP zU ?_;refine G7 ?_;refine two (fun r hr k=>Tr.nei J J J J hr k) (fun hs4_10=>?_) (fun hs4_10=>?_)
 ·
  have hs4_1:=nd_t hs4_10;refine G7 ?_;refine .cond_t J J (G5 ?_);refine G3 ?_;refine⟨_,[],Ae J J,sP,sP,?_,rfl⟩;refine congrArg i64 (Eq.symm ?_);unfold PD.ext;rw[if_pos hs4_1]
 have hs4_1:=nd_f hs4_10;refine G1 ?_;refine .lA J J J Y57.h J Sz57 Z2 (Cut.length (by exact hC.ok)) ?_;refine .cV J J J J Body57 (cut_check C D) (fun w h=>hC.ext h J) (G4 ?_);refine .condNP J (fun hc1=>?_) (fun hc1=>?_)
 ·
  refine G5 ?_;refine G3 ?_;refine⟨_,[],Ae J J,sP,sP,?_,rfl⟩;refine congrArg i64 (Eq.symm ?_);unfold PD.ext;rw[if_neg (not_not_intro hs4_1),if_pos hc1]
 refine G6 ?_;refine .load1 J J J Y45.h J Z2 (by exact Cut.get_fHeight (by exact hC.ok)) ?_;refine G1 ?_;refine .load1 J J J Y45.h J Z1 (by exact Cut.get_fHeight (by exact hL.ok)) ?_;refine .add_u64 J J J (show Ag _ _=some (u64 1)from rfl) (two (fun r hr k=>Tr.nei J J J J hr k) (fun hs6_50=>?_) (fun hs6_50=>?_))
 ·
  have hs6_5:=nd_t hs6_50;refine G8 ?_;refine .cond_t J J (G5 ?_);refine G3 ?_;refine⟨_,[],Ae J J,sP,sP,?_,rfl⟩;refine congrArg i64 (Eq.symm ?_);unfold PD.ext;rw[if_neg (not_not_intro hs4_1),if_neg (not_not_intro hc1),if_pos (by rw[←eC,←eL];exact hs6_5)]
 have hs6_5:=nd_f hs6_50;refine G2 ?_;refine .lN (Aa _) J J J Y34.h J Sz34 Z2 (Cut.row_fPrev (by exact hC.ok)) (Cut.rl_fPrev (by exact hC.ok)) ?_;refine .lA J J J Y34.h J Sz34 Z0 (by(simp[lastN_length];done)) ?_;refine .neq_bytes J J J J eqGuardType34 Y34.h Y5.h Sz5 (by(simp[hC.ok.l_fPrev];done)) (by(simp[lastN_length];done)) J ?_;refine G3 ?_;refine .condNP J (fun hc2=>?_) (fun hc2=>?_)
 ·
  refine G5 ?_;refine G3 ?_;refine⟨_,[],Ae J J,sP,sP,?_,rfl⟩;refine congrArg i64 (Eq.symm ?_);unfold PD.ext;rw[if_neg (not_not_intro hs4_1),if_neg (not_not_intro hc1),if_neg (not_not_intro (by rw[←eC,←eL];exact hs6_5)),if_pos (by rw[←eP];exact hc2)]
 refine G6 ?_;refine .load1 J J J Y30.h J Z1 (by exact Cut.get_fHeads (by exact hL.ok)) ?_;refine .call4 J J J J J Body88 (dag_closure x hx h16 p (lastC rs).fHeads (lastD ds).dHeads (by have:=last_small hs4_1;omega)) (fun w h=>⟨lies_keep hW.1 h,rows_ext h J hL.fHeads⟩) ?_;rintro v47 out47 (⟨hm0,rfl,rfl⟩|⟨ha0,s47,k0,rfl,hac47,hso0,hnd0,hks0⟩)
 ·
  skip;refine G14 ?_;refine .cond_t J J (G6 ?_);refine G3 ?_;refine⟨_,[],Ae J J,sP,sP,?_,rfl⟩;show i64 6=_;refine congrArg i64 (Eq.symm ?_);unfold PD.ext;rw[if_neg (not_not_intro hs4_1),if_neg (not_not_intro hc1),if_neg (not_not_intro (by rw[←eC,←eL];exact hs6_5)),if_neg (not_not_intro (by rw[←eP];exact hc2)),if_pos (miss_yes hm0)]
 skip;refine G14 ?_;refine .cond_f J J (G6 ?_);refine .load1 J J J Y30.h J mR (by exact Cut.get_fHeads (by exact hC.ok)) ?_;refine .call4 J J J J J Body88 (dag_closure x hx h16 p C.fHeads D.dHeads (by have:=D.small hc1;omega)) (fun w h=>⟨lies_keep hW.1 h,rows_ext h J hC.fHeads⟩) ?_;rintro v57 out57 (⟨hm1,rfl,rfl⟩|⟨ha1,s57,k1,rfl,hac57,hso1,hnd1,hks1⟩)
 ·
  skip;refine G14 ?_;refine .cond_t J J (G6 ?_);refine G3 ?_;refine⟨_,[],Ae J J,sP,sP,?_,rfl⟩;show i64 6=_;refine congrArg i64 (Eq.symm ?_);unfold PD.ext;rw[if_neg (not_not_intro hs4_1),if_neg (not_not_intro hc1),if_neg (not_not_intro (by rw[←eC,←eL];exact hs6_5)),if_neg (not_not_intro (by rw[←eP];exact hc2)),if_neg (by rw[miss_no ha0];decide),if_pos (miss_yes hm1)]
 have hk132:∀l∈k1,l.length=32:=fun l hl=>P32 hx (reach_P ((hks1 l).1 hl));have hk1b:k1.length≤400000:=by have h9:=reach_len hI hnd1 hks1;have h8:x.pl.names.length=x.names.length:=rfl;have h7:=hx.big;omega
 have hcl0:=clos_len hI hnd0 hks0;have hcl1:=clos_len hI hnd1 hks1;have hn47:=hac47.num;have hn57:=hac57.num;have hsm:=D.small hc1;have hsL:=last_small hs4_1;refine G14 ?_;refine .cond_f J J (G9 ?_);refine two (fun r hr k=>Tr.leq J J J J hr k) (fun hs14_40=>?_) (fun hs14_40=>?_)
 ·
  have hs14_4:=of_decide_eq_true hs14_40;refine G9 ?_;refine .cond_t J J (G5 ?_);refine G3 ?_;refine⟨_,[],Ae J J,sP,sP,?_,rfl⟩;refine congrArg i64 (Eq.symm ?_);unfold PD.ext;rw[if_neg (not_not_intro hs4_1),if_neg (not_not_intro hc1),if_neg (not_not_intro (by rw[←eC,←eL];exact hs6_5)),if_neg (not_not_intro (by rw[←eP];exact hc2)),if_neg (by rw[miss_no ha0];decide),if_neg (by rw[miss_no ha1];decide),if_pos oM]
 have hs14_4:=of_decide_eq_false hs14_40;refine G3 ?_;refine .load1 J J J Y30.h J mR (by exact Cut.get_fHeads (by exact hC.ok)) ?_;refine .cV J J J J Body93 (cut_apart x hx hI p C.fHeads D.dHeads oM (fun n hn=>Option.isSome_iff_exists.1 (ha1 n hn))) (fun w h=>⟨lies_keep hW.1 h,rows_ext h J hC.fHeads⟩) (G4 ?_);refine .cond J (fun hc5=>?_) (fun hc5=>?_)
 ·
  refine G5 ?_;refine G3 ?_;refine⟨_,[],Ae J J,sP,sP,?_,rfl⟩;refine congrArg i64 (Eq.symm ?_);unfold PD.ext;rw[if_neg (not_not_intro hs4_1),if_neg (not_not_intro hc1),if_neg (not_not_intro (by rw[←eC,←eL];exact hs6_5)),if_neg (not_not_intro (by rw[←eP];exact hc2)),if_neg (by rw[miss_no ha0];decide),if_neg (by rw[miss_no ha1];decide),if_neg oM,if_pos (by simpa using hc5)]
 refine G6 ?_;refine .load1 J J J Y30.h J mR (by exact Cut.get_fHeads (by exact hL.ok)) ?_;refine G5 ?_;refine .loop (ι:=Nat) (fun k=>⟨[(11,s57.v),(76,(lastC rs).fHeads.v),(77,i64 ((lastC rs).fHeads.n:Int)),(78,i64 (k:Int))],(out57++[])⟩) (fun k=>k≤(lastC rs).fHeads.n∧∀j,j<k→(lastD ds).dHeads.getD j []∈k1) (fun k=>(lastC rs).fHeads.n-k) (0) ?_ ?_ ?_
 ·exact⟨Laj _,fun j hj=>absurd hj (Lfn _)⟩
 ·exact An wN (Af sG Ai)
 rintro k ⟨hk,hg⟩;refine G6 ?_;refine .condP J (fun hc6=>?_) (fun hc6=>?_)
 ·
  have hk2:k<(lastC rs).fHeads.n:=by omega
  obtain⟨b,o,hbp,hbs⟩:=hL.fHeads.see.at (by rw[Ax hL.fHeads.row];omega);have h32k:((lastD ds).dHeads.getD k []).length=32:=Bf hL.fHeads.row oM;refine G6 ?_;refine .idxSlP 32 J J J hbp J Y30.h Sz34 k J oM (.loadEN (Aa ((lastD ds).dHeads.getD k [])) J J J Y34.h J Sz34 sP (by rw[Aa,La1];exact h32k) (Bu hL.fHeads.row hbs oM) ?_);refine .alloc (cs:=(Aa (List.replicate 32 0))) J Ck J ?_;intro n13 hn13 hf13;refine .sA J J J J zE Sz34 (by(rw[Aa,La1];assumption)) Z0 sP zU ?_;refine G5 ?_;refine .lA J J J Y34.h J Sz34 Z0 (by(rw[Aa,La1];assumption)) ?_;refine .call4 J J J J J Body94 (bsearch s57 k1 ((lastD ds).dHeads.getD k []) h32k hso1 hnd1 hk1b) (fun w h=>acc_rows hac57 (Lies.of h (by repeat(first|exact A4|refine Bl ?_))) hk132 J oM) ?_;rintro v85 out85 ⟨⟨i85,rfl⟩,rfl⟩;refine G13 ?_;refine .condNP J (fun hc7=>?_) (fun hc7=>?_)
  ·
   refine G5 ?_;refine G7 ?_;refine⟨_,[],Ae J J,sP,sP,?_,rfl⟩;refine congrArg i64 (Eq.symm ?_);unfold PD.ext;rw[if_neg (not_not_intro hs4_1),if_neg (not_not_intro hc1),if_neg (not_not_intro (by rw[←eC,←eL];exact hs6_5)),if_neg (not_not_intro (by rw[←eP];exact hc2)),if_neg (by rw[miss_no ha0];decide),if_neg (by rw[miss_no ha1];decide),if_neg oM,if_neg (by simpa using hc5),if_pos (all_not hks1 oM hc7)]
  refine G8 ?_;exact⟨k+1,⟨by omega,fun j hj=>by rcases Lcb.1 hj with h|rfl;exact hg j h;simpa using hc7⟩,by omega,An wN (Af sG Ai)⟩
 obtain rfl:k=(lastC rs).fHeads.n:=by omega
 refine G10 ?_;refine G2 ?_;refine⟨_,[],Ae J J,sP,sP,?_,rfl⟩;refine congrArg i64 (Eq.symm ?_);unfold PD.ext;rw[if_neg (not_not_intro hs4_1),if_neg (not_not_intro hc1),if_neg (not_not_intro (by rw[←eC,←eL];exact hs6_5)),if_neg (not_not_intro (by rw[←eP];exact hc2)),if_neg (by rw[miss_no ha0];decide),if_neg (by rw[miss_no ha1];decide),if_neg oM,if_neg (by simpa using hc5),if_neg (by rw[all_yes hks1 (fun j hj=>hg j oM)];decide)]
def RowsW(L:List (List UInt8))(v:Value)(out:List Blk):Prop:=∃s:Sl,v=s.v∧s.n=L.length∧∀W2,Lies out W2→RowsAt W2 s 32 L
theorem RowsW.loose(L:List (List UInt8)):Loose (RowsW L):=fun l hl=>by
  obtain⟨n,_,hn⟩:=fresh_is 0 l;refine⟨_,[⟨n,[undef],0,0⟩],⟨⟨none,L.length,0⟩,rfl,rfl,fun W2 h=>(lie_none h).elim⟩,?_⟩;rw[Lad,Lay];refine⟨by simp,hl,fun i hi j hj=>?_⟩;obtain⟨b,hb,rfl⟩:=La7.1 hj;simp only[Lao,Ldh,La0]at hi;subst hi;exact Ne.symm (hn b hb)
theorem heads_mem(X:PD)(n:List UInt8):n∈X.heads↔n∈X.hds.map (·.1):=(isort_perm _).mem_iff
theorem heads_P(hI:X.Inv)(h:n∈X.heads):∃D,Av X.P n=some D:=((hI.hd n).1 ((heads_mem X n).1 h)).1
theorem heads_sort(X:PD):SortB X.heads:=isort_sort _
theorem seesP_left{p:Option Addr}{a b:List Value}(h:SeesP W p (a++b)):SeesP W p a:=fun j v hj=>h j v (by rw[Lau (Laf.1 hj).1];exact hj)
theorem rows_take(h:SeesP W s.p (A3 ls))(hr:∀l∈ls,l.length=32):SeesP W s.p (A3 (ls.take m)):=by
  have e:A3 ls=A3 (ls.take m)++A3 (ls.drop m):=by rw[←flatB_append,Lcj]
  rw[e]at h;exact seesP_left h
theorem reach_nil{a:Int}(h:X.Reach a [] n):False:=by
  induction h with
  |base h1 _ _=>cases h1
  |step _ _ _ _ _ ih=>exact ih
def PD.nxt0(X:PD):DCut×Int:=if X.heads.length=0 then(DCut.zero,6)else(⟨1,List.replicate 32 0,X.heads.take 32⟩,0)
def CutV(D:DCut)(e:Int)(v:Value)(out:List Blk):Prop:=∃C:Cut,C.ok∧v= .tuple #[agg C.cells,i64 e]∧∀W2,Lies out W2→CutIs W2 C D
theorem cut_last0:Mv 87 [.slice none 0 0] (fun _=>True) (.tuple #[agg Cut.zero.cells,agg (Aa (List.replicate 32 0)),i64 0]):=
  (cut_last Sl.nil [] []).imp (fun w h=>SeqIs.none) fun v out h=>h
theorem cut_choose0(x:DD)(hx:x.ok)(hh32:∀l∈x.pl.heads,l.length=32)(p:Nat):Meets prog 89 [ptr p 0, .slice none 0 0] [] (fun W=>Lies (x.blks p) W) (RowsW (x.pl.heads.take 32)):=by
 intro W hW;have hhl:x.pl.heads.length≤x.names.length:=by rw[heads_len];exact hx.hdsn
 have hbig:=hx.big;refine Ac func89 J 54 ntmps89 J (G2 ?_);refine .box1 J J J ?_;intro n2 hn2 hf2;refine G5 ?_;refine .load1 J J J underlying26 J Z0 J ?_;refine .call4 J J J J J Body147 (dag_heads x hx p) (fun w h=>lies_keep hW h) ?_;rintro v12 out12 ⟨s12,rfl,hac12⟩;have hn12:=hac12.num;obtain⟨m,hm⟩:∃m,m=min 32 x.pl.heads.length:=⟨_,rfl⟩;have htl:(x.pl.heads.take 32).length=m:=by rw[Lag,hm]
 have ht32:∀l∈x.pl.heads.take 32,l.length=32:=fun l hl=>hh32 l (Lcz hl);refine G17 ?_;refine .rounds 1 (SRounds.more (G2 ?_));refine .lss J J J J (decide_eq_false dE) (G3 ?_);refine .cond_f J J (G14 ?_);refine .min2 J J J J (show Value.int .i64 (if((32:Int)-((0:Nat):Int))<(s12.n:Int)then(32:Int)-((0:Nat):Int)else(s12.n:Int))=i64 (m:Int)from congrArg (Value.int .i64) (by split<;>omega)) ?_;refine .sliceHiA s12 m J J J J J (by have:=hac12.cap;omega) Y30.h Sz34 ?_;refine .appendAcc (n:=0) (z:=agg (Aa (List.replicate 32 0))) (by':=32) (A3 (x.pl.heads.take 32)) J J J J J Y30.h Y30.h Sz34 Ck (by unfold By;kernel_rfl) J (Acc.none (E:=34)) Ai (fun w h=>rows_take (hac12.see (Lies.of h (by repeat(exact A4)))) hh32) (fun e=>by have h9:=hac12.nil e;show m=0;omega) (flatB_cell _) (by show 0+m≤1000000;omega) (by show(0+m)*32≤140737488355328;omega) (by rw[Ax ht32,htl]) ?_;intro s50 bl50 hac50;rw[Lak,Las,←htl]at hac50;refine G6 ?_;refine .callL (L:=bl50) J J J J J Body140 (sort_acc s50 bl50 (x.pl.heads.take 32) ht32 oM hac50) sG (Cf J) (fun w h=>Lies.of h (by repeat(exact A4))) ?_;rintro v52 out52 ⟨rfl,ks,hkp,hks,hac52⟩;obtain rfl:ks=x.pl.heads.take 32:=sort_unique hkp hks ((heads_sort _).sublist (List.take_sublist _ _));refine G8 ?_;refine G2 ?_;refine Aw (out:=(out52++[])) (Ae J J) (Af sG Ai) ?_;exact⟨s50,rfl,hac52.num,fun W2 hl=>acc_rows hac52 (by simpa using hl) ht32 rfl oM⟩
theorem nxt_none(hI:X.Inv)(hks:∀n,n∈k1↔X.Reach (-1) (X.heads.take 32) n)(h:k1.length=0):X.heads.length=0:=by
  obtain rfl:=Laa h;cases hh:X.heads with
  |nil=>rfl
  | cons a l=>
    exfalso;obtain⟨D,hD⟩:=heads_P hI (n:=a) (by rw[hh];exact La9);have:=(hks a).2 (.base (by rw[hh];exact La9) hD (by have:=hI.d0 a D hD;omega));cases this
theorem nxt_some(hks:∀n,n∈k1↔X.Reach (-1) (X.heads.take 32) n)(h:X.heads.length=0):k1.length=0:=by
  obtain e:=Laa h;rw[e]at hks;cases k1 with
  |nil=>rfl
  |cons a l=>exact(reach_nil ((hks a).1 La9)).elim
theorem cut_next0(x:DD)(hx:x.ok)(hI:x.pl.Inv)(p:Nat):Meets prog 32 [ptr p 0, .slice none 0 0] [] (fun W=>Lies (x.blks p) W) (CutV x.pl.nxt0.1 x.pl.nxt0.2):=by
 intro W hW;have hck:∀q∈x.P,q.2.check=0:=hI.ck;have h16:∀q∈x.P,q.2.ls.length≤16:=fun q hq=>(ck_small (hck q hq)).1;have hh32:∀l∈x.pl.heads,l.length=32:=fun l hl=>P32 hx (heads_P hI hl);have hml:(x.pl.heads.take 32).length≤32:=by rw[Lag];exact Nat.min_le_left _ _
 refine Ac func32 J 67 ntmps32 J (G2 ?_);refine .alloc (cs:=Cut.zero.cells) J Cut.zr J ?_;intro n4 hn4 hf4;refine G7 ?_;refine .cV J J J J Body86 (cut_none x hx h16 p) (fun w h=>lies_keep hW h) (G2 ?_);refine .cond_f J J (G5 ?_);refine .cV J J J J Body87 (cut_last0) tV (G4 ?_);refine .alloc (cs:=Cut.zero.cells) J Cut.zr J ?_;intro n6 hn6 hf6;refine .alloc (cs:=(Aa (List.replicate 32 0))) J Ck J ?_;intro n7 hn7 hf7;refine G1 ?_;refine .sA J J J J zE Sz34 sP Z0 sP zU ?_;refine G7 ?_;refine .nei J J J J (show(!decide _)=false from congrArg not (decide_eq_true (rfl))) (G3 ?_);refine .eqi J J J J (decide_eq_false dE) (G3 ?_);refine .cond_f J J (G7 ?_);refine .call4 J J J J J Body88 (dag_closure x hx h16 p Sl.nil [] (Laj _)) (fun w h=>⟨lies_keep hW h,nil_rows w⟩) ?_;rintro v33 out33 (⟨⟨n,hn,_⟩,_⟩|⟨_,s33,k0,rfl,hac33,hso0,hnd0,hks0⟩)
 ·cases hn
 obtain rfl:k0=[]:=List.eq_nil_iff_forall_not_mem.2 fun n hn=>reach_nil ((hks0 n).1 hn);have hn33:s33.n=0:=hac33.num;refine G11 ?_;refine .nei J J J J (show(!decide _)=false from congrArg not (decide_eq_true (rfl))) (G2 ?_);refine .cond_f J J (G3 ?_);refine .draw (oP [0,101,2,103,4,5,106,307,8,209,410]) Ao zK (G2 ?_);refine .add_u64 J J J (show Ag _ _=some (u64 1)from rfl) (.lA J J J Y34.h J Sz34 mR sP ?_);refine G3 ?_;refine .call J J J J Body89 (cut_choose0 x hx hh32 p) (RowsW.loose _) (fun w h=>lies_keep hW h) ?_;rintro v47 out47 ⟨s47,rfl,hn47,hrw⟩;have ok47:({ Cut.zero with fHeight:=Cut.zero.fHeight+1,fHeads:=s47 }:Cut).ok:=⟨rfl⟩;refine .build (cs:=({ Cut.zero with fHeight:=Cut.zero.fHeight+1,fHeads:=s47 }:Cut).cells) J J J (fun w=>by kernel_rfl) ?_;refine .alloc (cs:=Cut.zero.cells) J Cut.zr J ?_;intro n10 hn10 hf10;refine .sA J J J J (Cut.isCell (by exact ok47)) Sz57 (Cut.length (by exact ok47)) Z0 (Cut.length (by exact Cut.zero_ok)) zU ?_;refine G6 ?_;refine .load1 J J J Y30.h J Z0 (by exact Cut.get_fHeads (by exact ok47)) ?_;refine .call4 J J J J J Body88 (dag_closure x hx h16 p s47 (x.pl.heads.take 32) oM) (fun w h=>⟨lies_keep hW h,hrw w (Lies.of h (by repeat(first|exact A4|refine Bl ?_)))⟩) ?_;rintro v53 out53 (⟨⟨n,hn,h0⟩,_⟩|⟨_,s53,k1,rfl,hac53,hso1,hnd1,hks1⟩)
 ·exfalso;obtain⟨D,hD⟩:=heads_P hI (Lcz hn);rw[h0]at hD;cases hD
 have hn53:=hac53.num;refine G11 ?_;refine .nei J J J J (show(!decide _)=false from congrArg not (decide_eq_true (rfl))) (G9 ?_);refine .condP J (fun hc3=>?_) (fun hc3=>?_)
 ·
  refine G2 ?_;refine .build (cs:=Cut.zero.cells) J J J (fun w=>by kernel_rfl) ?_;refine G4 ?_;refine G3 ?_;refine Aw (out:=[]) (Bd J J J Y57.h J Sz57 mR (by exact Cut.length (by exact Cut.zero_ok))) Ai ?_;have h0:x.pl.heads.length=0:=nxt_none hI hks1 oM;rw[PD.nxt0,if_pos h0];exact⟨Cut.zero,Cut.zero_ok,rfl,fun W2 _=>cutz_is W2⟩
 refine G4 ?_;refine .lA J J J Y57.h J Sz57 mR (Cut.length (by exact ok47)) ?_;refine .sA J J J J (Cut.isCell (by exact ok47)) Sz57 (Cut.length (by exact ok47)) mR (Cut.length (by exact Cut.zero_ok)) uU ?_;refine G3 ?_;refine G2 ?_;refine Aw (out:=(out47++[])) (Bd J J J Y57.h J Sz57 mR (by exact Cut.length (by exact ok47))) (Af sG Ai) ?_;have h0:¬x.pl.heads.length=0:=fun e=>hc3 (by have h9:=nxt_some hks1 e;omega);rw[PD.nxt0,if_neg h0];exact⟨({ Cut.zero with fHeight:=Cut.zero.fHeight+1,fHeads:=s47 }:Cut),ok47,rfl,fun W2 hl=>⟨ok47,rfl,rfl,hrw W2 (by simpa using hl)⟩⟩
end Go.Proofs.YtpogmfngccolbaaGreat
namespace Go.Proofs.YtpogmfngccolbaaGreat
open Go Hw Ed
variable{j n:Nat}{k st w:List UInt64}{p:List UInt8}{α:Type}{l:List α}
theorem cons_of8(h:l.length=n+1):∃a t,l=a::t∧t.length=n:=by
  cases l with
  |nil=>cases h
  |cons a t=>exact⟨a,t,rfl,by simpa using h⟩
def forceA{α:Type}(s:Nat)(f:Nat→α):α:=Nat.casesOn (motive:=fun _=>α) s (f 0) (fun m=>f (m+1))
theorem forceA_eq(s:Nat)(f:Nat→α):forceA s f=f s:=by cases s<;>rfl
def aN(a b:Nat):Nat:=Nat.mod (Nat.add a b) 18446744073709551616
def shN(x s:Nat):Nat:=Nat.mod (Nat.mul x (Nat.pow 2 s)) 18446744073709551616
def rolN(x s:Nat):Nat:=Nat.lor (shN x s) (Nat.div x (Nat.pow 2 (Nat.sub 64 s)))
def o8N(x:Nat)(b:UInt8):Nat:=Nat.lor (shN x 8) b.toNat
def sg0N(x:Nat):Nat:=Nat.xor (Nat.xor (rolN x 63) (rolN x 56)) (Nat.div x (Nat.pow 2 7))
def sg1N(x:Nat):Nat:=Nat.xor (Nat.xor (rolN x 45) (rolN x 3)) (Nat.div x (Nat.pow 2 6))
def t1N(e f g h k w:Nat):Nat:=aN (aN (aN (aN h (Nat.xor (Nat.xor (rolN e 50) (rolN e 46)) (rolN e 23))) (Nat.xor (Nat.land e f) (Nat.land (Nat.xor 18446744073709551615 e) g))) k) w
def t2N(a b c:Nat):Nat:=aN (Nat.xor (Nat.xor (rolN a 36) (rolN a 30)) (rolN a 25)) (Nat.xor (Nat.xor (Nat.land a b) (Nat.land a c)) (Nat.land b c))
def wgo:List UInt8→List Nat→List Nat
  |a::b::c::d::e::f::g::h::t,r=>forceA (o8N (o8N (o8N (o8N (o8N (o8N (o8N (o8N 0 a) b) c) d) e) f) g) h) fun v=>wgo t (v::r)
  |_,r=>r
def nxN(r:List Nat):Nat:=aN (aN (aN (r.getD 15 0) (sg0N (r.getD 14 0))) (r.getD 6 0)) (sg1N (r.getD 1 0))
def sgo:Nat→List Nat→List Nat
  |0,r=>r
  |n+1,r=>forceA (nxN r) fun v=>sgo n (v::r)
def rgo:List Nat→List Nat→Nat→Nat→Nat→Nat→Nat→Nat→Nat→Nat→List Nat
  |k::ks,w::ws,a,b,c,d,e,f,g,h=>forceA (t1N e f g h k w) fun t=>forceA (aN t (t2N a b c)) fun a2=>forceA (aN d t) fun e2=>rgo ks ws a2 a b c e2 e f g
  |_,_,a,b,c,d,e,f,g,h=>[a,b,c,d,e,f,g,h]
def adN:List Nat→List Nat→List Nat
  |x::xs,y::ys=>forceA (aN x y) fun z=>z::adN xs ys
  |_,_=>[]
def rgoL(ks ws:List Nat):List Nat→List Nat
  | [a,b,c,d,e,f,g,h]=>rgo ks ws a b c d e f g h
  |_=>[]
def pieceN(ks st:List Nat)(p:List UInt8):List Nat:=adN st (rgoL ks (sgo 64 (wgo p [])).reverse st)
def runN(ks st:List Nat)(bs:List UInt8):Nat→List Nat
  |0=>st
  |i+1=>pieceN ks (runN ks st bs i) ((bs.drop (128*i)).take 128)
def padT(n:Nat):List UInt8:=128::(List.replicate (padZ n) 0++(beUp 0 8++beUp (UInt64.ofNat (8*n)) 8))
def allN(ks st:List Nat)(l:List UInt8):List Nat:=forceA l.length fun n=>runN ks st (l++padT n) ((n+17+padZ n)/128)
theorem padT_eq(l:List UInt8):padB l=l++padT l.length:=by simp[padB,padT]
theorem sh_hom(x:UInt64)(s:Nat):(A1 x s).toNat=shN x.toNat s:=by rw[A1,Laz];rfl
theorem sr_hom(x:UInt64)(s:Nat):(Ar x s).toNat=Nat.div x.toNat (Nat.pow 2 s):=by
  have h:x.toNat/2^s<18446744073709551616:=Le4 (Lco _ _) x.toNat_lt;rw[Ar,Laz];exact Lab h
theorem add_hom(x y:UInt64):(x+y).toNat=aN x.toNat y.toNat:=Lbb x y
theorem or_hom(x y:UInt64):(x|||y).toNat=Nat.lor x.toNat y.toNat:=Ldd x y
theorem xor_hom(x y:UInt64):(x^^^y).toNat=Nat.xor x.toNat y.toNat:=UInt64.toNat_xor x y
theorem and_hom(x y:UInt64):(x&&&y).toNat=Nat.land x.toNat y.toNat:=Lff x y
theorem rol_hom(x:UInt64)(s:Nat):(rolW x s).toNat=rolN x.toNat s:=by rw[rolW,or_hom,sh_hom,sr_hom];rfl
theorem sg0_hom(x:UInt64):(sig0 x).toNat=sg0N x.toNat:=by simp only[sig0,xor_hom,rol_hom,sr_hom];rfl
theorem sg1_hom(x:UInt64):(sig1 x).toNat=sg1N x.toNat:=by simp only[sig1,xor_hom,rol_hom,sr_hom];rfl
theorem t1_hom(s:W8)(k w:UInt64):(rndT1 s k w).toNat=t1N s.e.toNat s.f.toNat s.g.toNat s.h.toNat k.toNat w.toNat:=by
  simp only[rndT1,add_hom,xor_hom,and_hom,rol_hom];rfl
theorem t2_hom(s:W8):(rndT2 s).toNat=t2N s.a.toNat s.b.toNat s.c.toNat:=by
  simp only[rndT2,add_hom,xor_hom,and_hom,rol_hom];rfl
theorem o8_hom(x:UInt64)(b:UInt8):(A1 x 8|||b.toUInt64).toNat=o8N x.toNat b:=by
  rw[or_hom,sh_hom,Ldp];rfl
def wU:List UInt8→List UInt64
  |a::b::c::d::e::f::g::h::t=>(A1 (A1 (A1 (A1 (A1 (A1 (A1 (A1 0 8|||a.toUInt64) 8|||b.toUInt64) 8|||c.toUInt64) 8|||d.toUInt64) 8|||e.toUInt64) 8|||f.toUInt64) 8|||g.toUInt64) 8|||h.toUInt64)::wU t
  |_=>[]
theorem wgo_eq:∀(n:Nat) (p:List UInt8) (r:List Nat),p.length=8*n→wgo p r=((wU p).map UInt64.toNat).reverse++r
  | 0,p,r,h=>by
    obtain rfl:=Laa h;rfl
  | n+1,p,r,h=>by
    have h:p.length=8*n+7+1:=h
    iterate 8 (obtain⟨a,l,e,h2⟩:=cons_of8 h;clear h;subst e;have h:=h2;clear h2)
    rw[wgo,forceA_eq,wgo_eq n _ _ h,wU,Lao,List.reverse_cons,La8];simp only[o8_hom];rfl
theorem schA_words(p:List UInt8)(h:p.length=128):schA p 128=wU p++List.replicate 64 0:=by
  iterate 128 (obtain⟨a,l,e,h2⟩:=cons_of8 h;clear h;subst e;have h:=h2;clear h2)
  obtain rfl:=Laa h;clear h;refine Eq.trans ?_ rfl;kernel_rfl
theorem wU_length:∀(n:Nat) (p:List UInt8),p.length=8*n→(wU p).length=n
  | 0,p,h=>by
    obtain rfl:=Laa h;rfl
  | n+1,p,h=>by
    have h:p.length=8*n+7+1:=h
    iterate 8 (obtain⟨a,l,e,h2⟩:=cons_of8 h;clear h;subst e;have h:=h2;clear h2)
    rw[wU,Lb2,wU_length n _ h]
def SJ(w:List UInt64)(j:Nat):List Nat:=(((schB w j).take (16+j)).map UInt64.toNat).reverse
theorem take_set(h:n<l.length)(v:α):(l.set n v).take (n+1)=l.take n++[v]:=by
  have hl:(l.take n).length=n:=by rw[Lag];omega
  rw[Lfr,if_pos h,Lbh,hl,La5 oM,show n+1-n=1 by omega];rfl
theorem SJ_get(hw:w.length=80){j i:Nat}(hj:j≤64)(hi:i<16+j):(SJ w j).getD i 0=((schB w j).getD (15+j-i) 0).toNat:=by
  have hl:((schB w j).take (16+j)).length=16+j:=by rw[Lag,schB_length,hw];omega
  have h1:15+j-i<(schB w j).length:=by rw[schB_length,hw];omega
  rw[SJ,La2,List.getElem?_reverse (by rw[La1,hl];exact hi),La1,hl,Lan,Lfk oM,show 16+j-1-i=15+j-i by omega,La2,La3 h1];rfl
theorem SJ_succ(hw:w.length=80)(hj:j<64):SJ w (j+1)=nxN (SJ w j)::SJ w j:=by
  have h1:SJ w (j+1)=((schB w j).getD j 0+sig0 ((schB w j).getD (j+1) 0)+(schB w j).getD (j+9) 0+sig1 ((schB w j).getD (j+14) 0)).toNat::SJ w j:=by
    rw[SJ,schB,show 16+(j+1)=(16+j)+1 by omega,take_set (by rw[schB_length,hw];omega),Lad,List.reverse_append];rfl
  rw[h1,nxN,SJ_get hw oM oM,SJ_get hw oM oM,SJ_get hw oM oM,SJ_get hw oM oM,show 15+j-15=j by omega,show 15+j-14=j+1 by omega,show 15+j-6=j+9 by omega,show 15+j-1=j+14 by omega];simp only[add_hom,sg0_hom,sg1_hom]
theorem sgo_run{w:List UInt64}(hw:w.length=80):∀n j,j+n≤64→sgo n (SJ w j)=SJ w (j+n)
  |0,j,_=>rfl
  | n+1,j,h=>by
    rw[sgo,forceA_eq,←SJ_succ hw oM,sgo_run hw n (j+1) oM,show j+1+n=j+(n+1) by omega]
theorem sch_N(h:p.length=128):(sgo 64 (wgo p [])).reverse=(schW p).map UInt64.toNat:=by
  have hw:(schA p 128).length=80:=schA_length p 128;have e:wgo p []=SJ (schA p 128) 0:=by
    rw[wgo_eq 16 p [] h,SJ,Lat,schB,schA_words p h,Ld1 (by rw[wU_length 16 p h];omega),La5 (by rw[wU_length 16 p h];omega)]
  rw[e,sgo_run hw 64 0 oM,SJ,List.reverse_reverse,schW,La5 (by rw[schB_length,hw];omega)]
def rndF(ks ws:List UInt64)(s:W8):W8:=(ks.zip ws).foldl (fun s p=>rnd1 s p.1 p.2) s
theorem rnds_F{k w:List UInt64}(s:W8)(hk:k.length=80)(hw:w.length=80):∀t,t≤80→rnds k w s t=rndF (k.take t) (w.take t) s
  |0,_=>by simp[rnds,rndF]
  | t +1,h=>by
    have e:rndF (k.take (t+1)) (w.take (t+1)) s=rnd1 (rndF (k.take t) (w.take t) s) (k[t]'oM) (w[t]'oM):=by
      rw[Lar oM,Lar oM,rndF,List.zip_append (by rw[Lag,Lag,hk,hw]),Lee];rfl
    rw[rnds,rnds_F s hk hw t oM,e,La2,La2,La3 oM,La3 oM];rfl
theorem rgo_eq:∀(ks ws:List UInt64) (s:W8),rgo (ks.map UInt64.toNat) (ws.map UInt64.toNat) s.a.toNat s.b.toNat s.c.toNat s.d.toNat s.e.toNat s.f.toNat s.g.toNat s.h.toNat=(rndF ks ws s).l.map UInt64.toNat
  | [],ws,s=>by simp only[rndF,List.zip_nil_left,Lg3,Ldh,rgo,W8.l,Lao]
  |_::_,[],s=>by simp only[rndF,List.zip_nil_right,Lg3,Ldh,Lao,rgo,W8.l]
  | k::ks,w::ws,s=>by
    have e:rndF (k::ks) (w::ws) s=rndF ks ws (rnd1 s k w):=by simp only[rndF,List.zip_cons_cons,Lf1]
    rw[Lao,Lao,rgo,forceA_eq,forceA_eq,forceA_eq,e,←rgo_eq ks ws];simp only[rnd1,add_hom,t1_hom,t2_hom]
theorem add8{st xs:List UInt64}(h1:st.length=8)(h2:xs.length=8):(addUp st xs 8).map UInt64.toNat=adN (st.map UInt64.toNat) (xs.map UInt64.toNat):=by
  iterate 8 (obtain⟨a,l,e,h3⟩:=cons_of8 h1;clear h1;subst e;have h1:=h3;clear h3)
  obtain rfl:=Laa h1
  iterate 8 (obtain⟨a,l,e,h3⟩:=cons_of8 h2;clear h2;subst e;have h2:=h3;clear h3)
  obtain rfl:=Laa h2;simp only[Lao,Ldh,adN,forceA_eq,←add_hom];rfl
theorem piece_N(hk:k.length=80)(hs:st.length=8)(hp:p.length=128):(pieceW k st p).map UInt64.toNat=pieceN (k.map UInt64.toNat) (st.map UInt64.toNat) p:=by
  have hw:(schW p).length=80:=by rw[schW,schB_length,schA_length]
  have e:rgoL (k.map UInt64.toNat) ((schW p).map UInt64.toNat) (st.map UInt64.toNat)=(rnds k (schW p) (W8.of st) 80).l.map UInt64.toNat:=by
    rw[rnds_F _ hk hw 80 oM,La5 oM,La5 oM,←rgo_eq]
    iterate 8 (obtain⟨a,l,e,h3⟩:=cons_of8 hs;clear hs;subst e;have hs:=h3;clear h3)
    obtain rfl:=Laa hs;rfl
  rw[pieceW,add8 hs rfl,pieceN,sch_N hp,e]
theorem run_N{k st:List UInt64}{bs:List UInt8}(hk:k.length=80)(hs:st.length=8):∀i,128*i≤bs.length→(runW k st bs i).map UInt64.toNat=runN (k.map UInt64.toNat) (st.map UInt64.toNat) bs i
  |0,_=>rfl
  | i+1,h=>by
    rw[runW,runN,piece_N hk (by rw[runW_length];exact hs) (by rw[Lag,Lc3];omega),run_N hk hs i oM]
theorem all_N(l:List UInt8)(hk:k.length=80)(hs:st.length=8):(allW k st l).map UInt64.toNat=allN (k.map UInt64.toNat) (st.map UInt64.toNat) l:=by
  rw[allW,run_N hk hs _ (by have:=padB_mod l;omega),allN,forceA_eq,padT_eq,←padB_length,padT_eq]
def kN:List Nat:=[4794697086780616226,8158064640168781261,13096744586834688815,16840607885511220156,4131703408338449720,6480981068601479193,10538285296894168987,12329834152419229976,15566598209576043074,1334009975649890238,2608012711638119052,6128411473006802146,8268148722764581231,9286055187155687089,11230858885718282805,13951009754708518548,16472876342353939154,17275323862435702243,1135362057144423861,2597628984639134821,3308224258029322869,5365058923640841347,6679025012923562964,8573033837759648693,10970295158949994411,12119686244451234320,12683024718118986047,13788192230050041572,14330467153632333762,15395433587784984357,489312712824947311,1452737877330783856,2861767655752347644,3322285676063803686,5560940570517711597,5996557281743188959,7280758554555802590,8532644243296465576,9350256976987008742,10552545826968843579,11727347734174303076,12113106623233404929,14000437183269869457,14369950271660146224,15101387698204529176,15463397548674623760,17586052441742319658,1182934255886127544,1847814050463011016,2177327727835720531,2830643537854262169,3796741975233480872,4115178125766777443,5681478168544905931,6601373596472566643,7507060721942968483,8399075790359081724,8693463985226723168,9568029438360202098,10144078919501101548,10430055236837252648,11840083180663258601,13761210420658862357,14299343276471374635,14566680578165727644,15097957966210449927,16922976911328602910,17689382322260857208,500013540394364858,748580250866718886,1242879168328830382,1977374033974150939,2944078676154940804,3659926193048069267,4368137639120453308,4836135668995329356,5532061633213252278,6448918945643986474,6902733635092675308,7801388544844847127]
def stN:List Nat:=[7640891576956012808,13503953896175478587,4354685564936845355,11912009170470909681,5840696475078001361,11170449401992604703,2270897969802886507,6620516959819538809]
def siN:List Nat:=[2463787394917988140,11481187982095705282,2563595384472711505,10824532655140301501,10819967247969091555,13717434660681038226,3098927326965381290,1060366662362279074]
theorem kN_eq:kW.map UInt64.toNat=kN:=by kernel_rfl
theorem stN_eq:startW.map UInt64.toNat=stN:=by kernel_rfl
theorem of_to(l:List UInt64):(l.map UInt64.toNat).map UInt64.ofNat=l:=by
  rw[List.map_map];exact(List.map_congr_left fun x _=>UInt64.ofNat_toNat).trans (List.map_id l)
theorem sha512_N(l:List UInt8):sha512 l=sumUp ((allN kN stN l).map UInt64.ofNat) 64:=by
  rw[←kN_eq,←stN_eq,←all_N l rfl rfl,of_to];rfl
theorem siN_eq:shaI.map UInt64.toNat=siN:=by kernel_rfl
theorem sha256_N(l:List UInt8):sha256 l=(sumUp ((allN kN siN l).map UInt64.ofNat) 64).take 32:=by
  rw[←kN_eq,←siN_eq,←all_N l rfl shaI_length,of_to];rfl
end Go.Proofs.YtpogmfngccolbaaGreat
namespace Go.Proofs.YtpogmfngccolbaaGreat
open Go Hw _root_.Go.Proofs.Tryz
open Ed
def pbN(n:Nat):List UInt8:=forceA (fastN n) fun s=>forceA (pwm PF 256 (uz s%PF) (PF-2)) fun i=>pb ⟨fe (ux s*i%PF),fe (uy s*i%PF)⟩
variable{n:Nat}
theorem pbN_eq(h:n<2^256):pb (cv.mul n bP)=pbN n:=by
  rw[fast_at h rfl rfl,pbN,forceA_eq,forceA_eq,affX,affY,force_eq,force_eq]
def h512(l:List UInt8):List UInt8:=sumUp ((allN kN stN l).map UInt64.ofNat) 64
def h256(l:List UInt8):List UInt8:=(sumUp ((allN kN siN l).map UInt64.ofNat) 64).take 32
def blkD(K:List UInt8)(D0:DB)(e S:Nat):DB:=bsg D0 K (leb 32 e++leb 32 S)
def blkOk(H K:List UInt8)(n:Nat)(D0:DB)(r e S N:Nat):Bool:=
  Nat.beq (le (h512 (H.drop 32++btxt { D0 with w:=K }))%L) r&&(Nat.beq (le (pbN r)) e&&(Nat.beq ((le (h512 (leb 32 e++(K++btxt { D0 with w:=K })))%L*n+r)%L) S
    &&(Nat.beq (le (h256 (blkD K D0 e S).bytes)) N&&(decide (D0.check=0)&&decide ((blkD K D0 e S).check=0)))))
theorem le_32{l:List UInt8}{x:Nat}(h:l.length=32)(e:le l=x):l=leb 32 x:=by rw[←e,←h,leb_le]
def BlkF(seed K:List UInt8)(D0:DB)(e S N:Nat):Prop:=(blkD K D0 e S).ok∧Bm (blkD K D0 e S)=leb 32 N∧dgood (blkD K D0 e S)=0∧∀B:Block,B.ok→Meets prog 164 [agg (Aa seed),agg B.cells] [] (fun W=>BlockIs W B D0) (BlkR 0 (blkD K D0 e S))
theorem blk_facts{seed H K:List UInt8}(h32:seed.length=32)(hH:sha512 seed=H)(hn:le (clampB (H.take 32))=n)(hK:sgK H=K){D0:DB}{r e S N:Nat}(hl:D0.ls.length≤40)(hd:D0.ds.length≤2000)(hD0:D0.ok)(h:blkOk H K n D0 r e S N=true):BlkF seed K D0 e S N:=by
  unfold blkOk at h;simp only[Lai,decide_eq_true_eq]at h;obtain⟨h1,h2,h3,h4,h5,h6⟩:=h;rw[h512,←sha512_N]at h1 h3;rw[h256,←sha256_N]at h4;have h1:=Lby h1;have h2:=Lby h2;have h3:=Lby h3;have h4:=Lby h4;have hr:r<2^256:=by rw[←h1];exact lm _
  have hKl:K.length=32:=by rw[←hK];exact sgK_length H
  obtain⟨T,hT⟩:∃T,T=btxt { D0 with w:=K }:=⟨_,rfl⟩;rw[←hT]at h1 h3;obtain⟨s1,hs1⟩:∃s1,sha512 (H.drop 32++T)=s1:=⟨_,rfl⟩;rw[hs1]at h1;have e1:le (sgR s1)=r:=by rw[sgR,le_leb32 (lm _),h1]
  have e2:sgF s1=leb 32 e:=by
    rw[sgF,e1,pbN_eq hr];refine le_32 ?_ h2;rw[←pbN_eq hr];exact Cq _
  obtain⟨s2,hs2⟩:∃s2,sha512 (leb 32 e++(K++T))=s2:=⟨_,rfl⟩;rw[hs2]at h3;have e3:sgS H s1 s2=leb 32 S:=by rw[sgS,e1,hn,sgR,le_leb32 (lm _),h3]
  have g:=good_self H s1 T (s2:=s2) (by rw[e2,hK];exact hs2);rw[hK,e2,e3]at g;refine⟨⟨hKl,hD0.prev,by show(leb 32 e++leb 32 S).length=64;rw[La4,Ak,Ak],hD0.ls⟩,?_,?_,fun B hB=>?_⟩
  · unfold Bm
    rw[if_pos h6];exact le_32 (sha256_length _) h4
  · unfold dgood
    rw[if_pos h6];refine if_pos ?_;have e4:btxt (blkD K D0 e S)=T:=hT.symm;rw[e4];exact g
  · have c:=r15_Sign B D0 hB hl hd seed h32 H s1 s2 ⟨hH⟩ ⟨by rw[hK,←hT];exact hs1⟩ ⟨by rw[hK,←hT,e2];exact hs2⟩ h5
    rw[hK,e2,e3]at c;exact c
end Go.Proofs.YtpogmfngccolbaaGreat
namespace Go.Proofs.YtpogmfngccolbaaGreat
open Go Hw Ed
def s1B:List UInt8:=[1,0,0,0,0,0,0,0,0,0,0,0,0,0,0,0,0,0,0,0,0,0,0,0,0,0,0,0,0,0,0,77]
def s1H:List UInt8:=[87,159,104,236,80,14,38,174,240,0,164,75,108,245,33,87,115,113,131,28,237,105,185,222,57,145,233,242,112,190,170,213,35,11,137,144,70,23,17,214,148,220,86,67,25,124,131,91,42,247,30,195,63,213,16,142,181,57,199,82,96,7,203,83]
def s1K:List UInt8:=[96,107,246,169,182,86,212,252,106,138,137,108,60,10,195,142,100,120,65,80,61,64,193,87,241,248,221,83,126,228,255,164]
theorem s1_h:sha512 s1B=s1H:=by rw[sha512_N];kernel_rfl
theorem s1_n:le (clampB ((s1H).take 32))=38748270507491543869280182973643753799655646515636239770492563660028217171792:=by kernel_rfl
theorem s1_k:sgK s1H=s1K:=by
  rw[sgK,s1_n,pbN_eq dE];kernel_rfl
def s2B:List UInt8:=[2,0,0,0,0,0,0,0,0,0,0,0,0,0,0,0,0,0,0,0,0,0,0,0,0,0,0,0,0,0,0,77]
def s2H:List UInt8:=[159,230,160,217,19,92,134,97,221,29,151,92,173,55,201,96,247,140,202,26,171,176,42,66,5,66,179,216,185,188,163,0,78,178,17,189,220,26,113,236,223,171,6,169,230,174,14,221,86,213,3,69,84,255,54,249,11,147,29,173,100,208,56,60]
def s2K:List UInt8:=[135,111,12,209,122,16,16,190,105,170,2,71,173,200,90,26,237,46,45,107,189,50,216,58,186,203,54,244,172,156,8,66]
theorem s2_h:sha512 s2B=s2H:=by rw[sha512_N];kernel_rfl
theorem s2_n:le (clampB ((s2H).take 32))=29237320919612452970742533751157944247979243399322251012381788756161947821720:=by kernel_rfl
theorem s2_k:sgK s2H=s2K:=by
  rw[sgK,s2_n,pbN_eq dE];kernel_rfl
def mA0:DB:=DB.zero
def mAR:Nat×Nat×Nat×Nat:=(565907765622320541399421425701583650488762096448569470237382742425803974514,100601403375759064195258946539497424308391876113719775996124634348183556250024,3579687427427459069974335426959508808461923918647704402293925102387200652691,97113733480288696092322898458545537851336488749795256506728843684697484984565)
def mAN:List UInt8:=leb 32 mAR.2.2.2
def mAD:DB:=blkD s1K mA0 mAR.2.1 mAR.2.2.1
theorem mA_ok:blkOk s1H s1K 38748270507491543869280182973643753799655646515636239770492563660028217171792 mA0 mAR.1 mAR.2.1 mAR.2.2.1 mAR.2.2.2=true:=by kernel_rfl
theorem mA_len:mAN.length=32:=Ak 32 _
theorem mA_f:BlkF s1B s1K mA0 mAR.2.1 mAR.2.2.1 mAR.2.2.2:=blk_facts (H:=s1H) rfl s1_h s1_n s1_k dE dE ⟨rfl,by rfl,rfl,fun l hl=>(by first|(cases hl;done)|(rw[La0.1 hl];rfl))⟩ mA_ok
def mB0:DB:={ DB.zero with seq:=1,prev:=mAN }
def mBR:Nat×Nat×Nat×Nat:=(1042854690461855033549293643297295419211154182590953024946931292553013138148,65806961080161634906959505977140487317327363723346420782109779725411984570611,7208915343660222524937526513360399956949480183635538504188365353118992172452,46058863218359618658494336369744020781322587224099048705861084924914012010741)
def mBN:List UInt8:=leb 32 mBR.2.2.2
def mBD:DB:=blkD s1K mB0 mBR.2.1 mBR.2.2.1
theorem mB_ok:blkOk s1H s1K 38748270507491543869280182973643753799655646515636239770492563660028217171792 mB0 mBR.1 mBR.2.1 mBR.2.2.1 mBR.2.2.2=true:=by kernel_rfl
theorem mB_len:mBN.length=32:=Ak 32 _
theorem mB_f:BlkF s1B s1K mB0 mBR.2.1 mBR.2.2.1 mBR.2.2.2:=blk_facts (H:=s1H) rfl s1_h s1_n s1_k dE dE ⟨rfl,by rfl,rfl,fun l hl=>(by first|(cases hl;done)|(rw[La0.1 hl];rfl))⟩ mB_ok
def mL0:DB:={ DB.zero with ls:=[mAN] }
def mLR:Nat×Nat×Nat×Nat:=(7069382373975793937875983969631401300928334206707799924608693727060737855406,89380441118362541782232043895724461995795574022816857334645768520515379073692,1378832678657371214062331319605579238817782231700001298769674763842384625692,60935820018387094301093397927544635555409945960002560190348470472531323507425)
def mLN:List UInt8:=leb 32 mLR.2.2.2
def mLD:DB:=blkD s2K mL0 mLR.2.1 mLR.2.2.1
theorem mL_ok:blkOk s2H s2K 29237320919612452970742533751157944247979243399322251012381788756161947821720 mL0 mLR.1 mLR.2.1 mLR.2.2.1 mLR.2.2.2=true:=by kernel_rfl
theorem mL_len:mLN.length=32:=Ak 32 _
theorem mL_f:BlkF s2B s2K mL0 mLR.2.1 mLR.2.2.1 mLR.2.2.2:=blk_facts (H:=s2H) rfl s2_h s2_n s2_k dE dE ⟨rfl,by rfl,rfl,fun l hl=>(by first|(cases hl;done)|(rw[La0.1 hl];rfl))⟩ mL_ok
end Go.Proofs.YtpogmfngccolbaaGreat
namespace Go.Proofs.YtpogmfngccolbaaGreat
open Go Hw _root_.Go.Proofs.Tryz
open Ed
variable{D:DB}{L:List (List UInt8)}{T:TypeId}{X:PD}{a b c:Block}{m q:Nat}{n:List UInt8}{w:World}
theorem s1B_length:s1B.length=32:=rfl
theorem s2B_length:s2B.length=32:=rfl
theorem kitS1  :Mv 165 [i64 1] (fun _=>True) (agg (Aa s1B)):=by
 intro W hW;refine Ac func165 J 9 ntmps165 J (G2 ?_);refine .alloc (cs:=(Aa (List.replicate 32 0))) J Zr33 J ?_;intro n2 hn2 hf2;refine G5 ?_;refine .conv J J J Y3.h Y5.h (show Value.int .u8 (IntKind.u8.wrap 1)=u8 1 from rfl) (G1 ?_)
 refine .shrN 1 8 J J J J J dE (.conv J J J Y3.h Y5.h (show Value.int .u8 (IntKind.u8.wrap ((1/2^8:Nat):Int))=u8 0 from rfl) (.build (cs:=Aa s1B) J J J (fun w=>by kernel_rfl) ?_));refine .sA J J J J zE Sz33 (by(simp[s1B_length];done)) Z0 sP zU ?_;refine G2 ?_;refine G2 ?_;refine⟨_,[],Am J J Y33.h J Sz33 Z0 (by simp[s1B_length]),sP,sP,?_,rfl⟩;rfl
theorem kitS2  :Mv 165 [i64 2] (fun _=>True) (agg (Aa s2B)):=by
 intro W hW;refine Ac func165 J 9 ntmps165 J (G2 ?_);refine .alloc (cs:=(Aa (List.replicate 32 0))) J Zr33 J ?_;intro n2 hn2 hf2;refine G5 ?_;refine .conv J J J Y3.h Y5.h (show Value.int .u8 (IntKind.u8.wrap 2)=u8 2 from rfl) (G1 ?_)
 refine .shrN 2 8 J J J J J dE (.conv J J J Y3.h Y5.h (show Value.int .u8 (IntKind.u8.wrap ((2/2^8:Nat):Int))=u8 0 from rfl) (.build (cs:=Aa s2B) J J J (fun w=>by kernel_rfl) ?_));refine .sA J J J J zE Sz33 (by(simp[s2B_length];done)) Z0 sP zU ?_;refine G2 ?_;refine G2 ?_;refine⟨_,[],Am J J Y33.h J Sz33 Z0 (by simp[s2B_length]),sP,sP,?_,rfl⟩;rfl
def bl1(q:Nat):Block:={ Block.zero with fLinks:=⟨some ⟨q,0,none⟩,1,1⟩ }
theorem bl1_ok(q:Nat):(bl1 q).ok:=⟨rfl,rfl,rfl⟩
theorem bl1_is(hn:n.length=32)(h:Cd w q 0 (Aa n)):BlockIs w (bl1 q) { DB.zero with ls:=[n] }:=⟨bl1_ok q,rfl,rfl,rfl,row_one hn h,(zero_is w).ds,rfl⟩
def ChainS(Da Db Dc:DB)(v:Value)(out:List Blk):Prop:=∃(q:Nat) (Ba Bb Bc:Block) (bl:List Blk),SameB Ba Da∧SameB Bb Db∧SameB Bc Dc∧v= .slice (some ⟨q,0,none⟩) 3 3∧out=⟨q,tri Ba Bb Bc,50,(tri Ba Bb Bc).length⟩::bl∧∀W2,Lies bl W2→BlockIs W2 Ba Da∧BlockIs W2 Bb Db∧BlockIs W2 Bc Dc
theorem tri_sees(ha:a.ok)(hb:b.ok)(hc:c.ok)(h:BlkOk w ⟨q,tri a b c,T,m⟩):Cd w q (0+0*131) a.cells∧Cd w q (0+1*131) b.cells∧Cd w q (0+2*131) c.cells:=by
  have part:∀(o:Nat) (l:List Value),((tri a b c).drop o).take 131=l→Cd w q o l:=fun o l e=>sees_kok h fun j v hj=>by
    rw[←e]at hj;have h1:=(Laf.1 hj).1;rw[Lfk (by rw[Lag]at h1;omega),Lba]at hj;exact hj
  exact⟨part _ _ (tri_0 ha),part _ _ (tri_1 ha hb),part _ _ (tri_2 ha hb hc)⟩
theorem tri_blocks{Da Db Dc:DB}(h:BlkOk w ⟨q,tri a b c,T,m⟩)(hi:BlockIs w a Da∧BlockIs w b Db∧BlockIs w c Dc):BlocksAt w ⟨some ⟨q,0,none⟩,3,3⟩ [Da,Db,Dc]:=by
  obtain⟨ha,hb,hc⟩:=hi;refine⟨[a,b,c],rfl,rfl,fun i r d hr hd=>?_,fun r hr=>?_,Lae 3,?_,(by show 3≤maxLen;decide),fun e=>by cases e⟩
  · rcases i with _|_|_|i
    ·cases hr;cases hd;exact ha
    ·cases hr;cases hd;exact hb
    ·cases hr;cases hd;exact hc
    ·cases hr
  · simp only[Lal,Lcd,or_false]at hr
    rcases hr with rfl|rfl|rfl
    ·exact Block.length ha.ok
    ·exact Block.length hb.ok
    ·exact Block.length hc.ok
  · refine SeesP.of (sees_kok h fun j v hj=>?_)
    rw[Las];exact hj
theorem law19_signed(n:Int)(seed:List UInt8)(h32:seed.length=32)(B:Block)(hB:B.ok)(D D1:DB)(hD1:D1.ok)(cSeed:Mv 165 [i64 n] (fun _=>True) (agg (Aa seed)))(cS:∀B:Block,B.ok→Meets prog 164 [agg (Aa seed),agg B.cells] [] (fun W=>BlockIs W B D) (BlkR 0 D1)):Meets prog 120 [i64 n,agg B.cells] [] (fun W=>BlockIs W B D) (BlkV D1):=by
 intro W hW;refine Ac func120 J 15 ntmps120 J (G3 ?_);intro n3 hn3 hf3;refine .alloc (cs:=Block.zero.cells) J Block.zr J ?_;intro n4 hn4 hf4;refine G3 ?_;refine .draw (oP [0,102,301,303,4,5,6,207,408,9]) Ao zK (G1 ?_);refine .lA J J J Y50.h J Sz50 Z1 (Block.length (by exact hB)) ?_;refine .cV J J J J Body165 (cSeed) tV (.call J J J J Body164 (cS B hB) (BlkR.loose 0 D1 hD1) (fun w h=>hW.ext h J) ?_);rintro v11 out11 ⟨B11,h11,rfl,ho11⟩;refine G3 ?_;refine .alloc (cs:=Block.zero.cells) J Block.zr J ?_;intro n5 hn5 hf5;refine .sA J J J J (Block.isCell (by exact h11.ok)) Sz50 (Block.length (by exact h11.ok)) Z0 (Block.length (by exact Block.zero_ok)) zU ?_;refine G5 ?_;refine .lA J J J Y50.h J Sz50 Z0 (Block.length (by exact h11.ok)) ?_;refine .sA J J J J (Block.isCell (by exact h11.ok)) Sz50 (Block.length (by exact h11.ok)) mR (Block.length (by exact Block.zero_ok)) uU ?_;refine G2 ?_;refine G2 ?_;refine Aw (out:=(out11++[])) (Am J J Y50.h J Sz50 mR (by exact Block.length (by exact h11.ok))) (Af sG Ai) ?_;exact⟨B11,h11,rfl,by simpa using ho11⟩
theorem law19_filled(s:Sl)(ds:List DB)(hn:s.n≤1000)(hsm:∀d∈ds,d.ls.length≤500000∧d.ds.length≤500000):Meets prog 30 [s.v] [] (fun W=>BlocksAt W s ds) (fun v out=>∃(p:Nat) (x:DD),v=ptr p 0∧out=x.blks p∧x.ok∧x.pl=fillP PD.new ds∧x.names.length+x.orp.length≤ds.length):=by
 intro W hW;obtain⟨rs,hs⟩:=hW;have hnd:=hs.nd;refine Ac func30 J 20 ntmps30 J (G7 ?_);refine .call4 J J J J J Body77 (dag_new2) tV ?_;rintro v5 out5 ⟨p,x0,rfl,rfl,hx0,hplx0,hnx0⟩;refine G10 ?_;refine .loop (ι:=Nat×DD) (fun r=>⟨[(0,s.v),(3,ptr p 0),(4,i64 (r.1:Int))],(r.2.blks p++[])⟩) (fun r=>r.1≤s.n∧r.2.ok∧r.2.pl=fillP PD.new (ds.take r.1)∧r.2.names.length+r.2.orp.length≤r.1) (fun r=>s.n-r.1) ((0,x0)) ?_ ?_ ?_
 ·exact⟨Laj _,hx0,hplx0,Lgd hnx0⟩
 ·exact An wN (Af sG Ai)
 rintro⟨k,x⟩ ⟨hk,hx,hplx,hnx⟩;simp only at hk hx hplx hnx ⊢;refine G9 ?_;refine .condP J (fun hc0=>?_) (fun hc0=>?_)
 ·
  have hk2:k<s.n:=by omega
  obtain⟨b,o,r,d,hsp,hr,hd,his,hlen,hsee⟩:=hs.at dE hk2;refine G8 ?_;refine .idxSlP 131 J J J hsp J Y22.h Sz50 k J oM (.loadEN r.cells J J J Y50.h J Sz50 sP hlen hsee (.call4 J J J J J Body42 (db_own r d (hsm d (Lbl hd)).1 (hsm d (Lbl hd)).2) (fun w h=>his.ext h J) ?_));rintro v17 out17 ⟨B17,h17,rfl,hb17⟩;refine .callL (L:=(x.blks p++out17)) J J J J J Body41 (dag_add x hx p B17 d out17 ⟨h17,hb17⟩ oM) (sg_two (by repeat(first|exact sg_here|apply sg_seg)) sG) (Cf J) (fun w h=>Lent.of h (sg_two (by repeat(first|exact sg_here|apply sg_seg)) sG)) ?_;rintro v18 out18 ⟨x1,⟨p18,n18,c18⟩,bl18,rfl,rfl,hx1,hac18,h3218,hplx1,hnx1⟩;simp only[La8];refine G9 ?_;exact⟨(k+1,x1),⟨by simp only;omega,hx1,by show x1.pl=_;rw[hplx1,hplx,take_snoc hd,fillP_snoc],by simp only;omega⟩,by simp only;omega,An wN (Af sG Ai)⟩
 have hke:k=s.n:=by omega
 refine G11 ?_;refine G2 ?_;refine Aw (out:=(x.blks p++[])) (Ae J J) (Af sG Ai) ?_;refine⟨p,x,rfl,by simp,hx,?_,by omega⟩;rw[hke,La5 oM]at hplx;exact hplx
theorem law19_chain(Da Db Dc:DB)(na:List UInt8)(hDa:Da.ok)(hDb:Db.ok)(hDc:Dc.ok)(lna:na.length=32)(hna:Bm Da=na)(cSa:∀B:Block,B.ok→Meets prog 164 [agg (Aa s1B),agg B.cells] [] (fun W=>BlockIs W B DB.zero) (BlkR 0 Da))(cSb:∀B:Block,B.ok→Meets prog 164 [agg (Aa s1B),agg B.cells] [] (fun W=>BlockIs W B { DB.zero with seq:=1,prev:=na }) (BlkR 0 Db))(cSc:∀B:Block,B.ok→Meets prog 164 [agg (Aa s2B),agg B.cells] [] (fun W=>BlockIs W B { DB.zero with ls:=[na] }) (BlkR 0 Dc)):Meets prog 53 [] [] (fun _=>True) (ChainS Da Db Dc):=by
 intro W hW;refine Ac func53 J 16 ntmps53 J (G7 ?_);refine .build (cs:=Block.zero.cells) J J J (fun w=>by kernel_rfl) ?_;refine .call4 J J J J J Body120 (law19_signed 1 s1B J Block.zero Block.zero_ok DB.zero Da hDa kitS1 cSa) (fun w h=>zero_is w) ?_;rintro v4 out4 ⟨Ba,ha,rfl,hoa⟩;have cNa:=r15_Name Ba Da ha.ok;rw[hna]at cNa;refine .alloc (cs:=Block.zero.cells) J Block.zr J ?_;intro n1 hn1 hf1;refine .sA J J J J (Block.isCell (by exact ha.ok)) Sz50 (Block.length (by exact ha.ok)) Z0 (Block.length (by exact Block.zero_ok)) zU ?_;refine G4 ?_;refine .lA J J J Y50.h J Sz50 Z0 (Block.length (by exact ha.ok)) ?_;refine .cV J J J J Body54 (cNa) (fun w h=>hoa w (Lies.of h (by repeat(first|exact A4|refine Bl ?_)))) ?_;refine .alloc (cs:=(Aa (List.replicate 32 0))) J Ck J ?_;intro n2 hn2 hf2;refine .sA J J J J zE Sz34 (by(simp[lna];done)) Z0 sP zU ?_;refine G3 ?_;refine .drawZ (oP [100,101,2,104,303,205,6,307,208,9]) Ao zK (.lA J J J Y50.h J Sz50 Z1 (Block.length (by exact ha.ok)) ?_);refine .lA J J J Y34.h J Sz34 Z0 (by(simp[lna];done)) ?_;refine .build (cs:=({ Block.zero with fSeq:=1,fPrev:=na }:Block).cells) J J J (fun w=>build_sp 1 na lna w) (.lA J J J Y34.h J Sz34 Z0 (by(simp[lna];done)) ?_);refine .call J J J J Body120 (law19_signed 1 s1B J _ (sp_ok 1 lna) _ Db hDb kitS1 cSb) (BlkV.loose Db hDb) (fun w h=>sp_is w 1 lna) ?_;rintro v10 out10 ⟨Bb,hb,rfl,hob⟩;refine .mkRow2 (z:=agg (Aa (List.replicate 32 0))) [agg (Aa na)] (Aa na) J J Y30.h Sz34 Ck J J (by intro v hv;rw[La0.1 hv];simp[Value.cells,Aa,lna]) dE (by simp[Value.cells,agg]) ?_;intro q12;refine .build (cs:=(bl1 q12).cells) J J J (fun w=>by kernel_rfl) ?_;refine .call J J J J Body120 (law19_signed 2 s2B J (bl1 q12) (bl1_ok q12) _ Dc hDc kitS2 cSc) (BlkV.loose Dc hDc) (fun w h=>bl1_is lna (Ap h Z0)) ?_;rintro v14 out14 ⟨Bc,hc,rfl,hoc⟩;refine .mkRow2 (z:=agg Block.zero.cells) [agg Ba.cells,agg Bb.cells,agg Bc.cells] (tri Ba Bb Bc) J J Y22.h Sz50 Block.zr J J (by intro v hv;simp only[Lal,Lcd,or_false]at hv;rcases hv with rfl|rfl|rfl;exact Block.length ha.ok;exact Block.length hb.ok;exact Block.length hc.ok) dE (by simp[Value.cells,agg,tri]) ?_;intro q15;refine G3 ?_;refine G2 ?_;refine Aw (out:=(⟨q15,tri Ba Bb Bc,50,(tri Ba Bb Bc).length⟩::(out14++(out10++(out4++[]))))) (Ae J J) (Ab rM (Af sG (Af sG (Af sG Ai)))) ?_;exact⟨q15,Ba,Bb,Bc,_,ha,hb,hc,rfl,rfl,fun W2 hl=>⟨hoa W2 (hl.sub (by repeat(first|exact A4|refine in_seg ?_))),hob W2 (hl.sub (by repeat(first|exact A4|refine in_seg ?_))),hoc W2 (hl.sub (by repeat(exact A4)))⟩⟩
theorem mA_g:dgood mAD=0:=mA_f.2.2.1
theorem mB_g:dgood mBD=0:=mB_f.2.2.1
theorem mL_g:dgood mLD=0:=mL_f.2.2.1
theorem mA_nm:Bm mAD=mAN:=mA_f.2.1
theorem mB_nm:Bm mBD=mBN:=mB_f.2.1
theorem mL_nm:Bm mLD=mLN:=mL_f.2.1
def cX1:PD:=PD.new.adm mAN mAD
def cX2:PD:=cX1.adm mBN mBD
def cX3:PD:=cX2.adm mLN mLD
theorem c_add1:PD.new.add mAD=(cX1,[mAN],0):=by
  have h:=add_fits (X:=PD.new) mA_g (by rw[mA_nm];kernel_rfl) zK;rw[mA_nm]at h;have e:PD.settle (PD.new.adm mAN mAD).orp.length (PD.new.adm mAN mAD)=(cX1,[]):=by kernel_rfl
  rw[h,e]
theorem c_add2:cX1.add mBD=(cX2,[mBN],0):=by
  have h:=add_fits (X:=cX1) mB_g (by rw[mB_nm];kernel_rfl) zK;rw[mB_nm]at h;have e:PD.settle (cX1.adm mBN mBD).orp.length (cX1.adm mBN mBD)=(cX2,[]):=by kernel_rfl
  rw[h,e]
theorem c_add3:cX2.add mLD=(cX3,[mLN],0):=by
  have h:=add_fits (X:=cX2) mL_g (by rw[mL_nm];kernel_rfl) zK;rw[mL_nm]at h;have e:PD.settle (cX2.adm mLN mLD).orp.length (cX2.adm mLN mLD)=(cX3,[]):=by kernel_rfl
  rw[h,e]
theorem c_fill:fillP PD.new [mAD,mBD,mLD]=cX3:=by
  simp only[fillP,Lf1,Lg3,c_add1,c_add2,c_add3]
theorem c_inv:cX3.Inv:=by rw[←c_fill];exact PD.Inv.fill _ PD.Inv.new
theorem c_heads:cX3.heads=[mLN,mBN]:=by kernel_rfl
theorem rB_nil(X:PD)(n:List UInt8):rB X (-1) [] n=false:=by
  cases h:rB X (-1) [] n with
  |false=>rfl
  |true=>exact(reach_nil (rB_iff.1 h)).elim
theorem beneath_nil(X:PD):(beneath X []).length=0:=by
  unfold beneath;rw[Lep.2 fun n _=>by rw[rB_nil];decide];rfl
theorem reach_in(hI:X.Inv)(hn:n∈L)(hD:Av X.P n=some D):X.Reach (-1) L n:= .base hn hD (by have:=hI.d0 n D hD;omega)
theorem beneath_pos(hI:X.Inv)(hn:n∈L)(hD:Av X.P n=some D):0<(beneath X L).length:=
  List.length_pos_of_mem (Lc6.2 ⟨keys_in hD,rB_iff.2 (reach_in hI hn hD)⟩)
def cutP1(n:List UInt8):DCut:=⟨1,List.replicate 32 0,[n]⟩
def cutP2(n m:List UInt8):DCut:=⟨1,List.replicate 32 0,[n,m]⟩
theorem c_ext1:cX3.ext DCut.zero (List.replicate 32 0) 0 (cutP1 mAN)=0:=by
  have hD:Av cX3.P mAN=some mAD:=by kernel_rfl
  have h1:(cutP1 mAN).check=0:=by kernel_rfl
  have h2:missB cX3 (cutP1 mAN).dHeads=false:=by kernel_rfl
  have h3:=beneath_pos c_inv (L:=(cutP1 mAN).dHeads) La9 hD;have h4:=beneath_nil cX3;have h5:parsOf cX3 (cutP1 mAN).dHeads=[]:=by kernel_rfl
  have h6:apartB cX3 (cutP1 mAN).dHeads=true:=by
    unfold apartB;rw[h5,Lg0.2 fun n _=>by rw[rB_nil];decide];rfl
  unfold PD.ext;rw[if_neg dE,if_neg (not_not_intro h1),if_neg dE,if_neg dE,if_neg dE,if_neg (by rw[h2];decide),if_neg (by rw[show DCut.zero.dHeads=[]from rfl,h4];omega),if_neg (by rw[h6];decide)];rfl
theorem c_ext2:cX3.ext DCut.zero (List.replicate 32 0) 0 (cutP2 mBN mAN)=4:=by
  have hD:Av cX3.P mAN=some mAD:=by kernel_rfl
  have h1:(cutP2 mBN mAN).check=0:=by kernel_rfl
  have h2:missB cX3 (cutP2 mBN mAN).dHeads=false:=by kernel_rfl
  have h5:(parsOf cX3 (cutP2 mBN mAN).dHeads).contains mAN=true:=by kernel_rfl
  have h6:apartB cX3 (cutP2 mBN mAN).dHeads=false:=by
    have ha:((cutP2 mBN mAN).dHeads.any fun h=>rB cX3 (-1) (parsOf cX3 (cutP2 mBN mAN).dHeads) h)=true:=Ldo.2 ⟨mAN,Lah _ La9,rB_iff.2 (reach_in c_inv (by simpa using h5) hD)⟩;unfold apartB;rw[ha];rfl
  unfold PD.ext;rw[if_neg dE,if_neg (not_not_intro h1),if_neg dE,if_neg dE,if_neg dE,if_neg (by rw[h2];decide),if_pos h6];split<;>rfl
theorem chain19_facts:∃(Da Db Dc:DB) (na nb nc:List UInt8) (X:PD),(Da.ok∧Db.ok∧Dc.ok)∧(na.length=32∧nb.length=32∧nc.length=32)∧(Bm Da=na∧Bm Db=nb∧Bm Dc=nc)
    ∧(∀B:Block,B.ok→Meets prog 164 [agg (Aa s1B),agg B.cells] [] (fun W=>BlockIs W B DB.zero) (BlkR 0 Da))∧(∀B:Block,B.ok→Meets prog 164 [agg (Aa s1B),agg B.cells] [] (fun W=>BlockIs W B { DB.zero with seq:=1,prev:=na }) (BlkR 0 Db))∧(∀B:Block,B.ok→Meets prog 164 [agg (Aa s2B),agg B.cells] [] (fun W=>BlockIs W B { DB.zero with ls:=[na] }) (BlkR 0 Dc))∧(∀d∈ [Da,Db,Dc],d.ls.length≤500000∧d.ds.length≤500000)
    ∧fillP PD.new [Da,Db,Dc]=X∧X.nxt0=(⟨1,List.replicate 32 0,[nc,nb]⟩,0)∧¬nc=nb∧Cw nc nb<0∧0<Cw na nb∧X.ext DCut.zero (List.replicate 32 0) 0 (cutP1 na)=0∧X.ext DCut.zero (List.replicate 32 0) 0 (cutP2 nb na)=4:=
  ⟨mAD,mBD,mLD,mAN,mBN,mLN,cX3,⟨mA_f.1,mB_f.1,mL_f.1⟩,⟨mA_len,mB_len,mL_len⟩,⟨mA_nm,mB_nm,mL_nm⟩,mA_f.2.2.2,mB_f.2.2.2,mL_f.2.2.2,
    (fun d hd=>by simp only[Lal,Lcd,or_false]at hd;rcases hd with rfl|rfl|rfl<;>exact of_decide_eq_true zK),c_fill,by unfold PD.nxt0;rw[c_heads];rfl,of_decide_eq_true zK,of_decide_eq_true zK,of_decide_eq_true zK,c_ext1,c_ext2⟩
theorem cut_ext_at(x:DD)(hx:x.ok)(hI:x.pl.Inv)(p:Nat)(C:Cut)(D:DCut)(e:Int)(he:x.pl.ext DCut.zero (List.replicate 32 0) 0 D=e):Mv 38 [ptr p 0, .slice none 0 0,agg C.cells] (fun W=>Lies (x.blks p) W∧CutIs W C D) (i64 e):=
  (cut_extends x hx hI p Sl.nil [] [] C D).imp (fun w h=>⟨h.1,SeqIs.none,h.2⟩) fun v out h=>by rw[←he];exact h
theorem rows_sees{W:World}{s:Sl}{ls:List (List UInt8)}{b o:Nat}(h:RowsAt W s 32 ls)(hp:s.p=some ⟨b,o,none⟩){k:Nat}(hk:k<ls.length):Cd W b (o+k*32) (Aa (ls.getD k [])):=
  Bu h.row (fun j v hj=>by obtain⟨b',o',e,e2⟩:=h.see j v hj;rw[hp]at e;cases e;exact e2) hk
theorem row_two{a b:List UInt8}(ha:a.length=32)(hb:b.length=32)(h:Cd w q 0 (A3 [a,b])):RowsAt w ⟨some ⟨q,0,none⟩,2,2⟩ 32 [a,b]:=⟨rfl,two_32 ha hb,Lae 2,SeesP.of h,(by show 2≤maxLen;decide),fun e=>by cases e⟩
def cutQ(q n:Nat):Cut:={ Cut.zero with fHeight:=1,fHeads:=⟨some ⟨q,0,none⟩,n,n⟩ }
theorem cutQ_ok(q n:Nat):(cutQ q n).ok:=⟨rfl⟩
theorem law19_lives  :Mv 28 [] (fun _=>True) (.bool true):=by
 intro W hW;obtain⟨Da,Db,Dc,na,nb,nc,X,⟨hDa,hDb,hDc⟩,⟨lna,lnb,lnc⟩,⟨hna,hnb,hnc⟩,cSa,cSb,cSc,hsm,hfill,hnx,hne,hcb,hab,hx1,hx2⟩:=chain19_facts;refine Ac func28 J 93 ntmps28 J (G7 ?_);refine .call4 J J J J J Body53 (law19_chain Da Db Dc na hDa hDb hDc lna hna cSa cSb cSc) tV ?_;rintro v9 out9 ⟨q,Ba,Bb,Bc,bl,ha,hb,hc,rfl,rfl,hch⟩;have cNa:=r15_Name Ba Da ha.ok;have cNb:=r15_Name Bb Db hb.ok;have cNc:=r15_Name Bc Dc hc.ok;rw[hna]at cNa;rw[hnb]at cNb;rw[hnc]at cNc;refine G6 ?_;refine .call4 J J J J J Body30 (law19_filled ⟨some ⟨q,0,none⟩,3,3⟩ [Da,Db,Dc] (by show 3≤1000;omega) hsm) (fun w h=>tri_blocks (Bg (B:=⟨q,tri Ba Bb Bc,50,(tri Ba Bb Bc).length⟩) h Z0) (hch w (Lies.of h (by repeat(first|exact A4|refine Bl ?_))))) ?_;rintro v11 out11 ⟨p,x,rfl,rfl,hx,hplx,hnx2⟩;have hI:x.pl.Inv:=by rw[hplx];exact PD.Inv.fill _ PD.Inv.new
 rw[hfill]at hplx;rw[←hplx]at hnx hx1 hx2;refine G4 ?_
 try simp only[Lam,Lak,La8]
 refine .withK (sp_x (sp_k (sp_x sp_n))) J (.draw (oP [0,1,2,4,5,6,8,9,10,303,307,311,212,213,214,415,416,417]) Ao zK ?_)
 try simp only[Lam,Lak,La8]
 refine G1 ?_;refine .idxSlP 131 J J J J J Y22.h Sz50 0 J dE (.kloadSN (n:=131) Ba.cells J J J Y50.h J Sz50 (Block.length ha.ok) (fun w h=>(tri_sees ha.ok hb.ok hc.ok (h ⟨q,tri Ba Bb Bc,50,(tri Ba Bb Bc).length⟩ (by simp[Cx.with]))).1) ?_);refine G1 ?_;refine .idxSlP 131 J J J J J Y22.h Sz50 1 J dE (.kloadSN (n:=131) Bb.cells J J J Y50.h J Sz50 (Block.length hb.ok) (fun w h=>(tri_sees ha.ok hb.ok hc.ok (h ⟨q,tri Ba Bb Bc,50,(tri Ba Bb Bc).length⟩ (by simp[Cx.with]))).2.1) ?_);refine G1 ?_;refine .idxSlP 131 J J J J J Y22.h Sz50 2 J dE (.kloadSN (n:=131) Bc.cells J J J Y50.h J Sz50 (Block.length hc.ok) (fun w h=>(tri_sees ha.ok hb.ok hc.ok (h ⟨q,tri Ba Bb Bc,50,(tri Ba Bb Bc).length⟩ (by simp[Cx.with]))).2.2) ?_);refine .cV J J J J Body54 (cNa) (fun w h=>(hch w (Lies.of h (by repeat(first|exact A4|refine Bl ?_|refine in_seg ?_)))).1) ?_;refine .cV J J J J Body54 (cNb) (fun w h=>(hch w (Lies.of h (by repeat(first|exact A4|refine Bl ?_|refine in_seg ?_)))).2.1) ?_;refine .cV J J J J Body54 (cNc) (fun w h=>(hch w (Lies.of h (by repeat(first|exact A4|refine Bl ?_|refine in_seg ?_)))).2.2) ?_;refine .alloc (cs:=(Aa (List.replicate 32 0))) J Ck J ?_;intro n3 hn3 hf3;refine .alloc (cs:=(Aa (List.replicate 32 0))) J Ck J ?_;intro n4 hn4 hf4;refine .alloc (cs:=(Aa (List.replicate 32 0))) J Ck J ?_;intro n5 hn5 hf5;refine .sA J J J J zE Sz34 (by(simp[lna];done)) Z2 sP (by exact upd2) ?_;refine .sA J J J J zE Sz34 (by(simp[lnb];done)) Z1 sP zV ?_;refine .sA J J J J zE Sz34 (by(simp[lnc];done)) Z0 sP zU ?_;refine G4 ?_
 try simp only[Lam,Lak,La8]
 refine G1 ?_;refine .call4 J J J J J Body32 (cut_next0 x hx hI p) (fun w h=>Lies.of h (by repeat(first|exact A4|refine Bl ?_))) ?_;rintro v26 out26 ⟨C6,ok6,rfl,hC6⟩;rw[hnx]at hC6 ⊢;simp only at hC6 ⊢;refine G3 ?_;refine .alloc (cs:=Cut.zero.cells) J Cut.zr J ?_;intro n6 hn6 hf6;refine .sA J J J J (Cut.isCell (by exact ok6)) Sz57 (Cut.length (by exact ok6)) Z0 (Cut.length (by exact Cut.zero_ok)) zU ?_;refine G5 ?_;refine .know (F:=C6.fHeight=1∧C6.fHeads.n=2∧∃b o,C6.fHeads.p=some ⟨b,o,none⟩) (fun w h=>by have h9:=hC6 w (Lies.of h (by repeat(first|exact A4|refine Bl ?_)));obtain⟨b,o,e,_⟩:=h9.fHeads.see.at (by rw[Ax h9.fHeads.row];show 0<2*32;decide);exact⟨h9.fHeight,h9.fHeads.len.symm,b,o,e⟩) (fun hk=>?_);obtain⟨hkh,hkn,b6,o6,hp6⟩:=hk;have see0:∀w,Lies out26 w→Cd w b6 (o6+0*32) (Aa nc):=fun w hw=>rows_sees (hC6 w hw).fHeads hp6 (k:=0) (by show 0<2;decide);have see1:∀w,Lies out26 w→Cd w b6 (o6+1*32) (Aa nb):=fun w hw=>rows_sees (hC6 w hw).fHeads hp6 (k:=1) (by show 1<2;decide);refine .draw (oP [0,1,2,3,104,5,6,7,8,109,10,11,12,13,14,115,16,117,118,19,20,21,122,23,124,125,26,27,28,29,30,131,32,133,34,135,36,137,338,39,40]) Ao zK ?_
 try simp only[Lam,Lak,La8]
 refine G1 ?_;refine .nei J J J J (show(!decide _)=false from congrArg not (decide_eq_true (rfl))) (G2 ?_);refine .load1 J J J Y45.h J Z0 (by exact Cut.get_fHeight (by exact ok6)) ?_;refine .nei J J J J (show(!decide _)=false from congrArg not (decide_eq_true (by rw[hkh];rfl))) ?_;refine G3 ?_;refine .load1 J J J Y30.h J Z0 (by exact Cut.get_fHeads (by exact ok6)) ?_;refine G1 ?_;refine .nei J J J J (show(!decide _)=false from congrArg not (decide_eq_true (by rw[hkn];rfl))) ?_;refine G3 ?_;refine .load1 J J J Y30.h J Z0 (by exact Cut.get_fHeads (by exact ok6)) ?_;refine .idxSlP 32 J J J hp6 J Y30.h Sz34 0 J oM (.loadSN (n:=32) (Aa nc) J J J Y34.h J Sz34 (by rw[Aa,La1];exact lnc) (fun w h=>see0 w (Lies.of h (by repeat(first|exact A4|refine Bl ?_)))) ?_);refine .lA J J J Y34.h J Sz34 mR (by(simp[lnb];done)) ?_;refine .neq_bytes J J J J eqGuardType34 Y34.h Y5.h Sz5 (by(simp[lnc];done)) (by(simp[lnb];done)) (show(!decide _)=true from congrArg not (decide_eq_false (hne))) ?_;refine G2 ?_;refine .load1 J J J Y30.h J Z0 (by exact Cut.get_fHeads (by exact ok6)) ?_;refine .idxSlP 32 J J J hp6 J Y30.h Sz34 0 J oM (.loadSN (n:=32) (Aa nc) J J J Y34.h J Sz34 (by rw[Aa,La1];exact lnc) (fun w h=>see0 w (Lies.of h (by repeat(first|exact A4|refine Bl ?_)))) ?_);refine .lA J J J Y34.h J Sz34 mR (by(simp[lnc];done)) ?_;refine .neq_bytes J J J J eqGuardType34 Y34.h Y5.h Sz5 (by(simp[lnc];done)) (by(simp[lnc];done)) (show(!decide _)=false from congrArg not (decide_eq_true (rfl))) ?_;refine G4 ?_;refine .load1 J J J Y30.h J Z0 (by exact Cut.get_fHeads (by exact ok6)) ?_;refine .idxSlP 32 J J J hp6 J Y30.h Sz34 0 J oM (.loadSN (n:=32) (Aa nc) J J J Y34.h J Sz34 (by rw[Aa,La1];exact lnc) (fun w h=>see0 w (Lies.of h (by repeat(first|exact A4|refine Bl ?_)))) ?_);refine G1 ?_;refine .load1 J J J Y30.h J Z0 (by exact Cut.get_fHeads (by exact ok6)) ?_;refine .idxSlP 32 J J J hp6 J Y30.h Sz34 1 J oM (.loadSN (n:=32) (Aa nb) J J J Y34.h J Sz34 (by rw[Aa,La1];exact lnb) (fun w h=>see1 w (Lies.of h (by repeat(first|exact A4|refine Bl ?_)))) ?_);refine .cV J J J J Body25 (r15_cmp nc nb lnc lnb) tV (.geq J J J J (decide_eq_false oM) (G3 ?_));refine .cond_f J J (G4 ?_)
 try simp only[Lam,Lak,La8]
 refine .lA J J J Y34.h J Sz34 mR (by(simp[lna];done)) ?_;refine .lA J J J Y34.h J Sz34 mR (by(simp[lnb];done)) ?_;refine .mkRow (z:=agg (Aa (List.replicate 32 0))) [agg (Aa na),agg (Aa nb)] (A3 [na,nb]) J J J Y30.h Sz34 Ck J J (by intro v hv;simp only[Lal,Lcd,or_false]at hv;rcases hv with rfl|rfl<;>simp[Value.cells,Aa,lna,lnb]) dE (by simp[Value.cells,agg,A3]) ?_;intro q72;refine G6 ?_;refine .lA J J J Y34.h J Sz34 mR (by(simp[lna];done)) ?_;refine .lA J J J Y34.h J Sz34 mR (by(simp[lnb];done)) ?_;refine .cV J J J J Body25 (r15_cmp na nb lna lnb) tV (.gtr J J J J (decide_eq_true oM) (G2 ?_));refine .cond_t J J (.region (.lA J J J Y34.h J Sz34 mR (by(simp[lnb];done)) ?_));refine .lA J J J Y34.h J Sz34 mR (by(simp[lna];done)) ?_;refine .mkRow (z:=agg (Aa (List.replicate 32 0))) [agg (Aa nb),agg (Aa na)] (A3 [nb,na]) J J J Y30.h Sz34 Ck J J (by intro v hv;simp only[Lal,Lcd,or_false]at hv;rcases hv with rfl|rfl<;>simp[Value.cells,Aa,lna,lnb]) dE (by simp[Value.cells,agg,A3]) ?_;intro q79;refine G5 ?_
 try simp only[Lam,Lak,La8]
 refine G1 ?_;refine .lA J J J Y34.h J Sz34 mR (by(simp[lna];done)) ?_;refine .mkRow (z:=agg (Aa (List.replicate 32 0))) [agg (Aa na)] (A3 [na]) J J J Y30.h Sz34 Ck J J (by intro v hv;simp only[Lal,Lcd,or_false]at hv;rcases hv with rfl<;>simp[Value.cells,Aa,lna]) dE (by simp[Value.cells,agg,A3]) ?_;intro q82;refine .build (cs:=(cutQ q82 1).cells) J J J (fun w=>by kernel_rfl) ?_;refine .cV J J J J Body38 (cut_ext_at x hx hI p (cutQ q82 1) (cutP1 na) 0 hx1) (fun w h=>⟨Lies.of h (by repeat(first|exact A4|refine Bl ?_|refine in_seg ?_)),cutQ_ok _ _,rfl,rfl,row_one lna (by have h9:=Ap (cs:=A3 [na]) h Z0;simpa[A3]using h9)⟩) ?_;refine .eqi J J J J (decide_eq_true (rfl)) (G3 ?_);refine .build (cs:=(cutQ q79 2).cells) J J J (fun w=>by kernel_rfl) ?_;refine .cV J J J J Body38 (cut_ext_at x hx hI p (cutQ q79 2) (cutP2 nb na) 4 hx2) (fun w h=>⟨Lies.of h (by repeat(first|exact A4|refine Bl ?_|refine in_seg ?_)),cutQ_ok _ _,rfl,rfl,row_two lnb lna (Ap h Z1)⟩) ?_;refine .eqi J J J J (decide_eq_true (rfl)) (G4 ?_);refine G2 ?_;refine Aw (out:=[]) (Ae J J) Ai ?_;exact⟨rfl,rfl⟩
end Go.Proofs.YtpogmfngccolbaaGreat
namespace Go.Proofs.YtpogmfngccolbaaGreat
open Go Hw _root_.Go.Proofs.Tryz
def sameC(a b:DCut):Bool:=decide ((a.dHeight.toNat:Int)=(b.dHeight.toNat:Int))&&(decide (a.dPrev=b.dPrev)&&decide (a.dHeads=b.dHeads))
variable{a k n:Nat}{e:Int}{ls:List (List UInt8)}{xs:List UInt8}
theorem kit_cut(A B:Cut)(a b:DCut)(hn:A.fHeads.n≤1000000):Mv 35 [agg A.cells,agg B.cells] (fun W=>CutIs W A a∧CutIs W B b) (.bool (sameC a b)):=by
 intro W hW;have hA:=hW.1.ok;have hB:=hW.2.ok;have e1:=hW.1.fHeight;have e2:=hW.2.fHeight;have e3:=hW.1.fPrev;have e4:=hW.2.fPrev;refine Ac func35 J 24 ntmps35 J (G3 ?_);intro n2 hn2 hf2;refine G1 ?_;intro n3 hn3 hf3;refine G9 ?_;refine two (fun r hr k=>Tr.eqi J J J J hr k) (fun hs1_40=>?_) (fun hs1_40=>?_)
 ·
  have hs1_4:=of_decide_eq_true hs1_40;refine G2 ?_;refine .lN (Aa _) J J J Y34.h J Sz34 Z1 (Cut.row_fPrev zA) (Cut.rl_fPrev zA) ?_;refine G1 ?_;refine .lN (Aa _) J J J Y34.h J Sz34 Z0 (Cut.row_fPrev zA) (Cut.rl_fPrev zA) ?_;refine two (fun r hr k=>Tr.eql_bytes J J J J eqGuardType34 Y34.h Y5.h Sz5 (by(simp[hA.l_fPrev];done)) (by(simp[hB.l_fPrev];done)) hr k) (fun hs1_100=>?_) (fun hs1_100=>?_)
  ·
   have hs1_10:=of_decide_eq_true hs1_100;refine G6 ?_;refine .cV J J J J Body23 (digests_any2 _ _ _ _ _ _ a.dHeads b.dHeads hW.1.fHeads.row hW.2.fHeads.row hW.1.fHeads.len hW.2.fHeads.len hn) (fun w h=>⟨A2 h J hW.1.fHeads.see,A2 h J hW.2.fHeads.see⟩) (G4 ?_);refine G2 ?_;refine⟨_,[],Ae J J,sP,sP,?_,rfl⟩;unfold sameC;simp_all
  have hs1_10:=of_decide_eq_false hs1_100;refine G11 ?_;refine G2 ?_;refine⟨_,[],Ae J J,sP,sP,?_,rfl⟩;unfold sameC;simp_all
 have hs1_4:=of_decide_eq_false hs1_40;refine G17 ?_;refine G2 ?_;refine⟨_,[],Ae J J,sP,sP,?_,rfl⟩;unfold sameC;simp_all
theorem pm_one9{hp l R:List Blk}{x:Blk}(h:hp.Perm ((x::l)++R)):hp.Perm (([x]++l)++R):=h
theorem flat329(h:∀l∈ls,l.length=32):ls.flatten.length=ls.length*32:=by
  have:=Ca h (Lae ls.length);rwa[Ldm]at this
theorem cmpB_ge0:∀(a:List UInt8) (n:Nat),a.length=n→0≤Cw a (List.replicate n 0)
  | [],n,h=>by
    obtain rfl:n=0:=by simpa using h.symm
    simp[Cw,Go.Lib.compareBytes]
  |x::a,0,h=>by simp at h
  | x ::a,n+1,h=>by
    rw[Le1];by_cases hx:x=0
    · subst hx
      rw[cmpB_same];exact cmpB_ge0 a n (by simpa using h)
    · rw[cmpB_other hx]
      unfold cmpI;have:(0:UInt8).toNat=0:=rfl;split
      ·omega
      ·split<;>omega
theorem cmpB_lt0:∀(b:List UInt8) (n:Nat),b.length=n→¬b=List.replicate n 0→Cw (List.replicate n 0) b<0
  | [],n,h,hz=>by
    obtain rfl:n=0:=by simpa using h.symm
    exact absurd rfl hz
  |x::b,0,h,_=>by simp at h
  | x ::b,n+1,h,hz=>by
    rw[Le1]at hz ⊢;by_cases hx:x=0
    · subst hx
      rw[cmpB_same];exact cmpB_lt0 b n (by simpa using h) (fun e=>hz (by rw[e]))
    · rw[cmpB_other (Ne.symm hx)]
      unfold cmpI;have h0:(0:UInt8).toNat=0:=rfl;have h1:x.toNat≠0:=fun e=>hx (Lce.1 (by rw[e];rfl));rw[if_pos oM];decide
theorem head_zero(hl:∀l∈ls,l.length=32)(hk:k<ls.length)(h:ls.getD k []=List.replicate 32 0):headBad ls k=true:=by
  unfold headBad;rw[h];exact decide_eq_true (cmpB_ge0 _ 32 (lastH_length hl oM))
theorem head_first(hl:∀l∈ls,l.length=32)(hk:0<ls.length)(h:¬ls.getD 0 []=List.replicate 32 0):headBad ls 0=false:=by
  unfold headBad;have e:lastH ls 0=List.replicate 32 0:=if_pos rfl;rw[e];have:=cmpB_lt0 (ls.getD 0 []) 32 (Bf hl hk) h;exact decide_eq_false oM
theorem head_next(hk:0<k):headBad ls k=decide ((0:Int)≤Cw (ls.getD (k-1) []) (ls.getD k [])):=by
  unfold headBad;have e:lastH ls k=ls.getD (k-1) []:=if_neg oM;rw[e]
theorem r19_Check(C:Cut)(D:DCut):Mv 74 [agg C.cells] (fun W=>CutIs W C D) (i64 D.check):=by
 intro W hW;have hB:=hW.ok;have hcx:C.fHeads.n≤maxLen:=hW.fHeads.max;simp only[maxLen]at hcx;have hcn:=hW.fHeads.cap;have hll:=hW.fHeads.len;have eH:=hW.fHeight;have eP:=hW.fPrev;refine Ac func74 J 68 ntmps74 J (G3 ?_);intro n1 hn1 hf1;refine G5 ?_;refine .alloc (cs:=(Aa (List.replicate 32 0))) J Ck J ?_;intro n3 hn3 hf3;refine G4 ?_;refine .draw (oP [0,101,2,3,4,105,6,7,8,9,110,111,12,13,114,15,16,17,18,19,120,21,22,23,24,25,126,27,28,29]) Ao zK (G2 ?_);refine two (fun r hr k=>Tr.lss J J J J hr k) (fun hs2_20=>?_) (fun hs2_20=>?_)
 ·
  have hs2_2:=of_decide_eq_true hs2_20;refine G29 ?_;refine .cond_t J J (G5 ?_);refine G3 ?_;refine⟨_,[],Ae J J,sP,sP,?_,rfl⟩;exact congrArg i64 (cut_bad1 (by unfold cheadB;simp_all;try omega)).symm
 have hs2_2:=of_decide_eq_false hs2_20;refine G3 ?_;refine two (fun r hr k=>Tr.geq J J J J hr k) (fun hs2_60=>?_) (fun hs2_60=>?_)
 ·
  have hs2_6:=of_decide_eq_true hs2_60;refine G25 ?_;refine .cond_t J J (G5 ?_);refine G3 ?_;refine⟨_,[],Ae J J,sP,sP,?_,rfl⟩;exact congrArg i64 (cut_bad1 (by unfold cheadB;simp_all;try omega)).symm
 have hs2_6:=of_decide_eq_false hs2_60;refine G3 ?_;refine .lN (Aa _) J J J Y34.h J Sz34 Z1 (Cut.row_fPrev zA) (Cut.rl_fPrev zA) ?_;refine .lA J J J Y34.h J Sz34 Z0 sP ?_;refine .eql_bytes J J J J eqGuardType34 Y34.h Y5.h Sz5 (by(simp[hB.l_fPrev];done)) sP J ?_;refine G3 ?_;refine two (fun r hr k=>Tr.neb J J J J Y4 hr k) (fun hs2_160=>?_) (fun hs2_160=>?_)
 ·
  have hs2_16:=nd_t hs2_160;refine G15 ?_;refine .cond_t J J (G5 ?_);refine G3 ?_;refine⟨_,[],Ae J J,sP,sP,?_,rfl⟩;exact congrArg i64 (cut_bad1 (by unfold cheadB;simp_all;try omega)).symm
 have hs2_16:=nd_f hs2_160;refine G5 ?_;refine two (fun r hr k=>Tr.lss J J J J hr k) (fun hs2_220=>?_) (fun hs2_220=>?_)
 ·
  have hs2_22:=of_decide_eq_true hs2_220;refine G9 ?_;refine .cond_t J J (G5 ?_);refine G3 ?_;refine⟨_,[],Ae J J,sP,sP,?_,rfl⟩;exact congrArg i64 (cut_bad1 (by unfold cheadB;simp_all;try omega)).symm
 have hs2_22:=of_decide_eq_false hs2_220;refine G9 ?_;refine .condP J (fun hc0=>?_) (fun hc0=>?_)
 ·
  refine G5 ?_;refine G3 ?_;refine⟨_,[],Ae J J,sP,sP,?_,rfl⟩;exact congrArg i64 (cut_bad1 (by unfold cheadB;simp_all;try omega)).symm
 have hnb:¬cheadB D.dHeight D.dPrev D.dHeads.length=true:=by unfold cheadB;simp_all;try omega
 refine G9 ?_;refine .loop (ι:=Nat) (fun k=>⟨[(1,ptr n1 0),(3,ptr n3 0),(4,i64 (k:Int))],[⟨n3,Aa (List.replicate 32 0),34,32⟩,⟨n1,C.cells,57,C.cells.length⟩]⟩) (fun k=>k≤C.fHeads.n∧∀j,j<k→headBad D.dHeads j=false) (fun k=>C.fHeads.n-k) (0) ?_ ?_ ?_
 ·exact⟨by omega,fun j hj=>by omega⟩
 ·exact Ad wN (wh1 Z0 (wh1 Z1 wh0)) nD
 rintro k ⟨hk,hg⟩;refine G10 ?_;refine .condP J (fun hc1=>?_) (fun hc1=>?_)
 ·
  have hk2:k<C.fHeads.n:=by omega
  obtain⟨b,o,hbp,hbs⟩:=hW.fHeads.see.at (by rw[Ax hW.fHeads.row];omega);have hr0:(D.dHeads.getD k []).length=32:=Bf hW.fHeads.row oM;have hr1:(D.dHeads.getD (k-1) []).length=32:=Bf hW.fHeads.row oM;refine G2 ?_;refine .join (ι:=Unit) (fun _u=>⟨[(1,ptr n1 0),(3,ptr n3 0),(4,i64 (k:Int))],[⟨n3,Aa (List.replicate 32 0),34,32⟩,⟨n1,C.cells,57,C.cells.length⟩]⟩) (fun _u=>headBad D.dHeads k=false) ?_ ?_
  ·
   refine G2 ?_;refine .draw (oP [0,101,2,3,104,105,6,7,8,9,10,11,112,13,14,15,116,17,118,19,20,121,322,23,24,25]) Ao zK (G3 ?_);refine .idxSlP 32 J J J hbp J Y30.h Sz34 k J oM (.loadEN (Aa (D.dHeads.getD (k) [])) J J J Y34.h J Sz34 sP (by rw[Aa,La1];exact Bf hW.fHeads.row (by rw[hW.fHeads.len];omega)) (Bu hW.fHeads.row hbs (by rw[hW.fHeads.len];omega)) ?_);refine .lA J J J Y34.h J Sz34 Z0 sP ?_;refine two (fun r hr k=>Tr.eql_bytes J J J J eqGuardType34 Y34.h Y5.h Sz5 zA sP hr k) (fun hs7_60=>?_) (fun hs7_60=>?_)
   ·
    have hs7_6:=of_decide_eq_true hs7_60;refine G21 ?_;refine .cond_t J J (G5 ?_);refine G7 ?_;refine⟨_,[],Ae J J,sP,sP,?_,rfl⟩;exact congrArg i64 (cut_bad2 hnb (headsBad_at (k:=k) oM (head_zero hW.fHeads.row oM zA))).symm
   have hs7_6:=of_decide_eq_false hs7_60;refine G2 ?_;refine two (fun r hr k=>Tr.gtr J J J J hr k) (fun hs7_90=>?_) (fun hs7_90=>?_)
   ·
    have hs7_9:=of_decide_eq_true hs7_90;refine G5 ?_;refine .idxSlP 32 J J J hbp J Y30.h Sz34 (k-1) oM oM (.loadEN (Aa (D.dHeads.getD (k-1) [])) J J J Y34.h J Sz34 sP (by rw[Aa,La1];exact Bf hW.fHeads.row (by rw[hW.fHeads.len];omega)) (Bu hW.fHeads.row hbs (by rw[hW.fHeads.len];omega)) ?_);refine G3 ?_;refine .idxSlP 32 J J J hbp J Y30.h Sz34 k J oM (.loadEN (Aa (D.dHeads.getD (k) [])) J J J Y34.h J Sz34 sP (by rw[Aa,La1];exact Bf hW.fHeads.row (by rw[hW.fHeads.len];omega)) (Bu hW.fHeads.row hbs (by rw[hW.fHeads.len];omega)) ?_);refine .cV J J J J Body25 (r15_cmp _ _ hr1 hr0) tV (G5 ?_);refine .condP J (fun hc2=>?_) (fun hc2=>?_)
    ·
     refine G5 ?_;refine G7 ?_;refine⟨_,[],Ae J J,sP,sP,?_,rfl⟩;exact congrArg i64 (cut_bad2 hnb (headsBad_at (k:=k) oM ((head_next oM).trans (decide_eq_true oM)))).symm
    refine G3 ?_;refine⟨(),by exact(head_next oM).trans (decide_eq_false oM),Ad wN (wh1 Z0 (wh1 Z1 wh0)) nD⟩
   have hs7_9:=of_decide_eq_false hs7_90;refine G18 ?_;refine .cond_f J J (G3 ?_);refine⟨(),by(obtain rfl:=(show k=0 by omega);exact head_first hW.fHeads.row oM hs7_6),Ad wN (wh1 Z0 (wh1 Z1 wh0)) nD⟩
  intro _u hj;have hgk:=hj;refine G6 ?_;exact⟨k+1,⟨by omega,fun j hj=>by rcases Lcb.1 hj with h|rfl;exact hg j h;exact hgk⟩,by omega,Ad (wk1 rfl (wk1 rfl (wk1 (by rw[Lbr];rfl) wk0))) (wh1 Z0 (wh1 Z1 wh0)) nD⟩
 obtain rfl:k=C.fHeads.n:=by omega
 refine G10 ?_;refine G2 ?_;refine⟨_,[],Ae J J,sP,sP,?_,rfl⟩;exact congrArg i64 (cut_good hnb (headsBad_not (by rw[hll];exact hg))).symm
theorem cut_two{D:DCut}(h:¬D.check=0):D.check=2:=by
  unfold DCut.check at h ⊢;split
  ·rfl
  · split
    ·rfl
    ·rename_i h1 h2;rw[if_neg h1,if_neg h2]at h;exact absurd rfl h
theorem r19_Bytes(C:Cut)(D:DCut):Meets prog 70 [agg C.cells] [] (fun W=>CutIs W C D) (fun v out=>∃s,v= .tuple #[s.v,i64 D.check]∧Hw.Acc s out (Aa (cutR D)) 5 (cutR D).length 1):=by
 intro W hW;have hB:=hW.ok;have hll:=hW.fHeads.len;have hz1:=B1 C.fHeight.toNat;have hz2:=B1 (UInt64.ofNat C.fHeads.n).toNat;have hz3:=B1 D.dHeight.toNat;have hz4:=B1 (UInt64.ofNat D.dHeads.length).toNat;have hb0:=DCut.body_len (hW.fPrev▸hB.l_fPrev) hW.fHeads.row (Laj _);refine Ac func70 J 36 ntmps70 J (G3 ?_);intro n1 hn1 hf1;refine G8 ?_;refine .cV J J J J Body74 (r19_Check C D) (fun w h=>hW.ext h J) (G3 ?_);refine .condNP J (fun hc0=>?_) (fun hc0=>?_)
 ·
  refine G6 ?_;refine G3 ?_;refine Aw (out:=[]) (Cj J J J) Ai ?_;exact⟨Sl.nil,by rw[cut_two hc0];rfl,by rw[show cutR D=[]from if_neg hc0];exact Acc.none⟩
 have hc:D.check=0:=by omega
 have hsm:=D.small hc;refine G3 ?_;refine .draw (oP [0,101,3,4,402,405,6]) Ao zK (G4 ?_);refine .call4 J J J J J Body134 (r1_Number none 0 0 [] C.fHeight J (fun _=>rfl) dE) (fun _ _=>SeesP.nil) ?_;rintro v11 out11 ⟨q11,c11,rfl,hc11,rfl⟩;refine .appendAcc (z:=u8 0) (by':=1) (Aa C.fPrev) J J J J J Y46.h Y46.h Sz5 Zr5 (by unfold By;kernel_rfl) J (Acc.some (cells:=Aa ([]++numB C.fHeight)) hc11 (by simp[Bj])) sG (fun W2 W2h=>SeesP.of (sees_part W2h Z1 (Cut.see_fPrev hB))) (fun e=>by cases e) (Ay _) oM oM (by simp[hB.l_fPrev]) ?_;intro s14 bl14 hac14;refine G10 ?_;have hn14:=hac14.num;rw[word_nat (n:=C.fHeads.n) oM];refine .call4 J J J J J Body134 (r1_Number s14.p s14.n s14.c ([]++numB C.fHeight++C.fPrev) (UInt64.ofNat C.fHeads.n) (by rw[hn14,La4,hB.l_fPrev];simp[Bj]) (fun e=>hac14.nil e) oM) (fun w h=>by have:=hac14.see (Lies.of h (by repeat(exact A4)));rwa[←C5]at this) ?_;rintro v20 out20 ⟨q20,c20,rfl,hc20,rfl⟩;rw[show s14.n+szN (UInt64.ofNat C.fHeads.n).toNat=szN D.dHeight.toNat+32+szN (UInt64.ofNat D.dHeads.length).toNat+0*32 by rw[hn14,←hW.fHeight,hll];omega]at hc20 ⊢;rw[show[]++numB C.fHeight++C.fPrev++numB (UInt64.ofNat C.fHeads.n)=D.body 0 by rw[DCut.body,hW.fHeight,hW.fPrev,hll];simp];refine G10 ?_;refine .loop (ι:=Nat×Sl×List Blk) (fun p=>⟨[(1,ptr n1 0),(4,p.2.1.v),(5,i64 (p.1:Int))],(p.2.2++(⟨n1,C.cells,57,C.cells.length⟩::[]))⟩) (fun p=>p.1≤C.fHeads.n∧Hw.Acc p.2.1 p.2.2 (Aa (D.body p.1)) 5 (szN D.dHeight.toNat+32+szN (UInt64.ofNat D.dHeads.length).toNat+p.1*32) 1) (fun p=>C.fHeads.n-p.1) ((0,⟨some ⟨q20,0,none⟩,szN D.dHeight.toNat+32+szN (UInt64.ofNat D.dHeads.length).toNat+0*32,c20⟩,[⟨q20,Aa (D.body 0),5,c20*1⟩])) ?_ ?_ ?_
 ·exact⟨Laj _,Acc.some hc20 (by rw[Aa,La1,hb0,Lb4])⟩
 ·exact An wN (pm_one9 (Ab rM (Ab (by repeat(first|exact Az|apply Ce)) Ai)))
 rintro p ⟨hp1,hap⟩;refine G10 ?_;refine .condP J (fun hc1=>?_) (fun hc1=>?_)
 ·
  have hk2:p.1<C.fHeads.n:=by omega
  obtain⟨b,o,hbp,hbs⟩:=hW.fHeads.see.at (by rw[Ax hW.fHeads.row];omega);have hr0:(D.dHeads.getD p.1 []).length=32:=Bf hW.fHeads.row oM;refine G9 ?_;refine .idxSlP 32 J J J hbp J Y30.h Sz34 p.1 J oM (G1 ?_);refine .appendAcc (z:=u8 0) (by':=1) (Aa (D.dHeads.getD p.1 [])) J J J J J Y46.h Y46.h Sz5 Zr5 (by unfold By;kernel_rfl) J hap sG (fun w h=>A2 h J (SeesP.of (Bu hW.fHeads.row hbs (by rw[hll];omega)))) (fun e=>by cases e) (Ay _) oM oM (by rw[Aa,La1,hr0]) ?_;intro s34 bl34 hac34;refine G10 ?_;refine⟨(p.1+1,s34,bl34),⟨by simp only[];omega,?_⟩,by simp only[];omega,An (wk1 J (wk1 J (wk1 (by rw[Lbr];rfl) wk0))) (Af sG (Ab rM Ai))⟩;rw[show(szN D.dHeight.toNat+32+szN (UInt64.ofNat D.dHeads.length).toNat+(p.1+1)*32)=(szN D.dHeight.toNat+32+szN (UInt64.ofNat D.dHeads.length).toNat+p.1*32)+32 by omega,DCut.body_step oM,C5];exact hac34
 have hpe:p.1=C.fHeads.n:=by omega
 refine G12 ?_;refine G2 ?_;refine Aw (out:=(p.2.2++[])) (Cj J J J) (Af sG Ai) ?_;refine⟨p.2.1,by rw[hc],?_⟩;rw[show cutR D=D.bytes from if_pos hc];rw[hpe,←hll]at hap;rw[show D.bytes.length=szN D.dHeight.toNat+32+szN (UInt64.ofNat D.dHeads.length).toNat+D.dHeads.length*32 from DCut.body_len (hW.fPrev▸hB.l_fPrev) hW.fHeads.row (Lae _),Lat];exact hap
theorem cons_of'{α:Type}{l:List α}(h:l.length=n+1):∃a l',l=a::l'∧l'.length=n:=by
  cases l with
  |nil=>simp at h
  |cons a l=>exact⟨a,l,rfl,by simpa using h⟩
theorem build_cut(x:UInt64){l:List UInt8}(h:l.length=32)(w:World):(Instr.build 57 #[(0,u64 x),(1,agg (Aa l))]).run prog w= .ok (agg ({ Cut.zero with fHeight:=x,fPrev:=l }:Cut).cells) w:=by
  iterate 32 (obtain⟨a,l,e,h2⟩:=cons_of' h;clear h;subst e;have h:=h2;clear h2)
  obtain rfl:=Laa h
  (refine Eq.trans ?_ rfl;kernel_rfl)
theorem digs_pos(ha:a≤xs.length)(h:(A6 xs k a e).2.2=0):(A6 xs k a e).2.1=a+32*k∧a+32*k≤xs.length:=by
  obtain⟨ls,p,hd⟩:∃ls p,A6 xs k a e=(ls,p):=⟨_,_,rfl⟩;obtain⟨a1,e1⟩:=p;have hat:=digsR_at (xs:=xs) (a:=a) (N:=xs.length) (e:=e) rfl ha k;rw[hd]at h hat ⊢;simp only at h hat ⊢;subst h;obtain⟨_,h2,h3⟩:=digs_bwd _ _ _ hd;have h4:=congrArg List.length h3;rw[La4,Lc3,Lc3,flat329 hat.2.1,h2]at h4;omega
theorem digs_more{xs:List UInt8}{a:Nat}{e:Int}(k:Nat):∀m,¬(A6 xs k a e).2.2=0→¬(A6 xs (k+m) a e).2.2=0
  |0,h=>h
  | m+1,h=>by
    have ih:=digs_more k m h;rw[←Lcc,A6];unfold digR;rw[if_pos ih];exact ih
theorem cutRd_many(h:¬((cutP xs).2.2=0∧(cutP xs).1.dHeads.length≤32)):cutRd xs=(DCut.zero,4):=by
  refine if_neg fun hg=>h ⟨?_,(cutP xs).1.small hg.2⟩;have he:=hg.1;unfold endR at he;split at he
  ·assumption
  ·rename_i h1;exact absurd he h1
theorem r19_Name(C:Cut)(D:DCut):Mv 69 [agg C.cells] (fun W=>CutIs W C D) (agg (Aa (cnameD D))):=by
 intro W hW;have hok:=hW.ok;obtain⟨k,hk⟩:∃k,Hid (kW=k):=⟨_,⟨rfl⟩⟩;obtain⟨s0,hs0⟩:∃s0,Hid (xorUp 8=s0):=⟨_,⟨rfl⟩⟩;obtain⟨G,hG⟩:∃G,Hid (shaTag=G):=⟨_,⟨rfl⟩⟩;obtain⟨i0,hi0⟩:∃i0,Hid (allW k s0 G=i0):=⟨_,⟨rfl⟩⟩;have hk80:k.length=80:=by rw[←hk.out];rfl
 have hs8:s0.length=8:=by rw[←hs0.out];exact xorUp_length 8
 have hGl:G.length=11:=by rw[←hG.out];rfl
 have hi8:i0.length=8:=by rw[←hi0.out,allW_length];exact hs8
 obtain⟨r,hr⟩:∃r,Hid (allW k i0 (D.bytes)=r):=⟨_,⟨rfl⟩⟩;obtain⟨s,hs⟩:∃s,Hid (sumUp r 64=s):=⟨_,⟨rfl⟩⟩;have hsd:Hid (s.take 32=sha256 (D.bytes)):=⟨by rw[←hs.out,←hr.out,←hi0.out,←hG.out,←hs0.out,←hk.out];rfl⟩;have hs64:s.length=64:=by rw[←hs.out];exact Cb r 64
 have hs32:(s.take 32).length=32:=by rw[Lag,hs64];rfl
 refine Ac func69 J 16 ntmps69 J (G3 ?_);intro n1 hn1 hf1;refine .alloc (cs:=(Aa (List.replicate 32 0))) J Ck J ?_;intro n2 hn2 hf2;refine G5 ?_;refine .call4 J J J J J Body70 (r19_Bytes C D) (fun w h=>hW.ext h J) ?_;rintro v7 out7 ⟨s7,rfl,hac7⟩;refine G11 ?_;refine two (fun r hr k=>Tr.nei J J J J hr k) (fun hs2_10=>?_) (fun hs2_10=>?_)
 ·
  have hs2_1:=nd_t hs2_10;skip;refine G2 ?_;refine .cond_t J J (G2 ?_);refine .build (cs:=Aa (List.replicate 32 0)) J J J (fun w=>by kernel_rfl) ?_;refine .sA J J J J zE Sz34 sP mR sP (by(repeat(first|exact upd0|apply Upd.seg))) ?_;refine G2 ?_;refine G3 ?_;refine⟨_,[],Am J J Y34.h J Sz34 mR sP,sP,sP,?_,rfl⟩
  (rw[cnameD,if_neg hs2_1];done)
 have hs2_1:=nd_f hs2_10;have h0:D.check=0:=by omega
 have hb7:cutR D=D.bytes:=if_pos h0;refine G2 ?_;refine .cond_f J J (G5 ?_);refine .mkRow (z:= .slice none 0 0) [s7.v] [s7.v] rfl J J Y183.h Sz46 Zr46 J J (by intro v hv;rw[La0.1 hv];rfl) dE J ?_;intro q14;refine .cV J J J J Body122 (r2_Sum k s0 i0 G hk hk80 hs0 hs8 hG hGl hi0 hi8 (some ⟨q14,0,none⟩) 1 1 [s7] [D.bytes] rfl J (fun j hj=>(by obtain rfl:j=0:=oM;exact⟨by simp[hac7.num,hb7],fun e=>hac7.nil e⟩)) D.bytes sP (by have:=D.bytes_small h0 (hW.fPrev▸hW.ok.l_fPrev) hW.fHeads.row;omega) dE r hr s hs) (fun w h=>⟨SeesP.of (Ap h Z0),fun j hj=>(by obtain rfl:j=0:=oM;exact(by have:=hac7.see (Lies.of h (by repeat(first|exact A4|refine Bl ?_)));rw[hb7]at this;exact this))⟩) ?_;refine .sA J J J J zE Sz34 (by(simp[hs64];done)) mR sP uU ?_;refine G2 ?_;refine G2 ?_;refine⟨_,[],Am J J Y34.h J Sz34 mR (by simp[hs64]),sP,sP,?_,rfl⟩
 (rw[cnameD,if_pos h0,hsd.out];done)
theorem digs_len(xs:List UInt8):∀(k a:Nat) (e:Int),(A6 xs k a e).1.length=k
  |0,a,e=>rfl
  | k+1,a,e=>by
    have:=digs_len xs k a e;simp[A6,this]
theorem endR_zero(h:endR n a e=0):e=0:=by
  unfold endR at h;split at h
  ·assumption
  ·rename_i h1;exact absurd h h1
section
variable{xs:List UInt8}{x1 x3:UInt64}{l2:List UInt8}{a3 k:Nat}{e3:Int}{out:List Blk}{C:Cut}
theorem r19_same(hcp:cutP xs=(⟨x1,l2,(A6 xs (min x3.toNat 33) a3 e3).1⟩,(A6 xs (min x3.toNat 33) a3 e3).2))(hf:k=x3.toNat∨¬(A6 xs k a3 e3).2.2=0)(hk:k≤x3.toNat):
    (cutRd xs=(DCut.zero,4)∧(¬endR xs.length (A6 xs k a3 e3).2.1 (A6 xs k a3 e3).2.2=0∨¬(⟨x1,l2,(A6 xs k a3 e3).1⟩:DCut).check=0))∨k=min x3.toNat 33:=by
  by_cases hm:k=min x3.toNat 33
  ·exact .inr hm
  · refine .inl ?_
    by_cases he:(A6 xs k a3 e3).2.2=0
    · have hk2:k=x3.toNat:=by
        rcases hf with h|h
        ·exact h
        ·exact absurd he h
      have h33:min x3.toNat 33=33:=by omega
      have hl33:(A6 xs 33 a3 e3).1.length=33:=digs_len xs 33 a3 e3;refine⟨cutRd_many ?_, .inr fun hc=>?_⟩
      · rw[hcp,h33]
        simp only[hl33];omega
      · have:=DCut.small hc
        have hlk:(A6 xs k a3 e3).1.length=k:=digs_len xs k a3 e3;simp only[hlk]at this;omega
    · refine⟨cutRd_many ?_, .inl fun h=>he (endR_zero h)⟩
      rw[hcp];simp only;rintro⟨h1,h2⟩;rw[digs_len]at h2;have hle:k≤min x3.toNat 33:=by omega
      have:=digs_more (xs:=xs) (a:=a3) (e:=e3) k (min x3.toNat 33-k) he;rw[show k+(min x3.toNat 33-k)=min x3.toNat 33 by omega]at this;exact this h1
theorem r19_fin1(hcp:cutP xs=(⟨x1,l2,(A6 xs (min x3.toNat 33) a3 e3).1⟩,(A6 xs (min x3.toNat 33) a3 e3).2))(hf:k=x3.toNat∨¬(A6 xs k a3 e3).2.2=0)(hk:k≤x3.toNat)(hb:¬(endR xs.length (A6 xs k a3 e3).2.1 (A6 xs k a3 e3).2.2=0∧(⟨x1,l2,(A6 xs k a3 e3).1⟩:DCut).check=0)):CutRead xs (.tuple #[agg Cut.zero.cells,i64 4]) out:=by
  rcases r19_same hcp hf hk with ⟨h,_⟩|h
  ·exact⟨Cut.zero,Cut.zero_ok,by rw[h],fun W2 _=>by rw[h];exact cutz_is W2⟩
  · refine cut_bad ?_
    rw[hcp,←h];exact hb
theorem r19_fin3(hcp:cutP xs=(⟨x1,l2,(A6 xs (min x3.toNat 33) a3 e3).1⟩,(A6 xs (min x3.toNat 33) a3 e3).2))(hf:k=x3.toNat∨¬(A6 xs k a3 e3).2.2=0)(hk:k≤x3.toNat)(h1:endR xs.length (A6 xs k a3 e3).2.1 (A6 xs k a3 e3).2.2=0)(h2:(⟨x1,l2,(A6 xs k a3 e3).1⟩:DCut).check=0)(hok:C.ok)(hC:∀W2,Lies out W2→CutIs W2 C ⟨x1,l2,(A6 xs k a3 e3).1⟩):CutRead xs (.tuple #[agg C.cells,i64 0]) out:=by
  rcases r19_same hcp hf hk with ⟨_,h|h⟩|h
  ·exact absurd h1 h
  ·exact absurd h2 h
  ·refine cut_ok (by rw[hcp,←h];exact⟨h1,h2⟩) hok (fun W2 hl=>by rw[hcp,←h];exact hC W2 hl)
end
theorem r19_Read(pa:Option Addr)(n c:Nat)(xs:List UInt8)(hl:xs.length=n)(hp:pa=none→n=0)(hn:n≤90000):Meets prog 71 [.slice pa n c] [] (fun W=>SeesP W pa (Aa xs)) (CutRead xs):=by
 intro W hW;obtain⟨x1,r1,h1⟩:∃l r,numR xs 0 0=(l,r):=⟨_,_,rfl⟩;obtain⟨a1,e1⟩:=r1;obtain⟨l2,r2,h2⟩:∃l r,digR xs a1 e1=(l,r):=⟨_,_,rfl⟩;obtain⟨a2,e2⟩:=r2;obtain⟨x3,r3,h3⟩:∃l r,numR xs a2 e2=(l,r):=⟨_,_,rfl⟩;obtain⟨a3,e3⟩:=r3;have hcp:cutP xs=(⟨x1,l2,(A6 xs (min x3.toNat 33) a3 e3).1⟩,(A6 xs (min x3.toNat 33) a3 e3).2):=by simp only[cutP,h1,h2,h3]
 have hd1:=numE_le h1 hl (Laj _);have hd2:=digE_le h2 hl hd1;have hd3:=numE_le h3 hl hd2.1;have ok1:({ Cut.zero with fHeight:=x1,fPrev:=l2 }:Cut).ok:=⟨hd2.2⟩;have okX:∀s,({ Cut.zero with fHeight:=x1,fPrev:=l2,fHeads:=s }:Cut).ok:=fun s=>⟨hd2.2⟩;refine Ac func71 J 46 ntmps71 J (G2 ?_);refine .alloc (cs:=Cut.zero.cells) J Cut.zr J ?_;intro n2 hn2 hf2;refine G6 ?_;refine .call4 J J J J J Body135 (r1_Read pa n c xs hl hp hn) (fun w h=>A2 h J hW) ?_;rintro v9 out9 ⟨n9,q9,cp9,rfl,hcp9,rfl⟩;refine .nd (fun hnd=>?_);have hne:q9≠n9:=by intro e;simp[R1B,e]at hnd
 clear hnd;refine G6 ?_;refine .callL (L:=[R1B n9 q9 (0) n cp9 (0) (0)]) J J J J J Body136 (r1_NumberE n9 q9 0 n cp9 0 0 xs hl (Laj _) hcp9 oM (fun _=>rfl) x1 a1 e1 h1) (Ab rM Ai) (Cf J) (fun w h=>⟨Bg h Z0,Ap h Z1,hne⟩) ?_;rintro v11 out11 ⟨o11,ho11,rfl,rfl⟩;refine G1 ?_;refine .callL (L:=[R1B n9 q9 (o11) n cp9 (a1) (e1)]) J J J J J Body137 (r1_DigestE n9 q9 o11 n cp9 a1 e1 xs hl hd1 hcp9 oM ho11 l2 a2 e2 h2) (Ab rM Ai) (Cf J) (fun w h=>⟨Bg h Z0,Ap h Z1,hne⟩) ?_;rintro v13 out13 ⟨o13,ho13,rfl,rfl⟩;refine .build (cs:=({ Cut.zero with fHeight:=x1,fPrev:=l2 }:Cut).cells) J J J (fun w=>by exact build_cut x1 hd2.2 w) ?_;refine .alloc (cs:=Cut.zero.cells) J Cut.zr J ?_;intro n5 hn5 hf5;refine G6 ?_;refine .callL (L:=[R1B n9 q9 (o13) n cp9 (a2) (e2)]) J J J J J Body136 (r1_NumberE n9 q9 o13 n cp9 a2 e2 xs hl hd2.1 hcp9 oM ho13 x3 a3 e3 h3) (Ab rM Ai) (Cf J) (fun w h=>⟨Bg h Z1,Ap h Z2,hne⟩) ?_;rintro v16 out16 ⟨o16,ho16,rfl,rfl⟩;refine G6 ?_;refine .a J J (show Ag _ _=some (u64 0)from rfl) (G3 ?_);refine .loop (ι:=Nat×Nat×Sl×List Blk) (fun p=>⟨[(2,ptr n2 0),(3,i64 0),(4,ptr n9 0),(5,ptr n5 0),(6,u64 x3),(7,u64 (UInt64.ofNat p.1))],(R1B n9 q9 p.2.1 n cp9 (A6 xs p.1 a3 e3).2.1 (A6 xs p.1 a3 e3).2.2::(⟨q9,Aa xs,5,cp9*1⟩::(⟨n5,({ Cut.zero with fHeight:=x1,fPrev:=l2,fHeads:=p.2.2.1 }:Cut).cells,57,34⟩::(⟨n2,Cut.zero.cells,57,34⟩::(p.2.2.2++[])))))⟩) (fun p=>p.1≤x3.toNat∧At1 cp9 (A6 xs p.1 a3 e3).2.1 p.2.1∧Hw.Acc p.2.2.1 p.2.2.2 (A3 (A6 xs p.1 a3 e3).1) 34 p.1 32∧p.1≤2900) (fun p=>x3.toNat-p.1) ((0,o16,Sl.nil,[])) ?_ ?_ ?_
 ·exact⟨Laj _,ho16,Acc.none,Laj _⟩
 ·exact An wN (Ab rM (Ab rM (Ab rM (Ab rM (pm_none Ai)))))
 rintro p ⟨hp1,hop,hac,hk9⟩;have hk6:p.1≤1000000:=by omega
 have hj64:(UInt64.ofNat p.1).toNat=p.1:=ofNat_nat oM;have hD:=digsR_at (e:=e3) hl hd3 p.1;obtain⟨l8,r8,hd8⟩:∃l r,digR xs (A6 xs p.1 a3 e3).2.1 (A6 xs p.1 a3 e3).2.2=(l,r):=⟨_,_,rfl⟩;obtain⟨a8,e8⟩:=r8;have hdl:=digE_le hd8 hl hD.1;have hs8:=digsR_succ hd8;refine G5 ?_;refine two (fun r hr k=>Tr.lss J J J J hr k) (fun hs5_20=>?_) (fun hs5_20=>?_)
 ·
  have hs5_2:=of_decide_eq_true hs5_20;refine G5 ?_;refine two (fun r hr k=>Tr.eqi J J J J hr k) (fun hs5_80=>?_) (fun hs5_80=>?_)
  ·
   have hs5_8:=of_decide_eq_true hs5_80;refine G3 ?_;refine .cond_t J J (G4 ?_);refine .drawK (sp_v (sp_v (sp_k (sp_v (sp_x sp_n))))) J (oP [0,1,2,403,204,405,6]) [(4,7)] Ao zK zK (G1 ?_);refine .kload1 J J J Y30.h J Z0 (by exact Cut.get_fHeads (by exact okX _)) ?_;refine G1 ?_;refine .callL (L:=[R1B n9 q9 p.2.1 n cp9 (A6 xs p.1 a3 e3).2.1 (A6 xs p.1 a3 e3).2.2]) J J J J J Body137 (r1_DigestE n9 q9 p.2.1 n cp9 (A6 xs p.1 a3 e3).2.1 (A6 xs p.1 a3 e3).2.2 xs hl hD.1 hcp9 oM hop l8 a8 e8 hd8) (Ab rM Ai) (Cf J) (fun w h=>⟨Bg h Z0,Ap h Z1,hne⟩) ?_;rintro v40 out40 ⟨o40,ho40,rfl,rfl⟩;refine .mkRow2 (z:=agg (Aa (List.replicate 32 0))) [agg (Aa l8)] (Aa l8) J J Y30.h Sz34 Ck J J (by intro v hv;rw[La0.1 hv];simp[Value.cells,hdl.2]) dE (by simp[Value.cells]) ?_;intro q41;refine .appendAcc (z:=agg (Aa (List.replicate 32 0))) (by':=32) (Aa l8) J J J J J Y30.h Y30.h Sz34 Ck (by unfold By;kernel_rfl) J hac sG (fun w h=>SeesP.of (Ap h Z0)) (fun e=>by cases e) (Ay _) oM oM (by simp[Aa,hdl.2]) ?_;intro s42 bl42 hac42;refine G2 ?_;refine .s1 J J J J J Sz30 Z0 (by rw[Cut.length (by exact okX _)];decide) (by exact Cut.set_fHeads (by exact okX _) _) zU ?_;refine G5 ?_;refine .add_u64 J J J (show Ag _ _=some (u64 1)from rfl) (G3 ?_);refine⟨(p.1+1,o40,s42,bl42),⟨by simp only[];omega,by simp only[hs8];exact ho40,?_,by have:=(digs_pos oM hs5_8).2;simp only[];omega⟩,by simp only[];omega,An (wk1 J (wk1 J (wk1 J (wk1 J (wk1 J (wk1 (congrArg (fun z=>some (u64 z)) (ofNat_step _)) wk0)))))) (pm_consE rM (by simp only[hs8]) J (Ab rM (Ab rM (Ab rM (Af sG Ai)))))⟩;simp only[hs8];rw[flatB_append];simpa[A3]using hac42
  have hs5_8:=of_decide_eq_false hs5_80;refine G3 ?_;refine .cond_f J J (G9 ?_);refine .cV J J J J Body138 (r1_End n9 q9 p.2.1 n cp9 (A6 xs p.1 a3 e3).2.1 (A6 xs p.1 a3 e3).2.2 hD.1 oM) (fun w h=>Bg h Z0) ?_;refine two (fun r hr k=>Tr.nei J J J J hr k) (fun hs8_20=>?_) (fun hs8_20=>?_)
  ·
   have hs8_2:=nd_t hs8_20;refine G7 ?_;refine .cond_t J J (G2 ?_);refine .build (cs:=Cut.zero.cells) J J J (fun w=>by kernel_rfl) ?_;refine G4 ?_;refine G3 ?_;refine Aw (out:=(p.2.2.2++[])) (Bd J J J Y57.h J Sz57 Z3 (by exact Cut.length (by exact Cut.zero_ok))) (Af sG Ai) ?_;have hfin:(p.1=x3.toNat∨¬(A6 xs p.1 a3 e3).2.2=0):=by(right;assumption)
   exact r19_fin1 hcp hfin hp1 (by rw[hl];exact fun h=>hs8_2 h.1)
  have hs8_2:=nd_f hs8_20;refine G2 ?_;refine .cV J J J J Body74 (r19_Check ({ Cut.zero with fHeight:=x1,fPrev:=l2,fHeads:=p.2.2.1 }:Cut) ⟨x1,l2,(A6 xs p.1 a3 e3).1⟩) (fun w h=>⟨okX _,rfl,rfl,acc_rows hac (Lies.of h (by repeat(first|exact A4|refine Bl ?_))) hD.2.1 hD.2.2 hk6⟩) ?_;refine G4 ?_;refine .condNP J (fun hc1=>?_) (fun hc1=>?_)
  ·
   refine G2 ?_;refine .build (cs:=Cut.zero.cells) J J J (fun w=>by kernel_rfl) ?_;refine G4 ?_;refine G3 ?_;refine Aw (out:=(p.2.2.2++[])) (Bd J J J Y57.h J Sz57 Z3 (by exact Cut.length (by exact Cut.zero_ok))) (Af sG Ai) ?_;have hfin:(p.1=x3.toNat∨¬(A6 xs p.1 a3 e3).2.2=0):=by(right;assumption)
   exact r19_fin1 hcp hfin hp1 (by rw[hl];exact fun h=>hc1 h.2)
  refine G9 ?_;refine G2 ?_;refine Aw (out:=(p.2.2.2++[])) (Bd J J J Y57.h J Sz57 Z3 (by exact Cut.length (by exact okX _))) (Af sG Ai) ?_;have hfin:(p.1=x3.toNat∨¬(A6 xs p.1 a3 e3).2.2=0):=by(right;assumption)
  exact r19_fin3 hcp hfin hp1 (by rw[hl];exact hs8_2) hc1 (okX _) (fun W2 h2=>⟨okX _,rfl,rfl,acc_rows hac (h2.sub A4) hD.2.1 hD.2.2 hk6⟩)
 have hs5_2:=of_decide_eq_false hs5_20;refine G9 ?_;refine .cond_f J J (G9 ?_);refine .cV J J J J Body138 (r1_End n9 q9 p.2.1 n cp9 (A6 xs p.1 a3 e3).2.1 (A6 xs p.1 a3 e3).2.2 hD.1 oM) (fun w h=>Bg h Z0) ?_;refine two (fun r hr k=>Tr.nei J J J J hr k) (fun hs8_20=>?_) (fun hs8_20=>?_)
 ·
  have hs8_2:=nd_t hs8_20;refine G7 ?_;refine .cond_t J J (G2 ?_);refine .build (cs:=Cut.zero.cells) J J J (fun w=>by kernel_rfl) ?_;refine G4 ?_;refine G3 ?_;refine Aw (out:=(p.2.2.2++[])) (Bd J J J Y57.h J Sz57 Z3 (by exact Cut.length (by exact Cut.zero_ok))) (Af sG Ai) ?_;have hfin:(p.1=x3.toNat∨¬(A6 xs p.1 a3 e3).2.2=0):=by(left;omega)
  exact r19_fin1 hcp hfin hp1 (by rw[hl];exact fun h=>hs8_2 h.1)
 have hs8_2:=nd_f hs8_20;refine G2 ?_;refine .cV J J J J Body74 (r19_Check ({ Cut.zero with fHeight:=x1,fPrev:=l2,fHeads:=p.2.2.1 }:Cut) ⟨x1,l2,(A6 xs p.1 a3 e3).1⟩) (fun w h=>⟨okX _,rfl,rfl,acc_rows hac (Lies.of h (by repeat(first|exact A4|refine Bl ?_))) hD.2.1 hD.2.2 hk6⟩) ?_;refine G4 ?_;refine .condNP J (fun hc1=>?_) (fun hc1=>?_)
 ·
  refine G2 ?_;refine .build (cs:=Cut.zero.cells) J J J (fun w=>by kernel_rfl) ?_;refine G4 ?_;refine G3 ?_;refine Aw (out:=(p.2.2.2++[])) (Bd J J J Y57.h J Sz57 Z3 (by exact Cut.length (by exact Cut.zero_ok))) (Af sG Ai) ?_;have hfin:(p.1=x3.toNat∨¬(A6 xs p.1 a3 e3).2.2=0):=by(left;omega)
  exact r19_fin1 hcp hfin hp1 (by rw[hl];exact fun h=>hc1 h.2)
 refine G9 ?_;refine G2 ?_;refine Aw (out:=(p.2.2.2++[])) (Bd J J J Y57.h J Sz57 Z3 (by exact Cut.length (by exact okX _))) (Af sG Ai) ?_;have hfin:(p.1=x3.toNat∨¬(A6 xs p.1 a3 e3).2.2=0):=by(left;omega)
 exact r19_fin3 hcp hfin hp1 (by rw[hl];exact hs8_2) hc1 (okX _) (fun W2 h2=>⟨okX _,rfl,rfl,acc_rows hac (h2.sub A4) hD.2.1 hD.2.2 hk6⟩)
end Go.Proofs.YtpogmfngccolbaaGreat
end
