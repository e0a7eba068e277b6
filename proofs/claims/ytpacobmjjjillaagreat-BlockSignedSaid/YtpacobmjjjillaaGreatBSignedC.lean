/- headwaterlaw15.BlockSigned returns true at every input, and all that it reads reads behind the call as before. Conditions: none beyond the given statement's own. -/
import Derived.WalkKit
import Derived.Orders
import Derived.Deep.LoopGhost
import Derived.IntWalk
import Derived.Laws.StructEq
import Derived.Test.YtpacobmjjjillaaGreatRows
import Derived.KernelRfl
import Derived.ArgAppend
import Derived.Deep.AppendSrc
import Derived.Lib.Bytealg
import Derived.Lib.BytesEntry
import Derived.Laws.IdiomStrings
import Derived.Laws.Externs
import Derived.WideKeyArr2
import Derived.ProofKit
import Derived.OpenShut
import Derived.Deep.Slices
import Derived.Laws.Pointers
import Derived.Laws.Cover3
import Derived.LaidEqlPtr
import Derived.LoopN
import Derived.RangeFuncLeaves
import Derived.RangeFuncSeq
import Derived.OrdersIn
import Derived.Defers
import Derived.Laws.MathBits
import Derived.ChangeOld
import Derived.Below
import Derived.Test.YtpacobmjjjillaaGreatBSignedC4
set_option maxRecDepth 100000
set_option maxHeartbeats 8000000
section
namespace Go.Proofs.YtpacobmjjjillaaGreat
open Go Hw
set_option linter.unusedVariables false
set_option linter.unusedSimpArgs false

open Ed

/-- three words of ten that fit, and what they mean -/
structure FarFit (u : far) : Prop where
  x : Fit10 u.fX
  y : Fit10 u.fY
  z : Fit10 u.fZ
theorem FarFit.ok {x : far} (h : FarFit x) : x.ok := ⟨h.x.len, h.y.len, h.z.len⟩
def farV (x : far) : Fr Fp := ⟨fe (v10 x.fX), fe (v10 x.fY), fe (v10 x.fZ)⟩
structure FarRep (x : far) (P : Pt Fp) : Prop where
  fit : FarFit x
  rep : (farV x).rep P
def frA (p q : far) : List Nat := mulT p.fZ q.fZ
def frM (d : List Nat) (p q : far) : List Nat := mulT d (mulT (mulT p.fX q.fX) (mulT p.fY q.fY))
def frB (p q : far) : List Nat := plusT (mulT p.fX q.fX) (mulT p.fY q.fY)
def frC (p q : far) : List Nat := minusT (mulT (plusT p.fX p.fY) (plusT q.fX q.fY)) (frB p q)
def frF (d : List Nat) (p q : far) : List Nat := minusT (mulT (frA p q) (frA p q)) (frM d p q)
def frG (d : List Nat) (p q : far) : List Nat := plusT (mulT (frA p q) (frA p q)) (frM d p q)
def frT (d : List Nat) (p q : far) : far := ⟨mulT (frA p q) (mulT (frF d p q) (frC p q)), mulT (frA p q) (mulT (frG d p q) (frB p q)), mulT (frF d p q) (frG d p q)⟩
section
variable {d : List Nat} {p q : far}
theorem frA_fit (hp : FarFit p) (hq : FarFit q) : Fit10 (frA p q) := mulT_fit hp.z hq.z
theorem frM_fit (hd : Fit10 d) (hp : FarFit p) (hq : FarFit q) : Fit10 (frM d p q) := mulT_fit hd (mulT_fit (mulT_fit hp.x hq.x) (mulT_fit hp.y hq.y))
theorem frB_fit (hp : FarFit p) (hq : FarFit q) : Fit10 (frB p q) := plusT_fit (mulT_fit hp.x hq.x) (mulT_fit hp.y hq.y)
theorem frC_fit (hp : FarFit p) (hq : FarFit q) : Fit10 (frC p q) := minusT_fit (mulT_fit (plusT_fit hp.x hp.y) (plusT_fit hq.x hq.y)) (frB_fit hp hq)
theorem frF_fit (hd : Fit10 d) (hp : FarFit p) (hq : FarFit q) : Fit10 (frF d p q) := minusT_fit (mulT_fit (frA_fit hp hq) (frA_fit hp hq)) (frM_fit hd hp hq)
theorem frG_fit (hd : Fit10 d) (hp : FarFit p) (hq : FarFit q) : Fit10 (frG d p q) := plusT_fit (mulT_fit (frA_fit hp hq) (frA_fit hp hq)) (frM_fit hd hp hq)
theorem frT_fit (hd : Fit10 d) (hp : FarFit p) (hq : FarFit q) : FarFit (frT d p q) :=
  ⟨mulT_fit (frA_fit hp hq) (mulT_fit (frF_fit hd hp hq) (frC_fit hp hq)), mulT_fit (frA_fit hp hq) (mulT_fit (frG_fit hd hp hq) (frB_fit hp hq)), mulT_fit (frF_fit hd hp hq) (frG_fit hd hp hq)⟩
theorem mv {x y : List Nat} (hx : Fit10 x) (hy : Fit10 y) : fe (v10 (mulT x y)) = fe (v10 x) * fe (v10 y) := mulT_v hx.len hy.len
theorem pv' {x y : List Nat} (hx : Fit10 x) (hy : Fit10 y) : fe (v10 (plusT x y)) = fe (v10 x) + fe (v10 y) := plusT_v hx.len hy.len
theorem nv {x y : List Nat} (hx : Fit10 x) (hy : Fit10 y) : fe (v10 (minusT x y)) = fe (v10 x) - fe (v10 y) := minusT_v hx.len hy
theorem frT_v (hd : Fit10 d) (hp : FarFit p) (hq : FarFit q) : farV (frT d p q) = Fr.add (fe (v10 d)) (farV p) (farV q) := by
  have a := frA_fit hp hq
  have m := frM_fit hd hp hq
  have b := frB_fit hp hq
  have c := frC_fit hp hq
  have f := frF_fit hd hp hq
  have g := frG_fit hd hp hq
  have c1 := mulT_fit hp.x hq.x
  have c2 := mulT_fit hp.y hq.y
  have va : fe (v10 (frA p q)) = fe (v10 p.fZ) * fe (v10 q.fZ) := mv hp.z hq.z
  have vm : fe (v10 (frM d p q)) = fe (v10 d) * (fe (v10 p.fX) * fe (v10 q.fX) * (fe (v10 p.fY) * fe (v10 q.fY))) := by rw [frM, mv hd (mulT_fit c1 c2), mv c1 c2, mv hp.x hq.x, mv hp.y hq.y]
  have vb : fe (v10 (frB p q)) = fe (v10 p.fX) * fe (v10 q.fX) + fe (v10 p.fY) * fe (v10 q.fY) := by rw [frB, pv' c1 c2, mv hp.x hq.x, mv hp.y hq.y]
  have vc : fe (v10 (frC p q)) = (fe (v10 p.fX) + fe (v10 p.fY)) * (fe (v10 q.fX) + fe (v10 q.fY)) - (fe (v10 p.fX) * fe (v10 q.fX) + fe (v10 p.fY) * fe (v10 q.fY)) := by
    rw [frC, nv (mulT_fit (plusT_fit hp.x hp.y) (plusT_fit hq.x hq.y)) b, mv (plusT_fit hp.x hp.y) (plusT_fit hq.x hq.y), pv' hp.x hp.y, pv' hq.x hq.y, vb]
  have vf : fe (v10 (frF d p q)) = fe (v10 (frA p q)) * fe (v10 (frA p q)) - fe (v10 (frM d p q)) := by rw [frF, nv (mulT_fit a a) m, mv a a]
  have vg : fe (v10 (frG d p q)) = fe (v10 (frA p q)) * fe (v10 (frA p q)) + fe (v10 (frM d p q)) := by rw [frG, pv' (mulT_fit a a) m, mv a a]
  unfold farV frT Fr.add
  simp only [mv a (mulT_fit f c), mv f c, mv a (mulT_fit g b), mv g b, mv f g, vf, vg, va, vm, vb, vc]
end
theorem FarRep.add {d : List Nat} {p q : far} {P Q : Pt Fp} (hd : Fit10 d) (hdv : fe (v10 d) = fD) (hp : FarRep p P) (hq : FarRep q Q) (hP : cv.on P) (hQ : cv.on Q) : FarRep (frT d p q) (cv.add P Q) := by
  refine ⟨frT_fit hd hp.fit hq.fit, ?_⟩
  rw [frT_v hd hp.fit hq.fit, hdv]
  exact cv.far_add hp.rep hq.rep hP hQ
/-- a point's words -/
def awT (P : Pt Fp) : far := ⟨openT (le (fb P.x)), openT (le (fb P.y)), openT (le (fb (1 : Fp)))⟩
theorem awT_fit (P : Pt Fp) : FarFit (awT P) := ⟨o_fit (fb_length _), o_fit (fb_length _), o_fit (fb_length _)⟩
theorem awT_rep (P : Pt Fp) : FarRep (awT P) P := by
  refine ⟨awT_fit P, ?_⟩
  have h : farV (awT P) = Fr.of P := by
    unfold farV awT Fr.of
    simp only [o_v (fb_length _), fe_fb]
  rw [h]
  exact cv.far_of P
def dT : List Nat := openT (le (fb fD))
theorem dT_fit : Fit10 dT := o_fit (fb_length _)
theorem dT_v : fe (v10 dT) = fD := by
  have h := o_v (fb_length fD)
  rw [fe_fb] at h
  exact h
theorem r5_openD : Meets Tryz.prog 188 [agg (bytesV (fb fD))] [] (fun _ => True) (fun v out => v = agg (wdsV dT) ∧ out = []) := r3_Open (fb fD) (fb_length _)

theorem r5_plus (d : List Nat) (p q : far) (hd : Fit10 d) (hp : FarFit p) (hq : FarFit q) : Meets Tryz.prog 191 [agg (wdsV d), agg (p).cells, agg (q).cells] [] (fun _ => True) (fun v out => v = agg (frT d p q).cells ∧ out = []) := by
 intro W hW
 have ldd := hd.len
 have hpo := hp.ok
 have hqo := hq.ok
 unfold frT frF frG frC frM frB frA
 have fa := mulT_fit hp.z hq.z
 have ca := r3_Times _ _ hp.z hq.z
 revert fa ca
 generalize mulT p.fZ q.fZ = a
 intro fa ca
 have la := fa.len
 have fb2 := mulT_fit fa fa
 have cb := r3_Times _ _ fa fa
 revert fb2 cb
 generalize mulT a a = b
 intro fb2 cb
 have lb := fb2.len
 have fc := mulT_fit hp.x hq.x
 have cc := r3_Times _ _ hp.x hq.x
 revert fc cc
 generalize mulT p.fX q.fX = c
 intro fc cc
 have lc := fc.len
 have fe2 := mulT_fit hp.y hq.y
 have ce := r3_Times _ _ hp.y hq.y
 revert fe2 ce
 generalize mulT p.fY q.fY = e
 intro fe2 ce
 have le := fe2.len
 have fce := mulT_fit fc fe2
 have cce := r3_Times _ _ fc fe2
 revert fce cce
 generalize mulT c e = ce2
 intro fce cce
 have lce2 := fce.len
 have fm := mulT_fit hd fce
 have cm := r3_Times _ _ hd fce
 revert fm cm
 generalize mulT d ce2 = m
 intro fm cm
 have lm := fm.len
 have ff := minusT_fit fb2 fm
 have cf := r3_Minus _ _ fb2 fm
 revert ff cf
 generalize minusT b m = f
 intro ff cf
 have lf := ff.len
 have fg := plusT_fit fb2 fm
 have cg := r3_Plus _ _ fb2 fm
 revert fg cg
 generalize plusT b m = g
 intro fg cg
 have lg := fg.len
 have fbo := plusT_fit fc fe2
 have cbo := r3_Plus _ _ fc fe2
 revert fbo cbo
 generalize plusT c e = both
 intro fbo cbo
 have lboth := fbo.len
 have fpp := plusT_fit hp.x hp.y
 have cpp := r3_Plus _ _ hp.x hp.y
 revert fpp cpp
 generalize plusT p.fX p.fY = pp
 intro fpp cpp
 have lpp := fpp.len
 have fqq := plusT_fit hq.x hq.y
 have cqq := r3_Plus _ _ hq.x hq.y
 revert fqq cqq
 generalize plusT q.fX q.fY = qq
 intro fqq cqq
 have lqq := fqq.len
 have fpq := mulT_fit fpp fqq
 have cpq := r3_Times _ _ fpp fqq
 revert fpq cpq
 generalize mulT pp qq = pq
 intro fpq cpq
 have lpq := fpq.len
 have fcr := minusT_fit fpq fbo
 have ccr := r3_Minus _ _ fpq fbo
 revert fcr ccr
 generalize minusT pq both = cr
 intro fcr ccr
 have lcr := fcr.len
 have ffc := mulT_fit ff fcr
 have cfc := r3_Times _ _ ff fcr
 revert ffc cfc
 generalize mulT f cr = fcr2
 intro ffc cfc
 have lfcr2 := ffc.len
 have fgb := mulT_fit fg fbo
 have cgb := r3_Times _ _ fg fbo
 revert fgb cgb
 generalize mulT g both = gb
 intro fgb cgb
 have lgb := fgb.len
 have fX := mulT_fit fa ffc
 have cX := r3_Times _ _ fa ffc
 revert fX cX
 generalize mulT a fcr2 = X
 intro fX cX
 have lX := fX.len
 have fY := mulT_fit fa fgb
 have cY := r3_Times _ _ fa fgb
 revert fY cY
 generalize mulT a gb = Y
 intro fY cY
 have lY := fY.len
 have fZ := mulT_fit ff fg
 have cZ := r3_Times _ _ ff fg
 revert fZ cZ
 generalize mulT f g = Z
 intro fZ cZ
 have lZ := fZ.len
 refine calls_of (hp0 := []) Tryz.func191 J 75 Tryz.ntmps191 J (HRep.nil _) (Sat.seq (Sat.region (Tr.boxA J J ?_)))
 intro n3 hn3 hf3
 refine Tr.boxA J J ?_
 intro n4 hn4 hf4
 refine Tr.boxA J J ?_
 intro n5 hn5 hf5
 refine Tr.alloc (cs := far.zero.cells) J far.zr J ?_
 intro n6 hn6 hf6
 refine Tr.nil (at_n (Sat.seq (Sat.region (Tr.fld J J J Tryz.underlying180 J Sz177 dE _ J (Tr.loadN (wdsV _) J J J Y177 J Sz177 Z2 (far.row_fZ (by exact hpo)) (far.rl_fZ (by exact hpo)) ?_)))))
 refine Tr.fld J J J Tryz.underlying180 J Sz177 dE _ J (Tr.loadN (wdsV _) J J J Y177 J Sz177 Z1 (far.row_fZ (by exact hqo)) (far.rl_fZ (by exact hqo)) ?_)
 refine Tr.callV J J J J Body197 (ca) (fun _ _ => trivial) (Tr.alloc (cs := (intsV (List.replicate 10 0))) J Zr177 J ?_)
 intro n7 hn7 hf7
 refine Tr.storeAll J J J J (by exact wdsV_cell _) Sz177 (by (simp [wdsV_length, la]; done)) Z0 sP zU ?_
 refine Tr.nil (at_n (Sat.seq (Sat.region (Tr.loadAll J J J Y177 J Sz177 Z0 (by (simp [wdsV_length, la]; done)) ?_))))
 refine Tr.loadAll J J J Y177 J Sz177 Z0 (by (simp [wdsV_length, la]; done)) ?_
 refine Tr.callV J J J J Body197 (cb) (fun _ _ => trivial) (Tr.alloc (cs := (intsV (List.replicate 10 0))) J Zr177 J ?_)
 intro n8 hn8 hf8
 refine Tr.storeAll J J J J (by exact wdsV_cell _) Sz177 (by (simp [wdsV_length, lb]; done)) Z0 sP zU ?_
 refine Tr.nil (at_n (Sat.seq (Sat.draw [(0, 0), (1, 1), (0, 2), (1, 3), (0, 5), (1, 6), (0, 7), (1, 8), (3, 4), (3, 9), (2, 10), (2, 11), (4, 12), (4, 13)] Mixed zK (Tr.fld J J J Tryz.underlying180 J Sz177 dE _ J (Tr.loadN (wdsV _) J J J Y177 J Sz177 Z4 (far.row_fX (by exact hpo)) (far.rl_fX (by exact hpo)) ?_)))))
 refine Tr.fld J J J Tryz.underlying180 J Sz177 dE _ J (Tr.loadN (wdsV _) J J J Y177 J Sz177 Z3 (far.row_fX (by exact hqo)) (far.rl_fX (by exact hqo)) ?_)
 refine Tr.fld J J J Tryz.underlying180 J Sz177 dE _ J (Tr.loadN (wdsV _) J J J Y177 J Sz177 Z4 (far.row_fY (by exact hpo)) (far.rl_fY (by exact hpo)) ?_)
 refine Tr.fld J J J Tryz.underlying180 J Sz177 dE _ J (Tr.loadN (wdsV _) J J J Y177 J Sz177 Z3 (far.row_fY (by exact hqo)) (far.rl_fY (by exact hqo)) ?_)
 refine Tr.callV J J J J Body197 (cc) (fun _ _ => trivial) (Tr.callV J J J J Body197 (ce) (fun _ _ => trivial) (Tr.alloc (cs := (intsV (List.replicate 10 0))) J Zr177 J ?_))
 intro n9 hn9 hf9
 refine Tr.alloc (cs := (intsV (List.replicate 10 0))) J Zr177 J ?_
 intro n10 hn10 hf10
 refine Tr.storeAll J J J J (by exact wdsV_cell _) Sz177 (by (simp [wdsV_length, lc]; done)) Z1 sP zV ?_
 refine Tr.storeAll J J J J (by exact wdsV_cell _) Sz177 (by (simp [wdsV_length, le]; done)) Z0 sP zU ?_
 refine Tr.nil (at_n (Sat.seq (Sat.draw [(1, 0), (1, 1), (1, 2), (3, 3), (3, 4), (2, 5), (4, 6)] Mixed zK (Tr.loadAll J J J Y177 J Sz177 (by exact mem7) (by (simp [wdsV_length, ldd]; done)) ?_))))
 refine Tr.loadAll J J J Y177 J Sz177 Z1 (by (simp [wdsV_length, lc]; done)) ?_
 refine Tr.loadAll J J J Y177 J Sz177 Z0 (by (simp [wdsV_length, le]; done)) ?_
 refine Tr.callV J J J J Body197 (cce) (fun _ _ => trivial) (Tr.callV J J J J Body197 (cm) (fun _ _ => trivial) (Tr.alloc (cs := (intsV (List.replicate 10 0))) J Zr177 J ?_))
 intro n11 hn11 hf11
 refine Tr.storeAll J J J J (by exact wdsV_cell _) Sz177 (by (simp [wdsV_length, lm]; done)) Z0 sP zU ?_
 refine Tr.nil (at_n (Sat.seq (Sat.draw [(1, 0), (1, 1), (1, 3), (1, 4), (3, 2), (3, 5), (2, 6), (2, 7), (4, 8), (4, 9)] Mixed zK (Tr.loadAll J J J Y177 J Sz177 Z3 (by (simp [wdsV_length, lb]; done)) ?_))))
 refine Tr.loadAll J J J Y177 J Sz177 Z0 (by (simp [wdsV_length, lm]; done)) ?_
 refine Tr.loadAll J J J Y177 J Sz177 Z3 (by (simp [wdsV_length, lb]; done)) ?_
 refine Tr.loadAll J J J Y177 J Sz177 Z0 (by (simp [wdsV_length, lm]; done)) ?_
 refine Tr.callV J J J J Body231 (cf) (fun _ _ => trivial) (Tr.callV J J J J Body232 (cg) (fun _ _ => trivial) (Tr.alloc (cs := (intsV (List.replicate 10 0))) J Zr177 J ?_))
 intro n12 hn12 hf12
 refine Tr.alloc (cs := (intsV (List.replicate 10 0))) J Zr177 J ?_
 intro n13 hn13 hf13
 refine Tr.storeAll J J J J (by exact wdsV_cell _) Sz177 (by (simp [wdsV_length, lf]; done)) Z1 sP zV ?_
 refine Tr.storeAll J J J J (by exact wdsV_cell _) Sz177 (by (simp [wdsV_length, lg]; done)) Z0 sP zU ?_
 refine Tr.nil (at_n (Sat.seq (Sat.region (Tr.loadAll J J J Y177 J Sz177 Z4 (by (simp [wdsV_length, lc]; done)) ?_))))
 refine Tr.loadAll J J J Y177 J Sz177 Z3 (by (simp [wdsV_length, le]; done)) ?_
 refine Tr.callV J J J J Body232 (cbo) (fun _ _ => trivial) (Tr.alloc (cs := (intsV (List.replicate 10 0))) J Zr177 J ?_)
 intro n14 hn14 hf14
 refine Tr.storeAll J J J J (by exact wdsV_cell _) Sz177 (by (simp [wdsV_length, lboth]; done)) Z0 sP zU ?_
 refine Tr.nil (at_n (Sat.seq (Sat.draw [(0, 0), (1, 1), (0, 2), (1, 3), (0, 5), (1, 6), (0, 7), (1, 8), (1, 11), (3, 4), (3, 9), (3, 10), (3, 12), (2, 13), (4, 14)] Mixed zK (Tr.fld J J J Tryz.underlying180 J Sz177 dE _ J (Tr.loadN (wdsV _) J J J Y177 J Sz177 (by (repeat (first | exact List.mem_cons_self | refine List.mem_cons_of_mem _ ?_))) (far.row_fX (by exact hpo)) (far.rl_fX (by exact hpo)) ?_)))))
 refine Tr.fld J J J Tryz.underlying180 J Sz177 dE _ J (Tr.loadN (wdsV _) J J J Y177 J Sz177 (by (repeat (first | exact List.mem_cons_self | refine List.mem_cons_of_mem _ ?_))) (far.row_fY (by exact hpo)) (far.rl_fY (by exact hpo)) ?_)
 refine Tr.fld J J J Tryz.underlying180 J Sz177 dE _ J (Tr.loadN (wdsV _) J J J Y177 J Sz177 (by (repeat (first | exact List.mem_cons_self | refine List.mem_cons_of_mem _ ?_))) (far.row_fX (by exact hqo)) (far.rl_fX (by exact hqo)) ?_)
 refine Tr.fld J J J Tryz.underlying180 J Sz177 dE _ J (Tr.loadN (wdsV _) J J J Y177 J Sz177 (by (repeat (first | exact List.mem_cons_self | refine List.mem_cons_of_mem _ ?_))) (far.row_fY (by exact hqo)) (far.rl_fY (by exact hqo)) ?_)
 refine Tr.loadAll J J J Y177 J Sz177 Z0 (by (simp [wdsV_length, lboth]; done)) ?_
 refine Tr.callV J J J J Body232 (cpp) (fun _ _ => trivial) (Tr.callV J J J J Body232 (cqq) (fun _ _ => trivial) (Tr.callV J J J J Body197 (cpq) (fun _ _ => trivial) (Tr.callV J J J J Body231 (ccr) (fun _ _ => trivial) (Tr.alloc (cs := (intsV (List.replicate 10 0))) J Zr177 J ?_))))
 intro n15 hn15 hf15
 refine Tr.storeAll J J J J (by exact wdsV_cell _) Sz177 (by (simp [wdsV_length, lcr]; done)) Z0 sP zU ?_
 refine Tr.nil (at_n (Sat.seq (Sat.draw [(1, 0), (1, 1), (1, 2), (1, 5), (1, 6), (1, 7), (1, 10), (1, 11), (3, 3), (3, 4), (3, 8), (3, 9), (3, 12), (0, 13), (4, 14)] Mixed zK (Tr.loadAll J J J Y177 J Sz177 (by (repeat (first | exact List.mem_cons_self | refine List.mem_cons_of_mem _ ?_))) (by (simp [wdsV_length, la]; done)) ?_))))
 refine Tr.loadAll J J J Y177 J Sz177 Z3 (by (simp [wdsV_length, lf]; done)) ?_
 refine Tr.loadAll J J J Y177 J Sz177 Z0 (by (simp [wdsV_length, lcr]; done)) ?_
 refine Tr.loadAll J J J Y177 J Sz177 (by (repeat (first | exact List.mem_cons_self | refine List.mem_cons_of_mem _ ?_))) (by (simp [wdsV_length, la]; done)) ?_
 refine Tr.loadAll J J J Y177 J Sz177 Z2 (by (simp [wdsV_length, lg]; done)) ?_
 refine Tr.loadAll J J J Y177 J Sz177 Z1 (by (simp [wdsV_length, lboth]; done)) ?_
 refine Tr.loadAll J J J Y177 J Sz177 Z3 (by (simp [wdsV_length, lf]; done)) ?_
 refine Tr.loadAll J J J Y177 J Sz177 Z2 (by (simp [wdsV_length, lg]; done)) ?_
 refine Tr.callV J J J J Body197 (cfc) (fun _ _ => trivial) (Tr.callV J J J J Body197 (cX) (fun _ _ => trivial) (Tr.callV J J J J Body197 (cgb) (fun _ _ => trivial) (Tr.callV J J J J Body197 (cY) (fun _ _ => trivial) (Tr.callV J J J J Body197 (cZ) (fun _ _ => trivial) (Tr.build (cs := (⟨X, Y, Z⟩ : far).cells) J J J (fun w => by kernel_rfl) ?_)))))
 refine Tr.storeAll J J J J (far.isCell (by exact ⟨lX, lY, lZ⟩)) Sz180 (far.length (by exact ⟨lX, lY, lZ⟩)) (by (repeat (first | exact List.mem_cons_self | refine List.mem_cons_of_mem _ ?_))) (far.length (by exact far.zero_ok)) (by (repeat (first | exact upd0 | apply Upd.tail))) ?_
 refine Tr.nil (at_n (Sat.ret (en_r ?_)))
 refine ⟨_, [], res_cell J J Tryz.underlying180 J Sz180 (by (repeat (first | exact List.mem_cons_self | refine List.mem_cons_of_mem _ ?_))) (by exact far.length (by exact ⟨lX, lY, lZ⟩)), sP, sP, ?_, rfl⟩
 rfl

theorem r5_near (p : far) (P : Pt Fp) (hp : FarRep p P) : Meets Tryz.prog 193 [agg (p).cells] [] (fun _ => True) (fun v out => v = agg (ptc P).cells ∧ out = []) := by
 intro W hW
 have hpo := hp.fit.ok
 have hpt := cv.far_pt hp.rep
 have h1 := r3_Close_v p.fZ hp.fit.z _ rfl
 have h2 := r3_Close_v p.fX hp.fit.x _ rfl
 have h3 := r3_Close_v p.fY hp.fit.y _ rfl
 have hi := r_inv (fe (v10 p.fZ))
 have e : P = ⟨fe (v10 p.fX) * finv (fe (v10 p.fZ)), fe (v10 p.fY) * finv (fe (v10 p.fZ))⟩ := hpt.symm
 rw [e]
 clear e hpt
 revert h1 h2 h3 hi
 generalize finv (fe (v10 p.fZ)) = iz
 generalize fe (v10 p.fZ) = z
 generalize fe (v10 p.fX) = x
 generalize fe (v10 p.fY) = y
 intro h1 h2 h3 hi
 refine calls_of (hp0 := []) Tryz.func193 J 19 Tryz.ntmps193 J (HRep.nil _) (Sat.seq (Sat.region (Tr.boxA J J ?_)))
 intro n1 hn1 hf1
 refine Tr.alloc (cs := Point.zero.cells) J Point.zr J ?_
 intro n2 hn2 hf2
 refine Tr.nil (at_n (Sat.seq (Sat.region (Tr.fld J J J Tryz.underlying180 J Sz177 dE _ J (Tr.loadN (wdsV _) J J J Y177 J Sz177 Z1 (far.row_fZ (by exact hpo)) (far.rl_fZ (by exact hpo)) ?_)))))
 refine Tr.callV J J J J Body196 (h1) (fun _ _ => trivial) (Tr.callV J J J J Body124 (hi) (fun _ _ => trivial) (Tr.alloc (cs := (bytesV (List.replicate 32 0))) J Zr77 J ?_))
 intro n3 hn3 hf3
 refine Tr.storeAll J J J J zE Sz77 zF Z0 sP zU ?_
 refine Tr.nil (at_n (Sat.seq (Sat.draw [(0, 0), (1, 1), (1, 3), (0, 5), (1, 6), (1, 8), (3, 2), (3, 4), (3, 7), (3, 9), (0, 10), (4, 11)] Mixed zK (Tr.fld J J J Tryz.underlying180 J Sz177 dE _ J (Tr.loadN (wdsV _) J J J Y177 J Sz177 Z2 (far.row_fX (by exact hpo)) (far.rl_fX (by exact hpo)) ?_)))))
 refine Tr.loadAll J J J Y77 J Sz77 Z0 zF ?_
 refine Tr.fld J J J Tryz.underlying180 J Sz177 dE _ J (Tr.loadN (wdsV _) J J J Y177 J Sz177 Z2 (far.row_fY (by exact hpo)) (far.rl_fY (by exact hpo)) ?_)
 refine Tr.loadAll J J J Y77 J Sz77 Z0 zF ?_
 refine Tr.callV J J J J Body196 (h2) (fun _ _ => trivial) (Tr.callV J J J J Body122 (r_mul x iz) (fun _ _ => trivial) (Tr.callV J J J J Body196 (h3) (fun _ _ => trivial) (Tr.callV J J J J Body122 (r_mul y iz) (fun _ _ => trivial) (Tr.build (cs := (ptc (⟨x * iz, y * iz⟩ : Pt Fp)).cells) J J J (fun w => by kernel_rfl) ?_))))
 refine Tr.storeAll J J J J (Point.isCell zP) Sz79 (Point.length zP) Z1 (Point.length zZ) zV ?_
 refine Tr.nil (at_n (Sat.ret (en_r ?_)))
 refine ⟨_, [], res_cell J J Y79 J Sz79 Z1 (by exact Point.length zP), sP, sP, ?_, rfl⟩
 rfl

theorem r5_away (P : Pt Fp) : Meets Tryz.prog 190 [agg (ptc P).cells] [] (fun _ => True) (fun v out => v = agg (awT P).cells ∧ out = []) := by
 intro W hW
 have h1 := r3_Open (fb P.x) (fb_length _)
 have h2 := r3_Open (fb P.y) (fb_length _)
 have h3 := r3_Open (fb 1) (fb_length _)
 have lX := openT_length (le (fb P.x))
 have lY := openT_length (le (fb P.y))
 have lZ := openT_length (le (fb 1))
 unfold awT
 revert h1 h2 h3 lX lY lZ
 generalize openT (le (fb P.x)) = X
 generalize openT (le (fb P.y)) = Y
 generalize openT (le (fb 1)) = Z
 intro h1 h2 h3 lX lY lZ
 refine calls_of (hp0 := []) Tryz.func190 J 12 Tryz.ntmps190 J (HRep.nil _) (Sat.seq (Sat.region (Tr.boxA J J ?_)))
 intro n1 hn1 hf1
 refine Tr.alloc (cs := far.zero.cells) J far.zr J ?_
 intro n2 hn2 hf2
 refine Tr.nil (at_n (Sat.seq (Sat.draw [(0, 0), (1, 1), (0, 3), (1, 4), (3, 2), (3, 5), (3, 6), (3, 7), (0, 8), (4, 9)] Mixed zK (Tr.fld J J J Y79 J Sz77 dE _ J (Tr.loadN (bytesV _) J J J Y77 J Sz77 Z1 (Point.row_fX zP) (Point.rl_fX zP) ?_)))))
 refine Tr.fld J J J Y79 J Sz77 dE _ J (Tr.loadN (bytesV _) J J J Y77 J Sz77 Z1 (Point.row_fY zP) (Point.rl_fY zP) ?_)
 refine Tr.callV J J J J Body188 (h1) (fun _ _ => trivial) (Tr.callV J J J J Body188 (h2) (fun _ _ => trivial) (Tr.callV J J J J Body123 (r_one) (fun _ _ => trivial) (Tr.callV J J J J Body188 (h3) (fun _ _ => trivial) (Tr.build (cs := (⟨X, Y, Z⟩ : far).cells) J J J (fun w => by kernel_rfl) ?_))))
 refine Tr.storeAll J J J J (far.isCell (by exact ⟨lX, lY, lZ⟩)) Sz180 (far.length (by exact ⟨lX, lY, lZ⟩)) Z0 (far.length (by exact far.zero_ok)) zU ?_
 refine Tr.nil (at_n (Sat.ret (en_r ?_)))
 refine ⟨_, [], res_cell J J Tryz.underlying180 J Sz180 Z0 (by exact far.length (by exact ⟨lX, lY, lZ⟩)), sP, sP, ?_, rfl⟩
 rfl

theorem r5_Neg (P : Pt Fp) (hP : cv.on P) : Meets Tryz.prog 116 [agg (ptc P).cells] [] (fun _ => True) (fun v out => v = agg (ptc (neg P)).cells ∧ out = []) := by
 intro W hW
 refine calls_of (hp0 := []) Tryz.func116 J 13 Tryz.ntmps116 J (HRep.nil _) (Sat.seq (Sat.region (Tr.boxA J J ?_)))
 intro n1 hn1 hf1
 refine Tr.alloc (cs := Point.zero.cells) J Point.zr J ?_
 intro n2 hn2 hf2
 refine Tr.nil (at_n (Sat.seq (Sat.seq (Sat.region (Tr.loadAll J J J Y79 J Sz79 Z1 (Point.length zP) ?_)))))
 refine Tr.callV J J J J Body118 (r5_Check P hP) (fun _ _ => trivial) (Tr.nei J J J J (show (!decide _) = false from congrArg not (decide_eq_true (rfl))) (Tr.nil (at_n (Sat.cond_f J (rfl) (Sat.skip (at_n (Sat.seq (Sat.draw [(0, 0), (1, 1), (0, 3), (1, 4), (3, 2), (0, 5), (4, 6)] Mixed zK (Tr.fld J J J Y79 J Sz77 dE _ J (Tr.loadN (bytesV _) J J J Y77 J Sz77 Z1 (Point.row_fX zP) (Point.rl_fX zP) ?_))))))))))
 refine Tr.fld J J J Y79 J Sz77 dE _ J (Tr.loadN (bytesV _) J J J Y77 J Sz77 Z1 (Point.row_fY zP) (Point.rl_fY zP) ?_)
 refine Tr.callV J J J J Body185 (r_neg P.x) (fun _ _ => trivial) (Tr.build (cs := (ptc (neg P)).cells) J J J (fun w => by kernel_rfl) ?_)
 refine Tr.storeAll J J J J (Point.isCell zP) Sz79 (Point.length zP) Z0 (Point.length zZ) zU ?_
 refine Tr.nil (at_n (Sat.ret (en_r ?_)))
 refine ⟨_, [], res_cell J J Y79 J Sz79 Z0 (by exact Point.length zP), sP, sP, ?_, rfl⟩
 rfl

end Go.Proofs.YtpacobmjjjillaaGreat
end

section
namespace Go.Proofs.YtpacobmjjjillaaGreat
open Go Hw
set_option linter.unusedVariables false
set_option linter.unusedSimpArgs false

open Ed

theorem byte_low : ∀ b : UInt8, UInt8.ofNat (b.toNat % 128) = b &&& 127 ∧ ((128 ≤ b.toNat) ↔ ¬ ((b &&& 128).toNat : Int) = 0) := by
  intro b
  have h : ∀ n, n < 256 → UInt8.ofNat ((UInt8.ofNat n).toNat % 128) = UInt8.ofNat n &&& 127 ∧ ((128 ≤ (UInt8.ofNat n).toNat) ↔ ¬ ((UInt8.ofNat n &&& 128).toNat : Int) = 0) := by decide
  have h2 := h b.toNat b.toNat_lt
  rwa [UInt8.ofNat_toNat] at h2
theorem byte_plus : ∀ b : UInt8, b.toNat < 128 → b + 128 = b ||| 128 := by
  intro b hb
  have h : ∀ n, n < 128 → UInt8.ofNat n + 128 = UInt8.ofNat n ||| 128 := by decide
  have h2 := h b.toNat hb
  rwa [UInt8.ofNat_toNat] at h2
theorem top_t5 {b : List UInt8} (h : (128 : Int) ≤ ((b.getD 31 0).toNat : Int)) : topB b = true := by
  have h1 := (byte_low (b.getD 31 0)).2.1 oM
  rw [topB, decide_eq_false h1]; rfl
theorem top_f5 {b : List UInt8} (h : ¬ (128 : Int) ≤ ((b.getD 31 0).toNat : Int)) : topB b = false := by
  have h1 : ((b.getD 31 0 &&& 128).toNat : Int) = 0 := by
    by_cases e : ((b.getD 31 0 &&& 128).toNat : Int) = 0
    · exact e
    · exact absurd ((byte_low (b.getD 31 0)).2.2 e) oM
  rw [topB, decide_eq_true h1]; rfl

theorem r5_Read (b : List UInt8) (hb : b.length = 32) : Meets Tryz.prog 112 [agg (bytesV b)] [] (fun _ => True) (fun v out => v = rdV b ∧ out = []) := by
 intro W hW
 have hll := lowB_length hb
 obtain ⟨Y, hY⟩ : ∃ Y, fe (le (lowB b)) = Y := ⟨_, rfl⟩
 have hcan := r3_Canon (lowB b) hll
 have hroot := r5_root Y
 obtain ⟨xr, hxo⟩ : ∃ xr, xOf Y = xr := ⟨_, rfl⟩
 rw [hxo] at hroot
 rw [← hY] at hxo
 rw [hY] at hcan
 refine calls_of (hp0 := []) Tryz.func112 J 42 Tryz.ntmps112 J (HRep.nil _) (Sat.seq (Sat.region (Tr.boxA J J ?_)))
 intro n1 hn1 hf1
 refine Tr.alloc (cs := Point.zero.cells) J Point.zr J ?_
 intro n2 hn2 hf2
 refine Tr.assign J J J (Tr.nil (at_n (Sat.seq (Sat.region (Tr.loadAll J J J Y23 J Sz23 Z1 (by (simp [hb]; done)) ?_)))))
 refine Tr.alloc (cs := (bytesV (List.replicate 32 0))) J Zr77 J ?_
 intro n4 hn4 hf4
 refine Tr.storeAll J J J J zE Sz77 (by (simp [hb]; done)) Z0 sP zU ?_
 refine Tr.nil (at_n (Sat.seq (Sat.region (Tr.idxArr1 J J J J Y77 Sz5 31 J dE (Tr.load1 J J J Y5 J Z0 zG ?_)))))
 refine two (fun r hr k => Tr.geq J J J J hr k) (fun hs2_20 => ?_) (fun hs2_20 => ?_)
 ·
  have hs2_2 := of_decide_eq_true hs2_20
  refine Tr.assign J J J (Tr.nil (at_n (Sat.seq (Sat.region (Tr.idxArr1 J J J J Y77 Sz5 31 J dE (Tr.load1 J J J Y5 J Z0 zG ?_))))))
  refine Tr.rem_u8 J J J J 128 J dE (Tr.idxArr1 J J J J Y77 Sz5 31 J dE ?_)
  rw [(byte_low _).1]
  refine Tr.store1 J J J J J Sz5 Z0 (by (simp [hb]; done)) (by exact set_bytes _ _ _) zU ?_
  refine Tr.nil (at_n (Sat.seq (Sat.seq (Sat.region (Tr.loadAll J J J Y77 J Sz77 Z0 (by (simp [hb]; done)) ?_)))))
  refine Tr.callV J J J J Body184 (hcan) (fun _ _ => trivial) (Tr.not J J J (Tr.nil (at_n (Sat.cond J (fun hc0 => ?_) (fun hc0 => ?_)))))
  ·
   have hcn : ¬ fb Y = lowB b := of_decide_eq_false (by simpa using hc0)
   refine Sat.seq (Sat.region (Tr.build (cs := Point.zero.cells) J J J (fun w => by kernel_rfl) ?_))
   refine Tr.storeAll J J J J (Point.isCell zZ) Sz79 (Point.length zZ) Z1 (Point.length zZ) zV ?_
   refine Tr.assign J J J (Tr.nil (at_n (Sat.ret (at_r (en_r ?_)))))
   refine ⟨_, [], res_cell_tmp J J J Y79 J Sz79 Z1 (by exact Point.length zZ), sP, sP, ?_, rfl⟩
   exact (rdV_none (rd_n1 (by rw [hY]; exact hcn))).symm
  ·
   have hcy : fb Y = lowB b := of_decide_eq_true (by simpa using hc0)
   rw [show b.set 31 (b.getD 31 0 &&& 127) = fb Y from hcy.symm]
   refine Sat.skip (at_n (Sat.seq (Sat.region (Tr.loadAll J J J Y77 J Sz77 Z0 zF ?_))))
   refine Tr.callV J J J J Body125 (hroot) (fun _ _ => trivial) (Tr.move J J J (Tr.extract J J J J (Tr.extractB J J J J (fun hs6_40 => ?_) (fun hs6_40 => ?_))))
   ·
    have hs6_4 := hs6_40
    refine Tr.alloc (cs := (bytesV (List.replicate 32 0))) J Zr77 J ?_
    intro n6 hn6 hf6
    refine Tr.storeAll J J J J zE Sz77 zF Z0 sP zU ?_
    refine Tr.assign J J J (Tr.nil (at_n (Sat.seq (Sat.seq (Sat.region (Tr.move J J J (Tr.not J J J (Tr.move J J J (Tr.move J J J (Tr.move J J J (Tr.loadAll J J J Y77 J Sz77 Z0 zF ?_)))))))))))
    refine Tr.build (cs := bytesV (List.replicate 32 0)) J J J (fun w => by kernel_rfl) ?_
    refine two (fun r hr k => Tr.eql_bytes J J J J Tryz.eqGuardType77 Y77 Y5 Sz5 zF sP hr k) (fun hs7_70 => ?_) (fun hs7_70 => ?_)
    ·
     have hs7_7 := of_decide_eq_true hs7_70
     refine Tr.pick J J J J J J (Tr.pick J J J J J J (Tr.nil (at_n (Sat.cond_t J J (Sat.seq (Sat.region (Tr.build (cs := Point.zero.cells) J J J (fun w => by kernel_rfl) ?_)))))))
     refine Tr.storeAll J J J J (Point.isCell zZ) Sz79 (Point.length zZ) Z2 (Point.length zZ) (by exact upd2) ?_
     refine Tr.assign J J J (Tr.nil (at_n (Sat.ret (at_r (en_r ?_)))))
     refine ⟨_, [], res_cell_tmp J J J Y79 J Sz79 Z2 (by exact Point.length zZ), sP, sP, ?_, rfl⟩
     exact (rdV_none (rd_n3 hxo (top_t5 hs2_2) hs7_7)).symm
    ·
     have hs7_7 := of_decide_eq_false hs7_70
     refine Tr.pick J J J J J J (Tr.pick J J J J J J (Tr.nil (at_n (Sat.cond_f J J (Sat.skip (at_n (Sat.seq (Sat.seq (Sat.region (Tr.move J J J (Tr.nil (at_n (Sat.cond_t J J (Sat.region (Tr.loadAll J J J Y77 J Sz77 Z0 zF ?_)))))))))))))))
     refine Tr.callV J J J J Body185 (r_neg xr.1) (fun _ _ => trivial) (Tr.storeAll J J J J zE Sz77 zF Z0 zF zU ?_)
     refine Tr.nil (at_n (Sat.seq (Sat.region (Tr.loadAll J J J Y77 J Sz77 Z0 zF ?_))))
     refine Tr.loadAll J J J Y77 J Sz77 Z1 zF ?_
     refine Tr.build (cs := (⟨fb (-xr.1), fb Y⟩ : Point).cells) J J J (fun w => by kernel_rfl) ?_
     refine Tr.storeAll J J J J (Point.isCell (by exact ⟨fb32 _, fb32 _⟩)) Sz79 (Point.length (by exact ⟨fb32 _, fb32 _⟩)) Z2 (Point.length zZ) (by exact upd2) ?_
     refine Tr.assign J J J (Tr.nil (at_n (Sat.ret (en_r ?_))))
     refine ⟨_, [], res_cell_tmp J J J Y79 J Sz79 Z2 (by exact Point.length (by exact ⟨fb32 _, fb32 _⟩)), sP, sP, ?_, rfl⟩
     (rw [rdV_some (rd_s1 (by rw [hY]; exact hcy) hxo hs6_4 (top_t5 hs2_2) hs7_7), hY]; rfl)
   ·
    have hs6_4 := hs6_40
    refine Tr.alloc (cs := (bytesV (List.replicate 32 0))) J Zr77 J ?_
    intro n6 hn6 hf6
    refine Tr.storeAll J J J J zE Sz77 zF Z0 sP zU ?_
    refine Tr.assign J J J (Tr.nil (at_n (Sat.seq (Sat.seq (Sat.region (Tr.move J J J (Tr.not J J J (Tr.move J J J (Tr.skp J J (Tr.skp J J (Tr.skp J J (Tr.skp J J (Tr.skp J J (Tr.skp J J (Tr.pick J J J J J J (Tr.nil (at_n (Sat.cond_t J J (Sat.seq (Sat.region (Tr.build (cs := Point.zero.cells) J J J (fun w => by kernel_rfl) ?_)))))))))))))))))))))
    refine Tr.storeAll J J J J (Point.isCell zZ) Sz79 (Point.length zZ) Z2 (Point.length zZ) (by exact upd2) ?_
    refine Tr.assign J J J (Tr.nil (at_n (Sat.ret (at_r (en_r ?_)))))
    refine ⟨_, [], res_cell_tmp J J J Y79 J Sz79 Z2 (by exact Point.length zZ), sP, sP, ?_, rfl⟩
    exact (rdV_none (rd_n2 hxo hs6_4)).symm
 ·
  have hs2_2 := of_decide_eq_false hs2_20
  refine Tr.assign J J J (Tr.nil (at_n (Sat.seq (Sat.region (Tr.idxArr1 J J J J Y77 Sz5 31 J dE (Tr.load1 J J J Y5 J Z0 zG ?_))))))
  refine Tr.rem_u8 J J J J 128 J dE (Tr.idxArr1 J J J J Y77 Sz5 31 J dE ?_)
  rw [(byte_low _).1]
  refine Tr.store1 J J J J J Sz5 Z0 (by (simp [hb]; done)) (by exact set_bytes _ _ _) zU ?_
  refine Tr.nil (at_n (Sat.seq (Sat.seq (Sat.region (Tr.loadAll J J J Y77 J Sz77 Z0 (by (simp [hb]; done)) ?_)))))
  refine Tr.callV J J J J Body184 (hcan) (fun _ _ => trivial) (Tr.not J J J (Tr.nil (at_n (Sat.cond J (fun hc0 => ?_) (fun hc0 => ?_)))))
  ·
   have hcn : ¬ fb Y = lowB b := of_decide_eq_false (by simpa using hc0)
   refine Sat.seq (Sat.region (Tr.build (cs := Point.zero.cells) J J J (fun w => by kernel_rfl) ?_))
   refine Tr.storeAll J J J J (Point.isCell zZ) Sz79 (Point.length zZ) Z1 (Point.length zZ) zV ?_
   refine Tr.assign J J J (Tr.nil (at_n (Sat.ret (at_r (en_r ?_)))))
   refine ⟨_, [], res_cell_tmp J J J Y79 J Sz79 Z1 (by exact Point.length zZ), sP, sP, ?_, rfl⟩
   exact (rdV_none (rd_n1 (by rw [hY]; exact hcn))).symm
  ·
   have hcy : fb Y = lowB b := of_decide_eq_true (by simpa using hc0)
   rw [show b.set 31 (b.getD 31 0 &&& 127) = fb Y from hcy.symm]
   refine Sat.skip (at_n (Sat.seq (Sat.region (Tr.loadAll J J J Y77 J Sz77 Z0 zF ?_))))
   refine Tr.callV J J J J Body125 (hroot) (fun _ _ => trivial) (Tr.move J J J (Tr.extract J J J J (Tr.extractB J J J J (fun hs6_40 => ?_) (fun hs6_40 => ?_))))
   ·
    have hs6_4 := hs6_40
    refine Tr.alloc (cs := (bytesV (List.replicate 32 0))) J Zr77 J ?_
    intro n6 hn6 hf6
    refine Tr.storeAll J J J J zE Sz77 zF Z0 sP zU ?_
    refine Tr.assign J J J (Tr.nil (at_n (Sat.seq (Sat.seq (Sat.region (Tr.move J J J (Tr.not J J J (Tr.move J J J (Tr.move J J J (Tr.move J J J (Tr.skp J J (Tr.skp J J (Tr.skp J J (Tr.pick J J J J J J (Tr.pick J J J J J J (Tr.nil (at_n (Sat.cond_f J J (Sat.skip (at_n (Sat.seq (Sat.seq (Sat.region (Tr.move J J J (Tr.nil (at_n (Sat.cond_f J J (Sat.skip (at_n (Sat.seq (Sat.region (Tr.loadAll J J J Y77 J Sz77 Z0 zF ?_))))))))))))))))))))))))))))))))
    refine Tr.loadAll J J J Y77 J Sz77 Z1 zF ?_
    refine Tr.build (cs := (⟨fb xr.1, fb Y⟩ : Point).cells) J J J (fun w => by kernel_rfl) ?_
    refine Tr.storeAll J J J J (Point.isCell (by exact ⟨fb32 _, fb32 _⟩)) Sz79 (Point.length (by exact ⟨fb32 _, fb32 _⟩)) Z2 (Point.length zZ) (by exact upd2) ?_
    refine Tr.assign J J J (Tr.nil (at_n (Sat.ret (en_r ?_))))
    refine ⟨_, [], res_cell_tmp J J J Y79 J Sz79 Z2 (by exact Point.length (by exact ⟨fb32 _, fb32 _⟩)), sP, sP, ?_, rfl⟩
    (rw [rdV_some (rd_s2 (by rw [hY]; exact hcy) hxo hs6_4 (top_f5 hs2_2)), hY]; rfl)
   ·
    have hs6_4 := hs6_40
    refine Tr.alloc (cs := (bytesV (List.replicate 32 0))) J Zr77 J ?_
    intro n6 hn6 hf6
    refine Tr.storeAll J J J J zE Sz77 zF Z0 sP zU ?_
    refine Tr.assign J J J (Tr.nil (at_n (Sat.seq (Sat.seq (Sat.region (Tr.move J J J (Tr.not J J J (Tr.move J J J (Tr.skp J J (Tr.skp J J (Tr.skp J J (Tr.skp J J (Tr.skp J J (Tr.skp J J (Tr.pick J J J J J J (Tr.nil (at_n (Sat.cond_t J J (Sat.seq (Sat.region (Tr.build (cs := Point.zero.cells) J J J (fun w => by kernel_rfl) ?_)))))))))))))))))))))
    refine Tr.storeAll J J J J (Point.isCell zZ) Sz79 (Point.length zZ) Z2 (Point.length zZ) (by exact upd2) ?_
    refine Tr.assign J J J (Tr.nil (at_n (Sat.ret (at_r (en_r ?_)))))
    refine ⟨_, [], res_cell_tmp J J J Y79 J Sz79 Z2 (by exact Point.length zZ), sP, sP, ?_, rfl⟩
    exact (rdV_none (rd_n2 hxo hs6_4)).symm

end Go.Proofs.YtpacobmjjjillaaGreat
end

section
namespace Go.Proofs.YtpacobmjjjillaaGreat
open Go Hw
set_option linter.unusedVariables false
set_option linter.unusedSimpArgs false

open Ed

theorem lin_d {a b j : Nat} (hj : j < 256) : a / 2 ^ (256 - (j + 1)) = 2 * (a / 2 ^ (256 - j)) + a / 2 ^ (255 - j) % 2 := next_div a j hj
theorem frep_dbl {d : List Nat} {p : far} {P Q : Pt Fp} (hd : Fit10 d) (hdv : fe (v10 d) = fD) (hP : cv.on P) (hQ : cv.on Q) {A B : Nat} (h : FarRep p (cv.lin A B P Q)) : FarRep (frT d p p) (cv.lin (2 * A) (2 * B) P Q) := by
  rw [cv.lin_two hP hQ]
  exact FarRep.add hd hdv h h (cv.on_lin hP hQ _ _) (cv.on_lin hP hQ _ _)
theorem frep_l {d : List Nat} {p x : far} {P Q : Pt Fp} (hd : Fit10 d) (hdv : fe (v10 d) = fD) (hP : cv.on P) (hQ : cv.on Q) {A B t : Nat} (h : FarRep p (cv.lin A B P Q)) (hx : FarRep x P) (ht : t = 1) : FarRep (frT d p x) (cv.lin (A + t) B P Q) := by
  rw [ht, cv.lin_left hP hQ]
  exact FarRep.add hd hdv h hx (cv.on_lin hP hQ _ _) hP
theorem frep_r {d : List Nat} {p x : far} {P Q : Pt Fp} (hd : Fit10 d) (hdv : fe (v10 d) = fD) (hP : cv.on P) (hQ : cv.on Q) {A B t : Nat} (h : FarRep p (cv.lin A B P Q)) (hx : FarRep x Q) (ht : t = 1) : FarRep (frT d p x) (cv.lin A (B + t) P Q) := by
  rw [ht, cv.lin_right hP hQ]
  exact FarRep.add hd hdv h hx (cv.on_lin hP hQ _ _) hQ
theorem frep_first (a b : List UInt8) (ha : a.length = 32) (hb : b.length = 32) (P Q : Pt Fp) : FarRep (awT (zero : Pt Fp)) (cv.lin (le a / 2 ^ (256 - 0)) (le b / 2 ^ (256 - 0)) P Q) := by
  have h1 := le32 ha
  have h2 := le32 hb
  rw [show 256 - 0 = 256 from rfl, Nat.div_eq_of_lt h1, Nat.div_eq_of_lt h2, cv.lin_zero]
  exact awT_rep zero
theorem bit_one {E j : Nat} (h : E.testBit j = true) : E / 2 ^ j % 2 = 1 := by have := test_div E j true h; rwa [if_pos rfl] at this
theorem bit_nil {E j : Nat} (h : E.testBit j = false) : E / 2 ^ j % 2 = 0 := by have := test_div E j false h; rwa [if_neg dE] at this

theorem r5_Mul2 (a b : List UInt8) (P Q : Pt Fp) (ha : a.length = 32) (hb : b.length = 32) (hP : cv.on P) (hQ : cv.on Q) : Meets Tryz.prog 114 [agg (bytesV a), agg (ptc P).cells, agg (bytesV b), agg (ptc Q).cells] [] (fun _ => True) (fun v out => v = agg (ptc (cv.lin (le a) (le b) P Q)).cells ∧ out = []) := by
 intro W hW
 have hDf := dT_fit
 have hDv := dT_v
 have hod := r5_openD
 revert hDf hDv hod
 generalize dT = D
 intro hDf hDv hod
 have hDl := hDf.len
 have hAP := awT_rep P
 have hAQ := awT_rep Q
 have hAZ := frep_first a b ha hb P Q
 have cP := r5_away P
 have cQ := r5_away Q
 have cZ := r5_away (zero : Pt Fp)
 revert hAP hAQ hAZ cP cQ cZ
 generalize awT P = AP
 generalize awT Q = AQ
 generalize awT (zero : Pt Fp) = AZ
 intro hAP hAQ hAZ cP cQ cZ
 have hAPo := hAP.fit.ok
 have hAQo := hAQ.fit.ok
 have hAZo := hAZ.fit.ok
 have huo : True := trivial
 have hwo : True := trivial
 have hxo : True := trivial
 refine calls_of (hp0 := []) Tryz.func114 J 55 Tryz.ntmps114 J (HRep.nil _) (Sat.seq (Sat.region (Tr.boxA J J ?_)))
 intro n4 hn4 hf4
 refine Tr.boxA J J ?_
 intro n5 hn5 hf5
 refine Tr.boxA J J ?_
 intro n6 hn6 hf6
 refine Tr.boxA J J ?_
 intro n7 hn7 hf7
 refine Tr.alloc (cs := Point.zero.cells) J Point.zr J ?_
 intro n8 hn8 hf8
 refine Tr.nil (at_n (Sat.seq (Sat.seq (Sat.region (Tr.loadAll J J J Y79 J Sz79 Z3 (Point.length zP) ?_)))))
 refine Tr.callV J J J J Body118 (r5_Check P hP) (fun _ _ => trivial) (Tr.nei J J J J (show (!decide _) = false from congrArg not (decide_eq_true (rfl))) (Tr.move J J J (Tr.loadAll J J J Y79 J Sz79 Z1 (Point.length zP) ?_)))
 refine Tr.callV J J J J Body118 (r5_Check Q hQ) (fun _ _ => trivial) (Tr.nei J J J J (show (!decide _) = false from congrArg not (decide_eq_true (rfl))) (Tr.pick J J J J J J (Tr.nil (at_n (Sat.cond_f J J (Sat.skip (at_n (Sat.seq (Sat.draw [(1, 4), (1, 6), (3, 0), (3, 1), (3, 2), (3, 3), (3, 5), (3, 7), (2, 8), (2, 9), (2, 10), (2, 11), (4, 12), (4, 13), (4, 14), (4, 15)] Mixed zK (Tr.loadAll J J J Y79 J Sz79 Z3 (Point.length zP) ?_))))))))))
 refine Tr.loadAll J J J Y79 J Sz79 Z1 (Point.length zP) ?_
 refine Tr.callV J J J J Body189 (r5_D) (fun _ _ => trivial) (Tr.callV J J J J Body188 (hod) (fun _ _ => trivial) (Tr.callV J J J J Body120 (r5_Zero) (fun _ _ => trivial) (Tr.callV J J J J Body190 (cZ) (fun _ _ => trivial) (Tr.callV J J J J Body190 (cP) (fun _ _ => trivial) (Tr.callV J J J J Body190 (cQ) (fun _ _ => trivial) (Tr.alloc (cs := (intsV (List.replicate 10 0))) J Zr177 J ?_))))))
 intro n9 hn9 hf9
 refine Tr.alloc (cs := far.zero.cells) J far.zr J ?_
 intro n10 hn10 hf10
 refine Tr.alloc (cs := far.zero.cells) J far.zr J ?_
 intro n11 hn11 hf11
 refine Tr.alloc (cs := far.zero.cells) J far.zr J ?_
 intro n12 hn12 hf12
 refine Tr.storeAll J J J J (by exact wdsV_cell _) Sz177 (by (simp [wdsV_length, hDl]; done)) Z3 sP (by exact upd3) ?_
 refine Tr.storeAll J J J J (far.isCell (by exact hAZo)) Sz180 (far.length (by exact hAZo)) Z2 (far.length (by exact far.zero_ok)) (by exact upd2) ?_
 refine Tr.storeAll J J J J (far.isCell (by exact hAPo)) Sz180 (far.length (by exact hAPo)) Z1 (far.length (by exact far.zero_ok)) zV ?_
 refine Tr.storeAll J J J J (far.isCell (by exact hAQo)) Sz180 (far.length (by exact hAQo)) Z0 (far.length (by exact far.zero_ok)) zU ?_
 refine Tr.nil (at_n (Sat.seq (Sat.seq (Sat.region (Tr.assign J J J (Tr.nil (at_n (Sat.block (Sat.loop (ι := Nat × far) (fun p => ⟨[(4, ptr n4 0), (6, ptr n6 0), (8, ptr n8 0), (9, ptr n9 0), (10, ptr n10 0), (11, ptr n11 0), (12, ptr n12 0), (13, i64 (255 - (p.1 : Int)))], [⟨n12, (AQ).cells, 180, 30⟩, ⟨n11, (AP).cells, 180, 30⟩, ⟨n10, (p.2).cells, 180, 30⟩, ⟨n9, wdsV D, 177, 10⟩, ⟨n8, Point.zero.cells, 79, 64⟩, ⟨n6, bytesV b, 77, (bytesV b).length⟩, ⟨n4, bytesV a, 77, (bytesV a).length⟩]⟩) (fun p => p.1 ≤ 256 ∧ FarRep p.2 (cv.lin (le a / 2 ^ (256 - p.1)) (le b / 2 ^ (256 - p.1)) P Q)) (fun p => 256 - p.1) ((0, AZ)) ?_ ?_ ?_)))))))))
 · exact ⟨Nat.zero_le _, hAZ⟩
 · exact weak_of (wk1 rfl (wk1 rfl (wk1 rfl (wk1 rfl (wk1 rfl (wk1 rfl (wk1 rfl (wk1 rfl wk0)))))))) (wh1 Z0 (wh1 Z1 (wh1 Z2 (wh1 Z3 (wh1 Z4 (wh1 (by exact mem6) (wh1 (by (repeat (first | exact List.mem_cons_self | refine List.mem_cons_of_mem _ ?_))) wh0))))))) nD
 ·
  rintro p ⟨hj1, hw⟩
  have hwo := hw.fit.ok
  refine Sat.seq (Sat.seq (Sat.region (Tr.move J J J (Tr.geq J J J J J (Tr.nil (at_n (Sat.condP J (fun hc1 => ?_) (fun hc1 => ?_))))))))
  ·
   have hj3 : p.1 < 256 := by omega
   have hu := frep_dbl hDf hDv hP hQ hw
   have cd := r5_plus D p.2 p.2 hDf hw.fit hw.fit
   revert hu cd
   generalize frT D p.2 p.2 = F1
   intro hu cd
   have huo := hu.fit.ok
   rw [show (255 : Int) - (p.1 : Int) = ((255 - p.1 : Nat) : Int) by omega]
   refine Sat.skip (at_n (Sat.join (ι := far) (fun y => ⟨[(4, ptr n4 0), (6, ptr n6 0), (8, ptr n8 0), (9, ptr n9 0), (10, ptr n10 0), (11, ptr n11 0), (12, ptr n12 0), (13, i64 (((255 - p.1 : Nat) : Int)))], [⟨n12, (AQ).cells, 180, 30⟩, ⟨n11, (AP).cells, 180, 30⟩, ⟨n10, (y).cells, 180, 30⟩, ⟨n9, wdsV D, 177, 10⟩, ⟨n8, Point.zero.cells, 79, 64⟩, ⟨n6, bytesV b, 77, (bytesV b).length⟩, ⟨n4, bytesV a, 77, (bytesV a).length⟩]⟩) (fun y => FarRep y (cv.lin (le a / 2 ^ (256 - (p.1 + 1))) (le b / 2 ^ (256 - (p.1 + 1))) P Q)) ?_ ?_))
   ·
    refine Sat.block (Sat.seq (Sat.region (Tr.loadAll J J J Y177 J Sz177 Z3 (by (simp [wdsV_length, hDl]; done)) ?_)))
    refine Tr.loadAll J J J Tryz.underlying180 J Sz180 Z2 (far.length (by exact hwo)) ?_
    refine Tr.loadAll J J J Tryz.underlying180 J Sz180 Z2 (far.length (by exact hwo)) ?_
    refine Tr.callV J J J J Body191 (cd) (fun _ _ => trivial) (Tr.storeAll J J J J (far.isCell (by exact huo)) Sz180 (far.length (by exact huo)) Z2 (far.length (by exact hwo)) (by exact upd2) ?_)
    refine Tr.nil (at_n (Sat.join (ι := far) (fun x => ⟨[(4, ptr n4 0), (6, ptr n6 0), (8, ptr n8 0), (9, ptr n9 0), (10, ptr n10 0), (11, ptr n11 0), (12, ptr n12 0), (13, i64 (((255 - p.1 : Nat) : Int)))], [⟨n12, (AQ).cells, 180, 30⟩, ⟨n11, (AP).cells, 180, 30⟩, ⟨n10, (x).cells, 180, 30⟩, ⟨n9, wdsV D, 177, 10⟩, ⟨n8, Point.zero.cells, 79, 64⟩, ⟨n6, bytesV b, 77, (bytesV b).length⟩, ⟨n4, bytesV a, 77, (bytesV a).length⟩]⟩) (fun x => FarRep x (cv.lin (2 * (le a / 2 ^ (256 - p.1)) + le a / 2 ^ (255 - p.1) % 2) (2 * (le b / 2 ^ (256 - p.1))) P Q)) ?_ ?_))
    ·
     refine Sat.seq (Sat.region (Tr.loadAll J J J Y77 J Sz77 (by exact mem6) (by (simp [ha]; done)) ?_))
     refine Tr.move J J J (Tr.callV J J J J Body192 (ref_bit_at a ha (255 - p.1) oM) (fun _ _ => trivial) (Tr.nil (at_n (Sat.cond J (fun hc2 => ?_) (fun hc2 => ?_)))))
     ·
      have ca := r5_plus D F1 AP hDf hu.fit hAP.fit
      have hul := frep_l hDf hDv hP hQ hu hAP (bit_one hc2)
      revert ca hul
      generalize frT D F1 AP = F2
      intro ca hul
      have hulo := hul.fit.ok
      refine Sat.region (Tr.loadAll J J J Y177 J Sz177 Z3 (by (simp [wdsV_length, hDl]; done)) ?_)
      refine Tr.loadAll J J J Tryz.underlying180 J Sz180 Z2 (far.length (by exact huo)) ?_
      refine Tr.loadAll J J J Tryz.underlying180 J Sz180 Z1 (far.length (by exact hAPo)) ?_
      refine Tr.callV J J J J Body191 (ca) (fun _ _ => trivial) (Tr.storeAll J J J J (far.isCell (by exact hulo)) Sz180 (far.length (by exact hulo)) Z2 (far.length (by exact huo)) (by exact upd2) ?_)
      refine Tr.nil (at_n ?_)
      exact ⟨F2, hul, weak_of (wk1 rfl (wk1 rfl (wk1 rfl (wk1 rfl (wk1 rfl (wk1 rfl (wk1 rfl (wk1 rfl wk0)))))))) (wh1 Z0 (wh1 Z1 (wh1 Z2 (wh1 Z3 (wh1 Z4 (wh1 (by exact mem5) (wh1 (by exact mem6) wh0))))))) nD⟩
     ·
      refine Sat.skip (at_n ?_)
      exact ⟨F1, (by rw [bit_nil hc2, Nat.add_zero]; exact hu), weak_of (wk1 rfl (wk1 rfl (wk1 rfl (wk1 rfl (wk1 rfl (wk1 rfl (wk1 rfl (wk1 rfl wk0)))))))) (wh1 Z0 (wh1 Z1 (wh1 Z2 (wh1 Z3 (wh1 Z4 (wh1 (by exact mem5) (wh1 (by exact mem6) wh0))))))) nD⟩
    ·
     intro x hj
     have hx := hj
     have hxo := hx.fit.ok
     refine Sat.seq (Sat.region (Tr.loadAll J J J Y77 J Sz77 (by exact mem5) (by (simp [hb]; done)) ?_))
     refine Tr.move J J J (Tr.callV J J J J Body192 (ref_bit_at b hb (255 - p.1) oM) (fun _ _ => trivial) (Tr.nil (at_n (Sat.cond J (fun hc3 => ?_) (fun hc3 => ?_)))))
     ·
      have cx := r5_plus D x AQ hDf hx.fit hAQ.fit
      have hxr := frep_r hDf hDv hP hQ hx hAQ (bit_one hc3)
      revert cx hxr
      generalize frT D x AQ = F3
      intro cx hxr
      have hxro := hxr.fit.ok
      refine Sat.region (Tr.loadAll J J J Y177 J Sz177 Z3 (by (simp [wdsV_length, hDl]; done)) ?_)
      refine Tr.loadAll J J J Tryz.underlying180 J Sz180 Z2 (far.length (by exact hxo)) ?_
      refine Tr.loadAll J J J Tryz.underlying180 J Sz180 Z0 (far.length (by exact hAQo)) ?_
      refine Tr.callV J J J J Body191 (cx) (fun _ _ => trivial) (Tr.storeAll J J J J (far.isCell (by exact hxro)) Sz180 (far.length (by exact hxro)) Z2 (far.length (by exact hxo)) (by exact upd2) ?_)
      refine Tr.nil (bl_n (at_n ?_))
      exact ⟨F3, (by rw [lin_d (b := 0) hj3, lin_d (b := 0) hj3]; exact hxr), weak_of (wk1 rfl (wk1 rfl (wk1 rfl (wk1 rfl (wk1 rfl (wk1 rfl (wk1 rfl (wk1 rfl wk0)))))))) (wh1 Z0 (wh1 Z1 (wh1 Z2 (wh1 Z3 (wh1 Z4 (wh1 (by exact mem5) (wh1 (by exact mem6) wh0))))))) nD⟩
     ·
      refine Sat.skip (bl_n (at_n ?_))
      exact ⟨x, (by rw [lin_d (b := 0) hj3, lin_d (b := 0) hj3, bit_nil (E := le b) hc3, Nat.add_zero]; exact hx), weak_of (wk1 rfl (wk1 rfl (wk1 rfl (wk1 rfl (wk1 rfl (wk1 rfl (wk1 rfl (wk1 rfl wk0)))))))) (wh1 Z0 (wh1 Z1 (wh1 Z2 (wh1 Z3 (wh1 Z4 (wh1 (by exact mem5) (wh1 (by exact mem6) wh0))))))) nD⟩
   ·
    intro y hj
    have hy := hj
    have hyo := hy.fit.ok
    refine Sat.region (Tr.move J J J (Tr.sub_i64 J J J J oM (Tr.assign J J J (Tr.nil (at_n ?_)))))
    exact ⟨(p.1 + 1, y), ⟨by simp only []; omega, hy⟩, by simp only []; omega, weak_of (wk1 rfl (wk1 rfl (wk1 rfl (wk1 rfl (wk1 rfl (wk1 rfl (wk1 rfl (wk1 (congrArg (fun z => some (i64 z)) (show ((255 - p.1 : Nat) : Int) - 1 = 255 - ((p.1 + 1 : Nat) : Int) by omega)) wk0)))))))) (wh1 Z0 (wh1 Z1 (wh1 Z2 (wh1 Z3 (wh1 Z4 (wh1 (by exact mem5) (wh1 (by exact mem6) wh0))))))) nD⟩
  ·
   have hje : p.1 = 256 := by omega
   have hfin : FarRep p.2 (cv.lin (le a) (le b) P Q) := by rw [hje, lin_last] at hw; exact hw
   refine Sat.exit (at_x (at_x (bl_h (at_n (Sat.seq (Sat.region (Tr.loadAll J J J Tryz.underlying180 J Sz180 Z2 (far.length (by exact hwo)) ?_)))))))
   refine Tr.callV J J J J Body193 (r5_near p.2 _ hfin) (fun _ _ => trivial) (Tr.storeAll J J J J (Point.isCell zP) Sz79 (Point.length zP) Z4 (Point.length zZ) (by exact upd4) ?_)
   refine Tr.nil (at_n (Sat.ret (en_r ?_)))
   refine ⟨_, [], res_cell J J Y79 J Sz79 Z4 (by exact Point.length zP), sP, sP, ?_, rfl⟩
   rfl

theorem r5_Mul2z (a : List UInt8) (P : Pt Fp) (ha : a.length = 32) (hP : cv.on P) : Meets Tryz.prog 114 [agg (bytesV a), agg (ptc P).cells, agg (bytesV (List.replicate 32 0)), agg (ptc (zero : Pt Fp)).cells] [] (fun _ => True) (fun v out => v = agg (ptc (cv.mul (le a) P)).cells ∧ out = []) := by
  have h := r5_Mul2 a (List.replicate 32 0) P zero ha rfl hP cv.on_zero
  rwa [le_zero32, lin_one] at h

theorem r5_Mul (a : List UInt8) (P : Pt Fp) (ha : a.length = 32) (hP : cv.on P) : Meets Tryz.prog 65 [agg (bytesV a), agg (ptc P).cells] [] (fun _ => True) (fun v out => v = agg (ptc (cv.mul (le a) P)).cells ∧ out = []) := by
 intro W hW
 refine calls_of (hp0 := []) Tryz.func65 J 10 Tryz.ntmps65 J (HRep.nil _) (Sat.seq (Sat.region (Tr.boxA J J ?_)))
 intro n2 hn2 hf2
 refine Tr.boxA J J ?_
 intro n3 hn3 hf3
 refine Tr.alloc (cs := Point.zero.cells) J Point.zr J ?_
 intro n4 hn4 hf4
 refine Tr.nil (at_n (Sat.seq (Sat.draw [(1, 0), (1, 1), (0, 2), (3, 3), (3, 4), (4, 5)] Mixed zK (Tr.loadAll J J J Y77 J Sz77 Z2 (by (simp [ha]; done)) ?_))))
 refine Tr.loadAll J J J Y79 J Sz79 Z1 (Point.length zP) ?_
 refine Tr.build (cs := bytesV (List.replicate 32 0)) J J J (fun w => by kernel_rfl) ?_
 refine Tr.callV J J J J Body120 (r5_Zero) (fun _ _ => trivial) (Tr.callV J J J J Body114 (r5_Mul2z a P ha hP) (fun _ _ => trivial) (Tr.storeAll J J J J (Point.isCell zP) Sz79 (Point.length zP) Z0 (Point.length zZ) zU ?_))
 refine Tr.nil (at_n (Sat.ret (en_r ?_)))
 refine ⟨_, [], res_cell J J Y79 J Sz79 Z0 (by exact Point.length zP), sP, sP, ?_, rfl⟩
 rfl

theorem r5_Bytes (P : Pt Fp) (hP : cv.on P) : Meets Tryz.prog 64 [agg (ptc P).cells] [] (fun _ => True) (fun v out => v = .tuple #[agg (bytesV (pb P)), i64 0] ∧ out = []) := by
 intro W hW
 refine calls_of (hp0 := []) Tryz.func64 J 19 Tryz.ntmps64 J (HRep.nil _) (Sat.seq (Sat.region (Tr.boxA J J ?_)))
 intro n1 hn1 hf1
 refine Tr.alloc (cs := (bytesV (List.replicate 32 0))) J Zr23 J ?_
 intro n2 hn2 hf2
 refine Tr.assign J J J (Tr.nil (at_n (Sat.seq (Sat.seq (Sat.region (Tr.loadAll J J J Y79 J Sz79 Z1 (Point.length zP) ?_))))))
 refine Tr.callV J J J J Body118 (r5_Check P hP) (fun _ _ => trivial) (Tr.nei J J J J (show (!decide _) = false from congrArg not (decide_eq_true (rfl))) (Tr.nil (at_n (Sat.cond_f J (rfl) (Sat.skip (at_n (Sat.seq (Sat.region (Tr.fld J J J Y79 J Sz77 dE _ J (Tr.loadN (bytesV _) J J J Y77 J Sz77 Z1 (Point.row_fY zP) (Point.rl_fY zP) ?_))))))))))
 refine Tr.alloc (cs := (bytesV (List.replicate 32 0))) J Zr23 J ?_
 intro n4 hn4 hf4
 refine Tr.storeAll J J J J zE Sz23 (by (simp [fb_length, ptc_y]; done)) Z0 sP zU ?_
 refine Tr.nil (at_n (Sat.join (ι := Unit) (fun _u => ⟨[(2, ptr n2 0), (4, ptr n4 0)], [⟨n4, bytesV (pb P), 23, 32⟩, ⟨n2, bytesV (List.replicate 32 0), 23, 32⟩]⟩) (fun _u => True) ?_ ?_))
 ·
  refine Sat.seq (Sat.region (Tr.fld J J J Y79 J Sz77 dE _ J (Tr.loadN (bytesV _) J J J Y77 J Sz77 Z2 (Point.row_fX zP) (Point.rl_fX zP) ?_)))
  refine Tr.callV J J J J Body119 (r_odd P.x) (fun _ _ => trivial) (Tr.nil (at_n (Sat.condP J (fun hc1 => ?_) (fun hc1 => ?_))))
  ·
   refine Sat.region (Tr.idxArr1 J J J J Y23 Sz5 31 J dE (Tr.load1 J J J Y5 J Z0 (get_bytes (by show 31 < (fb P.y).length; rw [fb_length]; decide)) ?_))
   refine Tr.add_u8 J J J (show evIn _ _ = some (u8 128) from rfl) (Tr.idxArr1 J J J J Y23 Sz5 31 J dE ?_)
   rw [show ((ptc P).fY.getD 31 0 + 128 : UInt8) = (fb P.y).getD 31 0 ||| 128 from byte_plus _ (fb_top P.y)]
   refine Tr.store1 J J J J J Sz5 Z0 (by (simp [fb_length, ptc_y]; done)) (by exact set_bytes _ _ _) zU ?_
   refine Tr.nil (at_n ?_)
   (rw [show pb P = (fb P.y).set 31 ((fb P.y).getD 31 0 ||| 128) from if_pos hc1]; exact ⟨(), trivial, weak_of (wk1 rfl (wk1 rfl wk0)) (wh1 Z0 (wh1 Z1 wh0)) nD⟩)
  ·
   refine Sat.skip (at_n ?_)
   (rw [show pb P = fb P.y from if_neg hc1]; exact ⟨(), trivial, weak_of (wk1 rfl (wk1 rfl wk0)) (wh1 Z0 (wh1 Z1 wh0)) nD⟩)
 ·
  intro _u hj
  skip
  refine Sat.seq (Sat.region (Tr.loadAll J J J Y23 J Sz23 Z0 (by (simp [pb_length]; done)) ?_))
  refine Tr.storeAll J J J J zE Sz23 (by (simp [pb_length]; done)) Z1 sP zV ?_
  refine Tr.assign J J J (Tr.nil (at_n (Sat.ret (en_r ?_))))
  refine ⟨_, [], res_cell_tmp J J J Y23 J Sz23 Z1 (by simp [pb_length]), sP, sP, ?_, rfl⟩
  rfl

end Go.Proofs.YtpacobmjjjillaaGreat
end

section
namespace Hw
open Go
set_option linter.unusedSimpArgs false
set_option linter.unusedVariables false
set_option maxRecDepth 100000

def ev : List Nat → Nat
  | [] => 0
  | x :: l => x + 256 * ev l
def addC (l : List Nat) (k v : Nat) : List Nat := l.set k (l.getD k 0 + v)
def inn (a b : List UInt8) (i : Nat) (l : List Nat) : Nat → List Nat
  | 0 => l
  | q + 1 => addC (inn a b i l q) (i + q) ((a.getD i 0).toNat * (b.getD q 0).toNat)
def out (a b : List UInt8) : Nat → List Nat
  | 0 => List.replicate 64 0
  | p + 1 => inn a b p (out a b p) 32
end Hw
end

section
namespace Go.Proofs.YtpacobmjjjillaaGreat
open Go Hw
set_option linter.unusedVariables false
set_option linter.unusedSimpArgs false

open Ed

theorem byte_8 : ∀ b : UInt8, b - UInt8.ofNat (b.toNat % 8) = b &&& 248 ∧ UInt8.ofNat (b.toNat % 64) + 64 = (b &&& 127) ||| 64 := by
  intro b
  have h : ∀ n, n < 256 → UInt8.ofNat n - UInt8.ofNat ((UInt8.ofNat n).toNat % 8) = UInt8.ofNat n &&& 248 ∧ UInt8.ofNat ((UInt8.ofNat n).toNat % 64) + 64 = (UInt8.ofNat n &&& 127) ||| 64 := by decide
  have h2 := h b.toNat b.toNat_lt
  rwa [UInt8.ofNat_toNat] at h2
theorem clamp_ref {l : List UInt8} (h : l.length = 32) : (l.set 0 (l.getD 0 0 - UInt8.ofNat ((l.getD 0 0).toNat % 8))).set 31 (UInt8.ofNat (((l.set 0 (l.getD 0 0 - UInt8.ofNat ((l.getD 0 0).toNat % 8))).getD 31 0).toNat % 64) + 64) = clampB l := by
  have g : (l.set 0 (l.getD 0 0 - UInt8.ofNat ((l.getD 0 0).toNat % 8))).getD 31 0 = l.getD 31 0 := by
    rw [List.getD_eq_getElem?_getD, List.getElem?_set_ne dE, ← List.getD_eq_getElem?_getD]
  rw [g, (byte_8 _).1, (byte_8 _).2]
  rfl
theorem upd_all {f : List UInt8} (h : f.length = 32) : upd (bytesV (List.replicate 32 0)) 0 (bytesV f) = bytesV f := by simp [upd, bytesV, h]
theorem sees_take {w : World} {b n : Nat} {l : List UInt8} (h : Sees w b 0 (bytesV l)) : SeesP w (some ⟨b, 0, none⟩) (bytesV (l.take n)) := SeesP.of (fun i v hv => h i v (take_sees hv))
theorem sees_drop {w : World} {b n : Nat} {l : List UInt8} (h : Sees w b 0 (bytesV l)) : SeesP w (some ⟨b, n, none⟩) (bytesV (l.drop n)) := SeesP.of (fun i v hv => by
  have e : (bytesV l)[n + i]? = some v := by rw [bytesV, List.map_drop, List.getElem?_drop] at hv; exact hv
  have := h _ v e
  rwa [Nat.zero_add] at this)

theorem r6_secret (seed : List UInt8) (h32 : seed.length = 32) (s : List UInt8) (hs : Hid (sha512 seed = s)) : Meets Tryz.prog 121 [agg (bytesV seed)] [] (fun _ => True) (fun v out => ∃ q c, v = .tuple #[agg (bytesV (clampB (s.take 32))), .slice (some ⟨q, 0, none⟩) 32 c] ∧ 32 ≤ c ∧ out = [⟨q, bytesV (s.drop 32), 5, c * 1⟩]) := by
 intro W hW
 have hs64 : s.length = 64 := by rw [← hs.out]; exact sha512_length seed
 have ht32 : (s.take 32).length = 32 := by rw [List.length_take, hs64]; rfl
 have hd32 : (s.drop 32).length = 32 := by rw [List.length_drop, hs64]
 have hcl := clampB_length ht32
 refine calls_of (hp0 := []) Tryz.func121 J 28 Tryz.ntmps121 J (HRep.nil _) (Sat.seq (Sat.region (Tr.boxA J J ?_)))
 intro n1 hn1 hf1
 refine Tr.alloc (cs := (bytesV (List.replicate 32 0))) J Zr77 J ?_
 intro n2 hn2 hf2
 refine Tr.assign J J J (Tr.nil (at_n (Sat.seq (Sat.region (Tr.sliceArr J J J Y23 Sz5 (Tr.mkRow2 (z := .slice none 0 0) [.slice (some ⟨n1, 0, none⟩) 32 32] [.slice (some ⟨n1, 0, none⟩) 32 32] rfl J Y133 Sz39 Zr39 J J (by intro v hv; rw [List.mem_singleton.1 hv]; rfl) dE J ?_))))))
 intro q7
 refine Tr.callV J J J J Body136 (r2_Sum512 (some ⟨q7, 0, none⟩) 1 1 [⟨some ⟨n1, 0, none⟩, 32, 32⟩] [seed] rfl J (fun j hj => (by
   rcases (show j = 0 by omega) with rfl
   · exact ⟨by show 32 = List.length _; exact h32.symm, fun e => by cases e⟩)) (seed) sP (by (simp [h32]; done)) dE s hs) (fun w h => ⟨SeesP.of (sees_own h Z0), (fun j hj => (by
   rcases (show j = 0 by omega) with rfl
   · exact SeesP.of (sees_own (cs := bytesV seed) h Z2)))⟩) ?_
 refine Tr.alloc (cs := (bytesV (List.replicate 64 0))) J Zr26 J ?_
 intro n4 hn4 hf4
 refine Tr.storeAll J J J J zE Sz26 (by (simp [hs64]; done)) Z0 sP zU ?_
 refine Tr.nil (at_n (Sat.seq (Sat.region (Tr.alloc (cs := (bytesV (List.replicate 32 0))) J Zr77 J ?_))))
 intro n5 hn5 hf5
 refine Tr.nil (at_n (Sat.seq (Sat.draw [(0, 0), (0, 1), (4, 2)] Mixed zK (Tr.sliceArr J J J Y77 Sz5 (Tr.sliceArrHi 32 J J J J J dE dE Y26 Sz5 (Tr.copyP (bytesV (s.take 32)) 32 J J J J J Y39 Sz5 (fun w h => sees_take (sees_own h Z1)) (fun e => by cases e) (by rw [bytesV, List.length_map]; exact ht32) J (by rw [bytesV, ← List.map_take, List.take_of_length_le (Nat.le_of_eq ht32)]) (bytesV_cell _) Z0 sP (by exact upd_all ht32) zU ?_))))))
 refine Tr.nil (at_n (Sat.seq (Sat.region (Tr.idxArr1 J J J J Y77 Sz5 0 J dE (Tr.load1 J J J Y5 J Z0 zG ?_)))))
 refine Tr.idxArr1 J J J J Y77 Sz5 0 J dE (Tr.load1 J J J Y5 J Z0 zG ?_)
 refine Tr.rem_u8 J J J J 8 J dE (Tr.sub_u8 J J J J (Tr.idxArr1 J J J J Y77 Sz5 0 J dE (Tr.store1 J J J J J Sz5 Z0 (by (simp [hs64]; done)) (by exact set_bytes _ _ _) zU ?_)))
 refine Tr.nil (at_n (Sat.seq (Sat.region (Tr.idxArr1 J J J J Y77 Sz5 31 J dE (Tr.load1 J J J Y5 J Z0 (by exact get_bytes (by (simp [ht32]; done))) ?_)))))
 refine Tr.rem_u8 J J J J 64 J dE (Tr.add_u8 J J J (show evIn _ _ = some (u8 64) from rfl) (Tr.idxArr1 J J J J Y77 Sz5 31 J dE (Tr.store1 J J J J J Sz5 Z0 (by (simp [hs64, ht32]; done)) (by exact set_bytes _ _ _) zU ?_)))
 refine Tr.nil (at_n (Sat.seq (Sat.withK (sp_k (sp_v (sp_v (sp_v (sp_v sp_n))))) J (Sat.draw [(0, 0), (0, 2), (2, 1), (4, 3), (4, 4), (0, 5)] Mixed zK ?_))))
 rw [clamp_ref ht32]
 refine Tr.kloadAll J J J Y77 J Sz77 Z0 (by (simp [hcl]; done)) ?_
 refine Tr.sliceArrLo 32 J J J J J dE Y26 Sz5 (Tr.mkRow2 (z := u8 0) [] [] rfl J Y39 Sz5 Zr5 J J (by intro v hv; cases hv) dE J ?_)
 intro q25
 refine Tr.appendSl (z := u8 0) (by' := 1) (bytesV (s.drop 32)) J J J J J Y39 Y39 Sz5 Zr5 (by unfold By; kernel_rfl) J (fun w h => sees_drop (sees_own h Z1)) (fun e => by cases e) (bytesV_cell _) rM J J oM oM oM (by rw [bytesV, List.length_map]; exact hd32) ?_
 intro q27 c27 hq27
 refine Tr.storeAll J J J J zE Sz77 (by (simp [hcl]; done)) Z3 sP (by exact upd3) ?_
 refine Tr.assign J J J (Tr.nil (at_n (Sat.ret (en_r ?_))))
 simp only [List.cons_append, List.nil_append, List.append_nil]
 refine end_perm (out := (⟨q27, [] ++ bytesV (s.drop 32), 5, c27 * 1⟩ :: [])) (res_cell_tmp J J J Y77 J Sz77 Z3 (by simp [hcl])) (pm_cons rM pm_nil) ?_
 exact ⟨q27, c27, rfl, by omega, rfl⟩

theorem r6_Secret (seed : List UInt8) (h32 : seed.length = 32) (s : List UInt8) (hs : Hid (sha512 seed = s)) : Meets Tryz.prog 66 [agg (bytesV seed)] [] (fun _ => True) (fun v out => v = agg (bytesV (clampB (s.take 32))) ∧ out = []) := by
 intro W hW
 have hs64 : s.length = 64 := by rw [← hs.out]; exact sha512_length seed
 have ht32 : (s.take 32).length = 32 := by rw [List.length_take, hs64]; rfl
 have hd32 : (s.drop 32).length = 32 := by rw [List.length_drop, hs64]
 have hcl := clampB_length ht32
 revert hcl
 have hsec := r6_secret seed h32 s hs
 revert hsec
 generalize clampB (s.take 32) = N
 intro hsec hcl
 refine calls_of (hp0 := []) Tryz.func66 J 11 Tryz.ntmps66 J (HRep.nil _) (Sat.seq (Sat.region (Tr.boxA J J ?_)))
 intro n1 hn1 hf1
 refine Tr.alloc (cs := (bytesV (List.replicate 32 0))) J Zr77 J ?_
 intro n2 hn2 hf2
 refine Tr.nil (at_n (Sat.seq (Sat.region (Tr.loadAll J J J Y23 J Sz23 Z1 (by (simp [h32]; done)) ?_))))
 refine Tr.call4 J J J J J Body121 (hsec) (fun _ _ => trivial) ?_
 rintro v7 out7 ⟨q7, c7, rfl, hc7, rfl⟩
 simp only [List.cons_append, List.nil_append]
 refine Tr.move J J J (Tr.extract J J J J (Tr.extract J J J J (Tr.alloc (cs := (bytesV (List.replicate 32 0))) J Zr77 J ?_)))
 intro n3 hn3 hf3
 refine Tr.storeAll J J J J zE Sz77 (by (simp [hcl]; done)) Z0 sP zU ?_
 refine Tr.assign J J J (Tr.nil (at_n (Sat.seq (Sat.region (Tr.loadAll J J J Y77 J Sz77 Z0 (by (simp [hcl]; done)) ?_)))))
 refine Tr.storeAll J J J J zE Sz77 (by (simp [hcl]; done)) Z2 sP (by exact upd2) ?_
 refine Tr.nil (at_n (Sat.ret (en_r ?_)))
 refine ⟨_, [], res_cell J J Y77 J Sz77 Z2 (by simp [hcl]), sP, sP, ?_, rfl⟩
 rfl

theorem r6_KeyQ (N : List UInt8) (hN : N.length = 32) (Q : Pt Fp) (hQ : cv.mul (le N) bP = Q) : cv.on Q ∧ Meets Tryz.prog 65 [agg (bytesV N), agg (ptc bP).cells] [] (fun _ => True) (fun v out => v = agg (ptc Q).cells ∧ out = []) := by
  rw [← hQ]; exact ⟨cv.on_mul bP_on _, r5_Mul N bP hN bP_on⟩

theorem r6_Key (seed : List UInt8) (h32 : seed.length = 32) (s : List UInt8) (hs : Hid (sha512 seed = s)) : Meets Tryz.prog 18 [agg (bytesV seed)] [] (fun _ => True) (fun v out => v = agg (bytesV (sgK s)) ∧ out = []) := by
 intro W hW
 have hs64 : s.length = 64 := by rw [← hs.out]; exact sha512_length seed
 have ht32 : (s.take 32).length = 32 := by rw [List.length_take, hs64]; rfl
 have hd32 : (s.drop 32).length = 32 := by rw [List.length_drop, hs64]
 have hcl := clampB_length ht32
 obtain ⟨Q, hQ⟩ : ∃ Q, cv.mul (le (clampB (s.take 32))) bP = Q := ⟨_, rfl⟩
 have hsec := r6_Secret seed h32 s hs
 have hkq := r6_KeyQ (clampB (s.take 32)) hcl Q hQ
 rw [show sgK s = pb Q from by rw [sgK, hQ]]
 clear hQ
 revert hcl hsec hkq
 generalize clampB (s.take 32) = N
 intro hcl hsec hkq
 obtain ⟨hQo, hmul⟩ := hkq
 refine calls_of (hp0 := []) Tryz.func18 J 14 Tryz.ntmps18 J (HRep.nil _) (Sat.seq (Sat.region (Tr.boxA J J ?_)))
 intro n1 hn1 hf1
 refine Tr.alloc (cs := (bytesV (List.replicate 32 0))) J Zr25 J ?_
 intro n2 hn2 hf2
 refine Tr.nil (at_n (Sat.seq (Sat.region (Tr.loadAll J J J Y23 J Sz23 Z1 (by (simp [h32]; done)) ?_))))
 refine Tr.callV J J J J Body66 (hsec) (fun _ _ => trivial) (Tr.callV J J J J Body67 (r5_Base) (fun _ _ => trivial) (Tr.callV J J J J Body65 (hmul) (fun _ _ => trivial) (Tr.callV J J J J Body64 (r5_Bytes Q hQo) (fun _ _ => trivial) (Tr.move J J J (Tr.extract J J J J (Tr.extract J J J J (Tr.alloc (cs := (bytesV (List.replicate 32 0))) J Zr23 J ?_)))))))
 intro n3 hn3 hf3
 refine Tr.storeAll J J J J zE Sz23 (by (simp [pb_length]; done)) Z0 sP zU ?_
 refine Tr.assign J J J (Tr.nil (at_n (Sat.seq (Sat.region (Tr.loadAll J J J Y23 J Sz23 Z0 (by (simp [pb_length]; done)) ?_)))))
 refine Tr.storeAll J J J J zE Sz25 (by (simp [pb_length]; done)) Z1 sP zV ?_
 refine Tr.nil (at_n (Sat.ret (en_r ?_)))
 refine ⟨_, [], res_cell J J Y25 J Sz25 Z1 (by simp [pb_length]), sP, sP, ?_, rfl⟩
 rfl

theorem r6_challenge (r k : List UInt8) (hr : r.length = 32) (hk : k.length = 32) (sb : Sl) (bb : List UInt8) (hbn : bb.length ≤ 80000) (s : List UInt8) (hs : Hid (sha512 (r ++ (k ++ bb)) = s)) : Meets Tryz.prog 115 [agg (bytesV r), agg (bytesV k), sb.v] [] (fun W => BytesAt W sb bb) (fun v out => v = agg (bytesV (sgR s)) ∧ out = []) := by
 intro W hW
 have hs64 : s.length = 64 := by rw [← hs.out]; exact sha512_length _
 obtain ⟨R, hR⟩ : ∃ R, Hid (sgR s = R) := ⟨_, ⟨rfl⟩⟩
 have hRl : R.length = 32 := by rw [← hR.out]; exact sgR_length s
 have hres := fun b => ref_Rest b 0 64 64 s hs64 dE
 rw [show leb 32 (le s % L) = R from hR.out] at hres
 rw [hR.out]
 refine calls_of (hp0 := []) Tryz.func115 J 21 Tryz.ntmps115 J (HRep.nil _) (Sat.seq (Sat.region (Tr.boxA J J ?_)))
 intro n3 hn3 hf3
 refine Tr.boxA J J ?_
 intro n4 hn4 hf4
 refine Tr.alloc (cs := (bytesV (List.replicate 32 0))) J Zr77 J ?_
 intro n6 hn6 hf6
 refine Tr.nil (at_n (Sat.seq (Sat.draw [(0, 0), (0, 1), (0, 2), (2, 3), (3, 4), (2, 5), (4, 6)] Mixed zK (Tr.sliceArr J J J Y23 Sz5 (Tr.sliceArr J J J Y25 Sz5 (Tr.move J J J (Tr.mkRow2 (z := .slice none 0 0) [.slice (some ⟨n3, 0, none⟩) 32 32, .slice (some ⟨n4, 0, none⟩) 32 32, sb.v] [.slice (some ⟨n3, 0, none⟩) 32 32, .slice (some ⟨n4, 0, none⟩) 32 32, sb.v] rfl J Y133 Sz39 Zr39 J J (by intro v hv; simp only [List.mem_cons, List.not_mem_nil, or_false] at hv; rcases hv with rfl | rfl | rfl <;> rfl) dE J ?_)))))))
 intro q13
 refine Tr.callV J J J J Body136 (r2_Sum512 (some ⟨q13, 0, none⟩) 3 3 [⟨some ⟨n3, 0, none⟩, 32, 32⟩, ⟨some ⟨n4, 0, none⟩, 32, 32⟩, sb] [r, k, bb] rfl J (fun j hj => (by
   rcases (show j = 0 ∨ j = 1 ∨ j = 2 by omega) with rfl | rfl | rfl
   · exact ⟨by show 32 = List.length _; exact hr.symm, fun e => by cases e⟩
   · exact ⟨by show 32 = List.length _; exact hk.symm, fun e => by cases e⟩
   · exact ⟨by show sb.n = bb.length; exact hW.len.symm, fun e => by have h1 := hW.nil e; have h2 := hW.cap; show sb.n = 0; omega⟩)) (r ++ (k ++ bb)) sP (by (simp [hr, hk]; omega)) dE s hs) (fun w h => ⟨SeesP.of (sees_own h Z0), (fun j hj => (by
   rcases (show j = 0 ∨ j = 1 ∨ j = 2 by omega) with rfl | rfl | rfl
   · exact SeesP.of (sees_own (cs := bytesV r) h Z3)
   · exact SeesP.of (sees_own (cs := bytesV k) h Z2)
   · exact seesP_ext h rfl hW.see))⟩) ?_
 refine Tr.alloc (cs := (bytesV (List.replicate 64 0))) J Zr26 J ?_
 intro n7 hn7 hf7
 refine Tr.storeAll J J J J zE Sz26 (by (simp [hs64]; done)) Z0 sP zU ?_
 refine Tr.nil (at_n (Sat.seq (Sat.region (Tr.sliceArr J J J Y26 Sz5 (Tr.callV J J J J Body137 (hres n7) (fun w h => sees_own h Z0) ?_)))))
 refine Tr.move J J J (Tr.extract J J J J (Tr.extract J J J J (Tr.alloc (cs := (bytesV (List.replicate 32 0))) J Zr77 J ?_)))
 intro n8 hn8 hf8
 refine Tr.storeAll J J J J zE Sz77 (by (simp [hRl]; done)) Z0 sP zU ?_
 refine Tr.assign J J J (Tr.nil (at_n (Sat.seq (Sat.region (Tr.loadAll J J J Y77 J Sz77 Z0 (by (simp [hRl]; done)) ?_)))))
 refine Tr.storeAll J J J J zE Sz77 (by (simp [hRl]; done)) Z3 sP (by exact upd3) ?_
 refine Tr.nil (at_n (Sat.ret (en_r ?_)))
 refine ⟨_, [], res_cell J J Y77 J Sz77 Z3 (by simp [hRl]), sP, sP, ?_, rfl⟩
 rfl

theorem r5_Read_none (b : List UInt8) (hb : b.length = 32) (h : rdP b = none) : Meets Tryz.prog 112 [agg (bytesV b)] [] (fun _ => True) (fun v out => v = .tuple #[agg Point.zero.cells, i64 4] ∧ out = []) := by
  have := r5_Read b hb
  rwa [rdV_none h] at this
theorem r5_Read_some (b : List UInt8) (P : Pt Fp) (hb : b.length = 32) (h : rdP b = some P) : Meets Tryz.prog 112 [agg (bytesV b)] [] (fun _ => True) (fun v out => v = .tuple #[agg (ptc P).cells, i64 0] ∧ out = []) := by
  have := r5_Read b hb
  rwa [rdV_some h] at this
theorem r6_Good_kr (k : List UInt8) (hk : k.length = 32) (sb : Sl) (bb : List UInt8) (hbn : bb.length ≤ 80000) (sg : List UInt8) (hsg : sg.length = 64) (h1 : rdP k = none) (h2 : rdP (sg.take 32) = none) : Meets Tryz.prog 61 [agg (bytesV k), sb.v, agg (bytesV sg)] [] (fun W => BytesAt W sb bb) (fun v out => v = .bool false ∧ out = []) := by
 intro W hW
 have hd32 : (sg.drop 32).length = 32 := by rw [List.length_drop, hsg]
 have ht32 : (sg.take 32).length = 32 := by rw [List.length_take, hsg]; rfl
 refine calls_of (hp0 := []) Tryz.func61 J 51 Tryz.ntmps61 J (HRep.nil _) (Sat.seq (Sat.region (Tr.boxA J J ?_)))
 intro n3 hn3 hf3
 refine Tr.boxA J J ?_
 intro n5 hn5 hf5
 refine Tr.assign J J J (Tr.nil (at_n (Sat.seq (Sat.region (Tr.alloc (cs := (bytesV (List.replicate 32 0))) J Zr23 J ?_)))))
 intro n7 hn7 hf7
 refine Tr.nil (at_n (Sat.seq (Sat.region (Tr.alloc (cs := (bytesV (List.replicate 32 0))) J Zr77 J ?_))))
 intro n8 hn8 hf8
 refine Tr.nil (at_n (Sat.seq (Sat.draw [(0, 0), (0, 1), (4, 2)] Mixed zK (Tr.sliceArr J J J Y23 Sz5 (Tr.sliceArrHi 32 J J J J J dE dE Y27 Sz5 (Tr.copyP (bytesV (sg.take 32)) 32 J J J J J Y39 Sz5 (fun w h => sees_take (sees_own h Z2)) (fun e => by cases e) (by rw [bytesV, List.length_map]; exact ht32) J (by rw [bytesV, ← List.map_take, List.take_of_length_le (Nat.le_of_eq ht32)]) (bytesV_cell _) Z1 sP (by exact upd_all ht32) zV ?_))))))
 refine Tr.nil (at_n (Sat.seq (Sat.draw [(0, 0), (0, 1), (4, 2)] Mixed zK (Tr.sliceArr J J J Y77 Sz5 (Tr.sliceArrLo 32 J J J J J dE Y27 Sz5 (Tr.copyP (bytesV (sg.drop 32)) 32 J J J J J Y39 Sz5 (fun w h => sees_drop (sees_own h Z2)) (fun e => by cases e) (by rw [bytesV, List.length_map]; exact hd32) J (by rw [bytesV, ← List.map_take, List.take_of_length_le (Nat.le_of_eq hd32)]) (bytesV_cell _) Z0 sP (by exact upd_all hd32) zU ?_))))))
 refine Tr.nil (at_n (Sat.seq (Sat.region (Tr.loadAll J J J Y25 J Sz25 Z3 (by (simp [hk]; done)) ?_))))
 refine Tr.callV J J J J Body112 (r5_Read_none k hk h1) (fun _ _ => trivial) (Tr.move J J J (Tr.extract J J J J (Tr.extract J J J J (Tr.alloc (cs := Point.zero.cells) J Point.zr J ?_))))
 intro n9 hn9 hf9
 refine Tr.storeAll J J J J (Point.isCell zZ) Sz79 (Point.length zZ) Z0 (Point.length zZ) zU ?_
 refine Tr.assign J J J (Tr.nil (at_n (Sat.seq (Sat.region (Tr.loadAll J J J Y23 J Sz23 Z2 (by (simp [hsg]; done)) ?_)))))
 refine Tr.callV J J J J Body112 (r5_Read_none (sg.take 32) ht32 h2) (fun _ _ => trivial) (Tr.move J J J (Tr.extract J J J J (Tr.extract J J J J (Tr.alloc (cs := Point.zero.cells) J Point.zr J ?_))))
 intro n11 hn11 hf11
 refine Tr.storeAll J J J J (Point.isCell zZ) Sz79 (Point.length zZ) Z0 (Point.length zZ) zU ?_
 refine Tr.assign J J J (Tr.nil (at_n (Sat.seq (Sat.seq (Sat.region (Tr.move J J J (Tr.nei J J J J (show (!decide _) = true from congrArg not (decide_eq_false dE)) (Tr.move J J J (Tr.skp J J (Tr.skp J J (Tr.pick J J J J J J (Tr.move J J J (Tr.skp J J (Tr.skp J J (Tr.skp J J (Tr.pick J J J J J J (Tr.nil (at_n (Sat.cond_t J J (Sat.seq (Sat.region (Tr.assign J J J (Tr.nil (at_n (Sat.ret (at_r (en_r ?_)))))))))))))))))))))))))))
 refine ⟨_, [], res_tmp J J, sP, sP, ?_, rfl⟩
 rfl

theorem r6_Good_k (k : List UInt8) (hk : k.length = 32) (sb : Sl) (bb : List UInt8) (hbn : bb.length ≤ 80000) (sg : List UInt8) (hsg : sg.length = 64) (R : Pt Fp) (h1 : rdP k = none) (h2 : rdP (sg.take 32) = some R) : Meets Tryz.prog 61 [agg (bytesV k), sb.v, agg (bytesV sg)] [] (fun W => BytesAt W sb bb) (fun v out => v = .bool false ∧ out = []) := by
 intro W hW
 have hd32 : (sg.drop 32).length = 32 := by rw [List.length_drop, hsg]
 have ht32 : (sg.take 32).length = 32 := by rw [List.length_take, hsg]; rfl
 refine calls_of (hp0 := []) Tryz.func61 J 51 Tryz.ntmps61 J (HRep.nil _) (Sat.seq (Sat.region (Tr.boxA J J ?_)))
 intro n3 hn3 hf3
 refine Tr.boxA J J ?_
 intro n5 hn5 hf5
 refine Tr.assign J J J (Tr.nil (at_n (Sat.seq (Sat.region (Tr.alloc (cs := (bytesV (List.replicate 32 0))) J Zr23 J ?_)))))
 intro n7 hn7 hf7
 refine Tr.nil (at_n (Sat.seq (Sat.region (Tr.alloc (cs := (bytesV (List.replicate 32 0))) J Zr77 J ?_))))
 intro n8 hn8 hf8
 refine Tr.nil (at_n (Sat.seq (Sat.draw [(0, 0), (0, 1), (4, 2)] Mixed zK (Tr.sliceArr J J J Y23 Sz5 (Tr.sliceArrHi 32 J J J J J dE dE Y27 Sz5 (Tr.copyP (bytesV (sg.take 32)) 32 J J J J J Y39 Sz5 (fun w h => sees_take (sees_own h Z2)) (fun e => by cases e) (by rw [bytesV, List.length_map]; exact ht32) J (by rw [bytesV, ← List.map_take, List.take_of_length_le (Nat.le_of_eq ht32)]) (bytesV_cell _) Z1 sP (by exact upd_all ht32) zV ?_))))))
 refine Tr.nil (at_n (Sat.seq (Sat.draw [(0, 0), (0, 1), (4, 2)] Mixed zK (Tr.sliceArr J J J Y77 Sz5 (Tr.sliceArrLo 32 J J J J J dE Y27 Sz5 (Tr.copyP (bytesV (sg.drop 32)) 32 J J J J J Y39 Sz5 (fun w h => sees_drop (sees_own h Z2)) (fun e => by cases e) (by rw [bytesV, List.length_map]; exact hd32) J (by rw [bytesV, ← List.map_take, List.take_of_length_le (Nat.le_of_eq hd32)]) (bytesV_cell _) Z0 sP (by exact upd_all hd32) zU ?_))))))
 refine Tr.nil (at_n (Sat.seq (Sat.region (Tr.loadAll J J J Y25 J Sz25 Z3 (by (simp [hk]; done)) ?_))))
 refine Tr.callV J J J J Body112 (r5_Read_none k hk h1) (fun _ _ => trivial) (Tr.move J J J (Tr.extract J J J J (Tr.extract J J J J (Tr.alloc (cs := Point.zero.cells) J Point.zr J ?_))))
 intro n9 hn9 hf9
 refine Tr.storeAll J J J J (Point.isCell zZ) Sz79 (Point.length zZ) Z0 (Point.length zZ) zU ?_
 refine Tr.assign J J J (Tr.nil (at_n (Sat.seq (Sat.region (Tr.loadAll J J J Y23 J Sz23 Z2 (by (simp [hsg]; done)) ?_)))))
 refine Tr.callV J J J J Body112 (r5_Read_some (sg.take 32) R ht32 h2) (fun _ _ => trivial) (Tr.move J J J (Tr.extract J J J J (Tr.extract J J J J (Tr.alloc (cs := Point.zero.cells) J Point.zr J ?_))))
 intro n11 hn11 hf11
 refine Tr.storeAll J J J J (Point.isCell zP) Sz79 (Point.length zP) Z0 (Point.length zZ) zU ?_
 refine Tr.assign J J J (Tr.nil (at_n (Sat.seq (Sat.seq (Sat.region (Tr.move J J J (Tr.nei J J J J (show (!decide _) = true from congrArg not (decide_eq_false dE)) (Tr.move J J J (Tr.skp J J (Tr.skp J J (Tr.pick J J J J J J (Tr.move J J J (Tr.skp J J (Tr.skp J J (Tr.skp J J (Tr.pick J J J J J J (Tr.nil (at_n (Sat.cond_t J J (Sat.seq (Sat.region (Tr.assign J J J (Tr.nil (at_n (Sat.ret (at_r (en_r ?_)))))))))))))))))))))))))))
 refine ⟨_, [], res_tmp J J, sP, sP, ?_, rfl⟩
 rfl

theorem r6_Good_r (k : List UInt8) (hk : k.length = 32) (sb : Sl) (bb : List UInt8) (hbn : bb.length ≤ 80000) (sg : List UInt8) (hsg : sg.length = 64) (A : Pt Fp) (h1 : rdP k = some A) (h2 : rdP (sg.take 32) = none) : Meets Tryz.prog 61 [agg (bytesV k), sb.v, agg (bytesV sg)] [] (fun W => BytesAt W sb bb) (fun v out => v = .bool false ∧ out = []) := by
 intro W hW
 have hd32 : (sg.drop 32).length = 32 := by rw [List.length_drop, hsg]
 have ht32 : (sg.take 32).length = 32 := by rw [List.length_take, hsg]; rfl
 refine calls_of (hp0 := []) Tryz.func61 J 51 Tryz.ntmps61 J (HRep.nil _) (Sat.seq (Sat.region (Tr.boxA J J ?_)))
 intro n3 hn3 hf3
 refine Tr.boxA J J ?_
 intro n5 hn5 hf5
 refine Tr.assign J J J (Tr.nil (at_n (Sat.seq (Sat.region (Tr.alloc (cs := (bytesV (List.replicate 32 0))) J Zr23 J ?_)))))
 intro n7 hn7 hf7
 refine Tr.nil (at_n (Sat.seq (Sat.region (Tr.alloc (cs := (bytesV (List.replicate 32 0))) J Zr77 J ?_))))
 intro n8 hn8 hf8
 refine Tr.nil (at_n (Sat.seq (Sat.draw [(0, 0), (0, 1), (4, 2)] Mixed zK (Tr.sliceArr J J J Y23 Sz5 (Tr.sliceArrHi 32 J J J J J dE dE Y27 Sz5 (Tr.copyP (bytesV (sg.take 32)) 32 J J J J J Y39 Sz5 (fun w h => sees_take (sees_own h Z2)) (fun e => by cases e) (by rw [bytesV, List.length_map]; exact ht32) J (by rw [bytesV, ← List.map_take, List.take_of_length_le (Nat.le_of_eq ht32)]) (bytesV_cell _) Z1 sP (by exact upd_all ht32) zV ?_))))))
 refine Tr.nil (at_n (Sat.seq (Sat.draw [(0, 0), (0, 1), (4, 2)] Mixed zK (Tr.sliceArr J J J Y77 Sz5 (Tr.sliceArrLo 32 J J J J J dE Y27 Sz5 (Tr.copyP (bytesV (sg.drop 32)) 32 J J J J J Y39 Sz5 (fun w h => sees_drop (sees_own h Z2)) (fun e => by cases e) (by rw [bytesV, List.length_map]; exact hd32) J (by rw [bytesV, ← List.map_take, List.take_of_length_le (Nat.le_of_eq hd32)]) (bytesV_cell _) Z0 sP (by exact upd_all hd32) zU ?_))))))
 refine Tr.nil (at_n (Sat.seq (Sat.region (Tr.loadAll J J J Y25 J Sz25 Z3 (by (simp [hk]; done)) ?_))))
 refine Tr.callV J J J J Body112 (r5_Read_some k A hk h1) (fun _ _ => trivial) (Tr.move J J J (Tr.extract J J J J (Tr.extract J J J J (Tr.alloc (cs := Point.zero.cells) J Point.zr J ?_))))
 intro n9 hn9 hf9
 refine Tr.storeAll J J J J (Point.isCell zP) Sz79 (Point.length zP) Z0 (Point.length zZ) zU ?_
 refine Tr.assign J J J (Tr.nil (at_n (Sat.seq (Sat.region (Tr.loadAll J J J Y23 J Sz23 Z2 (by (simp [hsg]; done)) ?_)))))
 refine Tr.callV J J J J Body112 (r5_Read_none (sg.take 32) ht32 h2) (fun _ _ => trivial) (Tr.move J J J (Tr.extract J J J J (Tr.extract J J J J (Tr.alloc (cs := Point.zero.cells) J Point.zr J ?_))))
 intro n11 hn11 hf11
 refine Tr.storeAll J J J J (Point.isCell zZ) Sz79 (Point.length zZ) Z0 (Point.length zZ) zU ?_
 refine Tr.assign J J J (Tr.nil (at_n (Sat.seq (Sat.seq (Sat.region (Tr.move J J J (Tr.nei J J J J (show (!decide _) = false from congrArg not (decide_eq_true (rfl))) (Tr.move J J J (Tr.move J J J (Tr.nei J J J J (show (!decide _) = true from congrArg not (decide_eq_false dE)) (Tr.pick J J J J J J (Tr.move J J J (Tr.skp J J (Tr.skp J J (Tr.skp J J (Tr.pick J J J J J J (Tr.nil (at_n (Sat.cond_t J J (Sat.seq (Sat.region (Tr.assign J J J (Tr.nil (at_n (Sat.ret (at_r (en_r ?_)))))))))))))))))))))))))))
 refine ⟨_, [], res_tmp J J, sP, sP, ?_, rfl⟩
 rfl

theorem r6_Good_c (k : List UInt8) (hk : k.length = 32) (sb : Sl) (bb : List UInt8) (hbn : bb.length ≤ 80000) (sg : List UInt8) (hsg : sg.length = 64) (A R : Pt Fp) (h1 : rdP k = some A) (h2 : rdP (sg.take 32) = some R) (hc : ¬ le (sg.drop 32) < L) : Meets Tryz.prog 61 [agg (bytesV k), sb.v, agg (bytesV sg)] [] (fun W => BytesAt W sb bb) (fun v out => v = .bool false ∧ out = []) := by
 intro W hW
 have hd32 : (sg.drop 32).length = 32 := by rw [List.length_drop, hsg]
 have ht32 : (sg.take 32).length = 32 := by rw [List.length_take, hsg]; rfl
 have hcan := ref_canon (sg.drop 32) hd32
 rw [decide_eq_false hc] at hcan
 refine calls_of (hp0 := []) Tryz.func61 J 51 Tryz.ntmps61 J (HRep.nil _) (Sat.seq (Sat.region (Tr.boxA J J ?_)))
 intro n3 hn3 hf3
 refine Tr.boxA J J ?_
 intro n5 hn5 hf5
 refine Tr.assign J J J (Tr.nil (at_n (Sat.seq (Sat.region (Tr.alloc (cs := (bytesV (List.replicate 32 0))) J Zr23 J ?_)))))
 intro n7 hn7 hf7
 refine Tr.nil (at_n (Sat.seq (Sat.region (Tr.alloc (cs := (bytesV (List.replicate 32 0))) J Zr77 J ?_))))
 intro n8 hn8 hf8
 refine Tr.nil (at_n (Sat.seq (Sat.draw [(0, 0), (0, 1), (4, 2)] Mixed zK (Tr.sliceArr J J J Y23 Sz5 (Tr.sliceArrHi 32 J J J J J dE dE Y27 Sz5 (Tr.copyP (bytesV (sg.take 32)) 32 J J J J J Y39 Sz5 (fun w h => sees_take (sees_own h Z2)) (fun e => by cases e) (by rw [bytesV, List.length_map]; exact ht32) J (by rw [bytesV, ← List.map_take, List.take_of_length_le (Nat.le_of_eq ht32)]) (bytesV_cell _) Z1 sP (by exact upd_all ht32) zV ?_))))))
 refine Tr.nil (at_n (Sat.seq (Sat.draw [(0, 0), (0, 1), (4, 2)] Mixed zK (Tr.sliceArr J J J Y77 Sz5 (Tr.sliceArrLo 32 J J J J J dE Y27 Sz5 (Tr.copyP (bytesV (sg.drop 32)) 32 J J J J J Y39 Sz5 (fun w h => sees_drop (sees_own h Z2)) (fun e => by cases e) (by rw [bytesV, List.length_map]; exact hd32) J (by rw [bytesV, ← List.map_take, List.take_of_length_le (Nat.le_of_eq hd32)]) (bytesV_cell _) Z0 sP (by exact upd_all hd32) zU ?_))))))
 refine Tr.nil (at_n (Sat.seq (Sat.region (Tr.loadAll J J J Y25 J Sz25 Z3 (by (simp [hk]; done)) ?_))))
 refine Tr.callV J J J J Body112 (r5_Read_some k A hk h1) (fun _ _ => trivial) (Tr.move J J J (Tr.extract J J J J (Tr.extract J J J J (Tr.alloc (cs := Point.zero.cells) J Point.zr J ?_))))
 intro n9 hn9 hf9
 refine Tr.storeAll J J J J (Point.isCell zP) Sz79 (Point.length zP) Z0 (Point.length zZ) zU ?_
 refine Tr.assign J J J (Tr.nil (at_n (Sat.seq (Sat.region (Tr.loadAll J J J Y23 J Sz23 Z2 (by (simp [hsg]; done)) ?_)))))
 refine Tr.callV J J J J Body112 (r5_Read_some (sg.take 32) R ht32 h2) (fun _ _ => trivial) (Tr.move J J J (Tr.extract J J J J (Tr.extract J J J J (Tr.alloc (cs := Point.zero.cells) J Point.zr J ?_))))
 intro n11 hn11 hf11
 refine Tr.storeAll J J J J (Point.isCell zP) Sz79 (Point.length zP) Z0 (Point.length zZ) zU ?_
 refine Tr.assign J J J (Tr.nil (at_n (Sat.seq (Sat.seq (Sat.region (Tr.move J J J (Tr.nei J J J J (show (!decide _) = false from congrArg not (decide_eq_true (rfl))) (Tr.move J J J (Tr.move J J J (Tr.nei J J J J (show (!decide _) = false from congrArg not (decide_eq_true (rfl))) (Tr.pick J J J J J J (Tr.move J J J (Tr.loadAll J J J Y77 J Sz77 Z2 (by (simp [hsg]; done)) ?_)))))))))))))
 refine Tr.callV J J J J Body113 (hcan) (fun _ _ => trivial) (Tr.not J J J (Tr.pick J J J J J J (Tr.nil (at_n (Sat.cond_t J J (Sat.seq (Sat.region (Tr.assign J J J (Tr.nil (at_n (Sat.ret (at_r (en_r ?_)))))))))))))
 refine ⟨_, [], res_tmp J J, sP, sP, ?_, rfl⟩
 rfl

theorem r6_Good_ok (k : List UInt8) (hk : k.length = 32) (sb : Sl) (bb : List UInt8) (hbn : bb.length ≤ 80000) (sg : List UInt8) (hsg : sg.length = 64) (A R : Pt Fp) (h1 : rdP k = some A) (h2 : rdP (sg.take 32) = some R) (hc : le (sg.drop 32) < L) (s r : List UInt8) (hs : Hid (sha512 (sg.take 32 ++ (k ++ bb)) = s)) (hr : Hid (sgR s = r)) (hrl : r.length = 32) : Meets Tryz.prog 61 [agg (bytesV k), sb.v, agg (bytesV sg)] [] (fun W => BytesAt W sb bb) (fun v out => v = .bool (goodB k bb sg) ∧ out = []) := by
 intro W hW
 have hd32 : (sg.drop 32).length = 32 := by rw [List.length_drop, hsg]
 have ht32 : (sg.take 32).length = 32 := by rw [List.length_take, hsg]; rfl
 have hcan := ref_canon (sg.drop 32) hd32
 rw [decide_eq_true hc] at hcan
 have hA := rdP_on h1
 obtain ⟨Q, hQ⟩ : ∃ Q, cv.lin (le (sg.drop 32)) (le (sgR (sha512 (sg.take 32 ++ (k ++ bb))))) bP (neg A) = Q := ⟨_, rfl⟩
 have hmul := r5_Mul2 (sg.drop 32) r bP (neg A) hd32 hrl bP_on (cv.on_neg hA)
 rw [show cv.lin (le (sg.drop 32)) (le r) bP (neg A) = Q from by rw [← hr.out, ← hs.out]; exact hQ] at hmul
 have hch := r6_challenge (sg.take 32) k ht32 hk sb bb hbn s hs
 rw [hr.out] at hch
 refine calls_of (hp0 := []) Tryz.func61 J 51 Tryz.ntmps61 J (HRep.nil _) (Sat.seq (Sat.region (Tr.boxA J J ?_)))
 intro n3 hn3 hf3
 refine Tr.boxA J J ?_
 intro n5 hn5 hf5
 refine Tr.assign J J J (Tr.nil (at_n (Sat.seq (Sat.region (Tr.alloc (cs := (bytesV (List.replicate 32 0))) J Zr23 J ?_)))))
 intro n7 hn7 hf7
 refine Tr.nil (at_n (Sat.seq (Sat.region (Tr.alloc (cs := (bytesV (List.replicate 32 0))) J Zr77 J ?_))))
 intro n8 hn8 hf8
 refine Tr.nil (at_n (Sat.seq (Sat.draw [(0, 0), (0, 1), (4, 2)] Mixed zK (Tr.sliceArr J J J Y23 Sz5 (Tr.sliceArrHi 32 J J J J J dE dE Y27 Sz5 (Tr.copyP (bytesV (sg.take 32)) 32 J J J J J Y39 Sz5 (fun w h => sees_take (sees_own h Z2)) (fun e => by cases e) (by rw [bytesV, List.length_map]; exact ht32) J (by rw [bytesV, ← List.map_take, List.take_of_length_le (Nat.le_of_eq ht32)]) (bytesV_cell _) Z1 sP (by exact upd_all ht32) zV ?_))))))
 refine Tr.nil (at_n (Sat.seq (Sat.draw [(0, 0), (0, 1), (4, 2)] Mixed zK (Tr.sliceArr J J J Y77 Sz5 (Tr.sliceArrLo 32 J J J J J dE Y27 Sz5 (Tr.copyP (bytesV (sg.drop 32)) 32 J J J J J Y39 Sz5 (fun w h => sees_drop (sees_own h Z2)) (fun e => by cases e) (by rw [bytesV, List.length_map]; exact hd32) J (by rw [bytesV, ← List.map_take, List.take_of_length_le (Nat.le_of_eq hd32)]) (bytesV_cell _) Z0 sP (by exact upd_all hd32) zU ?_))))))
 refine Tr.nil (at_n (Sat.seq (Sat.region (Tr.loadAll J J J Y25 J Sz25 Z3 (by (simp [hk]; done)) ?_))))
 refine Tr.callV J J J J Body112 (r5_Read_some k A hk h1) (fun _ _ => trivial) (Tr.move J J J (Tr.extract J J J J (Tr.extract J J J J (Tr.alloc (cs := Point.zero.cells) J Point.zr J ?_))))
 intro n9 hn9 hf9
 refine Tr.storeAll J J J J (Point.isCell zP) Sz79 (Point.length zP) Z0 (Point.length zZ) zU ?_
 refine Tr.assign J J J (Tr.nil (at_n (Sat.seq (Sat.region (Tr.loadAll J J J Y23 J Sz23 Z2 (by (simp [hsg]; done)) ?_)))))
 refine Tr.callV J J J J Body112 (r5_Read_some (sg.take 32) R ht32 h2) (fun _ _ => trivial) (Tr.move J J J (Tr.extract J J J J (Tr.extract J J J J (Tr.alloc (cs := Point.zero.cells) J Point.zr J ?_))))
 intro n11 hn11 hf11
 refine Tr.storeAll J J J J (Point.isCell zP) Sz79 (Point.length zP) Z0 (Point.length zZ) zU ?_
 refine Tr.assign J J J (Tr.nil (at_n (Sat.seq (Sat.seq (Sat.region (Tr.move J J J (Tr.nei J J J J (show (!decide _) = false from congrArg not (decide_eq_true (rfl))) (Tr.move J J J (Tr.move J J J (Tr.nei J J J J (show (!decide _) = false from congrArg not (decide_eq_true (rfl))) (Tr.pick J J J J J J (Tr.move J J J (Tr.loadAll J J J Y77 J Sz77 Z2 (by (simp [hsg]; done)) ?_)))))))))))))
 refine Tr.callV J J J J Body113 (hcan) (fun _ _ => trivial) (Tr.not J J J (Tr.pick J J J J J J (Tr.nil (at_n (Sat.cond_f J J (Sat.skip (at_n (Sat.seq (Sat.draw [(1, 0), (1, 2), (1, 3), (0, 4), (1, 6), (1, 9), (3, 1), (3, 5), (3, 7), (3, 8), (0, 10), (0, 11)] Mixed zK (Tr.loadAll J J J Y77 J Sz77 Z2 (by (simp [hsg]; done)) ?_))))))))))
 refine Tr.loadAll J J J Y23 J Sz23 Z3 (by (simp [hsg]; done)) ?_
 refine Tr.loadAll J J J Y25 J Sz25 (by exact mem5) (by (simp [hk]; done)) ?_
 refine Tr.move J J J (Tr.loadAll J J J Y79 J Sz79 Z1 (Point.length zP) ?_)
 refine Tr.loadAll J J J Y79 J Sz79 Z0 (Point.length zP) ?_
 refine Tr.callV J J J J Body67 (r5_Base) (fun _ _ => trivial) (Tr.callV J J J J Body115 (hch) (fun w h => bytes_ext h J hW) (Tr.callV J J J J Body116 (r5_Neg A hA) (fun _ _ => trivial) (Tr.callV J J J J Body114 (hmul) (fun _ _ => trivial) (Tr.eql_rec J J J J Point.eg (fun w => Point.eq_runC (ptc_ok _) (ptc_ok _) w) (good_dec hc h1 h2 hQ) (Tr.assign J J J (Tr.nil (at_n (Sat.ret (en_r ?_)))))))))
 refine ⟨_, [], res_tmp J J, sP, sP, ?_, rfl⟩
 rfl

theorem r6_Good (k : List UInt8) (hk : k.length = 32) (sb : Sl) (bb : List UInt8) (hbn : bb.length ≤ 80000) (sg : List UInt8) (hsg : sg.length = 64) : Meets Tryz.prog 61 [agg (bytesV k), sb.v, agg (bytesV sg)] [] (fun W => BytesAt W sb bb) (fun v out => v = .bool (goodB k bb sg) ∧ out = []) := by
  cases h1 : rdP k with
  | none =>
    rw [good_no (fun e => by obtain ⟨_, ⟨A, h⟩, _⟩ := e; rw [h1] at h; cases h)]
    cases h2 : rdP (sg.take 32) with
    | none => exact r6_Good_kr k hk sb bb hbn sg hsg h1 h2
    | some R => exact r6_Good_k k hk sb bb hbn sg hsg R h1 h2
  | some A =>
    cases h2 : rdP (sg.take 32) with
    | none =>
      rw [good_no (fun e => by obtain ⟨_, _, ⟨R, h⟩⟩ := e; rw [h2] at h; cases h)]
      exact r6_Good_r k hk sb bb hbn sg hsg A h1 h2
    | some R =>
      by_cases hc : le (sg.drop 32) < L
      · exact r6_Good_ok k hk sb bb hbn sg hsg A R h1 h2 hc _ _ ⟨rfl⟩ ⟨rfl⟩ (sgR_length _)
      · rw [good_no (fun e => hc e.1)]
        exact r6_Good_c k hk sb bb hbn sg hsg A R h1 h2 hc



end Go.Proofs.YtpacobmjjjillaaGreat
end

section
namespace Go.Proofs.YtpacobmjjjillaaGreat
open Go Hw
set_option linter.unusedVariables false
set_option linter.unusedSimpArgs false

open Ed

def btag : List UInt8 := [98, 108, 111, 99, 107]
/-- what is signed of a block -/
def btxt (D : DB) : List UInt8 := btag ++ D.body
/-- a block that is signed -/
def bsg (D : DB) (K G : List UInt8) : DB := { D with w := K, sg := G }
theorem DB.body_small {D : DB} (hd : D.ok) (h1 : D.ls.length ≤ 40) (h2 : D.ds.length ≤ 2000) : (btxt D).length ≤ 4005 := by
  have hz1 := szN_pos D.seq.toNat
  have hz2 := szN_pos (UInt64.ofNat D.ls.length).toNat
  have hz3 := szN_pos (UInt64.ofNat D.ds.length).toNat
  have hfl := flatten_take_len hd.ls (Nat.le_refl D.ls.length)
  rw [List.take_length] at hfl
  simp only [btxt, btag, DB.body, List.length_append, numB_length, hd.w, hd.prev, hfl, List.length_cons, List.length_nil]
  omega
/-- what Good says of a block -/
noncomputable def dgood (D : DB) : Int := if D.check = 0 then (if goodB D.w (btxt D) D.sg = true then 0 else 9) else D.check
def SeesX (W : World) (ex : List Nat) (p : Option Addr) (cs : List Value) : Prop := ∀ (j : Nat) (v : Value), cs[j]? = some v → ∃ b o, p = some ⟨b, o, none⟩ ∧ b ∉ ex ∧ W.cell? ⟨b, o + j, none⟩ = some v
theorem SeesX.ext {C : Cx} {hp : List Blk} {w : World} {p : Option Addr} {cs : List Value} (h : HRep C hp w) (hs : SeesX C.W0 C.lent p cs) : SeesP w p cs := fun j v hj => by
  obtain ⟨b, o, e, hb, hc⟩ := hs j v hj
  exact ⟨b, o, e, h.keeps.cell hb hc⟩
theorem cell_lt' {w : World} {c o : Nat} {v : Value} (h : w.cell? ⟨c, o, none⟩ = some v) : c < w.heap.size := by
  rcases Nat.lt_or_ge c w.heap.size with h1 | h1
  · exact h1
  · simp [World.cell?, Array.getElem?_eq_none h1] at h
theorem SeesX.new {C : Cx} {hp : List Blk} {w : World} {p : Option Addr} {cs : List Value} {n : Nat} (h : HRep C hp w) (hl : C.lent = []) (hn : C.W0.heap.size ≤ n) (hs : SeesP C.W0 p cs) : SeesX w [n] p cs := fun j v hj => by
  obtain ⟨b, o, e, hc⟩ := hs j v hj
  refine ⟨b, o, e, ?_, h.keeps.cell (by rw [hl]; simp) hc⟩
  have := cell_lt' hc
  simp
  omega
theorem Acc.seeX {s : Sl} {bl : List Blk} {cells : List Value} {E : TypeId} {n size m : Nat} {w : World} (h : Hw.Acc s bl cells E n size) (hw : Lies bl w) (hn : ∀ b ∈ bl, b.n ≠ m) : SeesX w [m] s.p cells := fun j v hj => by
  obtain ⟨b, o, e, hc⟩ := h.see hw j v hj
  refine ⟨b, o, e, ?_, hc⟩
  rcases h with ⟨rfl, rfl, rfl, _⟩ | ⟨q, c, rfl, _, _, rfl⟩
  · cases e
  · cases e
    have := hn _ (List.mem_singleton.2 rfl)
    simpa using this
theorem acc_loose (cells : List Value) (E : TypeId) (n size : Nat) (hl : cells.length = n * size) : Loose fun v out => ∃ s : Sl, v = s.v ∧ Hw.Acc s out cells E n size := fun l h => by
  obtain ⟨v, out, ⟨q, c, h1, h2, h3⟩, h4⟩ := FreshRow.loose cells E n size l h
  exact ⟨v, out, ⟨⟨some ⟨q, 0, none⟩, n, c⟩, h1, by rw [h3]; exact Acc.some h2 hl⟩, h4⟩
theorem ptr_loose (f : Nat → Value) (cs : List Value) (T : TypeId) (m : Nat) : Loose fun v out => ∃ c, v = f c ∧ out = [⟨c, cs, T, m⟩] := fun l h => by
  obtain ⟨q, _, hq⟩ := fresh_is 0 l
  refine ⟨_, _, ⟨q, rfl, rfl⟩, ?_⟩
  simp only [List.singleton_append, List.map_cons, List.nodup_cons]
  exact ⟨fun h2 => by obtain ⟨b, hb, e⟩ := List.mem_map.1 h2; exact hq b hb e, h⟩
theorem lie_none {n : Nat} {v : Value} {T : TypeId} {W : World} (h : Lies [⟨n, [v], T, 0⟩] W) : False := by
  obtain ⟨full, fr, hb⟩ := h _ (List.mem_singleton.2 rfl)
  have h1 := hb.pre.length_le
  have h2 := hb.size
  simp at h1
  simp only at h2
  omega
/-- a block has the data's fields, whatever memory holds -/
structure SameB (B : Block) (D : DB) : Prop where
  ok : B.ok
  w : B.fWriter = D.w
  seq : B.fSeq = D.seq
  prev : B.fPrev = D.prev
  sg : B.fSig = D.sg
  ln : B.fLinks.n = D.ls.length
  dn : B.fData.n = D.ds.length
theorem some_same {D : DB} (h : D.ok) : SameB ⟨D.w, D.seq, D.prev, ⟨none, D.ls.length, 0⟩, ⟨none, D.ds.length, 0⟩, D.sg⟩ D := ⟨⟨h.w, h.prev, h.sg⟩, rfl, rfl, rfl, rfl, rfl, rfl⟩
/-- a block of one's own, behind an error -/
def BlkR (e : Int) (D : DB) (v : Value) (out : List Blk) : Prop := ∃ B : Block, SameB B D ∧ v = .tuple #[agg B.cells, i64 e] ∧ ∀ W2, Lies out W2 → BlockIs W2 B D
/-- a block of one's own -/
def BlkV (D : DB) (v : Value) (out : List Blk) : Prop := ∃ B : Block, SameB B D ∧ v = agg B.cells ∧ ∀ W2, Lies out W2 → BlockIs W2 B D
theorem none_nodup {l : List Blk} {n : Nat} (hl : (l.map (·.n)).Nodup) (hn : ∀ b ∈ l, b.n ≠ n) (v : Value) : ((([⟨n, [v], 0, 0⟩] : List Blk) ++ l).map (·.n)).Nodup := by
  simp only [List.singleton_append, List.map_cons, List.nodup_cons]
  exact ⟨fun h2 => by obtain ⟨b, hb, e⟩ := List.mem_map.1 h2; exact hn b hb e, hl⟩
theorem BlkR.loose (e : Int) (D : DB) (hD : D.ok) : Loose (BlkR e D) := fun l hl => by
  obtain ⟨n, _, hn⟩ := fresh_is 0 l
  exact ⟨_, [⟨n, [undef], 0, 0⟩], ⟨_, some_same hD, rfl, fun W2 h => (lie_none h).elim⟩, none_nodup hl hn _⟩
theorem BlkV.loose (D : DB) (hD : D.ok) : Loose (BlkV D) := fun l hl => by
  obtain ⟨n, _, hn⟩ := fresh_is 0 l
  exact ⟨_, [⟨n, [undef], 0, 0⟩], ⟨_, some_same hD, rfl, fun W2 h => (lie_none h).elim⟩, none_nodup hl hn _⟩
theorem rowsX {C : Cx} {hp : List Blk} {w : World} {s : Sl} {m : Nat} {ls : List (List UInt8)} (h : HRep C hp w) (hr : RowsAt C.W0 s m ls) (hx : SeesX C.W0 C.lent s.p (flatB ls)) : RowsAt w s m ls := ⟨hr.len, hr.row, hr.cap, hx.ext h, hr.max, hr.nil⟩
theorem bytesX {C : Cx} {hp : List Blk} {w : World} {s : Sl} {l : List UInt8} (h : HRep C hp w) (hr : BytesAt C.W0 s l) (hx : SeesX C.W0 C.lent s.p (bytesV l)) : BytesAt w s l := ⟨hr.len, hr.cap, hx.ext h, hr.max, hr.nil⟩
theorem own_btxt {W : World} {q c : Nat} {D : DB} (hs : SeesP W (some ⟨q, 0, none⟩) (bytesV (btxt D))) (hc : (btxt D).length ≤ c) (hn : (btxt D).length ≤ 4005) : BytesAt W ⟨some ⟨q, 0, none⟩, (btxt D).length, c⟩ (btxt D) := own_bytes hs rfl hc (by unfold maxLen; omega)
theorem db_text (B : Block) (D : DB) (hB : B.ok) (h1 : D.ls.length ≤ 40) (h2 : D.ds.length ≤ 2000) : Meets Tryz.prog 47 [agg B.cells] [] (fun W => BlockIs W B D) (fun v out => FreshRow v out (bytesV (btxt D)) 5 (btxt D).length 1) := by
 intro W hW
 have hbs := DB.body_small hW.dok h1 h2
 have e1 := hW.ls.len
 have e2 := hW.ds.len
 have hbl : (btxt D).length = 5 + D.body.length := by rw [btxt, List.length_append]; rfl
 refine calls_of (hp0 := []) Tryz.func47 J 8 Tryz.ntmps47 J (HRep.nil _) (Sat.seq (Sat.region (Tr.boxA J J ?_)))
 intro n1 hn1 hf1
 refine Tr.assign J J J (Tr.nil (at_n (Sat.seq (Sat.region (Tr.mkRow (z := u8 0) [u8 98, u8 108, u8 111, u8 99, u8 107] (bytesV btag) J J J Y39 Sz5 Zr5 J J (by intro v hv; simp only [List.mem_cons, List.not_mem_nil, or_false] at hv; rcases hv with rfl | rfl | rfl | rfl | rfl <;> rfl) dE J ?_)))))
 intro q3
 refine Tr.constB J J J J Y39 Y5 mM ?_
 refine Tr.loadAll J J J Y53 J Sz53 mM (Block.length (by first | exact oK  | exact hB)) ?_
 refine Tr.call4 J J J J J Body93 (block_body B hB D.ls D.ds oM oM) (fun w h => ⟨rows_ext h J hW.ls, bytes_ext h J hW.ds⟩) ?_
 rintro v6 out6 ⟨N6, hN6, hN62, q6, c6, rfl, hc6, rfl⟩
 rw [hW.body] at hN6 ⊢
 subst hN6
 refine Tr.appendSl (z := u8 0) (by' := 1) (bytesV D.body) J J J J J Y39 Y39 Sz5 Zr5 (by unfold By; kernel_rfl) J (fun w h => SeesP.of (sees_own (cs := bytesV D.body) h mM)) (fun e => by cases e) (bytesV_cell _) rM J J dE oM oM (by rw [bytesV, List.length_map, Nat.mul_one]) ?_
 intro q7 c7 hq7
 rw [← bytesV_app]
 refine Tr.assign J J J (Tr.nil (at_n (Sat.ret (en_r (end_perm (out := (⟨q7, bytesV (btag ++ D.body), 5, c7 * 1⟩ :: [])) (res_tmp J J) (pm_cons rM pm_nil) ?_)))))
 exact ⟨q7, c7, by first | (rw [hbl]; done) | (rw [hbl]; rfl), by rw [hbl]; exact hq7, rfl⟩

theorem cl_digs_nil  : Meets Tryz.prog 148 [.slice none 0 0] [] (fun _ => True) (fun v out => v = .slice none 0 0 ∧ out = []) := by
 intro W hW
 refine calls_of (hp0 := []) Tryz.func148 J 8 Tryz.ntmps148 J (HRep.nil _) (Sat.seq (Sat.region (Tr.assign J J J (Tr.nil (at_n (Sat.seq (Sat.seq (Sat.region (Tr.move J J J (Tr.eqNilS (r := true) J J J J Y51 J (Tr.nil (at_n (Sat.cond_t J (rfl) (Sat.seq (Sat.region (Tr.assign J J J (Tr.nil (at_n (Sat.ret (at_r (en_r (end_perm (out := []) (res_tmp J J) pm_nil ?_))))))))))))))))))))))
 exact ⟨rfl, rfl⟩

theorem cl_digs_some (a : Addr) (n c : Nat) (ls : List (List UInt8)) (hl : ls.length = n) (hr : ∀ l ∈ ls, l.length = 32) (hn : n ≤ 90000) : Meets Tryz.prog 148 [.slice (some a) n c] [] (fun W => SeesP W (some a) (flatB ls)) (fun v out => FreshRow v out (flatB ls) 24 n 32) := by
 intro W hW
 refine calls_of (hp0 := []) Tryz.func148 J 8 Tryz.ntmps148 J (HRep.nil _) (Sat.seq (Sat.region (Tr.assign J J J (Tr.nil (at_n (Sat.seq (Sat.seq (Sat.region (Tr.move J J J (Tr.eqNilS (r := false) J J J J Y51 J (Tr.nil (at_n (Sat.cond_f J (rfl) (Sat.skip (at_n (Sat.seq (Sat.region (Tr.mkRow (z := agg (bytesV (List.replicate 32 0))) [] [] rfl J J Y51 Sz24 Zr24 J J (by intro v hv; cases hv) dE J ?_))))))))))))))))))
 intro q0
 refine Tr.move J J J (Tr.appendSl (z := agg (bytesV (List.replicate 32 0))) (by' := 32) (flatB ls) J J J J J Y51 Y51 Sz24 Zr24 (by unfold By; kernel_rfl) J (fun w h => seesP_ext h J hW) (fun e => by cases e) (flatB_cell ls) rem_here J J oM oM oM (by rw [flatB_length hr, hl]) ?_)
 intro q1 c1 hq1
 refine Tr.assign J J J (Tr.nil (at_n (Sat.ret (en_r ?_))))
 refine ⟨_, [⟨q1, [] ++ flatB ls, 24, c1 * 32⟩], res_tmp J J, (by intro b hb; rw [List.mem_singleton.1 hb]; exact mem0), nodup1, ⟨q1, c1, by rw [Nat.zero_add], by omega, rfl⟩⟩

theorem cl_byte_nil  : Meets Tryz.prog 149 [.slice none 0 0] [] (fun _ => True) (fun v out => v = .slice none 0 0 ∧ out = []) := by
 intro W hW
 refine calls_of (hp0 := []) Tryz.func149 J 8 Tryz.ntmps149 J (HRep.nil _) (Sat.seq (Sat.region (Tr.assign J J J (Tr.nil (at_n (Sat.seq (Sat.seq (Sat.region (Tr.move J J J (Tr.eqNilS (r := true) J J J J Y39 J (Tr.nil (at_n (Sat.cond_t J (rfl) (Sat.seq (Sat.region (Tr.assign J J J (Tr.nil (at_n (Sat.ret (at_r (en_r (end_perm (out := []) (res_tmp J J) pm_nil ?_))))))))))))))))))))))
 exact ⟨rfl, rfl⟩

theorem cl_digs (s : Sl) (ls : List (List UInt8)) (hn : s.n ≤ 90000) : Meets Tryz.prog 148 [s.v] [] (fun W => RowsAt W s 32 ls) (fun v out => ∃ s' : Sl, v = s'.v ∧ Hw.Acc s' out (flatB ls) 24 s.n 32) := fun W hW => by
  obtain ⟨p, n, c⟩ := s
  cases p with
  | none =>
    obtain rfl : c = 0 := hW.nil rfl
    obtain rfl : n = 0 := Nat.le_zero.1 hW.cap
    obtain rfl : ls = [] := List.length_eq_zero_iff.1 hW.len
    exact (cl_digs_nil W trivial).mono fun e W' ⟨v, out, h1, ⟨h2, h3⟩, h4⟩ => ⟨v, out, h1, ⟨Sl.nil, h2, by subst h3; exact Acc.none⟩, h4⟩
  | some a => exact (cl_digs_some a n c ls hW.len hW.row hn W hW.see).mono fun e W' ⟨v, out, h1, ⟨q, c', h2, h3, h5⟩, h4⟩ => ⟨v, out, h1, ⟨⟨some ⟨q, 0, none⟩, n, c'⟩, h2, by rw [h5]; exact Acc.some h3 (by rw [flatB_length hW.row, hW.len])⟩, h4⟩
theorem cl_byte (s : Sl) (l : List UInt8) (hn : s.n ≤ 90000) : Meets Tryz.prog 149 [s.v] [] (fun W => BytesAt W s l) (fun v out => ∃ s' : Sl, v = s'.v ∧ Hw.Acc s' out (bytesV l) 5 s.n 1) := fun W hW => by
  obtain ⟨p, n, c⟩ := s
  cases p with
  | none =>
    obtain rfl : c = 0 := hW.nil rfl
    obtain rfl : n = 0 := Nat.le_zero.1 hW.cap
    obtain rfl : l = [] := List.length_eq_zero_iff.1 hW.len
    exact (cl_byte_nil W trivial).mono fun e W' ⟨v, out, h1, ⟨h2, h3⟩, h4⟩ => ⟨v, out, h1, ⟨Sl.nil, h2, by subst h3; exact Acc.none⟩, h4⟩
  | some a => exact (clone_bytes a n c l hW.len hn W hW.see).mono fun e W' ⟨v, out, h1, ⟨q, c', h2, h3, h5⟩, h4⟩ => ⟨v, out, h1, ⟨⟨some ⟨q, 0, none⟩, n, c'⟩, h2, by rw [h5]; exact Acc.some h3 (by rw [bytesV, List.length_map]; exact hW.len.trans (Nat.mul_one _).symm)⟩, h4⟩

theorem mk_like (B : Block) (hB : B.ok) : Meets Tryz.prog 89 [agg B.cells] [] (fun _ => True) (fun v out => ∃ c, v = .func (.func 147) #[] #[ptr c 0] ∧ out = [⟨c, B.cells, 53, 131⟩]) := by
 intro W hW
 refine calls_of (hp0 := []) Tryz.func89 J 4 Tryz.ntmps89 J (HRep.nil _) (Sat.seq (Sat.region (Tr.boxA J J ?_)))
 intro n1 hn1 hf1
 refine Tr.assign J J J (Tr.nil (at_n (Sat.seq (Sat.region (Tr.makeFunc J J J J (Tr.assign J J J (Tr.nil (at_n (Sat.ret (en_r (end_perm (out := (⟨n1, B.cells, 53, 131⟩ :: [])) (res_tmp J J) (pm_consE rM J (Block.length hB) pm_nil) ?_)))))))))))
 exact ⟨n1, rfl, rfl⟩

theorem mk_by (k : List UInt8) (hk : k.length = 32) : Meets Tryz.prog 90 [agg (bytesV k)] [] (fun _ => True) (fun v out => ∃ c, v = .func (.func 150) #[] #[ptr c 0] ∧ out = [⟨c, bytesV k, 25, 32⟩]) := by
 intro W hW
 refine calls_of (hp0 := []) Tryz.func90 J 4 Tryz.ntmps90 J (HRep.nil _) (Sat.seq (Sat.region (Tr.boxA J J ?_)))
 intro n1 hn1 hf1
 refine Tr.assign J J J (Tr.nil (at_n (Sat.seq (Sat.region (Tr.makeFunc J J J J (Tr.assign J J J (Tr.nil (at_n (Sat.ret (en_r (end_perm (out := (⟨n1, bytesV k, 25, 32⟩ :: [])) (res_tmp J J) (pm_consE rM J (by rw [bytesV, List.length_map]; exact hk) pm_nil) ?_)))))))))))
 exact ⟨n1, rfl, rfl⟩

theorem mk_signed (k : List UInt8) (hk : k.length = 32) : Meets Tryz.prog 91 [agg (bytesV k)] [] (fun _ => True) (fun v out => ∃ c, v = .func (.func 151) #[] #[ptr c 0] ∧ out = [⟨c, bytesV k, 23, 32⟩]) := by
 intro W hW
 refine calls_of (hp0 := []) Tryz.func91 J 4 Tryz.ntmps91 J (HRep.nil _) (Sat.seq (Sat.region (Tr.boxA J J ?_)))
 intro n1 hn1 hf1
 refine Tr.assign J J J (Tr.nil (at_n (Sat.seq (Sat.region (Tr.makeFunc J J J J (Tr.assign J J J (Tr.nil (at_n (Sat.ret (en_r (end_perm (out := (⟨n1, bytesV k, 23, 32⟩ :: [])) (res_tmp J J) (pm_consE rM J (by rw [bytesV, List.length_map]; exact hk) pm_nil) ?_)))))))))))
 exact ⟨n1, rfl, rfl⟩

theorem opt_like (b c : Nat) (hcb : c ≠ b) (X B : Block) (hX : X.ok) (hB : B.ok) (D : DB) (h1 : D.ls.length ≤ 40) (h2 : D.ds.length ≤ 2000) : Meets Tryz.prog 147 [ptr b 0, ptr c 0] [b] (fun W => BlkOk W ⟨b, (X).cells, 53, 131⟩ ∧ Sees W c 0 B.cells ∧ RowsAt W B.fLinks 32 D.ls ∧ BytesAt W B.fData D.ds ∧ SeesX W [b] B.fLinks.p (flatB D.ls) ∧ SeesX W [b] B.fData.p (bytesV D.ds)) (fun v out => ∃ s10 bl10 s13 bl13, v = .tuple #[] ∧ Hw.Acc s10 bl10 (flatB D.ls) 24 B.fLinks.n 32 ∧ Hw.Acc s13 bl13 (bytesV D.ds) 5 B.fData.n 1 ∧ out = ⟨b, (({ B with fLinks := s10, fData := s13 } : Block)).cells, 53, 131⟩ :: (bl10 ++ bl13)) := by
 intro W hW
 have e1 := hW.2.2.1.len
 have e2 := hW.2.2.2.1.len
 have f1 : (flatB D.ls).length = B.fLinks.n * 32 := by rw [flatB_length hW.2.2.1.row, e1]
 have f2 : (bytesV D.ds).length = B.fData.n * 1 := by rw [bytesV, List.length_map, e2, Nat.mul_one]
 refine calls_of (hp0 := [⟨b, (X).cells, 53, 131⟩]) Tryz.func147 J 18 Tryz.ntmps147 J (HRep.one hW.1) (Sat.seq (Sat.region (Tr.move J J J (Tr.loadEN B.cells J J J Y53 J Sz53 (by simp [Cx.with]; omega) (Block.length hB) hW.2.1 ?_))))
 refine Tr.nilChk J J J (Tr.storeAll J J J J (Block.isCell (by first | exact oK  | exact hX | exact hB | exact ⟨hB.l_fWriter, hB.l_fPrev, hB.l_fSig⟩)) Sz53 (Block.length (by first | exact oK  | exact hX | exact hB | exact ⟨hB.l_fWriter, hB.l_fPrev, hB.l_fSig⟩)) mM (Block.length (by first | exact oK  | exact hX | exact hB | exact ⟨hB.l_fWriter, hB.l_fPrev, hB.l_fSig⟩)) uU ?_)
 refine Tr.nil (at_n (Sat.draw [(0, 0), (0, 1), (0, 2), (1, 3), (0, 5), (1, 6), (3, 4), (3, 7), (0, 8), (0, 9), (4, 10), (0, 11), (0, 12), (4, 13)] Mixed zK (Tr.move J J J (Tr.move J J J (Tr.fld J J J Y53 J Sz51 dE _ J (Tr.loadE J J J Y51 J (by first | (simp; done) | (simp; exact hW.2.2) | (simp [Cx.with]; done) | (simp [Cx.with]; omega)) (hW.2.1 65 _ (Block.get_fLinks hB)) ?_))))))
 refine Tr.fld J J J Y53 J Sz39 dE _ J (Tr.loadE J J J Y39 J (by first | (simp; done) | (simp; exact hW.2.2) | (simp [Cx.with]; done) | (simp [Cx.with]; omega)) (hW.2.1 66 _ (Block.get_fData hB)) ?_)
 refine Tr.call J J J J Body148 (cl_digs B.fLinks D.ls oM) (acc_loose _ _ _ _ f1) (fun w h => rowsX h hW.2.2.1 hW.2.2.2.2.1) ?_
 rintro v10 out10 ⟨s10, rfl, hac10⟩
 refine Tr.call J J J J Body149 (cl_byte B.fData D.ds oM) (acc_loose _ _ _ _ f2) (fun w h => bytesX h hW.2.2.2.1 hW.2.2.2.2.2) ?_
 rintro v13 out13 ⟨s13, rfl, hac13⟩
 refine Tr.nilChk J J J (Tr.fld J J J Y53 J Sz51 dE _ J (Tr.store1 J J J J J Sz51 mM (by rw [Block.length (by first | exact oK  | exact hX | exact hB | exact ⟨hB.l_fWriter, hB.l_fPrev, hB.l_fSig⟩)]; decide) (by first | exact Block.set_fLinks (by first | exact oK  | exact hX | exact hB | exact ⟨hB.l_fWriter, hB.l_fPrev, hB.l_fSig⟩) _ | exact Block.setS_fLinks (by first | exact oK  | exact hX | exact hB | exact ⟨hB.l_fWriter, hB.l_fPrev, hB.l_fSig⟩) _ _ _) uU ?_))
 refine Tr.nilChk J J J (Tr.fld J J J Y53 J Sz39 dE _ J (Tr.store1 J J J J J Sz39 mM (by rw [Block.length (by first | exact oK  | exact hX | exact hB | exact ⟨hB.l_fWriter, hB.l_fPrev, hB.l_fSig⟩)]; decide) (by first | exact Block.set_fData (by first | exact oK  | exact hX | exact hB | exact ⟨hB.l_fWriter, hB.l_fPrev, hB.l_fSig⟩) _ | exact Block.setS_fData (by first | exact oK  | exact hX | exact hB | exact ⟨hB.l_fWriter, hB.l_fPrev, hB.l_fSig⟩) _ _ _) uU ?_))
 refine Tr.nil (en_n (end_perm (out := (⟨b, (({ B with fLinks := s10, fData := s13 } : Block)).cells, 53, 131⟩ :: (out10 ++ (out13 ++ [])))) (res_none J) (pm_cons rM (pm_seg sG (pm_seg sG pm_nil))) ?_))
 exact ⟨s10, out10, s13, out13, rfl, hac10, hac13, by simp⟩

theorem opt_by (b c : Nat) (hcb : c ≠ b) (X : Block) (hX : X.ok) (k : List UInt8) (hk : k.length = 32) : Meets Tryz.prog 150 [ptr b 0, ptr c 0] [b] (fun W => BlkOk W ⟨b, (X).cells, 53, 131⟩ ∧ Sees W c 0 (bytesV k)) (fun v out => v = .tuple #[] ∧ out = [⟨b, (({ X with fWriter := k } : Block)).cells, 53, 131⟩]) := by
 intro W hW
 refine calls_of (hp0 := [⟨b, (X).cells, 53, 131⟩]) Tryz.func150 J 7 Tryz.ntmps150 J (HRep.one hW.1) (Sat.region (Tr.move J J J (Tr.loadEN (bytesV k) J J J Y25 J Sz25 (by simp [Cx.with]; omega) (by rw [bytesV, List.length_map]; exact hk) hW.2 ?_)))
 refine Tr.nilChk J J J (Tr.fld J J J Y53 J Sz25 dE _ J (Tr.storeN (bytesV _) J J J J J (by first | exact bytesV_cell _ | exact wdsV_cell _ | simp [isCell]) Sz25 (by simp [hk, hX.l_fWriter]) mM (by rw [Block.length (by first | (simp [hk, hX.l_fWriter]; done) | exact oK | exact Point.zero_ok | exact wide.zero_ok | exact secrets.zero_ok | exact far.zero_ok | exact Cut.zero_ok | exact Cert.zero_ok | exact Msg.zero_ok | exact Inbox.zero_ok | exact Record.zero_ok | exact Kept.zero_ok | exact Rdr.zero_ok  | exact hX)]; simp [hk, hX.l_fWriter]) (Block.upd_fWriter (by first | (simp [hk, hX.l_fWriter]; done) | exact oK | exact Point.zero_ok | exact wide.zero_ok | exact secrets.zero_ok | exact far.zero_ok | exact Cut.zero_ok | exact Cert.zero_ok | exact Msg.zero_ok | exact Inbox.zero_ok | exact Record.zero_ok | exact Kept.zero_ok | exact Rdr.zero_ok  | exact hX) _ (by simp [hk, hX.l_fWriter])) uU ?_))
 refine Tr.nil (en_n (end_perm (out := (⟨b, (({ X with fWriter := k } : Block)).cells, 53, 131⟩ :: [])) (res_none J) (pm_cons rM pm_nil) ?_))
 exact ⟨rfl, rfl⟩

theorem opt_signed (b c : Nat) (hcb : c ≠ b) (X : Block) (hX : X.ok) (D : DB) (h1 : D.ls.length ≤ 40) (h2 : D.ds.length ≤ 2000) (hDX : D.w = X.fWriter ∧ D.seq = X.fSeq ∧ D.prev = X.fPrev) (seed : List UInt8) (h32 : seed.length = 32) (s s1 s2 : List UInt8) (hs : Hid (sha512 seed = s)) (hs1 : Hid (sha512 (s.drop 32 ++ btxt D) = s1)) (hs2 : Hid (sha512 (sgF s1 ++ (sgK s ++ btxt D)) = s2)) : Meets Tryz.prog 151 [ptr b 0, ptr c 0] [b] (fun W => BlkOk W ⟨b, (X).cells, 53, 131⟩ ∧ Sees W c 0 (bytesV seed) ∧ RowsAt W X.fLinks 32 D.ls ∧ BytesAt W X.fData D.ds ∧ SeesX W [b] X.fLinks.p (flatB D.ls) ∧ SeesX W [b] X.fData.p (bytesV D.ds)) (fun v out => v = .tuple #[] ∧ out = [⟨b, (({ X with fSig := (sgF s1 ++ sgS s s1 s2) } : Block)).cells, 53, 131⟩]) := by
 intro W hW
 have lG : (sgF s1 ++ sgS s s1 s2).length = 64 := by rw [List.length_append, sgF_length, sgS_length]
 have hIs : ∀ w, RowsAt w X.fLinks 32 D.ls → BytesAt w X.fData D.ds → BlockIs w X { D with sg := X.fSig } := fun w hr hb => ⟨hX, hDX.1.symm, hDX.2.1.symm, hDX.2.2.symm, hr, hb, rfl⟩
 have hdk := (hIs W hW.2.2.1 hW.2.2.2.1).dok
 have hvn : (btxt D).length ≤ 4005 := DB.body_small (D := { D with sg := X.fSig }) hdk h1 h2
 have cS := fun (x : Sl) => sign_Sign seed h32 x (btxt D) oM s s1 s2 hs hs1 hs2
 have cT := db_text X { D with sg := X.fSig } hX h1 h2
 rw [show btxt { D with sg := X.fSig } = btxt D from rfl] at cT
 clear hs hs1 hs2
 revert lG cS
 generalize sgF s1 ++ sgS s s1 s2 = G
 intro lG cS
 refine calls_of (hp0 := [⟨b, (X).cells, 53, 131⟩]) Tryz.func151 J 12 Tryz.ntmps151 J (HRep.one hW.1) (Sat.draw [(0, 0), (1, 1), (0, 2), (0, 3), (1, 4), (3, 5), (3, 6), (0, 7), (0, 8), (4, 9)] Mixed zK (Tr.move J J J (Tr.loadEN (bytesV seed) J J J Y23 J Sz23 (by simp [Cx.with]; omega) (by rw [bytesV, List.length_map]; exact h32) hW.2.1 ?_)))
 refine Tr.move J J J (Tr.nilChk J J J (Tr.loadAll J J J Y53 J Sz53 mM (Block.length (by first | (simp [h32, lG, hX.l_fSig]; done) | exact oK | exact Point.zero_ok | exact wide.zero_ok | exact secrets.zero_ok | exact far.zero_ok | exact Cut.zero_ok | exact Cert.zero_ok | exact Msg.zero_ok | exact Inbox.zero_ok | exact Record.zero_ok | exact Kept.zero_ok | exact Rdr.zero_ok  | exact hX)) ?_))
 refine Tr.call J J J J Body47 (cT) (FreshRow.loose _ _ _ _) (fun w h => hIs w (rowsX h hW.2.2.1 hW.2.2.2.2.1) (bytesX h hW.2.2.2.1 hW.2.2.2.2.2)) ?_
 rintro v8 out8 ⟨q8, c8, rfl, hc8, rfl⟩
 refine Tr.callV J J J J Body59 (cS ⟨some ⟨q8, 0, none⟩, _, c8⟩) (fun w h => own_btxt (SeesP.of (sees_own h mM)) hc8 hvn) ?_
 refine Tr.nilChk J J J (Tr.fld J J J Y53 J Sz27 dE _ J (Tr.storeN (bytesV _) J J J J J (by first | exact bytesV_cell _ | exact wdsV_cell _ | simp [isCell]) Sz27 (by simp [h32, lG, hX.l_fSig]) mM (by rw [Block.length (by first | (simp [h32, lG, hX.l_fSig]; done) | exact oK | exact Point.zero_ok | exact wide.zero_ok | exact secrets.zero_ok | exact far.zero_ok | exact Cut.zero_ok | exact Cert.zero_ok | exact Msg.zero_ok | exact Inbox.zero_ok | exact Record.zero_ok | exact Kept.zero_ok | exact Rdr.zero_ok  | exact hX)]; simp [h32, lG, hX.l_fSig]) (Block.upd_fSig (by first | (simp [h32, lG, hX.l_fSig]; done) | exact oK | exact Point.zero_ok | exact wide.zero_ok | exact secrets.zero_ok | exact far.zero_ok | exact Cut.zero_ok | exact Cert.zero_ok | exact Msg.zero_ok | exact Inbox.zero_ok | exact Record.zero_ok | exact Kept.zero_ok | exact Rdr.zero_ok  | exact hX) _ (by simp [h32, lG, hX.l_fSig])) uU ?_))
 refine Tr.nil (en_n (end_perm (out := (⟨b, (({ X with fSig := G } : Block)).cells, 53, 131⟩ :: [])) (res_none J) (pm_cons rM pm_nil) ?_))
 exact ⟨rfl, rfl⟩

theorem block_buildS (r c1 c2 c3 : Nat) (B : Block) (hB : B.ok) (D : DB) (h1 : D.ls.length ≤ 40) (h2 : D.ds.length ≤ 2000) (seed : List UInt8) (h32 : seed.length = 32) (s s1 s2 : List UInt8) (hs : Hid (sha512 seed = s)) (hs1 : Hid (sha512 (s.drop 32 ++ btxt ({ D with w := sgK s } : DB)) = s1)) (hs2 : Hid (sha512 (sgF s1 ++ (sgK s ++ btxt ({ D with w := sgK s } : DB))) = s2)) : Meets Tryz.prog 88 [.slice (some ⟨r, 0, none⟩) 3 3] [] (fun W => (W.cell? ⟨r, 0, none⟩ = some (.func (.func 147) #[] #[ptr c1 0]) ∧ W.cell? ⟨r, 1, none⟩ = some (.func (.func 150) #[] #[ptr c2 0]) ∧ W.cell? ⟨r, 2, none⟩ = some (.func (.func 151) #[] #[ptr c3 0])) ∧ Sees W c1 0 B.cells ∧ Sees W c2 0 (bytesV (sgK s)) ∧ Sees W c3 0 (bytesV seed) ∧ BlockIs W B D ∧ c1 < W.heap.size ∧ c2 < W.heap.size ∧ c3 < W.heap.size) (fun v out => ∃ s10 bl10 s13 bl13, v = agg ({ B with fLinks := s10, fData := s13, fWriter := sgK s, fSig := (sgF s1 ++ sgS s s1 s2) } : Block).cells ∧ Hw.Acc s10 bl10 (flatB D.ls) 24 B.fLinks.n 32 ∧ Hw.Acc s13 bl13 (bytesV D.ds) 5 B.fData.n 1 ∧ out = bl10 ++ bl13) := by
 intro W hW
 have lG : (sgF s1 ++ sgS s s1 s2).length = 64 := by rw [List.length_append, sgF_length, sgS_length]
 have lK := sgK_length s
 have ok1 : ∀ s10 s13, ({ B with fLinks := s10, fData := s13 } : Block).ok := fun _ _ => ⟨hB.l_fWriter, hB.l_fPrev, hB.l_fSig⟩
 have ok2 : ∀ s10 s13, ({ B with fLinks := s10, fData := s13, fWriter := sgK s } : Block).ok := fun _ _ => ⟨lK, hB.l_fPrev, hB.l_fSig⟩
 have ok3 : ∀ s10 s13, ({ B with fLinks := s10, fData := s13, fWriter := sgK s, fSig := (sgF s1 ++ sgS s s1 s2) } : Block).ok := fun _ _ => ⟨lK, hB.l_fPrev, lG⟩
 have hD := hW.2.2.2.2.1
 have hz := hW.2.2.2.2.2
 have e1 := hD.ls.len
 have e2 := hD.ds.len
 refine calls_of (hp0 := []) Tryz.func88 J 16 Tryz.ntmps88 J (HRep.nil _) (Sat.seq (Sat.region (Tr.alloc (cs := Block.zero.cells) J Block.zr J ?_)))
 intro n2 hn2 hf2
 refine Tr.nil (at_n (Sat.seq (Sat.region (Tr.alloc (cs := Block.zero.cells) J Block.zr J ?_))))
 intro n3 hn3 hf3
 refine Tr.nil (at_n (Sat.seq (Sat.seq (Sat.region ?_))))
 have hg3 : W.heap.size ≤ n3 := hn3
 have hz1 : c1 ≠ n3 := by omega
 have hz2 : c2 ≠ n3 := by omega
 have hz3 : c3 ≠ n3 := by omega
 refine Tr.move J J J (Tr.lenSl J J J Y154 (Tr.move J J J (Tr.nil (at_n (Sat.block (Sat.rounds 4 (SRounds.more (Sat.seq (Sat.region (Tr.lss J J J J J (Tr.nil (at_n (Sat.seq (Sat.cond_t J (rfl) (Sat.skip (at_n (Sat.seq (Sat.block (Sat.seq (Sat.region ?_))))))))))))))))))))
 first
  | refine Tr.idxSl1 rfl rfl rfl rfl Y154 Sz100 0 rfl oM ?_
  | refine Tr.idxSlO rfl rfl rfl rfl Y154 Sz100 0 rfl oM ?_
 refine Tr.loadE J J J Tryz.underlying100 J (by first | (simp; done) | (simp; exact hW.2.2) | (simp [Cx.with]; done) | (simp [Cx.with]; omega)) (hW.1.1) ?_
 refine Tr.assign J J J (Tr.nil (at_n (Sat.region (Tr.move J J J (Tr.callCL (L := [⟨n3, (Block.zero).cells, 53, 131⟩]) J J J J J J Body147 (opt_like n3 c1 hz1 Block.zero B Block.zero_ok hB D h1 h2) (pm_consE rM J J pm_nil) (lent_ok J) (fun w h => ⟨own_blk h mM, sees_ext h sP hW.2.1, rows_ext h J hD.ls, bytes_ext h J hD.ds, SeesX.new h J hg3 hD.ls.see, SeesX.new h J hg3 hD.ds.see⟩) ?_)))))
 rintro v5 out5 ⟨s10, bl10, s13, bl13, rfl, hac10, hac13, rfl⟩
 refine Tr.nd (fun hnd => ?_)
 simp only [List.cons_append, List.map_cons, List.map_append, List.nodup_cons, List.mem_append, List.mem_map, not_or, not_exists, not_and] at hnd
 have hx1 : ∀ b ∈ bl10, b.n ≠ n3 := hnd.1.1.1
 have hx2 : ∀ b ∈ bl13, b.n ≠ n3 := hnd.1.1.2
 clear hnd
 simp only [List.append_assoc, List.cons_append, List.nil_append]
 refine Tr.nil (bl_n (at_n (Sat.region (Tr.add_i64 J J J J oM (Tr.move J J J (Tr.nil (at_n (SRounds.more (Sat.seq (Sat.region (Tr.lss J J J J J (Tr.nil (at_n (Sat.seq (Sat.cond_t J (rfl) (Sat.skip (at_n (Sat.seq (Sat.block (Sat.seq (Sat.region ?_)))))))))))))))))))))
 first
  | refine Tr.idxSl1 rfl rfl rfl rfl Y154 Sz100 1 rfl oM ?_
  | refine Tr.idxSlO rfl rfl rfl rfl Y154 Sz100 1 rfl oM ?_
 refine Tr.loadE J J J Tryz.underlying100 J (by first | (simp; done) | (simp; exact hW.2.2) | (simp [Cx.with]; done) | (simp [Cx.with]; omega)) (hW.1.2.1) ?_
 refine Tr.assign J J J (Tr.nil (at_n (Sat.region (Tr.move J J J (Tr.callCL (L := [⟨n3, (({ B with fLinks := s10, fData := s13 } : Block)).cells, 53, 131⟩]) J J J J J J Body150 (opt_by n3 c2 hz2 ({ B with fLinks := s10, fData := s13 } : Block) (ok1 _ _) (sgK s) lK) (pm_consE rM J J pm_nil) (lent_ok J) (fun w h => ⟨own_blk h mM, sees_ext h sP hW.2.2.1⟩) ?_)))))
 rintro v6 out6 ⟨rfl, rfl⟩
 refine Tr.nil (bl_n (at_n (Sat.region (Tr.add_i64 J J J J oM (Tr.move J J J (Tr.nil (at_n (SRounds.more (Sat.seq (Sat.region (Tr.lss J J J J J (Tr.nil (at_n (Sat.seq (Sat.cond_t J (rfl) (Sat.skip (at_n (Sat.seq (Sat.block (Sat.seq (Sat.region ?_)))))))))))))))))))))
 first
  | refine Tr.idxSl1 rfl rfl rfl rfl Y154 Sz100 2 rfl oM ?_
  | refine Tr.idxSlO rfl rfl rfl rfl Y154 Sz100 2 rfl oM ?_
 refine Tr.loadE J J J Tryz.underlying100 J (by first | (simp; done) | (simp; exact hW.2.2) | (simp [Cx.with]; done) | (simp [Cx.with]; omega)) (hW.1.2.2) ?_
 refine Tr.assign J J J (Tr.nil (at_n (Sat.region (Tr.move J J J (Tr.callCL (L := [⟨n3, (({ B with fLinks := s10, fData := s13, fWriter := sgK s } : Block)).cells, 53, 131⟩]) J J J J J J Body151 (opt_signed n3 c3 hz3 ({ B with fLinks := s10, fData := s13, fWriter := sgK s } : Block) (ok2 _ _) ({ D with w := sgK s } : DB) h1 h2 ⟨rfl, hD.seq.symm, hD.prev.symm⟩ seed h32 s s1 s2 hs hs1 hs2) (pm_consE rM J J pm_nil) (lent_ok J) (fun w h => ⟨own_blk h mM, sees_ext h sP hW.2.2.2.1, acc_rows hac10 (Lies.of h iN) hD.ls.row oM oM, acc_bytes hac13 (Lies.of h iN) oM oM, Acc.seeX hac10 (Lies.of h iN) hx1, Acc.seeX hac13 (Lies.of h iN) hx2⟩) ?_)))))
 rintro v7 out7 ⟨rfl, rfl⟩
 refine Tr.nil (bl_n (at_n (Sat.region (Tr.add_i64 J J J J oM (Tr.move J J J (Tr.nil (at_n (SRounds.more (Sat.seq (Sat.region (Tr.lss J J J J J (Tr.nil (at_n (Sat.seq (Sat.cond_f J (rfl) (Sat.exit (at_x (at_x (bl_h (at_n (Sat.seq (Sat.region ?_))))))))))))))))))))))
 clear hs hs1 hs2
 revert lG lK ok2 ok3
 generalize sgF s1 ++ sgS s s1 s2 = G
 generalize sgK s = K
 intro lG lK ok2 ok3
 refine Tr.loadAll J J J Y53 J Sz53 mM (Block.length (by first | exact oK  | exact hB | exact ok1 _ _ | exact ok2 _ _ | exact ok3 _ _ | exact Block.zero_ok)) ?_
 refine Tr.storeAll J J J J (Block.isCell (by first | exact oK  | exact hB | exact ok1 _ _ | exact ok2 _ _ | exact ok3 _ _ | exact Block.zero_ok)) Sz53 (Block.length (by first | exact oK  | exact hB | exact ok1 _ _ | exact ok2 _ _ | exact ok3 _ _ | exact Block.zero_ok)) mM (Block.length (by first | exact oK  | exact hB | exact ok1 _ _ | exact ok2 _ _ | exact ok3 _ _ | exact Block.zero_ok)) uU ?_
 refine Tr.nil (at_n (Sat.ret (en_r (end_perm (out := (bl10 ++ (bl13 ++ []))) (res_cell J J Y53 J Sz53 mM (by first | (simp; done) | exact Block.length (by first | exact oK  | exact hB | exact ok1 _ _ | exact ok2 _ _ | exact ok3 _ _ | exact Block.zero_ok))) (pm_seg sG (pm_seg sG pm_nil)) ?_))))
 exact ⟨s10, bl10, s13, bl13, rfl, hac10, hac13, by simp⟩

end Go.Proofs.YtpacobmjjjillaaGreat
end

section
namespace Go.Proofs.YtpacobmjjjillaaGreat
open Go Hw
set_option linter.unusedVariables false
set_option linter.unusedSimpArgs false

open Ed

theorem db_sign_bad (B : Block) (D : DB) (hB : B.ok) (seed : List UInt8) (h32 : seed.length = 32) (hc : ¬ D.check = 0) : Meets Tryz.prog 36 [agg (bytesV seed), agg B.cells] [] (fun W => BlockIs W B D) (fun v out => v = .tuple #[agg Block.zero.cells, i64 D.check] ∧ out = []) := by
 intro W hW
 refine calls_of (hp0 := []) Tryz.func36 J 22 Tryz.ntmps36 J (HRep.nil _) (Sat.seq (Sat.region (Tr.boxA J J ?_)))
 intro n2 hn2 hf2
 refine Tr.boxA J J ?_
 intro n3 hn3 hf3
 refine Tr.alloc (cs := Block.zero.cells) J Block.zr J ?_
 intro n4 hn4 hf4
 refine Tr.assign J J J (Tr.nil (at_n (Sat.seq (Sat.seq (Sat.region (Tr.loadAll J J J Y53 J Sz53 Z1 (Block.length zA) ?_))))))
 refine Tr.callV J J J J Body38 (db_check B D) (fun w h => hW.ext h J) (Tr.assign J J J (Tr.nil (at_n (Sat.seq (Sat.region (Tr.move J J J (Tr.nei J J J J J (Tr.nil (at_n (Sat.cond_t J (by simpa using hc) ?_))))))))))
 refine Sat.seq (Sat.region (Tr.build (cs := Block.zero.cells) J J J (fun w => by kernel_rfl) ?_))
 refine Tr.move J J J (Tr.storeAll J J J J (Block.isCell (by exact Block.zero_ok)) Sz53 (Block.length (by exact Block.zero_ok)) Z0 (Block.length (by exact Block.zero_ok)) zU ?_)
 refine Tr.assign J J J (Tr.nil (at_n (Sat.ret (at_r (en_r ?_)))))
 refine ⟨_, [], res_cell_tmp J J J Y53 J Sz53 Z0 (by exact Block.length (by exact Block.zero_ok)), sP, sP, ?_, rfl⟩
 rfl

theorem db_sign (B : Block) (D : DB) (hB : B.ok) (seed : List UInt8) (h32 : seed.length = 32) (s s1 s2 : List UInt8) (hs : Hid (sha512 seed = s)) (hs1 : Hid (sha512 (s.drop 32 ++ btxt ({ D with w := sgK s } : DB)) = s1)) (hs2 : Hid (sha512 (sgF s1 ++ (sgK s ++ btxt ({ D with w := sgK s } : DB))) = s2)) (hc : D.check = 0) : Meets Tryz.prog 36 [agg (bytesV seed), agg B.cells] [] (fun W => BlockIs W B D) (BlkR 0 (bsg D (sgK s) (sgF s1 ++ sgS s s1 s2))) := by
 intro W hW
 obtain ⟨h1, h2⟩ := D.head_small hc
 have lG : (sgF s1 ++ sgS s s1 s2).length = 64 := by rw [List.length_append, sgF_length, sgS_length]
 have lK := sgK_length s
 have cK : Meets Tryz.prog 58 [agg (bytesV seed)] [] (fun _ => True) (fun v out => v = agg (bytesV (sgK s)) ∧ out = []) := sign_Key seed h32 s hs
 have cC := db_check B D
 rw [hc] at cC
 have e1 := hW.ls.len
 have e2 := hW.ds.len
 have ok3 : ∀ s10 s13, ({ B with fLinks := s10, fData := s13, fWriter := sgK s, fSig := (sgF s1 ++ sgS s s1 s2) } : Block).ok := fun _ _ => ⟨lK, hB.l_fPrev, lG⟩
 refine calls_of (hp0 := []) Tryz.func36 J 22 Tryz.ntmps36 J (HRep.nil _) (Sat.seq (Sat.region (Tr.boxA J J ?_)))
 intro n2 hn2 hf2
 refine Tr.boxA J J ?_
 intro n3 hn3 hf3
 refine Tr.alloc (cs := Block.zero.cells) J Block.zr J ?_
 intro n4 hn4 hf4
 refine Tr.assign J J J (Tr.nil (at_n (Sat.seq (Sat.seq (Sat.region (Tr.loadAll J J J Y53 J Sz53 Z1 (Block.length zA) ?_))))))
 refine Tr.callV J J J J Body38 (cC) (fun w h => hW.ext h J) (Tr.assign J J J (Tr.nil (at_n (Sat.seq (Sat.region (Tr.move J J J (Tr.nei J J J J J (Tr.nil (at_n (Sat.cond_f J (rfl) (Sat.skip (at_n (Sat.seq (Sat.draw [(1, 0), (1, 2), (1, 5), (3, 1), (3, 3), (3, 4), (3, 6), (4, 7), (4, 8), (4, 9), (0, 10)] Mixed zK (Tr.loadAll J J J Y53 J Sz53 Z1 (Block.length zA) ?_)))))))))))))))
 refine Tr.loadAll J J J Y23 J Sz23 Z2 (by (simp [h32]; done)) ?_
 refine Tr.loadAll J J J Y23 J Sz23 Z2 (by (simp [h32]; done)) ?_
 refine Tr.call J J J J Body89 (mk_like B hB) (ptr_loose _ _ _ _) (fun _ _ => trivial) ?_
 rintro v14 out14 ⟨c14, rfl, rfl⟩
 refine Tr.callV J J J J Body58 (cK) (fun _ _ => trivial) (Tr.call J J J J Body90 (mk_by (sgK s) lK) (ptr_loose _ _ _ _) (fun _ _ => trivial) ?_)
 rintro v17 out17 ⟨c17, rfl, rfl⟩
 refine Tr.call J J J J Body91 (mk_signed seed h32) (ptr_loose _ _ _ _) (fun _ _ => trivial) ?_
 rintro v19 out19 ⟨c19, rfl, rfl⟩
 refine Tr.mkRow (z := .nilFunc) [.func (.func 147) #[] #[ptr c14 0], .func (.func 150) #[] #[ptr c17 0], .func (.func 151) #[] #[ptr c19 0]] [.func (.func 147) #[] #[ptr c14 0], .func (.func 150) #[] #[ptr c17 0], .func (.func 151) #[] #[ptr c19 0]] rfl J J Y154 Sz100 Zr100 J J (by intro v hv; simp only [List.mem_cons, List.not_mem_nil, or_false] at hv; rcases hv with rfl | rfl | rfl <;> rfl) dE J ?_
 intro r20
 refine Tr.call4 J J J J J Body88 (block_buildS r20 c14 c17 c19 B hB D oM oM seed h32 s s1 s2 hs hs1 hs2) (fun w h => ⟨⟨(own_blk (B := ⟨r20, [.func (.func 147) #[] #[ptr c14 0], .func (.func 150) #[] #[ptr c17 0], .func (.func 151) #[] #[ptr c19 0]], _, _⟩) h Z0).cell (o := 0) J, (own_blk (B := ⟨r20, [.func (.func 147) #[] #[ptr c14 0], .func (.func 150) #[] #[ptr c17 0], .func (.func 151) #[] #[ptr c19 0]], _, _⟩) h Z0).cell (o := 1) J, (own_blk (B := ⟨r20, [.func (.func 147) #[] #[ptr c14 0], .func (.func 150) #[] #[ptr c17 0], .func (.func 151) #[] #[ptr c19 0]], _, _⟩) h Z0).cell (o := 2) J⟩, sees_own h Z3, sees_own h Z2, sees_own h Z1, hW.ext h J, (own_blk (B := ⟨c14, B.cells, _, _⟩) h Z3).lt, (own_blk (B := ⟨c17, bytesV (sgK s), _, _⟩) h Z2).lt, (own_blk (B := ⟨c19, bytesV seed, _, _⟩) h Z1).lt⟩) ?_
 rintro v21 out21 ⟨s10, bl10, s13, bl13, rfl, hac10, hac13, rfl⟩
 simp only [List.append_assoc, List.cons_append, List.nil_append]
 have hKs : D.ok := hW.dok
 clear hs hs1 hs2
 revert lG lK ok3
 generalize sgF s1 ++ sgS s s1 s2 = G
 generalize sgK s = K
 intro lG lK ok3
 refine Tr.storeAll J J J J (Block.isCell (by exact ok3 _ _)) Sz53 (Block.length (by exact ok3 _ _)) (by (repeat (first | exact List.mem_cons_self | refine List.mem_cons_of_mem _ ?_ | refine mem_seg ?_))) (Block.length (by exact Block.zero_ok)) (by (repeat (first | exact upd0 | apply Upd.tail | apply Upd.seg))) ?_
 refine Tr.assign J J J (Tr.nil (at_n (Sat.ret (en_r (end_perm (out := (bl10 ++ (bl13 ++ []))) (res_cell_tmp J J J Y53 J Sz53 (by (repeat (first | exact List.mem_cons_self | refine List.mem_cons_of_mem _ ?_ | refine mem_seg ?_))) (by exact Block.length (by exact ok3 _ _))) (pm_seg sG (pm_seg sG pm_nil)) ?_)))))
 exact ⟨({ B with fLinks := s10, fData := s13, fWriter := K, fSig := G } : Block), ⟨ok3 _ _, rfl, hW.seq, hW.prev, rfl, hac10.num.trans e1.symm, hac13.num.trans e2.symm⟩, rfl, fun W2 h2 => ⟨ok3 _ _, rfl, hW.seq, hW.prev, acc_rows hac10 (h2.sub in_here) hW.ls.row e1 oM, acc_bytes hac13 (h2.sub (in_seg in_here)) e2 oM, rfl⟩⟩

theorem db_good (B : Block) (D : DB) (hB : B.ok) : Meets Tryz.prog 40 [agg B.cells] [] (fun W => BlockIs W B D) (fun v out => v = i64 (dgood D) ∧ out = []) := by
 intro W hW
 refine calls_of (hp0 := []) Tryz.func40 J 17 Tryz.ntmps40 J (HRep.nil _) (Sat.seq (Sat.region (Tr.boxA J J ?_)))
 intro n1 hn1 hf1
 refine Tr.assign J J J (Tr.nil (at_n (Sat.seq (Sat.seq (Sat.region (Tr.loadAll J J J Y53 J Sz53 Z0 (Block.length zA) ?_))))))
 refine Tr.callV J J J J Body38 (db_check B D) (fun w h => hW.ext h J) (Tr.assign J J J (Tr.nil (at_n (Sat.seq (Sat.region (Tr.move J J J (Tr.nei J J J J J (Tr.nil (at_n (Sat.condNP J (fun hc0 => ?_) (fun hc0 => ?_)))))))))))
 ·
  have hq0 : ¬ D.check = 0 := by omega
  refine Sat.seq (Sat.region (Tr.move J J J (Tr.assign J J J (Tr.nil (at_n (Sat.ret (at_r (en_r ?_))))))))
  refine ⟨_, [], res_tmp J J, sP, sP, ?_, rfl⟩
  (unfold dgood; rw [if_neg hq0]; done)
 ·
  have hq0 : D.check = 0 := by omega
  obtain ⟨h1, h2⟩ := D.head_small hq0
  have hvn : (btxt D).length ≤ 4005 := DB.body_small hW.dok oM oM
  refine Sat.skip (at_n (Sat.seq (Sat.seq (Sat.draw [(0, 0), (1, 1), (1, 2), (0, 4), (1, 5), (3, 3), (3, 6), (0, 7)] Mixed zK (Tr.fld J J J Y53 J Sz25 dE _ J (Tr.loadN (bytesV _) J J J Y25 J Sz25 Z0 (Block.row_fWriter zA) (Block.rl_fWriter zA) ?_))))))
  refine Tr.loadAll J J J Y53 J Sz53 Z0 (Block.length zA) ?_
  refine Tr.fld J J J Y53 J Sz27 dE _ J (Tr.loadN (bytesV _) J J J Y27 J Sz27 Z0 (Block.row_fSig zA) (Block.rl_fSig zA) ?_)
  refine Tr.call J J J J Body47 (db_text B D hB oM oM) (FreshRow.loose _ _ _ _) (fun w h => hW.ext h J) ?_
  rintro v12 out12 ⟨q12, c12, rfl, hc12, rfl⟩
  refine Tr.callV J J J J Body60 (sign_Good B.fWriter hB.l_fWriter ⟨some ⟨q12, 0, none⟩, _, c12⟩ (btxt D) oM B.fSig hB.l_fSig) (fun w h => own_btxt (SeesP.of (sees_own h Z0)) hc12 hvn) ?_
  refine Tr.not J J J (Tr.nil (at_n (Sat.cond J (fun hc1 => ?_) (fun hc1 => ?_))))
  ·
   refine Sat.seq (Sat.region (Tr.assign J J J (Tr.nil (at_n (Sat.ret (at_r (en_r ?_)))))))
   refine ⟨_, [], res_tmp J J, sP, sP, ?_, rfl⟩
   (unfold dgood; rw [if_pos hq0, ← hW.w, ← hW.sg, if_neg (by intro e; rw [e] at hc1; cases hc1)]; done)
  ·
   refine Sat.skip (at_n (Sat.seq (Sat.region (Tr.assign J J J (Tr.nil (at_n (Sat.ret (en_r ?_))))))))
   refine ⟨_, [], res_tmp J J, sP, sP, ?_, rfl⟩
   (unfold dgood; rw [if_pos hq0, ← hW.w, ← hW.sg, if_pos (by simpa using hc1)]; done)

theorem db_own (B : Block) (D : DB) (hn : D.ls.length ≤ 500000) (hd : D.ds.length ≤ 500000) : Meets Tryz.prog 37 [agg B.cells] [] (fun W => BlockIs W B D) (BlkV D) := fun W hW => by
  have e1 := hW.ls.len
  have e2 := hW.ds.len
  refine (kit_own_block B hW.ok D.ls D.ds oM oM W ⟨hW.ls, hW.ds⟩).mono fun e W' ⟨v, out, h1, ⟨q1, c1, q2, c2, h2, h3, h4, h5⟩, h6⟩ => ⟨v, out, h1, ⟨ownB B q1 c1 q2 c2, ⟨ownB_ok hW.ok q1 c1 q2 c2, hW.w, hW.seq, hW.prev, hW.sg, e1.symm, e2.symm⟩, h2, fun W2 hl => ?_⟩, h6⟩
  subst h5
  have hf : (flatB D.ls).length = B.fLinks.n * 32 := by rw [flatB_length hW.ls.row, e1]
  have hb : (bytesV D.ds).length = B.fData.n * 1 := by rw [bytesV, List.length_map, e2, Nat.mul_one]
  refine ⟨ownB_ok hW.ok q1 c1 q2 c2, hW.w, hW.seq, hW.prev, ?_, ?_, hW.sg⟩
  · exact acc_rows (Acc.some (E := 24) h3 hf) (hl.sub (fun b hb => by rw [List.mem_singleton.1 hb]; exact mem1)) hW.ls.row e1 oM
  · exact acc_bytes (Acc.some (E := 5) h4 hb) (hl.sub (fun b hb => by rw [List.mem_singleton.1 hb]; exact mem0)) e2 oM

end Go.Proofs.YtpacobmjjjillaaGreat
end

section
namespace Hw
open Go
set_option linter.unusedSimpArgs false
set_option linter.unusedVariables false

/-- the first byte that a count and the top bits have -/
def headOf (s h : Nat) : UInt8 := shl8 255 (9 - s) ||| UInt8.ofNat h
theorem head_facts : ∀ s, s < 10 → 1 ≤ s → ∀ h, h < 2 ^ (8 - s) → (s = 9 → h = 0) → cntB (headOf s h) = s ∧ (headV (headOf s h)).toNat = h := by
  decide +kernel
/-- the number of bytes, the high one first -/
def beN : List UInt8 → Nat
  | [] => 0
  | b :: l => b.toNat * 256 ^ l.length + beN l
theorem beN_tail (x : UInt64) : ∀ k, k ≤ 8 → beN (tailB x k) = x.toNat % 256 ^ k
  | 0, _ => by simp [tailB, beN, Nat.mod_one]
  | k + 1, hk => by
    have hp : 0 < 256 ^ k := Nat.pow_pos dE
    have e : (2 : Nat) ^ (8 * k) = 256 ^ k := by rw [Nat.pow_mul]
    rw [tailB, beN, tailB_length, beN_tail x k oM, UInt64.toNat_toUInt8]
    have e1 : (shr64 x (8 * k)).toNat = x.toNat / 256 ^ k := by
      have h : x.toNat / 2 ^ (8 * k) ≤ x.toNat := Nat.div_le_self _ _
      have := x.toNat_lt
      rw [shr64, UInt64.toNat_ofNat', Nat.mod_eq_of_lt oM, e]
    rw [e1]
    have h3 := Nat.mod_mul (a := 256 ^ k) (b := 256) (x := x.toNat)
    have e2 : (256 : Nat) ^ (k + 1) = 256 ^ k * 256 := Nat.pow_succ ..
    have e3 : (2 : Nat) ^ 8 = 256 := by decide
    rw [e2, h3, e3, Nat.mul_comm (256 ^ k)]
    omega
theorem foldB_nat : ∀ (l : List UInt8) (a : UInt64), a.toNat * 256 ^ l.length + beN l < 2 ^ 64 → (foldB a l).toNat = a.toNat * 256 ^ l.length + beN l
  | [], a, _ => by simp [foldB, beN]
  | b :: l, a, h => by
    rw [beN, List.length_cons, Nat.pow_succ] at h
    have hb := b.toNat_lt
    have hp : 0 < 256 ^ l.length := Nat.pow_pos dE
    have e : a.toNat * (256 ^ l.length * 256) + (b.toNat * 256 ^ l.length + beN l) = (a.toNat * 256 + b.toNat) * 256 ^ l.length + beN l := by
      rw [Nat.add_mul, Nat.mul_assoc, Nat.mul_comm 256, Nat.add_assoc]
    rw [e] at h
    have h1 : a.toNat * 256 + b.toNat < 18446744073709551616 := by
      rw [show (2 : Nat) ^ 64 = 18446744073709551616 by decide] at h
      have : (a.toNat * 256 + b.toNat) * 1 ≤ (a.toNat * 256 + b.toNat) * 256 ^ l.length := Nat.mul_le_mul_left _ hp
      omega
    have hs : (shl64 a 8).toNat = a.toNat * 256 := by
      have e0 : a.toNat * 2 ^ 8 = a.toNat * 256 := rfl
      rw [shl64, UInt64.toNat_ofNat', e0, Nat.mod_eq_of_lt (Nat.lt_of_le_of_lt (Nat.le_add_right _ b.toNat) h1)]
    have ho : (shl64 a 8 ||| b.toUInt64).toNat = a.toNat * 256 + b.toNat := by
      rw [UInt64.toNat_or, hs, show b.toUInt64.toNat = b.toNat from by simp]
      rw [show a.toNat * 256 = 2 ^ 8 * a.toNat by omega, Nat.two_pow_add_eq_or_of_lt oM]
    rw [foldB, foldB_nat l _ (by rw [ho]; exact h), ho, beN, List.length_cons, Nat.pow_succ, e]

theorem or_one (x : Nat) : x ||| 1 = if x % 2 = 0 then x + 1 else x := by
  have h := Nat.or_mod_two_pow (a := x) (b := 1) (n := 1)
  have h2 := Nat.or_div_two_pow (a := x) (b := 1) (n := 1)
  simp only [Nat.pow_one] at h h2
  have e : x % 2 = 0 ∨ x % 2 = 1 := by omega
  have hm : (x ||| 1) % 2 = 1 := by
    rw [h]
    rcases e with e | e <;> rw [e] <;> rfl
  have hd : (x ||| 1) / 2 = x / 2 := by rw [h2]; simp
  split <;> omega
theorem or_one_lt {x k : Nat} (hk : 1 ≤ k) : (x ||| 1) < 2 ^ k ↔ x < 2 ^ k := by
  rw [or_one]
  have : 2 ^ k = 2 * 2 ^ (k - 1) := by rw [← Nat.pow_succ']; congr 1; omega
  split <;> omega
theorem szN_le {x s : Nat} (hs : 1 ≤ s) (h8 : s ≤ 8) : szN x ≤ s ↔ x < 2 ^ (7 * s) := by
  rw [← or_one_lt oM, ← bLen_le]
  unfold szN
  omega
theorem szN_hi {x : Nat} (hs : szN x ≤ 8) : x < 2 ^ (7 * szN x) := (szN_le (szN_pos x).1 hs).1 (Nat.le_refl _)

theorem headB_of (x : UInt64) : ∃ h, headB x = headOf (szN x.toNat) h ∧ h < 2 ^ (8 - szN x.toNat) ∧ (szN x.toNat = 9 → h = 0) ∧ x.toNat = h * 256 ^ (szN x.toNat - 1) + x.toNat % 256 ^ (szN x.toNat - 1) := by
  have hp := szN_pos x.toNat
  have hx := x.toNat_lt
  have e : (2 : Nat) ^ (8 * (szN x.toNat - 1)) = 256 ^ (szN x.toNat - 1) := by rw [Nat.pow_mul]
  have e1 : (shr64 x (8 * (szN x.toNat - 1))).toNat = x.toNat / 256 ^ (szN x.toNat - 1) := by
    have h : x.toNat / 2 ^ (8 * (szN x.toNat - 1)) ≤ x.toNat := Nat.div_le_self _ _
    rw [shr64, UInt64.toNat_ofNat', Nat.mod_eq_of_lt oM, e]
  have hlt : x.toNat / 256 ^ (szN x.toNat - 1) < 2 ^ (8 - szN x.toNat) ∧ (szN x.toNat = 9 → x.toNat / 256 ^ (szN x.toNat - 1) = 0) := by
    by_cases h9 : szN x.toNat = 9
    · rw [h9]
      have : x.toNat / 256 ^ (9 - 1) = 0 := Nat.div_eq_of_lt (by rw [show (256 : Nat) ^ (9 - 1) = 2 ^ 64 by decide]; exact hx)
      rw [this]
      exact ⟨by decide, fun _ => rfl⟩
    · refine ⟨?_, fun h => absurd h h9⟩
      rw [Nat.div_lt_iff_lt_mul (Nat.pow_pos dE), ← e, ← Nat.pow_add]
      have := szN_hi (x := x.toNat) oM
      rwa [show 8 - szN x.toNat + 8 * (szN x.toNat - 1) = 7 * szN x.toNat by omega]
  refine ⟨x.toNat / 256 ^ (szN x.toNat - 1), ?_, hlt.1, hlt.2, (Nat.div_add_mod' _ _).symm⟩
  unfold headB headOf
  congr 1
  apply UInt8.toNat_inj.1
  rw [UInt64.toNat_toUInt8, e1, UInt8.toNat_ofNat']

/-- what numB has written -/
theorem num_back (x : UInt64) : cntB (headB x) = szN x.toNat ∧ foldB (headV (headB x)) (tailB x (szN x.toNat - 1)) = x := by
  obtain ⟨h, h1, h2, h3, h4⟩ := headB_of x
  have hp := szN_pos x.toNat
  have hf := head_facts (szN x.toNat) oM hp.1 h h2 h3
  rw [h1]
  refine ⟨hf.1, UInt64.toNat_inj.1 ?_⟩
  have hb := beN_tail x (szN x.toNat - 1) oM
  rw [foldB_nat _ _ (by rw [tailB_length, hf.2, hb, ← h4]; exact x.toNat_lt), tailB_length, hf.2, hb, ← h4]

end Hw
end

section
namespace Go.Proofs.YtpacobmjjjillaaGreat
open Go Hw
set_option linter.unusedVariables false
set_option linter.unusedSimpArgs false

theorem room_go {x : UInt64} {k : Nat} (hk : 1 ≤ k) (h9 : k < 9) (h : ¬ ((shr64 x (7 * k)).toNat : Int) = 0) : k + 1 ≤ szN x.toNat := by
  rcases Nat.lt_or_ge k (szN x.toNat) with h1 | h1
  · exact h1
  · exact absurd (show ((shr64 x (7 * k)).toNat : Int) = 0 by rw [shr64_toNat, Nat.div_eq_of_lt ((szN_le hk oM).1 h1)]; rfl) h
theorem room_end {x : UInt64} {k : Nat} (hk : 1 ≤ k) (h9 : k < 9) (h : ((shr64 x (7 * k)).toNat : Int) = 0) : szN x.toNat ≤ k := by
  refine (szN_le hk oM).2 ?_
  rw [shr64_toNat] at h
  rcases Nat.div_eq_zero_iff.1 (show x.toNat / 2 ^ (7 * k) = 0 by omega) with h1 | h1
  · exact absurd h1 (Nat.ne_of_gt (Nat.pow_pos dE))
  · exact h1
theorem head_or : ∀ r, r < 9 → 1 ≤ r → ∀ y, y < 2 ^ (8 - r) → UInt8.ofNat (256 - 2 ^ (9 - r)) + UInt8.ofNat y = shl8 255 (9 - r) ||| UInt8.ofNat y := by decide
theorem head_9 : shl8 255 0 = 255 := by decide
theorem headB_9 {x : UInt64} (h : szN x.toNat = 9) : headB x = 255 := by
  rw [headB, h, head_9]
  have : ∀ y : UInt8, 255 ||| y = 255 := by
    intro y
    have hh : ∀ n, n < 256 → (255 : UInt8) ||| UInt8.ofNat n = 255 := by decide
    have := hh y.toNat y.toNat_lt
    rwa [UInt8.ofNat_toNat] at this
  exact this _
theorem headB_lt {x : UInt64} (h : szN x.toNat < 9) : ((256 : UInt64) - shl64 1 (9 - szN x.toNat)).toUInt8 + (shr64 x (8 * (szN x.toNat - 1))).toUInt8 = headB x := by
  have hp := szN_pos x.toNat
  have hy : (shr64 x (8 * (szN x.toNat - 1))).toNat < 2 ^ (8 - szN x.toNat) := by
    rw [shr64_toNat, Nat.div_lt_iff_lt_mul (Nat.pow_pos dE), ← Nat.pow_add, show 8 - szN x.toNat + 8 * (szN x.toNat - 1) = 7 * szN x.toNat by omega]
    exact szN_hi oM
  have h1 : ((256 : UInt64) - shl64 1 (9 - szN x.toNat)).toUInt8 = UInt8.ofNat (256 - 2 ^ (9 - szN x.toNat)) := by
    have : ∀ r, r < 9 → 1 ≤ r → ((256 : UInt64) - shl64 1 (9 - r)).toUInt8 = UInt8.ofNat (256 - 2 ^ (9 - r)) := by decide
    exact this _ h hp.1
  have h2 : (shr64 x (8 * (szN x.toNat - 1))).toUInt8 = UInt8.ofNat (shr64 x (8 * (szN x.toNat - 1))).toNat := rfl
  rw [h1, headB, h2]
  exact head_or _ h hp.1 _ hy

theorem r1_room (x : UInt64) : Meets Tryz.prog 139 [u64 x] [] (fun _ => True) (fun v out => v = i64 ((szN x.toNat : Nat) : Int) ∧ out = []) := by
 intro W hW
 have hz := szN_pos x.toNat
 refine calls_of (hp0 := []) Tryz.func139 J 17 Tryz.ntmps139 J (HRep.nil _) (Sat.seq (Sat.region (Tr.assign J J J (Tr.nil (at_n (Sat.seq (Sat.region (Tr.assign J J J (Tr.nil (at_n (Sat.seq (Sat.block (Sat.loop (ι := Nat) (fun k => ⟨[(0, u64 x), (3, i64 (k : Int))], []⟩) (fun k => 1 ≤ k ∧ k ≤ szN x.toNat) (fun k => 9 - k) (1) ?_ ?_ ?_)))))))))))))
 · exact ⟨Nat.le_refl _, hz.1⟩
 · exact weak_of (wk1 rfl (wk1 rfl wk0)) wh0 (by repeat (exact ns_nil))
 ·
  rintro k ⟨hk1, hk2⟩
  refine Sat.seq (Sat.seq (Sat.region (Tr.move J J J (two (fun r hr k => Tr.lss J J J J hr k) (fun hs2_10 => ?_) (fun hs2_10 => ?_)))))
  ·
   have hs2_1 := of_decide_eq_true hs2_10
   refine Tr.move J J J (Tr.move J J J (Tr.move J J J (Tr.mul_i64 J J J J oM (Tr.conv J J J Y3 Y35 (cv_i64_u64 _) (Tr.shr_u64 J J J J (7 * k) (by rw [show (7 : Int) * (k : Int) = ((7 * k : Nat) : Int) by omega, wordOf_id _ oM]) oM ?_)))))
   refine Tr.nei J J J J J (Tr.pick J J J J J J (Tr.nil (at_n (Sat.condNP J (fun hc0 => ?_) (fun hc0 => ?_)))))
   ·
    refine Sat.skip (at_n (Sat.block (Sat.region (Tr.move J J J (Tr.add_i64 J J J J oM (Tr.assign J J J (Tr.nil (bl_n (at_n ?_)))))))))
    exact ⟨k + 1, ⟨by omega, room_go hk1 oM zA⟩, by omega, weak_of (wk1 rfl (wk1 (by rw [Int.natCast_add]; rfl) wk0)) wh0 (by repeat (exact ns_nil))⟩
   ·
    refine Sat.exit (at_x (at_x (bl_h (at_n (Sat.seq (Sat.region (Tr.move J J J (Tr.assign J J J (Tr.nil (at_n (Sat.ret (en_r ?_))))))))))))
    refine ⟨_, [], res_tmp J J, sP, sP, ?_, rfl⟩
    (have := room_end hk1 oM zA; congr 1; omega)
  ·
   have hs2_1 := of_decide_eq_false hs2_10
   refine Tr.move J J J (Tr.skp J J (Tr.skp J J (Tr.skp J J (Tr.skp J J (Tr.skp J J (Tr.skp J J (Tr.pick J J J J J J (Tr.nil (at_n (Sat.cond_f J J (Sat.exit (at_x (at_x (bl_h (at_n (Sat.seq (Sat.region (Tr.move J J J (Tr.assign J J J (Tr.nil (at_n (Sat.ret (en_r ?_)))))))))))))))))))))))
   refine ⟨_, [], res_tmp J J, sP, sP, ?_, rfl⟩
   (congr 1; omega)

theorem r1_Number (p0 : Option Addr) (n c : Nat) (l : List UInt8) (x : UInt64) (hl : l.length = n) (hp0 : p0 = none → n = 0) (hn : n ≤ 90000) : Meets Tryz.prog 101 [.slice p0 n c, u64 x] [] (fun W => SeesP W p0 (bytesV l)) (fun v out => FreshRow v out (bytesV (l ++ numB x)) 5 (n + szN x.toNat) 1) := by
 intro W hW
 have hz := szN_pos x.toNat
 refine calls_of (hp0 := []) Tryz.func101 J 51 Tryz.ntmps101 J (HRep.nil _) (Sat.seq (Sat.region (Tr.assign J J J (Tr.nil (at_n (Sat.seq (Sat.region (Tr.mkRow2 (z := u8 0) [] [] rfl J Y39 Sz5 Zr5 J J (by intro v hv; cases hv) dE J ?_))))))))
 intro q8
 refine Tr.move J J J (Tr.appendSl (z := u8 0) (by' := 1) (bytesV l) J J J J J Y39 Y39 Sz5 Zr5 (by unfold By; kernel_rfl) J (fun w h => seesP_ext h J hW) hp0 (by simp [bytesV, isCell, u8]) rem_here J J oM oM oM (by simp [bytesV, hl]) ?_)
 intro q10 c10 hq10
 rw [Nat.zero_add n] at hq10 ⊢
 refine Tr.assign J J J (Tr.nil (at_n (Sat.seq (Sat.region (Tr.move J J J (Tr.callV J J J J Body139 (r1_room _) (fun _ _ => trivial) (Tr.assign J J J (Tr.nil (at_n (Sat.join (ι := Nat × Nat) (fun p => ⟨[(1, u64 x), (5, .slice (some ⟨p.1, 0, none⟩) (n + 1) p.2), (6, i64 ((szN x.toNat : Nat) : Int))], [⟨p.1, bytesV (l ++ [headB x]), 5, p.2 * 1⟩]⟩) (fun p => n + 1 ≤ p.2) ?_ ?_))))))))))
 ·
  refine Sat.seq (Sat.region (Tr.move J J J (Tr.eqi J J J J J (Tr.nil (at_n (Sat.condP J (fun hc0 => ?_) (fun hc0 => ?_)))))))
  ·
   refine Sat.region (Tr.move J J J (Tr.mkRow (z := u8 0) [u8 (255)] (bytesV [255]) J J J Y39 Sz5 Zr5 J J (by intro v hv; rw [List.mem_singleton.1 hv]; rfl) dE J ?_))
   intro q16
   refine Tr.appendSl (z := u8 0) (by' := 1) (bytesV [255]) J J J J J Y39 Y39 Sz5 Zr5 (by unfold By; kernel_rfl) J (fun w h => SeesP.of (sees_own h mem0)) (fun e => by cases e) (by simp [bytesV, isCell, u8]) (rem_there rem_here) J (by simp [bytesV, hl]) oM oM oM (by rfl) ?_
   intro q17 c17 hq17
   refine Tr.assign J J J (Tr.nil (at_n ?_))
   exact ⟨(q17, c17), hq17, weak_of (wk1 rfl (wk1 rfl (wk1 rfl wk0))) (wh1 (by (rw [headB_9 (x := x) oM]; simp only [bytesV, List.map_append]; exact mem0)) wh0) nD⟩
  ·
   refine Sat.region (Tr.move J J J (Tr.move J J J (Tr.sub_i64 J J J J oM (Tr.conv J J J Y3 Y35 (cv_i64_u64 _) (Tr.shl_u64 J J (show evIn _ _ = some (u64 1) from rfl) J (9 - szN x.toNat) (by rw [show (9 : Int) - ((szN x.toNat : Nat) : Int) = ((9 - szN x.toNat : Nat) : Int) by omega, wordOf_id _ oM]) oM ?_)))))
   refine Tr.sub_u64 J J (show evIn _ _ = some (u64 256) from rfl) J (Tr.conv J J J Y22 Y5 (cv_u64_u8 _) (Tr.move J J J (Tr.move J J J (Tr.sub_i64 J J J J oM (Tr.mul_i64 J J J J oM (Tr.conv J J J Y3 Y35 (cv_i64_u64 _) (Tr.shr_u64 J J J J (8 * (szN x.toNat - 1)) (by rw [show (8 : Int) * (((szN x.toNat : Nat) : Int) - 1) = ((8 * (szN x.toNat - 1) : Nat) : Int) by omega, wordOf_id _ oM]) oM ?_)))))))
   refine Tr.conv J J J Y22 Y5 (cv_u64_u8 _) (Tr.add_u8 J J J J ?_)
   rw [headB_lt (x := x) oM]
   refine Tr.mkRow (z := u8 0) [u8 (headB x)] (bytesV [headB x]) J J J Y39 Sz5 Zr5 J J (by intro v hv; rw [List.mem_singleton.1 hv]; rfl) dE J ?_
   intro q33
   refine Tr.appendSl (z := u8 0) (by' := 1) (bytesV [headB x]) J J J J J Y39 Y39 Sz5 Zr5 (by unfold By; kernel_rfl) J (fun w h => SeesP.of (sees_own h mem0)) (fun e => by cases e) (by simp [bytesV, isCell, u8]) (rem_there rem_here) J (by simp [bytesV, hl]) oM oM oM (by rfl) ?_
   intro q17 c17 hq17
   refine Tr.assign J J J (Tr.nil (at_n ?_))
   exact ⟨(q17, c17), hq17, weak_of (wk1 rfl (wk1 rfl (wk1 rfl wk0))) (wh1 (by (simp only [bytesV, List.map_append]; exact mem0)) wh0) nD⟩
 ·
  intro p hj
  have hjp := hj
  refine Sat.seq (Sat.seq (Sat.region (Tr.move J J J (Tr.sub_i64 J J J J oM (Tr.assign J J J (Tr.nil (at_n (Sat.block (Sat.loop (ι := Nat × Nat × Nat) (fun r => ⟨[(1, u64 x), (5, .slice (some ⟨r.2.1, 0, none⟩) (n + 1 + r.1) r.2.2), (7, i64 (((szN x.toNat : Nat) : Int) - 2 - (r.1 : Int)))], [⟨r.2.1, bytesV (l ++ numUp x r.1), 5, r.2.2 * 1⟩]⟩) (fun r => r.1 ≤ szN x.toNat - 1 ∧ n + 1 + r.1 ≤ r.2.2) (fun r => szN x.toNat - 1 - r.1) ((0, p.1, p.2)) ?_ ?_ ?_)))))))))
  · exact ⟨Nat.zero_le _, hjp⟩
  · exact weak_of (wk1 rfl (wk1 rfl (wk1 (by rw [show (((szN x.toNat : Nat) : Int) - 2 - ((0 : Nat) : Int)) = ((szN x.toNat : Nat) : Int) - 2 by omega]; rfl) wk0))) (wh1 (by rw [numUp_zero]; exact mem0) wh0) nD
  ·
   rintro r ⟨hp1, hp2⟩
   refine Sat.seq (Sat.seq (Sat.region (Tr.move J J J (Tr.geq J J J J J (Tr.nil (at_n (Sat.condP J (fun hc1 => ?_) (fun hc1 => ?_))))))))
   ·
    have hp3 : r.1 < szN x.toNat - 1 := by omega
    refine Sat.skip (at_n (Sat.seq (Sat.block (Sat.region (Tr.move J J J (Tr.move J J J (Tr.move J J J (Tr.mul_i64 J J J J oM (Tr.conv J J J Y3 Y35 (cv_i64_u64 _) (Tr.shr_u64 J J J J (8 * (szN x.toNat - 2 - r.1)) (by rw [show (8 : Int) * (((szN x.toNat : Nat) : Int) - 2 - (r.1 : Int)) = ((8 * (szN x.toNat - 2 - r.1) : Nat) : Int) by omega, wordOf_id _ oM]) oM ?_))))))))))
    refine Tr.conv J J J Y22 Y5 (cv_u64_u8 _) (Tr.mkRow (z := u8 0) [u8 ((shr64 x (8 * (szN x.toNat - 2 - r.1))).toUInt8)] (bytesV [(shr64 x (8 * (szN x.toNat - 2 - r.1))).toUInt8]) J J J Y39 Sz5 Zr5 J J (by intro v hv; rw [List.mem_singleton.1 hv]; rfl) dE J ?_)
    intro q48
    refine Tr.appendSl (z := u8 0) (by' := 1) (bytesV [(shr64 x (8 * (szN x.toNat - 2 - r.1))).toUInt8]) J J J J J Y39 Y39 Sz5 Zr5 (by unfold By; kernel_rfl) J (fun w h => SeesP.of (sees_own h mem0)) (fun e => by cases e) (by simp [bytesV, isCell, u8]) (rem_there rem_here) J (by rw [bytesV, List.length_map, List.length_append, hl, numUp_length x r.1 oM]; omega) oM oM oM (by rfl) ?_
    intro q2 c2 hq2
    refine Tr.assign J J J (Tr.nil (bl_n (at_n (Sat.region (Tr.move J J J (Tr.sub_i64 J J J J oM (Tr.assign J J J (Tr.nil (at_n ?_)))))))))
    exact ⟨(r.1 + 1, q2, c2), ⟨by simp only []; omega, by simp only []; omega⟩, by simp only []; omega, weak_of (wk1 rfl (wk1 (by rw [show n + 1 + (r.1 + 1) = n + 1 + r.1 + 1 by omega]; rfl) (wk1 (by rw [show (((szN x.toNat : Nat) : Int) - 2 - ((r.1 + 1 : Nat) : Int)) = ((szN x.toNat : Nat) : Int) - 2 - (r.1 : Int) - 1 by omega]; rfl) wk0))) (wh1 (by rw [numUp_step x r.1 oM, ← List.append_assoc]; simp only [bytesV, List.map_append]; exact mem0) wh0) nD⟩
   ·
    have hp3 : r.1 = szN x.toNat - 1 := by omega
    refine Sat.exit (at_x (at_x (bl_h (at_n (Sat.seq (Sat.region (Tr.move J J J (Tr.assign J J J (Tr.nil (at_n (Sat.ret (en_r ?_))))))))))))
    refine ⟨_, [⟨r.2.1, bytesV (l ++ numB x), 5, r.2.2 * 1⟩], res_tmp J J, (by intro b hb; rw [List.mem_singleton.1 hb, ← numUp_all, ← hp3]; exact mem0), nodup1, ⟨r.2.1, r.2.2, by rw [show n + 1 + r.1 = n + szN x.toNat by omega], by omega, rfl⟩⟩

end Go.Proofs.YtpacobmjjjillaaGreat
end

section
namespace Go.Proofs.YtpacobmjjjillaaGreat
open Go Hw
set_option linter.unusedVariables false
set_option linter.unusedSimpArgs false

open Ed

theorem cmpB_same (x : UInt8) (a b : List UInt8) : cmpB (x :: a) (x :: b) = cmpB a b := by simp [cmpB, Go.Lib.compareBytes]
theorem cmpB_other {x y : UInt8} (h : x ≠ y) (a b : List UInt8) : cmpB (x :: a) (y :: b) = cmpI (x.toNat : Int) (y.toNat : Int) := by
  have h2 : x.toNat ≠ y.toNat := fun e => h (UInt8.toNat_inj.1 e)
  simp only [cmpB, Go.Lib.compareBytes, UInt8.lt_iff_toNat_lt]
  unfold cmpI
  (repeat' split) <;> first | rfl | omega
theorem cmpB_at : ∀ (k : Nat) (a b : List UInt8), a.length = b.length → (∀ j, j < k → a.getD j 0 = b.getD j 0) → k < a.length → a.getD k 0 ≠ b.getD k 0 → cmpB a b = cmpI ((a.getD k 0).toNat : Int) ((b.getD k 0).toNat : Int)
  | k, [], b, hl, hs, hk, hd => absurd hk (Nat.not_lt_zero _)
  | k, x :: a, [], hl, hs, hk, hd => by cases hl
  | 0, x :: a, y :: b, hl, hs, hk, hd => cmpB_other hd a b
  | k + 1, x :: a, y :: b, hl, hs, hk, hd => by
    have e : x = y := hs 0 (Nat.succ_pos k)
    subst e
    rw [cmpB_same]
    exact cmpB_at k a b (Nat.succ.inj hl) (fun j hj => hs (j + 1) (Nat.succ_lt_succ hj)) (Nat.lt_of_succ_lt_succ hk) hd
theorem cmpB_all {a b : List UInt8} (ha : a.length = 32) (hb : b.length = 32) (h : ∀ j, j < 32 → a.getD j 0 = b.getD j 0) : cmpB a b = 0 := by
  refine (cmpB_zero a b).2 (List.ext_getElem oM (fun i h1 h2 => ?_))
  have := h i oM
  simpa [List.getD, h1, h2] using this

end Go.Proofs.YtpacobmjjjillaaGreat
end

section
namespace Go.Proofs.YtpacobmjjjillaaGreat
open Go Hw
set_option linter.unusedVariables false
set_option linter.unusedSimpArgs false

theorem drop_cons {xs l : List UInt8} {a : Nat} {f : UInt8} (h : xs.drop a = f :: l) : a < xs.length ∧ xs.getD a 0 = f ∧ xs.drop (a + 1) = l := by
  have hlt : a < xs.length := by
    rcases Nat.lt_or_ge a xs.length with h1 | h1
    · exact h1
    · rw [List.drop_eq_nil_of_le h1] at h; cases h
  rw [List.drop_eq_getElem_cons hlt] at h
  injection h with h1 h2
  exact ⟨hlt, by rw [List.getD_eq_getElem?_getD, List.getElem?_eq_getElem hlt]; exact h1, h2⟩
theorem drop_split {xs p t : List UInt8} {a : Nat} (h : xs.drop a = p ++ t) (hp : 0 < p.length) : a + p.length ≤ xs.length ∧ (xs.drop a).take p.length = p ∧ xs.drop (a + p.length) = t := by
  have h1 := congrArg List.length h
  rw [List.length_drop, List.length_append] at h1
  refine ⟨by omega, by rw [h]; simp, ?_⟩
  rw [← List.drop_drop, h]; simp
theorem dig_fwd {xs d t : List UInt8} {a : Nat} (h : xs.drop a = d ++ t) (hd : d.length = 32) : digR xs a 0 = (d, a + 32, 0) ∧ xs.drop (a + 32) = t := by
  obtain ⟨h1, h2, h3⟩ := drop_split h oM
  rw [hd] at h1 h2 h3
  unfold digR
  rw [if_neg sP, if_neg oM, h2]
  exact ⟨rfl, h3⟩
theorem num_fwd {xs t : List UInt8} {a : Nat} {x : UInt64} (h : xs.drop a = numB x ++ t) : numR xs a 0 = (x, a + szN x.toNat, 0) ∧ xs.drop (a + szN x.toNat) = t := by
  have hp := szN_pos x.toNat
  have hl := numB_length x
  obtain ⟨h1, h2, h3⟩ := drop_split h oM
  rw [hl] at h1 h2 h3
  rw [numB, List.cons_append] at h
  obtain ⟨g1, g2, g3⟩ := drop_cons h
  obtain ⟨n1, n2⟩ := num_back x
  have hv : numV xs a = x := by
    rw [numV, g2, g3, n1, List.take_left' (tailB_length x _)]
    exact n2
  unfold numR
  rw [if_neg sP, if_neg oM, hv, g2, n1, if_neg oM, if_pos rfl]
  exact ⟨rfl, h3⟩
theorem blk_fwd {xs ds t : List UInt8} {a : Nat} (hn : ds.length ≤ 1000000) (h : xs.drop a = numB (UInt64.ofNat ds.length) ++ ds ++ t) : blkR xs a 0 = (some ds, a + szN ds.length + ds.length, 0) ∧ xs.drop (a + szN ds.length + ds.length) = t := by
  rw [List.append_assoc] at h
  have hx : (UInt64.ofNat ds.length).toNat = ds.length := ofNat_nat hn
  obtain ⟨h1, h2⟩ := num_fwd h
  rw [hx] at h1 h2
  unfold blkR
  rw [h1]
  simp only [hx]
  rw [if_neg sP]
  have hl := congrArg List.length h2
  rw [List.length_drop, List.length_append] at hl
  have hz := szN_pos ds.length
  have hle : a + szN ds.length ≤ xs.length := by
    have := congrArg List.length h
    rw [List.length_drop, List.length_append, numB_length, hx] at this
    omega
  rw [if_neg oM, h2]
  refine ⟨by simp, ?_⟩
  rw [← List.drop_drop, h2]; simp
theorem tak_fwd {xs d t : List UInt8} {a m : Nat} (h : xs.drop a = d ++ t) (hd : d.length = m) (hm : 0 < m) : takR xs m a 0 = (d, a + m, 0) ∧ xs.drop (a + m) = t := by
  obtain ⟨h1, h2, h3⟩ := drop_split h oM
  rw [hd] at h1 h2 h3
  unfold takR
  rw [if_neg sP, if_neg oM, h2]
  exact ⟨rfl, h3⟩
theorem digs_fwd {xs t : List UInt8} {ls : List (List UInt8)} {a : Nat} (hls : ∀ l ∈ ls, l.length = 32) (h : xs.drop a = ls.flatten ++ t) : ∀ j, j ≤ ls.length → digsR xs j a 0 = (ls.take j, a + 32 * j, 0) ∧ xs.drop (a + 32 * j) = (ls.drop j).flatten ++ t
  | 0, _ => ⟨rfl, by simpa using h⟩
  | j + 1, hj => by
    obtain ⟨h1, h2⟩ := digs_fwd hls h j oM
    rw [List.drop_eq_getElem_cons (l := ls) (i := j) oM, List.flatten_cons, List.append_assoc] at h2
    obtain ⟨h3, h4⟩ := dig_fwd h2 (hls _ (List.getElem_mem oM))
    refine ⟨?_, by rw [show a + 32 * (j + 1) = a + 32 * j + 32 by omega]; exact h4⟩
    rw [digsR, h1]
    simp only [h3]
    rw [List.take_succ_eq_append_getElem oM]
    rfl
theorem readP_bytes {D : DB} (h : D.ok) (hc : D.check = 0) (t : List UInt8) : readP (D.bytes ++ t) = (D, D.bytes.length, 0) := by
  have hs := D.head_small hc
  have hl1 : (UInt64.ofNat D.ls.length).toNat = D.ls.length := ofNat_nat oM
  obtain ⟨xs, hxs⟩ : ∃ xs, D.bytes ++ t = xs := ⟨_, rfl⟩
  rw [hxs]
  have h0 : xs.drop 0 = D.w ++ (numB D.seq ++ (D.prev ++ (numB (UInt64.ofNat D.ls.length) ++ (D.ls.flatten ++ (numB (UInt64.ofNat D.ds.length) ++ D.ds ++ (D.sg ++ t)))))) := by
    rw [List.drop_zero, ← hxs]
    simp only [DB.bytes, DB.body, List.append_assoc]
  obtain ⟨r1, h1⟩ := dig_fwd h0 h.w
  obtain ⟨r2, h2⟩ := num_fwd h1
  obtain ⟨r3, h3⟩ := dig_fwd h2 h.prev
  obtain ⟨r4, h4⟩ := num_fwd h3
  rw [hl1] at r4 h4
  obtain ⟨r5, h5⟩ := digs_fwd h.ls h4 D.ls.length (Nat.le_refl _)
  rw [List.take_length] at r5
  rw [List.drop_length, List.flatten_nil, List.nil_append] at h5
  obtain ⟨r6, h6⟩ := blk_fwd oM h5
  obtain ⟨r7, h7⟩ := tak_fwd h6 h.sg dE
  have hk : min (UInt64.ofNat D.ls.length).toNat 17 = D.ls.length := by omega
  have hlen : D.bytes.length = 0 + 32 + szN D.seq.toNat + 32 + szN D.ls.length + 32 * D.ls.length + szN D.ds.length + D.ds.length + 64 := by
    have hfl := flatten_take_len h.ls (Nat.le_refl D.ls.length)
    rw [List.take_length] at hfl
    simp only [DB.bytes, DB.body, List.length_append, numB_length, h.w, h.prev, h.sg, hfl, hl1, ofNat_nat (n := D.ds.length) oM]
    omega
  simp only [readP, r1, r2, r3, r4, hk, r5, r6, r7, Option.getD_some]
  rw [h.sg, hlen, List.drop_of_length_le sP, List.append_nil]
theorem readD_bytes {D : DB} (h : D.ok) (hc : D.check = 0) : readD D.bytes = (D, 0) := by
  have hr := readP_bytes h hc []
  rw [List.append_nil] at hr
  rw [readD_ok (by rw [hr]; exact ⟨by simp [endR], hc⟩), hr]
theorem bytes_inj {D E : DB} (hD : D.ok) (hE : E.ok) (cD : D.check = 0) (cE : E.check = 0) : D.bytes = E.bytes ↔ D = E := by
  constructor
  · intro h
    have h1 := readD_bytes hD cD
    rw [h, readD_bytes hE cE] at h1
    exact (congrArg Prod.fst h1).symm
  · intro h; rw [h]
end Go.Proofs.YtpacobmjjjillaaGreat
end

section
namespace Go.Proofs.YtpacobmjjjillaaGreat
open Go Hw
set_option linter.unusedVariables false
set_option linter.unusedSimpArgs false

open Ed

theorem dcheck_2 {D : DB} (h : ¬ D.check = 0) : D.check = 2 := by
  unfold DB.check at h ⊢
  by_cases h1 : D.head = true
  · rw [if_pos h1]
  · rw [if_neg h1] at h ⊢
    by_cases h2 : linksBad D.prev D.ls = true
    · rw [if_pos h2]
    · rw [if_neg h2] at h; exact absurd rfl h

theorem r15_cmp (a b : List UInt8) (ha : a.length = 32) (hb : b.length = 32) : Meets Tryz.prog 57 [agg (bytesV a), agg (bytesV b)] [] (fun _ => True) (fun v out => v = i64 (cmpB a b) ∧ out = []) := by
 intro W hW
 refine calls_of (hp0 := []) Tryz.func57 J 24 Tryz.ntmps57 J (HRep.nil _) (Sat.seq (Sat.region (Tr.boxA J J ?_)))
 intro n2 hn2 hf2
 refine Tr.boxA J J ?_
 intro n3 hn3 hf3
 refine Tr.assign J J J (Tr.nil (at_n (Sat.seq (Sat.seq (Sat.region (Tr.assign J J J (Tr.nil (at_n (Sat.block (Sat.loop (ι := Nat) (fun k => ⟨[(2, ptr n2 0), (3, ptr n3 0), (5, i64 (k : Int))], [⟨n3, bytesV b, 24, (bytesV b).length⟩, ⟨n2, bytesV a, 24, (bytesV a).length⟩]⟩) (fun k => k ≤ 32 ∧ ∀ j, j < k → a.getD j 0 = b.getD j 0) (fun k => 32 - k) (0) ?_ ?_ ?_))))))))))
 · exact ⟨Nat.zero_le _, fun j hj => absurd hj (Nat.not_lt_zero _)⟩
 · exact weak_of (wk1 rfl (wk1 rfl (wk1 rfl wk0))) (wh1 Z0 (wh1 Z1 wh0)) nD
 ·
  rintro k ⟨hk, hsm⟩
  refine Sat.seq (Sat.seq (Sat.region (Tr.move J J J (Tr.lss J J J J J (Tr.nil (at_n (Sat.condP J (fun hc0 => ?_) (fun hc0 => ?_))))))))
  ·
   have hk2 : k < 32 := by omega
   refine Sat.skip (at_n (Sat.seq (Sat.block (Sat.seq (Sat.seq (Sat.draw [(0, 0), (0, 1), (1, 2), (0, 3), (0, 4), (1, 5), (0, 6)] Mixed zK (Tr.move J J J (Tr.idxArr1 J J J J Y24 Sz5 k J oM (Tr.load1 J J J Y5 J Z1 zG ?_)))))))))
   refine Tr.move J J J (Tr.idxArr1 J J J J Y24 Sz5 k J oM (Tr.load1 J J J Y5 J Z0 zG ?_))
   refine Tr.lss J J J J J (Tr.nil (at_n (Sat.condP J (fun hc1 => ?_) (fun hc1 => ?_))))
   ·
    have hek : a.getD k 0 ≠ b.getD k 0 := fun e => by rw [e] at hc1; omega
    refine Sat.seq (Sat.region (Tr.assign J J J (Tr.nil (at_n (Sat.ret (at_r (bl_r (at_r (at_r (bl_r (at_r (en_r ?_))))))))))))
    refine ⟨_, [], res_tmp J J, sP, sP, ?_, rfl⟩
    (rw [cmpB_at k a b oM hsm oM hek]; unfold cmpI; rw [if_pos oM]; done)
   ·
    refine Sat.skip (at_n (Sat.seq (Sat.draw [(0, 0), (0, 1), (1, 2), (0, 3), (0, 4), (1, 5), (0, 6)] Mixed zK (Tr.move J J J (Tr.idxArr1 J J J J Y24 Sz5 k J oM (Tr.load1 J J J Y5 J Z1 zG ?_))))))
    refine Tr.move J J J (Tr.idxArr1 J J J J Y24 Sz5 k J oM (Tr.load1 J J J Y5 J Z0 zG ?_))
    refine Tr.gtr J J J J J (Tr.nil (at_n (Sat.condP J (fun hc2 => ?_) (fun hc2 => ?_))))
    ·
     have hek : a.getD k 0 ≠ b.getD k 0 := fun e => by rw [e] at hc2; omega
     refine Sat.seq (Sat.region (Tr.assign J J J (Tr.nil (at_n (Sat.ret (bl_r (at_r (at_r (bl_r (at_r (en_r ?_)))))))))))
     refine ⟨_, [], res_tmp J J, sP, sP, ?_, rfl⟩
     (rw [cmpB_at k a b oM hsm oM hek]; unfold cmpI; rw [if_neg oM, if_pos oM]; done)
    ·
     have hek : a.getD k 0 = b.getD k 0 := UInt8.toNat_inj.1 oM
     refine Sat.skip (bl_n (at_n (Sat.region (Tr.move J J J (Tr.add_i64 J J J J oM (Tr.assign J J J (Tr.nil (at_n ?_))))))))
     exact ⟨k + 1, ⟨by omega, fun j hj => by rcases Nat.lt_or_ge j k with h1 | h1; exact hsm j h1; exact (show j = k by omega) ▸ hek⟩, by omega, weak_of (wk1 rfl (wk1 rfl (wk1 (by rw [Int.natCast_add]; rfl) wk0))) (wh1 Z0 (wh1 Z1 wh0)) nD⟩
  ·
   have hk2 : k = 32 := by omega
   refine Sat.exit (at_x (at_x (bl_h (at_n (Sat.seq (Sat.region (Tr.assign J J J (Tr.nil (at_n (Sat.ret (en_r ?_)))))))))))
   refine ⟨_, [], res_tmp J J, sP, sP, ?_, rfl⟩
   (rw [cmpB_all ha hb (fun j hj => hsm j oM)]; done)

theorem r15_check (B : Block) (hB : B.ok) (ls : List (List UInt8)) : Meets Tryz.prog 51 [agg B.cells] [] (fun W => RowsAt W B.fLinks 32 ls) (fun v out => v = i64 (bcheck B ls) ∧ out = []) := by
 intro W hW
 have hcx : B.fLinks.n ≤ maxLen := hW.max
 simp only [maxLen] at hcx
 have hcn := hW.cap
 refine calls_of (hp0 := []) Tryz.func51 J 74 Tryz.ntmps51 J (HRep.nil _) (Sat.seq (Sat.region (Tr.boxA J J ?_)))
 intro n1 hn1 hf1
 refine Tr.assign J J J (Tr.nil (at_n (Sat.seq (Sat.region (Tr.build (cs := bytesV (List.replicate 32 0)) J J J (fun w => by kernel_rfl) ?_)))))
 refine Tr.alloc (cs := (bytesV (List.replicate 32 0))) J Zr24 J ?_
 intro n3 hn3 hf3
 refine Tr.storeAll J J J J zE Sz24 sP Z0 sP zU ?_
 refine Tr.nil (at_n (Sat.seq (Sat.seq (Sat.draw [(0, 0), (1, 1), (0, 2), (0, 3), (0, 4), (1, 5), (1, 6), (0, 7), (0, 8), (1, 9), (0, 10), (0, 11), (0, 12), (0, 13), (0, 14), (1, 15), (0, 16), (0, 17), (0, 18), (0, 19), (0, 20), (1, 21), (0, 22), (0, 23), (0, 24)] Mixed zK (Tr.fld J J J Y53 J Sz22 dE _ J (Tr.load1 J J J Y22 J Z1 (by exact Block.get_fSeq zA) ?_))))))
 refine two (fun r hr k => Tr.gtr J J J J hr k) (fun hs2_20 => ?_) (fun hs2_20 => ?_)
 ·
  have hs2_2 := of_decide_eq_true hs2_20
  refine Tr.move J J J (Tr.skp J J (Tr.skp J J (Tr.skp J J (Tr.skp J J (Tr.skp J J (Tr.skp J J (Tr.skp J J (Tr.skp J J (Tr.pick J J J J J J (Tr.move J J J (Tr.skp J J (Tr.skp J J (Tr.skp J J (Tr.skp J J (Tr.pick J J J J J J (Tr.move J J J (Tr.skp J J (Tr.skp J J (Tr.skp J J (Tr.skp J J (Tr.pick J J J J J J (Tr.nil (at_n (Sat.cond_t J J (Sat.seq (Sat.region (Tr.assign J J J (Tr.nil (at_n (Sat.ret (at_r (en_r ?_))))))))))))))))))))))))))))))))
  refine ⟨_, [], res_tmp J J, sP, sP, ?_, rfl⟩
  exact congrArg i64 (bcheck_head (by unfold bhead bheadB; simp_all)).symm
 ·
  have hs2_2 := of_decide_eq_false hs2_20
  refine Tr.move J J J (Tr.fld J J J Y53 J Sz24 dE _ J (Tr.loadN (bytesV _) J J J Y24 J Sz24 Z1 (Block.row_fPrev zA) (Block.rl_fPrev zA) ?_))
  refine Tr.loadAll J J J Y24 J Sz24 Z0 sP ?_
  refine Tr.eql_bytes J J J J Tryz.eqGuardType24 Y24 Y5 Sz5 (by (simp [hB.l_fPrev]; done)) sP J ?_
  refine Tr.fld J J J Y53 J Sz22 dE _ J (Tr.load1 J J J Y22 J Z1 (by exact Block.get_fSeq zA) ?_)
  refine Tr.eqi J J J J J (two (fun r hr k => Tr.neb J J J J Tryz.underlying4 hr k) (fun hs2_110 => ?_) (fun hs2_110 => ?_))
  ·
   have hs2_11 := nd_t hs2_110
   refine Tr.pick J J J J J J (Tr.move J J J (Tr.skp J J (Tr.skp J J (Tr.skp J J (Tr.skp J J (Tr.pick J J J J J J (Tr.move J J J (Tr.skp J J (Tr.skp J J (Tr.skp J J (Tr.skp J J (Tr.pick J J J J J J (Tr.nil (at_n (Sat.cond_t J J (Sat.seq (Sat.region (Tr.assign J J J (Tr.nil (at_n (Sat.ret (at_r (en_r ?_)))))))))))))))))))))))
   refine ⟨_, [], res_tmp J J, sP, sP, ?_, rfl⟩
   exact congrArg i64 (bcheck_head (by unfold bhead bheadB; simp_all)).symm
  ·
   have hs2_11 := nd_f hs2_110
   refine Tr.pick J J J J J J (Tr.move J J J (Tr.fld J J J Y53 J Sz51 dE _ J (Tr.load1 J J J Y51 J Z1 (by exact Block.get_fLinks zA) ?_)))
   refine Tr.lenSl J J J Y51 (two (fun r hr k => Tr.gtr J J J J hr k) (fun hs2_170 => ?_) (fun hs2_170 => ?_))
   ·
    have hs2_17 := of_decide_eq_true hs2_170
    refine Tr.pick J J J J J J (Tr.move J J J (Tr.skp J J (Tr.skp J J (Tr.skp J J (Tr.skp J J (Tr.pick J J J J J J (Tr.nil (at_n (Sat.cond_t J J (Sat.seq (Sat.region (Tr.assign J J J (Tr.nil (at_n (Sat.ret (at_r (en_r ?_)))))))))))))))))
    refine ⟨_, [], res_tmp J J, sP, sP, ?_, rfl⟩
    exact congrArg i64 (bcheck_head (by unfold bhead bheadB; simp_all)).symm
   ·
    have hs2_17 := of_decide_eq_false hs2_170
    refine Tr.pick J J J J J J (Tr.move J J J (Tr.fld J J J Y53 J Sz39 dE _ J (Tr.load1 J J J Y39 J Z1 (by exact Block.get_fData zA) ?_)))
    refine Tr.lenSl J J J Y39 (Tr.gtr J J J J J (Tr.pick J J J J J J (Tr.nil (at_n (Sat.condP J (fun hc0 => ?_) (fun hc0 => ?_))))))
    ·
     refine Sat.seq (Sat.region (Tr.assign J J J (Tr.nil (at_n (Sat.ret (at_r (en_r ?_)))))))
     refine ⟨_, [], res_tmp J J, sP, sP, ?_, rfl⟩
     exact congrArg i64 (bcheck_head (by unfold bhead bheadB; simp_all)).symm
    ·
     have hnb : ¬ bhead B := by unfold bhead bheadB; simp_all
     refine Sat.skip (at_n (Sat.seq (Sat.seq (Sat.region (Tr.assign J J J (Tr.nil (at_n (Sat.block (Sat.loop (ι := Nat) (fun k => ⟨[(1, ptr n1 0), (3, ptr n3 0), (4, i64 (k : Int))], [⟨n3, bytesV (List.replicate 32 0), 24, 32⟩, ⟨n1, B.cells, 53, B.cells.length⟩]⟩) (fun k => k ≤ B.fLinks.n ∧ ∀ j, j < k → badAt B.fPrev ls j = false) (fun k => B.fLinks.n - k) (0) ?_ ?_ ?_)))))))))
     · exact ⟨by omega, fun j hj => by omega⟩
     · exact weak_of (wk1 rfl (wk1 rfl (wk1 rfl wk0))) (wh1 Z0 (wh1 Z1 wh0)) nD
     ·
      rintro k ⟨hk, hg⟩
      refine Sat.seq (Sat.seq (Sat.region (Tr.move J J J (Tr.fld J J J Y53 J Sz51 dE _ J (Tr.load1 J J J Y51 J Z1 (by exact Block.get_fLinks zA) ?_)))))
      refine Tr.lenSl J J J Y51 (Tr.lss J J J J J (Tr.nil (at_n (Sat.condP J (fun hc1 => ?_) (fun hc1 => ?_)))))
      ·
       have hk2 : k < B.fLinks.n := by omega
       have hll := hW.len
       obtain ⟨b, o, hbp, hbs⟩ := hW.see.at (by rw [flatB_length hW.row]; omega)
       have hr0 : (ls.getD k []).length = 32 := getD_len hW.row oM
       have hr1 : (ls.getD (k - 1) []).length = 32 := getD_len hW.row oM
       refine Sat.skip (at_n (Sat.join (ι := Unit) (fun _u => ⟨[(1, ptr n1 0), (3, ptr n3 0), (4, i64 (k : Int))], [⟨n3, bytesV (List.replicate 32 0), 24, 32⟩, ⟨n1, B.cells, 53, B.cells.length⟩]⟩) (fun _u => badAt B.fPrev ls k = false) ?_ ?_))
       ·
        refine Sat.block (Sat.seq (Sat.draw [(0, 0), (1, 1), (0, 2), (0, 3), (1, 4), (1, 5), (0, 6), (0, 7), (0, 8), (1, 9), (0, 10), (0, 11), (1, 12), (0, 13), (1, 14), (0, 15), (0, 16), (0, 17), (0, 18), (0, 19), (0, 20), (0, 21), (1, 22), (0, 23), (0, 24), (0, 25), (1, 26), (0, 27), (1, 28), (0, 29), (0, 30), (1, 31), (3, 32), (0, 33), (0, 34), (0, 35)] Mixed zK (Tr.fld J J J Y53 J Sz51 dE _ J (Tr.load1 J J J Y51 J Z1 (by exact Block.get_fLinks zA) ?_))))
        refine Tr.move J J J (Tr.idxSlP 32 J J J hbp J Y51 Sz24 k J oM (Tr.loadEN (bytesV (ls.getD (k) [])) J J J Y24 J Sz24 sP (by rw [bytesV, List.length_map]; exact getD_len hW.row (by rw [hW.len]; omega)) (sees_row hW.row hbs (by rw [hW.len]; omega)) ?_))
        refine Tr.loadAll J J J Y24 J Sz24 Z0 sP ?_
        refine two (fun r hr k => Tr.eql_bytes J J J J Tryz.eqGuardType24 Y24 Y5 Sz5 zA sP hr k) (fun hs7_60 => ?_) (fun hs7_60 => ?_)
        ·
         have hs7_6 := of_decide_eq_true hs7_60
         refine Tr.move J J J (Tr.skp J J (Tr.skp J J (Tr.skp J J (Tr.skp J J (Tr.skp J J (Tr.skp J J (Tr.skp J J (Tr.skp J J (Tr.pick J J J J J J (Tr.move J J J (Tr.skp J J (Tr.skp J J (Tr.skp J J (Tr.skp J J (Tr.skp J J (Tr.skp J J (Tr.skp J J (Tr.skp J J (Tr.skp J J (Tr.skp J J (Tr.skp J J (Tr.skp J J (Tr.skp J J (Tr.skp J J (Tr.skp J J (Tr.skp J J (Tr.skp J J (Tr.pick J J J J J J (Tr.nil (at_n (Sat.cond_t J J (Sat.seq (Sat.region (Tr.assign J J J (Tr.nil (at_n (Sat.ret (bl_r (at_r (at_r (bl_r (at_r (en_r ?_)))))))))))))))))))))))))))))))))))))))))))
         refine ⟨_, [], res_tmp J J, sP, sP, ?_, rfl⟩
         exact congrArg i64 (bcheck_bad hnb (linksBad_at (k := k) oM (by unfold badAt; simp_all))).symm
        ·
         have hs7_6 := of_decide_eq_false hs7_60
         refine Tr.move J J J (Tr.fld J J J Y53 J Sz51 dE _ J (Tr.load1 J J J Y51 J Z1 (by exact Block.get_fLinks zA) ?_))
         refine Tr.move J J J (Tr.idxSlP 32 J J J hbp J Y51 Sz24 k J oM (Tr.loadEN (bytesV (ls.getD (k) [])) J J J Y24 J Sz24 sP (by rw [bytesV, List.length_map]; exact getD_len hW.row (by rw [hW.len]; omega)) (sees_row hW.row hbs (by rw [hW.len]; omega)) ?_))
         refine Tr.fld J J J Y53 J Sz24 dE _ J (Tr.loadN (bytesV _) J J J Y24 J Sz24 Z1 (Block.row_fPrev zA) (Block.rl_fPrev zA) ?_)
         refine two (fun r hr k => Tr.eql_bytes J J J J Tryz.eqGuardType24 Y24 Y5 Sz5 zA (by (simp [hB.l_fPrev]; done)) hr k) (fun hs7_150 => ?_) (fun hs7_150 => ?_)
         ·
          have hs7_15 := of_decide_eq_true hs7_150
          refine Tr.pick J J J J J J (Tr.move J J J (Tr.skp J J (Tr.skp J J (Tr.skp J J (Tr.skp J J (Tr.skp J J (Tr.skp J J (Tr.skp J J (Tr.skp J J (Tr.skp J J (Tr.skp J J (Tr.skp J J (Tr.skp J J (Tr.skp J J (Tr.skp J J (Tr.skp J J (Tr.skp J J (Tr.skp J J (Tr.pick J J J J J J (Tr.nil (at_n (Sat.cond_t J J (Sat.seq (Sat.region (Tr.assign J J J (Tr.nil (at_n (Sat.ret (bl_r (at_r (at_r (bl_r (at_r (en_r ?_))))))))))))))))))))))))))))))))))
          refine ⟨_, [], res_tmp J J, sP, sP, ?_, rfl⟩
          exact congrArg i64 (bcheck_bad hnb (linksBad_at (k := k) oM (by unfold badAt; simp_all))).symm
         ·
          have hs7_15 := of_decide_eq_false hs7_150
          refine Tr.pick J J J J J J (Tr.move J J J (Tr.move J J J (two (fun r hr k => Tr.gtr J J J J hr k) (fun hs7_190 => ?_) (fun hs7_190 => ?_))))
          ·
           have hs7_19 := of_decide_eq_true hs7_190
           refine Tr.move J J J (Tr.fld J J J Y53 J Sz51 dE _ J (Tr.load1 J J J Y51 J Z1 (by exact Block.get_fLinks zA) ?_))
           refine Tr.move J J J (Tr.sub_i64 J J J J oM (Tr.idxSlP 32 J J J hbp J Y51 Sz24 (k - 1) oM oM (Tr.loadEN (bytesV (ls.getD (k - 1) [])) J J J Y24 J Sz24 sP (by rw [bytesV, List.length_map]; exact getD_len hW.row (by rw [hW.len]; omega)) (sees_row hW.row hbs (by rw [hW.len]; omega)) ?_)))
           refine Tr.fld J J J Y53 J Sz51 dE _ J (Tr.load1 J J J Y51 J Z1 (by exact Block.get_fLinks zA) ?_)
           refine Tr.move J J J (Tr.idxSlP 32 J J J hbp J Y51 Sz24 k J oM (Tr.loadEN (bytesV (ls.getD (k) [])) J J J Y24 J Sz24 sP (by rw [bytesV, List.length_map]; exact getD_len hW.row (by rw [hW.len]; omega)) (sees_row hW.row hbs (by rw [hW.len]; omega)) ?_))
           refine Tr.callV J J J J Body57 (r15_cmp _ _ hr1 hr0) (fun _ _ => trivial) (Tr.geq J J J J J (Tr.pick J J J J J J (Tr.pick J J J J J J (Tr.nil (at_n (Sat.condP J (fun hc2 => ?_) (fun hc2 => ?_)))))))
           ·
            refine Sat.seq (Sat.region (Tr.assign J J J (Tr.nil (at_n (Sat.ret (bl_r (at_r (at_r (bl_r (at_r (en_r ?_)))))))))))
            refine ⟨_, [], res_tmp J J, sP, sP, ?_, rfl⟩
            exact congrArg i64 (bcheck_bad hnb (linksBad_at (k := k) oM (by unfold badAt; simp_all))).symm
           ·
            refine Sat.skip (bl_n (at_n ?_))
            refine ⟨(), by unfold badAt; simp_all, weak_of (wk1 J (wk1 J (wk1 J wk0))) (wh1 Z0 (wh1 Z1 wh0)) nD⟩
          ·
           have hs7_19 := of_decide_eq_false hs7_190
           refine Tr.move J J J (Tr.skp J J (Tr.skp J J (Tr.skp J J (Tr.skp J J (Tr.skp J J (Tr.skp J J (Tr.skp J J (Tr.skp J J (Tr.skp J J (Tr.skp J J (Tr.skp J J (Tr.skp J J (Tr.skp J J (Tr.pick J J J J J J (Tr.pick J J J J J J (Tr.nil (at_n (Sat.cond_f J J (Sat.skip (bl_n (at_n ?_)))))))))))))))))))))
           refine ⟨(), by unfold badAt; simp_all, weak_of (wk1 J (wk1 J (wk1 J wk0))) (wh1 Z0 (wh1 Z1 wh0)) nD⟩
       ·
        intro _u hj
        have hgk := hj
        refine Sat.region (Tr.move J J J (Tr.add_i64 J J J J oM (Tr.assign J J J (Tr.nil (at_n ?_)))))
        exact ⟨k + 1, ⟨by omega, fun j hj => by rcases Nat.lt_succ_iff_lt_or_eq.1 hj with h | rfl; exact hg j h; exact hgk⟩, by omega, weak_of (wk1 rfl (wk1 rfl (wk1 (by rw [Int.natCast_add]; rfl) wk0))) (wh1 Z0 (wh1 Z1 wh0)) nD⟩
      ·
       obtain rfl : k = B.fLinks.n := by omega
       refine Sat.exit (at_x (at_x (bl_h (at_n (Sat.seq (Sat.region (Tr.assign J J J (Tr.nil (at_n (Sat.ret (en_r ?_)))))))))))
       refine ⟨_, [], res_tmp J J, sP, sP, ?_, rfl⟩
       exact congrArg i64 (bcheck_ok hnb (linksBad_not (by rw [hW.len]; exact hg))).symm

theorem r15_Check (B : Block) (D : DB) : Meets Tryz.prog 51 [agg B.cells] [] (fun W => BlockIs W B D) (fun v out => v = i64 D.check ∧ out = []) :=
  fun W hW => by rw [← hW.check]; exact r15_check B hW.ok D.ls W hW.ls

theorem r1_Block (p r : Option Addr) (n c m d : Nat) (l ys : List UInt8) (hl : l.length = n) (hy : ys.length = m) (hp : p = none → n = 0) (hr : r = none → m = 0) (hn : n ≤ 40000) (hm : m ≤ 40000) : Meets Tryz.prog 102 [.slice p n c, .slice r m d] [] (fun W => SeesP W p (bytesV l) ∧ SeesP W r (bytesV ys)) (fun v out => FreshRow v out (bytesV (l ++ numB (UInt64.ofNat m) ++ ys)) 5 (n + szN m + m) 1) := by
 intro W hW
 have hz := szN_pos m
 have hw : wordOf (m : Int) = UInt64.ofNat m := by simp only [wordOf]; congr 1; omega
 have hmn : (UInt64.ofNat m).toNat = m := by rw [UInt64.toNat_ofNat', Nat.mod_eq_of_lt oM]
 refine calls_of (hp0 := []) Tryz.func102 J 12 Tryz.ntmps102 J (HRep.nil _) (Sat.seq (Sat.region (Tr.assign J J J (Tr.nil (at_n (Sat.seq (Sat.region (Tr.move J J J (Tr.move J J J (Tr.lenSl J J J Y39 (Tr.conv J J J Y3 Y22 (cv_i64_u64 _) ?_)))))))))))
 rw [hw]
 refine Tr.call4 J J J J J Body101 (r1_Number p n c l (UInt64.ofNat m) hl hp oM) (fun w h => seesP_ext h J hW.1) ?_
 rintro v9 out9 ⟨q9, c9, rfl, hc9, rfl⟩
 rw [hmn] at hc9 ⊢
 refine Tr.move J J J (Tr.appendSl (z := u8 0) (by' := 1) (bytesV ys) J J J J J Y39 Y39 Sz5 Zr5 (by unfold By; kernel_rfl) J (fun w h => seesP_ext h J hW.2) hr (bytesV_cell _) rM J (by rw [bytesV, List.length_map, List.length_append, numB_length, hl, hmn, Nat.mul_one]) oM oM oM (by rw [bytesV, List.length_map, hy, Nat.mul_one]) ?_)
 intro q11 c11 hq11
 rw [← bytesV_app]
 refine Tr.assign J J J (Tr.nil (at_n (Sat.ret (en_r (end_perm (out := (⟨q11, bytesV (l ++ numB (UInt64.ofNat m) ++ ys), 5, c11 * 1⟩ :: [])) (res_tmp J J) (pm_cons rM pm_nil) ?_)))))
 exact ⟨q11, c11, rfl, hq11, rfl⟩

theorem btag_length : btag.length = 5 := rfl

theorem r15_Text (B : Block) (D : DB) (hB : B.ok) (h1 : D.ls.length ≤ 40) (h2 : D.ds.length ≤ 2000) : Meets Tryz.prog 52 [agg B.cells] [] (fun W => BlockIs W B D) (fun v out => FreshRow v out (bytesV (btxt D)) 5 (btxt D).length 1) := by
 intro W hW
 have hbs0 := DB.body_small hW.dok h1 h2
 have e1 := hW.ls.len
 have e2 := hW.ds.len
 have hz1 := szN_pos B.fSeq.toNat
 have hz2 := szN_pos (UInt64.ofNat B.fLinks.n).toNat
 have hz3 := szN_pos B.fData.n
 have hw2 := word_nat (n := B.fLinks.n) oM
 have hrow := hW.ls.row
 refine calls_of (hp0 := []) Tryz.func52 J 41 Tryz.ntmps52 J (HRep.nil _) (Sat.seq (Sat.region (Tr.boxA J J ?_)))
 intro n1 hn1 hf1
 refine Tr.assign J J J (Tr.nil (at_n (Sat.seq (Sat.region (Tr.mkRow (z := u8 0) [u8 98, u8 108, u8 111, u8 99, u8 107] (bytesV btag) J J J Y39 Sz5 Zr5 J J (by intro v hv; simp only [List.mem_cons, List.not_mem_nil, or_false] at hv; rcases hv with rfl | rfl | rfl | rfl | rfl <;> rfl) dE J ?_)))))
 intro q5
 refine Tr.constB J J J J Y39 Y5 Z0 ?_
 refine Tr.fld J J J Y53 J Sz25 dE _ J (Tr.sliceArr J J J Y25 Sz5 (Tr.appendSl (z := u8 0) (by' := 1) (bytesV B.fWriter) J J J J J Y39 Y39 Sz5 Zr5 (by unfold By; kernel_rfl) J (fun w h => SeesP.of (sees_part h Z1 (Block.see_fWriter hB))) (fun e => by cases e) (bytesV_cell _) rM J J dE dE dE (by simp [hB.l_fWriter]) ?_))
 intro q9 c9 hq9
 rw [← bytesV_app]
 refine Tr.assign J J J (Tr.nil (at_n (Sat.seq (Sat.draw [(0, 0), (0, 1), (1, 2), (0, 4), (0, 5), (4, 3), (4, 6), (0, 7)] Mixed zK (Tr.move J J J (Tr.fld J J J Y53 J Sz22 dE _ J (Tr.load1 J J J Y22 J Z1 (by exact Block.get_fSeq zA) ?_)))))))
 refine Tr.fld J J J Y53 J Sz24 dE _ J (Tr.sliceArr J J J Y24 Sz5 (Tr.call4 J J J J J Body101 (r1_Number (some ⟨q9, 0, none⟩) (5 + 32) c9 (btag ++ B.fWriter) (B.fSeq) (by simp only [List.length_append, numB_length, hB.l_fWriter, hB.l_fPrev, btag_length]) (fun e => by cases e) oM) (fun w h => SeesP.of (sees_own (cs := bytesV (btag ++ B.fWriter)) h Z0)) ?_))
 rintro v13 out13 ⟨q13, c13, rfl, hc13, rfl⟩
 refine Tr.appendSl (z := u8 0) (by' := 1) (bytesV B.fPrev) J J J J J Y39 Y39 Sz5 Zr5 (by unfold By; kernel_rfl) J (fun w h => SeesP.of (sees_part h Z2 (Block.see_fPrev hB))) (fun e => by cases e) (bytesV_cell _) rM J (by rw [bytesV, List.length_map, Nat.mul_one]; simp only [List.length_append, numB_length, hB.l_fWriter, hB.l_fPrev, btag_length]) oM oM oM (by simp [hB.l_fPrev]) ?_
 intro q16 c16 hq16
 rw [← bytesV_app]
 refine Tr.assign J J J (Tr.nil (at_n (Sat.seq (Sat.region (Tr.move J J J (Tr.fld J J J Y53 J Sz51 dE _ J (Tr.load1 J J J Y51 J Z2 (by exact Block.get_fLinks zA) ?_)))))))
 refine Tr.lenSl J J J Y51 (Tr.conv J J J Y3 Y22 (cv_i64_u64 _) ?_)
 rw [hw2]
 refine Tr.call4 J J J J J Body101 (r1_Number (some ⟨q16, 0, none⟩) (5 + 32 + szN B.fSeq.toNat + 32) c16 (btag ++ B.fWriter ++ numB B.fSeq ++ B.fPrev) (UInt64.ofNat B.fLinks.n) (by simp only [List.length_append, numB_length, hB.l_fWriter, hB.l_fPrev, btag_length]) (fun e => by cases e) oM) (fun w h => SeesP.of (sees_own (cs := bytesV (btag ++ B.fWriter ++ numB B.fSeq ++ B.fPrev)) h Z0)) ?_
 rintro v22 out22 ⟨q22, c22, rfl, hc22, rfl⟩
 refine Tr.assign J J J (Tr.nil (at_n (Sat.seq (Sat.seq (Sat.region (Tr.assign J J J (Tr.nil (at_n (Sat.block (Sat.loop (ι := Nat × Nat × Nat) (fun p => ⟨[(1, ptr n1 0), (3, .slice (some ⟨p.2.1, 0, none⟩) (5 + 32 + szN B.fSeq.toNat + 32 + szN (UInt64.ofNat B.fLinks.n).toNat + 32 * p.1) p.2.2), (4, i64 (p.1 : Int))], [⟨p.2.1, bytesV (btag ++ B.fWriter ++ numB B.fSeq ++ B.fPrev ++ numB (UInt64.ofNat B.fLinks.n) ++ (D.ls.take p.1).flatten), 5, p.2.2 * 1⟩, ⟨n1, B.cells, 53, B.cells.length⟩]⟩) (fun p => p.1 ≤ B.fLinks.n ∧ 5 + 32 + szN B.fSeq.toNat + 32 + szN (UInt64.ofNat B.fLinks.n).toNat + 32 * p.1 ≤ p.2.2) (fun p => B.fLinks.n - p.1) ((0, q22, c22)) ?_ ?_ ?_))))))))))
 · exact ⟨Nat.zero_le _, by simp only []; omega⟩
 · exact weak_perm (wk1 rfl (wk1 rfl (wk1 rfl wk0))) (pm_consE rM (by simp only [List.take_zero, List.flatten_nil, List.append_nil]) rfl (pm_cons rM pm_nil))
 ·
  rintro p ⟨hp1, hp2⟩
  refine Sat.seq (Sat.seq (Sat.region (Tr.move J J J (Tr.fld J J J Y53 J Sz51 dE _ J (Tr.load1 J J J Y51 J Z1 (by exact Block.get_fLinks zA) ?_)))))
  refine Tr.lenSl J J J Y51 (Tr.lss J J J J J (Tr.nil (at_n (Sat.condP J (fun hc0 => ?_) (fun hc0 => ?_)))))
  ·
   have hp3 : p.1 < B.fLinks.n := by omega
   obtain ⟨b, o, hbp, hbs⟩ := hW.ls.see.at (by rw [flatB_length hrow]; omega)
   have hrk : (D.ls.getD p.1 []).length = 32 := getD_len hrow oM
   refine Sat.skip (at_n (Sat.seq (Sat.block (Sat.region (Tr.move J J J (Tr.fld J J J Y53 J Sz51 dE _ J (Tr.load1 J J J Y51 J Z1 (by exact Block.get_fLinks zA) ?_)))))))
   refine Tr.move J J J (Tr.idxSlP 32 J J J hbp J Y51 Sz24 p.1 J oM (Tr.sliceArr J J J Y24 Sz5 (Tr.appendSl (z := u8 0) (by' := 1) (bytesV (D.ls.getD p.1 [])) J J J J J Y39 Y39 Sz5 Zr5 (by unfold By; kernel_rfl) J (fun w h => SeesP.of (sees_ext h sP (sees_row hrow hbs oM))) (fun e => by cases e) (bytesV_cell _) rM J (by simp only [bytesV, List.length_map, List.length_append, numB_length, hB.l_fWriter, hB.l_fPrev, btag_length, flatten_take_len hrow (show p.1 ≤ D.ls.length by omega)]; omega) oM oM oM (by rw [bytesV, List.length_map, hrk]) ?_)))
   intro q36 c36 hq36
   rw [← bytesV_app]
   refine Tr.assign J J J (Tr.nil (bl_n (at_n (Sat.region (Tr.move J J J (Tr.add_i64 J J J J oM (Tr.assign J J J (Tr.nil (at_n ?_)))))))))
   exact ⟨(p.1 + 1, q36, c36), ⟨by simp only []; omega, by simp only []; omega⟩, by simp only []; omega, weak_perm (wk1 rfl (wk1 (by rw [show 5 + 32 + szN B.fSeq.toNat + 32 + szN (UInt64.ofNat B.fLinks.n).toNat + 32 * (p.1 + 1) = 5 + 32 + szN B.fSeq.toNat + 32 + szN (UInt64.ofNat B.fLinks.n).toNat + 32 * p.1 + 32 by omega]; rfl) (wk1 (by rw [Int.natCast_add]; rfl) wk0))) (pm_consE rM (by rw [flatten_take_step oM, ← List.append_assoc]) rfl (pm_cons rM pm_nil))⟩
  ·
   have hp3 : p.1 = B.fLinks.n := by omega
   refine Sat.exit (at_x (at_x (bl_h (at_n (Sat.seq (Sat.region (Tr.move J J J (Tr.fld J J J Y53 J Sz39 dE _ J (Tr.load1 J J J Y39 J Z1 (by exact Block.get_fData zA) ?_)))))))))
   refine Tr.call4 J J J J J Body102 (r1_Block (some ⟨p.2.1, 0, none⟩) B.fData.p (5 + 32 + szN B.fSeq.toNat + 32 + szN (UInt64.ofNat B.fLinks.n).toNat + 32 * p.1) p.2.2 B.fData.n B.fData.c (btag ++ B.fWriter ++ numB B.fSeq ++ B.fPrev ++ numB (UInt64.ofNat B.fLinks.n) ++ (D.ls.take p.1).flatten) D.ds (by simp only [List.length_append, numB_length, hB.l_fWriter, hB.l_fPrev, btag_length, flatten_take_len hrow (show p.1 ≤ D.ls.length by omega)]; omega) e2 (fun e => by cases e) (fun e => by have h3 := hW.ds.nil e; have h4 := hW.ds.cap; omega) oM oM) (fun w h => ⟨SeesP.of (sees_own h Z0), seesP_ext h J hW.ds.see⟩) ?_
   rintro v40 out40 ⟨q40, c40, rfl, hc40, rfl⟩
   refine Tr.assign J J J (Tr.nil (at_n (Sat.ret (en_r (end_perm (out := (⟨q40, bytesV (btag ++ B.fWriter ++ numB B.fSeq ++ B.fPrev ++ numB (UInt64.ofNat B.fLinks.n) ++ (D.ls.take p.1).flatten ++ numB (UInt64.ofNat B.fData.n) ++ D.ds), 5, c40 * 1⟩ :: [])) (res_tmp J J) (pm_cons rM pm_nil) ?_)))))
   have hfin : btag ++ B.fWriter ++ numB B.fSeq ++ B.fPrev ++ numB (UInt64.ofNat B.fLinks.n) ++ (D.ls.take p.1).flatten ++ numB (UInt64.ofNat B.fData.n) ++ D.ds = btxt D := by rw [btxt, DB.body, ← hW.w, ← hW.seq, ← hW.prev, e1, e2, List.take_of_length_le oM]; simp only [List.append_assoc]
   have hlen : 5 + 32 + szN B.fSeq.toNat + 32 + szN (UInt64.ofNat B.fLinks.n).toNat + 32 * p.1 + szN B.fData.n + B.fData.n = (btxt D).length := by rw [← hfin]; simp only [List.length_append, numB_length, hB.l_fWriter, hB.l_fPrev, btag_length, flatten_take_len hrow (show p.1 ≤ D.ls.length by omega), e2, ofNat_nat (show B.fData.n ≤ 1000000 by omega)]; omega
   rw [hfin]
   exact ⟨q40, c40, by rw [hlen], by omega, rfl⟩

theorem r15_Good (B : Block) (D : DB) (hB : B.ok) : Meets Tryz.prog 41 [agg B.cells] [] (fun W => BlockIs W B D) (fun v out => v = i64 (dgood D) ∧ out = []) := by
 intro W hW
 refine calls_of (hp0 := []) Tryz.func41 J 14 Tryz.ntmps41 J (HRep.nil _) (Sat.seq (Sat.region (Tr.boxA J J ?_)))
 intro n1 hn1 hf1
 refine Tr.assign J J J (Tr.nil (at_n (Sat.seq (Sat.seq (Sat.region (Tr.loadAll J J J Y53 J Sz53 Z0 (Block.length zA) ?_))))))
 refine Tr.callV J J J J Body51 (r15_Check B D) (fun w h => hW.ext h J) (Tr.nei J J J J J (Tr.nil (at_n (Sat.condNP J (fun hc0 => ?_) (fun hc0 => ?_)))))
 ·
  have hq0 : ¬ D.check = 0 := by omega
  refine Sat.seq (Sat.region (Tr.assign J J J (Tr.nil (at_n (Sat.ret (at_r (en_r ?_)))))))
  refine ⟨_, [], res_tmp J J, sP, sP, ?_, rfl⟩
  (unfold dgood; rw [if_neg hq0, dcheck_2 hq0]; done)
 ·
  have hq0 : D.check = 0 := by omega
  obtain ⟨h1, h2⟩ := D.head_small hq0
  have hvn : (btxt D).length ≤ 4005 := DB.body_small hW.dok oM oM
  refine Sat.skip (at_n (Sat.seq (Sat.seq (Sat.draw [(0, 0), (1, 1), (1, 2), (0, 4), (1, 5), (3, 3), (3, 6), (0, 7)] Mixed zK (Tr.fld J J J Y53 J Sz25 dE _ J (Tr.loadN (bytesV _) J J J Y25 J Sz25 Z0 (Block.row_fWriter zA) (Block.rl_fWriter zA) ?_))))))
  refine Tr.loadAll J J J Y53 J Sz53 Z0 (Block.length zA) ?_
  refine Tr.fld J J J Y53 J Sz27 dE _ J (Tr.loadN (bytesV _) J J J Y27 J Sz27 Z0 (Block.row_fSig zA) (Block.rl_fSig zA) ?_)
  refine Tr.call J J J J Body52 (r15_Text B D hB oM oM) (FreshRow.loose _ _ _ _) (fun w h => hW.ext h J) ?_
  rintro v9 out9 ⟨q9, c9, rfl, hc9, rfl⟩
  refine Tr.callV J J J J Body61 (r6_Good B.fWriter hB.l_fWriter ⟨some ⟨q9, 0, none⟩, _, c9⟩ (btxt D) oM B.fSig hB.l_fSig) (fun w h => own_btxt (SeesP.of (sees_own h Z0)) hc9 hvn) ?_
  refine Tr.not J J J (Tr.nil (at_n (Sat.cond J (fun hc1 => ?_) (fun hc1 => ?_))))
  ·
   refine Sat.seq (Sat.region (Tr.assign J J J (Tr.nil (at_n (Sat.ret (at_r (en_r ?_)))))))
   refine ⟨_, [], res_tmp J J, sP, sP, ?_, rfl⟩
   (unfold dgood; rw [if_pos hq0, ← hW.w, ← hW.sg, if_neg (by intro e; rw [e] at hc1; cases hc1)]; done)
  ·
   refine Sat.skip (at_n (Sat.seq (Sat.region (Tr.assign J J J (Tr.nil (at_n (Sat.ret (en_r ?_))))))))
   refine ⟨_, [], res_tmp J J, sP, sP, ?_, rfl⟩
   (unfold dgood; rw [if_pos hq0, ← hW.w, ← hW.sg, if_pos (by simpa using hc1)]; done)

end Go.Proofs.YtpacobmjjjillaaGreat
end

section
namespace Go.Proofs.YtpacobmjjjillaaGreat
open Go Hw
set_option linter.unusedVariables false
set_option linter.unusedSimpArgs false

theorem own_rows {C : Cx} {hp : List Blk} {w : World} {q c n m : Nat} {T : TypeId} {k : Nat} {ls : List (List UInt8)} (h : HRep C hp w) (hb : (⟨q, flatB ls, T, k⟩ : Blk) ∈ hp) (hl : ls.length = n) (hr : ∀ l ∈ ls, l.length = m) (hc : n ≤ c) (hn : n ≤ 1000000) : RowsAt w ⟨some ⟨q, 0, none⟩, n, c⟩ m ls :=
  ⟨hl, hr, hc, SeesP.of (sees_own h hb), by simp only [maxLen]; omega, fun e => by cases e⟩

theorem law15_lives  : Meets Tryz.prog 34 [] [] (fun _ => True) (fun v out => v = .bool true ∧ out = []) := by
 intro W hW
 refine calls_of (hp0 := []) Tryz.func34 J 36 Tryz.ntmps34 J (HRep.nil _) (Sat.seq (Sat.region (Tr.assign J J J (Tr.nil (at_n (Sat.seq (Sat.region (Tr.build (cs := bytesV (1 :: List.replicate 31 0)) J J J (fun w => by kernel_rfl) ?_))))))))
 refine Tr.build (cs := bytesV (2 :: List.replicate 31 0)) J J J (fun w => by kernel_rfl) ?_
 refine Tr.alloc (cs := (bytesV (List.replicate 32 0))) J Zr24 J ?_
 intro n1 hn1 hf1
 refine Tr.alloc (cs := (bytesV (List.replicate 32 0))) J Zr24 J ?_
 intro n2 hn2 hf2
 refine Tr.storeAll J J J J zE Sz24 sP Z1 sP zV ?_
 refine Tr.storeAll J J J J zE Sz24 sP Z0 sP zU ?_
 refine Tr.nil (at_n (Sat.seq (Sat.region (Tr.build (cs := (⟨List.replicate 32 0, 0, List.replicate 32 0, Sl.nil, Sl.nil, List.replicate 64 0⟩ : Block).cells) J J J (fun w => by kernel_rfl) ?_))))
 refine Tr.callV J J J J Body38 (block_check (⟨List.replicate 32 0, 0, List.replicate 32 0, Sl.nil, Sl.nil, List.replicate 64 0⟩ : Block) ⟨rfl, rfl, rfl⟩ []) (fun w h => ⟨rfl, by simp, Nat.le_refl _, SeesP.nil, by decide, fun _ => rfl⟩) ?_
 refine Tr.eqi J J J J (decide_eq_true (by rfl)) ?_
 refine Tr.move J J J (Tr.build (cs := (⟨List.replicate 32 0, 1, List.replicate 32 0, Sl.nil, Sl.nil, List.replicate 64 0⟩ : Block).cells) J J J (fun w => by kernel_rfl) ?_)
 refine Tr.callV J J J J Body38 (block_check (⟨List.replicate 32 0, 1, List.replicate 32 0, Sl.nil, Sl.nil, List.replicate 64 0⟩ : Block) ⟨rfl, rfl, rfl⟩ []) (fun w h => ⟨rfl, by simp, Nat.le_refl _, SeesP.nil, by decide, fun _ => rfl⟩) ?_
 refine Tr.eqi J J J J (decide_eq_true (by rfl)) ?_
 refine Tr.pick J J J J J J (Tr.move J J J (Tr.build (cs := bytesV (List.replicate 32 0)) J J J (fun w => by kernel_rfl) ?_))
 refine Tr.mkRow (z := agg (bytesV (List.replicate 32 0))) [agg (bytesV (List.replicate 32 0))] (flatB [(List.replicate 32 0)]) J J J Y51 Sz24 Zr24 J J (by intro v hv; simp at hv; rcases hv with rfl | rfl <;> rfl) dE (by rfl) ?_
 intro q15
 refine Tr.build (cs := (⟨List.replicate 32 0, 0, List.replicate 32 0, ⟨some ⟨q15, 0, none⟩, 1, 1⟩, Sl.nil, List.replicate 64 0⟩ : Block).cells) J J J (fun w => by kernel_rfl) ?_
 refine Tr.callV J J J J Body38 (block_check (⟨List.replicate 32 0, 0, List.replicate 32 0, ⟨some ⟨q15, 0, none⟩, 1, 1⟩, Sl.nil, List.replicate 64 0⟩ : Block) ⟨rfl, rfl, rfl⟩ [(List.replicate 32 0)]) (fun w h => own_rows h mem0 J (by intro l hl; simp at hl; rcases hl with rfl | rfl <;> rfl) dE dE) ?_
 refine Tr.eqi J J J J (decide_eq_true (by rfl)) ?_
 refine Tr.pick J J J J J J (Tr.move J J J (Tr.loadAll J J J Y24 J Sz24 Z1 sP ?_))
 refine Tr.loadAll J J J Y24 J Sz24 Z2 sP ?_
 refine Tr.mkRow (z := agg (bytesV (List.replicate 32 0))) [agg (bytesV (2 :: List.replicate 31 0)), agg (bytesV (1 :: List.replicate 31 0))] (flatB [(2 :: List.replicate 31 0), (1 :: List.replicate 31 0)]) J J J Y51 Sz24 Zr24 J J (by intro v hv; simp at hv; rcases hv with rfl | rfl <;> rfl) dE (by rfl) ?_
 intro q23
 refine Tr.build (cs := (⟨List.replicate 32 0, 0, List.replicate 32 0, ⟨some ⟨q23, 0, none⟩, 2, 2⟩, Sl.nil, List.replicate 64 0⟩ : Block).cells) J J J (fun w => by kernel_rfl) ?_
 refine Tr.callV J J J J Body38 (block_check (⟨List.replicate 32 0, 0, List.replicate 32 0, ⟨some ⟨q23, 0, none⟩, 2, 2⟩, Sl.nil, List.replicate 64 0⟩ : Block) ⟨rfl, rfl, rfl⟩ [(2 :: List.replicate 31 0), (1 :: List.replicate 31 0)]) (fun w h => own_rows h mem0 J (by intro l hl; simp at hl; rcases hl with rfl | rfl <;> rfl) dE dE) ?_
 refine Tr.eqi J J J J (decide_eq_true (by rfl)) ?_
 refine Tr.pick J J J J J J (Tr.move J J J (Tr.loadAll J J J Y24 J Sz24 Z3 sP ?_))
 refine Tr.loadAll J J J Y24 J Sz24 Z2 sP ?_
 refine Tr.mkRow (z := agg (bytesV (List.replicate 32 0))) [agg (bytesV (1 :: List.replicate 31 0)), agg (bytesV (2 :: List.replicate 31 0))] (flatB [(1 :: List.replicate 31 0), (2 :: List.replicate 31 0)]) J J J Y51 Sz24 Zr24 J J (by intro v hv; simp at hv; rcases hv with rfl | rfl <;> rfl) dE (by rfl) ?_
 intro q31
 refine Tr.build (cs := (⟨List.replicate 32 0, 0, List.replicate 32 0, ⟨some ⟨q31, 0, none⟩, 2, 2⟩, Sl.nil, List.replicate 64 0⟩ : Block).cells) J J J (fun w => by kernel_rfl) ?_
 refine Tr.callV J J J J Body38 (block_check (⟨List.replicate 32 0, 0, List.replicate 32 0, ⟨some ⟨q31, 0, none⟩, 2, 2⟩, Sl.nil, List.replicate 64 0⟩ : Block) ⟨rfl, rfl, rfl⟩ [(1 :: List.replicate 31 0), (2 :: List.replicate 31 0)]) (fun w h => own_rows h mem0 J (by intro l hl; simp at hl; rcases hl with rfl | rfl <;> rfl) dE dE) ?_
 refine Tr.eqi J J J J (decide_eq_true (by rfl)) ?_
 refine Tr.pick J J J J J J (Tr.assign J J J (Tr.nil (at_n (Sat.ret (en_r ?_)))))
 refine ⟨_, [], res_tmp J J, sP, sP, ?_, rfl⟩
 rfl

end Go.Proofs.YtpacobmjjjillaaGreat
end

section
namespace Go.Proofs.YtpacobmjjjillaaGreat
open Go Hw
set_option linter.unusedVariables false
set_option linter.unusedSimpArgs false

open Ed

theorem light1 {B : Block} (h : lightB [B] 1 = true) : B.fLinks.n ≤ 40 ∧ B.fData.n ≤ 2000 := by
  unfold lightB at h
  simp at h
  omega
theorem btxt_sg (D : DB) (K G : List UInt8) : btxt { bsg D K G with w := K } = btxt { D with w := K } := rfl
theorem bsign_facts (D : DB) (hD : D.ok) (seed : List UInt8) (h32 : seed.length = 32) (hc : D.check = 0) : ∃ (D1 : DB) (K : List UInt8), K.length = 32 ∧ D1.ok ∧ D1 = { D with w := K, sg := D1.sg } ∧ dgood D1 = 0
    ∧ (∀ B : Block, B.ok → Meets Tryz.prog 36 [agg (bytesV seed), agg B.cells] [] (fun W => BlockIs W B D) (BlkR 0 D1))
    ∧ (∀ B : Block, B.ok → Meets Tryz.prog 36 [agg (bytesV seed), agg B.cells] [] (fun W => BlockIs W B D1) (BlkR 0 D1))
    ∧ Meets Tryz.prog 18 [agg (bytesV seed)] [] (fun _ => True) (fun v out => v = agg (bytesV K) ∧ out = []) := by
  obtain ⟨s, hs⟩ : ∃ s, Hid (sha512 seed = s) := ⟨_, ⟨rfl⟩⟩
  obtain ⟨s1, hs1⟩ : ∃ s1, Hid (sha512 (s.drop 32 ++ btxt { D with w := sgK s }) = s1) := ⟨_, ⟨rfl⟩⟩
  obtain ⟨s2, hs2⟩ : ∃ s2, Hid (sha512 (sgF s1 ++ (sgK s ++ btxt { D with w := sgK s })) = s2) := ⟨_, ⟨rfl⟩⟩
  have lG : (sgF s1 ++ sgS s s1 s2).length = 64 := by rw [List.length_append, sgF_length, sgS_length]
  have hT := btxt_sg D (sgK s) (sgF s1 ++ sgS s s1 s2)
  have hs1' : Hid (sha512 (s.drop 32 ++ btxt { bsg D (sgK s) (sgF s1 ++ sgS s s1 s2) with w := sgK s }) = s1) := ⟨by rw [hT]; exact hs1.out⟩
  have hs2' : Hid (sha512 (sgF s1 ++ (sgK s ++ btxt { bsg D (sgK s) (sgF s1 ++ sgS s s1 s2) with w := sgK s })) = s2) := ⟨by rw [hT]; exact hs2.out⟩
  have hG := good_self s s1 (btxt { D with w := sgK s }) hs2.out
  have cA := fun (B : Block) (hB : B.ok) => db_sign B D hB seed h32 s s1 s2 hs hs1 hs2 hc
  have cB := fun (B : Block) (hB : B.ok) => db_sign B (bsg D (sgK s) (sgF s1 ++ sgS s s1 s2)) hB seed h32 s s1 s2 hs hs1' hs2' hc
  have cK := r6_Key seed h32 s hs
  have lK := sgK_length s
  clear hs hs1 hs2 hs1' hs2' hT
  revert lG hG cA cB cK lK
  generalize sgF s1 ++ sgS s s1 s2 = G
  generalize sgK s = K
  intro lG hG cA cB cK lK
  refine ⟨bsg D K G, K, lK, ⟨lK, hD.prev, lG, hD.ls⟩, rfl, ?_, cA, cB, cK⟩
  unfold dgood
  rw [show (bsg D K G).check = 0 from hc, if_pos rfl]
  exact if_pos hG
theorem with_w {W : World} {B : Block} {D : DB} (h : BlockIs W B D) {K : List UInt8} (hK : K.length = 32) : BlockIs W { B with fWriter := K } { D with w := K } := ⟨⟨hK, h.ok.l_fPrev, h.ok.l_fSig⟩, rfl, h.seq, h.prev, h.ls, h.ds, h.sg⟩
theorem with_d {W : World} {B : Block} {D : DB} (h : BlockIs W B D) {s : Sl} {l : List UInt8} (hs : BytesAt W s l) : BlockIs W { B with fData := s } { D with ds := l } := ⟨⟨h.ok.l_fWriter, h.ok.l_fPrev, h.ok.l_fSig⟩, h.w, h.seq, h.prev, h.ls, hs, h.sg⟩
theorem with_wg {W : World} {B : Block} {D : DB} (h : BlockIs W B D) {K G : List UInt8} (hK : K.length = 32) (hG : G.length = 64) : BlockIs W { B with fWriter := K, fSig := G } { D with w := K, sg := G } := ⟨⟨hK, h.ok.l_fPrev, hG⟩, rfl, h.seq, h.prev, h.ls, h.ds, rfl⟩

theorem law_bsigned_a (B : Block) (D : DB) (hB : B.ok) (seed : List UInt8) (h32 : seed.length = 32) (other : List UInt8) (ho : other.length = 32) (sb : Sl) (xs : List UInt8) (hL : lightB [B] 1 = false) : Meets Tryz.prog 7 [agg B.cells, agg (bytesV seed), agg (bytesV other), sb.v] [] (fun W => BlockIs W B D ∧ BytesAt W sb xs) (fun v out => v = .bool true ∧ out = []) := by
 intro W hW
 refine calls_of (hp0 := []) Tryz.func7 J 96 Tryz.ntmps7 J (HRep.nil _) (Sat.seq (Sat.region (Tr.boxA J J ?_)))
 intro n4 hn4 hf4
 refine Tr.boxA J J ?_
 intro n5 hn5 hf5
 refine Tr.boxA J J ?_
 intro n6 hn6 hf6
 refine Tr.assign J J J (Tr.nil (at_n (Sat.seq (Sat.seq (Sat.region (Tr.callV J J J J Body34 (law15_lives) (fun _ _ => trivial) (Tr.not J J J (Tr.nil (at_n (Sat.cond_f J (rfl) (Sat.skip (at_n (Sat.seq (Sat.seq (Sat.region (Tr.loadAll J J J Y53 J Sz53 Z2 (Block.length zA) ?_))))))))))))))))
 refine Tr.mkRow (z := agg Block.zero.cells) [agg B.cells] ([B].map Block.cells).flatten J J J Y55 Sz53 Block.zr J J (by intro v hv; rw [List.mem_singleton.1 hv]; simp [Value.cells, Block.length hB]) dE (by simp [Value.cells]) ?_
 intro q19
 have cL := light_blocks q19 0 1 1 [B] (by intro b hb; rw [List.mem_singleton.1 hb]; exact hB) rfl dE 1
 rw [hL] at cL
 refine Tr.callV J J J J Body35 (cL) (fun w h => sees_own h mem0) (Tr.not J J J (Tr.move J J J (Tr.skp J J (Tr.skp J J (Tr.skp J J (Tr.pick J J J J J J (Tr.nil (at_n (Sat.cond_t J J (Sat.seq (Sat.region (Tr.assign J J J (Tr.nil (at_n (Sat.ret (at_r (en_r ?_)))))))))))))))))
 refine ⟨_, [], res_tmp J J, sP, sP, ?_, rfl⟩
 rfl

theorem law_bsigned_b (B : Block) (D : DB) (hB : B.ok) (seed : List UInt8) (h32 : seed.length = 32) (other : List UInt8) (ho : other.length = 32) (sb : Sl) (xs : List UInt8) (hL : lightB [B] 1 = true) (hn : 512 < sb.n) : Meets Tryz.prog 7 [agg B.cells, agg (bytesV seed), agg (bytesV other), sb.v] [] (fun W => BlockIs W B D ∧ BytesAt W sb xs) (fun v out => v = .bool true ∧ out = []) := by
 intro W hW
 refine calls_of (hp0 := []) Tryz.func7 J 96 Tryz.ntmps7 J (HRep.nil _) (Sat.seq (Sat.region (Tr.boxA J J ?_)))
 intro n4 hn4 hf4
 refine Tr.boxA J J ?_
 intro n5 hn5 hf5
 refine Tr.boxA J J ?_
 intro n6 hn6 hf6
 refine Tr.assign J J J (Tr.nil (at_n (Sat.seq (Sat.seq (Sat.region (Tr.callV J J J J Body34 (law15_lives) (fun _ _ => trivial) (Tr.not J J J (Tr.nil (at_n (Sat.cond_f J (rfl) (Sat.skip (at_n (Sat.seq (Sat.seq (Sat.region (Tr.loadAll J J J Y53 J Sz53 Z2 (Block.length zA) ?_))))))))))))))))
 refine Tr.mkRow (z := agg Block.zero.cells) [agg B.cells] ([B].map Block.cells).flatten J J J Y55 Sz53 Block.zr J J (by intro v hv; rw [List.mem_singleton.1 hv]; simp [Value.cells, Block.length hB]) dE (by simp [Value.cells]) ?_
 intro q19
 have cL := light_blocks q19 0 1 1 [B] (by intro b hb; rw [List.mem_singleton.1 hb]; exact hB) rfl dE 1
 rw [hL] at cL
 refine Tr.callV J J J J Body35 (cL) (fun w h => sees_own h mem0) (Tr.not J J J (Tr.move J J J (Tr.move J J J (Tr.lenSl J J J Y39 (Tr.gtr J J J J (decide_eq_true oM) (Tr.pick J J J J J J (Tr.nil (at_n (Sat.cond_t J J (Sat.seq (Sat.region (Tr.assign J J J (Tr.nil (at_n (Sat.ret (at_r (en_r ?_)))))))))))))))))
 refine ⟨_, [], res_tmp J J, sP, sP, ?_, rfl⟩
 rfl

theorem law_bsigned_c (B : Block) (D : DB) (hB : B.ok) (seed : List UInt8) (h32 : seed.length = 32) (other : List UInt8) (ho : other.length = 32) (sb : Sl) (xs : List UInt8) (hL : lightB [B] 1 = true) (hn : sb.n ≤ 512) (hc : ¬ D.check = 0) : Meets Tryz.prog 7 [agg B.cells, agg (bytesV seed), agg (bytesV other), sb.v] [] (fun W => BlockIs W B D ∧ BytesAt W sb xs) (fun v out => v = .bool true ∧ out = []) := by
 intro W hW
 have hl1 := light1 hL
 have hD := hW.1.dok
 have e1 := hW.1.ls.len
 have e2 := hW.1.ds.len
 refine calls_of (hp0 := []) Tryz.func7 J 96 Tryz.ntmps7 J (HRep.nil _) (Sat.seq (Sat.region (Tr.boxA J J ?_)))
 intro n4 hn4 hf4
 refine Tr.boxA J J ?_
 intro n5 hn5 hf5
 refine Tr.boxA J J ?_
 intro n6 hn6 hf6
 refine Tr.assign J J J (Tr.nil (at_n (Sat.seq (Sat.seq (Sat.region (Tr.callV J J J J Body34 (law15_lives) (fun _ _ => trivial) (Tr.not J J J (Tr.nil (at_n (Sat.cond_f J (rfl) (Sat.skip (at_n (Sat.seq (Sat.seq (Sat.region (Tr.loadAll J J J Y53 J Sz53 Z2 (Block.length zA) ?_))))))))))))))))
 refine Tr.mkRow (z := agg Block.zero.cells) [agg B.cells] ([B].map Block.cells).flatten J J J Y55 Sz53 Block.zr J J (by intro v hv; rw [List.mem_singleton.1 hv]; simp [Value.cells, Block.length hB]) dE (by simp [Value.cells]) ?_
 intro q19
 have cL := light_blocks q19 0 1 1 [B] (by intro b hb; rw [List.mem_singleton.1 hb]; exact hB) rfl dE 1
 rw [hL] at cL
 refine Tr.callV J J J J Body35 (cL) (fun w h => sees_own h mem0) (Tr.not J J J (Tr.move J J J (Tr.move J J J (Tr.lenSl J J J Y39 (Tr.gtr J J J J (decide_eq_false oM) (Tr.pick J J J J J J (Tr.nil (at_n (Sat.cond_f J J (Sat.skip (at_n (Sat.seq (Sat.draw [(1, 0), (1, 1), (3, 2), (3, 3), (0, 4), (0, 5), (0, 6), (2, 7), (4, 8), (0, 9)] Mixed zK (Tr.loadAll J J J Y23 J Sz23 Z2 (by (simp [h32]; done)) ?_))))))))))))))
 refine Tr.loadAll J J J Y53 J Sz53 Z3 (Block.length zA) ?_
 refine Tr.call J J J J Body37 (db_own B D oM oM) (BlkV.loose _ hD) (fun w h => hW.1.ext h J) ?_
 rintro v30 out30 ⟨B30, h30, rfl, ho30⟩
 try simp only [List.append_assoc, List.cons_append, List.nil_append]
 refine Tr.callV J J J J Body36 (db_sign_bad B30 D h30.ok seed h32 hc) (fun w h => ho30 w (Lies.of h (by repeat (exact in_here)))) ?_
 refine Tr.move J J J (Tr.extract J J J J (Tr.extract J J J J (Tr.alloc (cs := Block.zero.cells) J Block.zr J ?_)))
 intro n9 hn9 hf9
 refine Tr.storeAll J J J J (Block.isCell (by exact Block.zero_ok)) Sz53 (Block.length (by exact Block.zero_ok)) Z0 (Block.length (by exact Block.zero_ok)) zU ?_
 refine Tr.assign J J J (Tr.nil (at_n (Sat.seq (Sat.seq (Sat.region (Tr.move J J J (Tr.nei J J J J J (Tr.nil (at_n (Sat.cond_t J (by simpa using hc) ?_))))))))))
 refine Sat.seq (Sat.region (Tr.move J J J (Tr.loadAll J J J Y53 J Sz53 (by (repeat (first | exact List.mem_cons_self | refine List.mem_cons_of_mem _ ?_ | refine mem_seg ?_))) (Block.length zA) ?_)))
 refine Tr.callV J J J J Body38 (db_check B D) (fun w h => hW.1.ext h J) (Tr.eqi J J J J (decide_eq_true (rfl)) (Tr.assign J J J (Tr.nil (at_n (Sat.ret (at_r (en_r ?_)))))))
 refine ⟨_, [], res_tmp J J, sP, sP, ?_, rfl⟩
 rfl

theorem law_bsigned_d (B : Block) (D : DB) (hB : B.ok) (seed : List UInt8) (h32 : seed.length = 32) (other : List UInt8) (ho : other.length = 32) (sb : Sl) (xs : List UInt8) (hL : lightB [B] 1 = true) (hn : sb.n ≤ 512) (hc : D.check = 0) : Meets Tryz.prog 7 [agg B.cells, agg (bytesV seed), agg (bytesV other), sb.v] [] (fun W => BlockIs W B D ∧ BytesAt W sb xs) (fun v out => v = .bool true ∧ out = []) := by
 intro W hW
 have hl1 := light1 hL
 have hD := hW.1.dok
 have e1 := hW.1.ls.len
 have e2 := hW.1.ds.len
 obtain ⟨D1, K, lK, hD1, hDe, hg, cS, cS2, cKy⟩ := bsign_facts D hD seed h32 hc
 obtain ⟨t, ht⟩ : ∃ s, Hid (sha512 other = s) := ⟨_, ⟨rfl⟩⟩
 have cK2 := r6_Key other ho t ht
 have lK2 := sgK_length t
 clear ht
 revert cK2 lK2
 generalize sgK t = K2
 intro cK2 lK2
 have f1 : D1.ls.length = D.ls.length := by rw [hDe]
 have f2 : D1.ds.length = D.ds.length := by rw [hDe]
 have hnd : D1.ls.length ≤ 1000000 := by omega
 refine calls_of (hp0 := []) Tryz.func7 J 96 Tryz.ntmps7 J (HRep.nil _) (Sat.seq (Sat.region (Tr.boxA J J ?_)))
 intro n4 hn4 hf4
 refine Tr.boxA J J ?_
 intro n5 hn5 hf5
 refine Tr.boxA J J ?_
 intro n6 hn6 hf6
 refine Tr.assign J J J (Tr.nil (at_n (Sat.seq (Sat.seq (Sat.region (Tr.callV J J J J Body34 (law15_lives) (fun _ _ => trivial) (Tr.not J J J (Tr.nil (at_n (Sat.cond_f J (rfl) (Sat.skip (at_n (Sat.seq (Sat.seq (Sat.region (Tr.loadAll J J J Y53 J Sz53 Z2 (Block.length zA) ?_))))))))))))))))
 refine Tr.mkRow (z := agg Block.zero.cells) [agg B.cells] ([B].map Block.cells).flatten J J J Y55 Sz53 Block.zr J J (by intro v hv; rw [List.mem_singleton.1 hv]; simp [Value.cells, Block.length hB]) dE (by simp [Value.cells]) ?_
 intro q19
 have cL := light_blocks q19 0 1 1 [B] (by intro b hb; rw [List.mem_singleton.1 hb]; exact hB) rfl dE 1
 rw [hL] at cL
 refine Tr.callV J J J J Body35 (cL) (fun w h => sees_own h mem0) (Tr.not J J J (Tr.move J J J (Tr.move J J J (Tr.lenSl J J J Y39 (Tr.gtr J J J J (decide_eq_false oM) (Tr.pick J J J J J J (Tr.nil (at_n (Sat.cond_f J J (Sat.skip (at_n (Sat.seq (Sat.draw [(1, 0), (1, 1), (3, 2), (3, 3), (0, 4), (0, 5), (0, 6), (2, 7), (4, 8), (0, 9)] Mixed zK (Tr.loadAll J J J Y23 J Sz23 Z2 (by (simp [h32]; done)) ?_))))))))))))))
 refine Tr.loadAll J J J Y53 J Sz53 Z3 (Block.length zA) ?_
 refine Tr.call J J J J Body37 (db_own B D oM oM) (BlkV.loose _ hD) (fun w h => hW.1.ext h J) ?_
 rintro v30 out30 ⟨B30, h30, rfl, ho30⟩
 try simp only [List.append_assoc, List.cons_append, List.nil_append]
 refine Tr.call J J J J Body36 (cS B30 h30.ok) (BlkR.loose 0 D1 hD1) (fun w h => ho30 w (Lies.of h (by repeat (exact in_here)))) ?_
 rintro v31 out31 ⟨B31, h31, rfl, ho31⟩
 have lS := h31.ok.l_fSig
 have cG31 := db_good B31 D1 h31.ok
 rw [hg] at cG31
 try simp only [List.append_assoc, List.cons_append, List.nil_append]
 refine Tr.move J J J (Tr.extract J J J J (Tr.extract J J J J (Tr.alloc (cs := Block.zero.cells) J Block.zr J ?_)))
 intro n9 hn9 hf9
 refine Tr.storeAll J J J J (Block.isCell (by exact h31.ok)) Sz53 (Block.length (by exact h31.ok)) Z0 (Block.length (by exact Block.zero_ok)) zU ?_
 refine Tr.assign J J J (Tr.nil (at_n (Sat.seq (Sat.seq (Sat.region (Tr.move J J J (Tr.nei J J J J J (Tr.nil (at_n (Sat.cond_f J (rfl) (Sat.skip (at_n (Sat.seq (Sat.draw [(1, 0), (1, 1), (3, 2), (3, 3), (0, 4), (0, 5), (0, 6), (2, 7), (4, 8), (0, 9)] Mixed zK (Tr.loadAll J J J Y23 J Sz23 (by (repeat (first | exact List.mem_cons_self | refine List.mem_cons_of_mem _ ?_ | refine mem_seg ?_))) (by (simp [h32]; done)) ?_)))))))))))))))
 refine Tr.loadAll J J J Y53 J Sz53 Z0 (Block.length (by exact h31.ok)) ?_
 refine Tr.call J J J J Body37 (db_own B31 D1 oM oM) (BlkV.loose _ hD1) (fun w h => ho31 w (Lies.of h (by repeat (first | exact in_here | refine in_there ?_)))) ?_
 rintro v43 out43 ⟨B43, h43, rfl, ho43⟩
 try simp only [List.append_assoc, List.cons_append, List.nil_append]
 refine Tr.call J J J J Body36 (cS2 B43 h43.ok) (BlkR.loose 0 D1 hD1) (fun w h => ho43 w (Lies.of h (by repeat (exact in_here)))) ?_
 rintro v44 out44 ⟨B44, h44, rfl, ho44⟩
 try simp only [List.append_assoc, List.cons_append, List.nil_append]
 refine Tr.move J J J (Tr.extract J J J J (Tr.extract J J J J (Tr.alloc (cs := Block.zero.cells) J Block.zr J ?_)))
 intro n11 hn11 hf11
 refine Tr.storeAll J J J J (Block.isCell (by exact h44.ok)) Sz53 (Block.length (by exact h44.ok)) Z0 (Block.length (by exact Block.zero_ok)) zU ?_
 refine Tr.assign J J J (Tr.nil (at_n (Sat.seq (Sat.region (Tr.loadAll J J J Y53 J Sz53 (by (repeat (first | exact List.mem_cons_self | refine List.mem_cons_of_mem _ ?_ | refine mem_seg ?_))) (Block.length zA) ?_)))))
 refine Tr.call J J J J Body37 (db_own B D oM oM) (BlkV.loose _ hD) (fun w h => hW.1.ext h J) ?_
 rintro v48 out48 ⟨B48, h48, rfl, ho48⟩
 try simp only [List.append_assoc, List.cons_append, List.nil_append]
 refine Tr.alloc (cs := Block.zero.cells) J Block.zr J ?_
 intro n13 hn13 hf13
 refine Tr.storeAll J J J J (Block.isCell (by exact h48.ok)) Sz53 (Block.length (by exact h48.ok)) Z0 (Block.length (by exact Block.zero_ok)) zU ?_
 refine Tr.nil (at_n (Sat.seq (Sat.withK (sp_v (sp_x (sp_v (sp_x (sp_x (sp_k (sp_x (sp_x (sp_v (sp_v (sp_v (sp_v sp_n)))))))))))) J (Sat.draw [(1, 0), (0, 2), (0, 3), (3, 1), (0, 4), (4, 5), (0, 6), (4, 7)] Mixed zK (Tr.loadAll J J J Y23 J Sz23 (by (repeat (first | exact List.mem_cons_self | refine List.mem_cons_of_mem _ ?_ | refine mem_seg ?_))) (by (simp [h32]; done)) ?_)))))
 refine Tr.fld J J J Y53 J Sz27 dE _ J (Tr.kloadN (bytesV _) J J J Y27 J Sz27 Z0 (Block.row_fSig (by exact h31.ok)) (Block.rl_fSig (by exact h31.ok)) ?_)
 refine Tr.callV J J J J Body18 (cKy) (fun _ _ => trivial) (Tr.fld J J J Y53 J Sz25 dE _ J (Tr.storeN (bytesV _) J J J J J zE Sz25 (by simp [lK]) Z0 (by rw [Block.length (by exact h48.ok)]; simp [lK]) (Block.upd_fWriter (by exact h48.ok) _ (by simp [lK])) zU ?_))
 refine Tr.fld J J J Y53 J Sz27 dE _ J ?_
 have okw : ({ B48 with fWriter := K } : Block).ok := ⟨lK, h48.ok.l_fPrev, h48.ok.l_fSig⟩
 refine Tr.storeN (bytesV B31.fSig) J J J J J (bytesV_cell _) Sz27 (by rw [bytesV, List.length_map]; exact lS) Z0 (by rw [Block.length okw, bytesV, List.length_map, lS]; decide) (Block.upd_fSig okw _ lS) zU ?_
 refine Tr.nil (at_n (Sat.seq (Sat.seq (Sat.region ?_))))
 try simp only [List.append_assoc, List.cons_append, List.nil_append]
 refine Tr.move J J J (Tr.nei J J J J (show (!decide _) = false from congrArg not (decide_eq_true (rfl))) (Tr.move J J J (Tr.loadAll J J J Y53 J Sz53 (by (repeat (first | exact List.mem_cons_self | refine List.mem_cons_of_mem _ ?_ | refine mem_seg ?_))) (Block.length (by exact h31.ok)) ?_)))
 refine Tr.loadAll J J J Y53 J Sz53 Z0 (Block.length (by exact ⟨lK, h48.ok.l_fPrev, h31.ok.l_fSig⟩)) ?_
 refine Tr.callV J J J J Body39 ((db_kit B31 ({ B48 with fWriter := K, fSig := B31.fSig } : Block) D1 D1 hnd).imp (fun w h => h) (fun v out h => by rwa [decide_eq_true J] at h)) (fun w h => ⟨ho31 w (Lies.of h (by repeat (first | exact in_here | refine in_there ?_ | refine in_seg ?_))), by rw [hDe, ← h31.sg]; exact with_wg (ho48 w (Lies.of h (by repeat (first | exact in_here | refine in_there ?_)))) lK h31.ok.l_fSig⟩) ?_
 refine Tr.not J J J (Tr.pick J J J J J J (Tr.move J J J (Tr.loadAll J J J Y53 J Sz53 (by (repeat (first | exact List.mem_cons_self | refine List.mem_cons_of_mem _ ?_ | refine mem_seg ?_))) (Block.length (by exact h44.ok)) ?_)))
 refine Tr.loadAll J J J Y53 J Sz53 (by (repeat (first | exact List.mem_cons_self | refine List.mem_cons_of_mem _ ?_ | refine mem_seg ?_))) (Block.length (by exact h31.ok)) ?_
 refine Tr.callV J J J J Body39 ((db_kit B44 B31 D1 D1 hnd).imp (fun w h => h) (fun v out h => by rwa [decide_eq_true J] at h)) (fun w h => ⟨ho44 w (Lies.of h (by repeat (first | exact in_here | refine in_there ?_ | refine in_seg ?_))), ho31 w (Lies.of h (by repeat (first | exact in_here | refine in_there ?_ | refine in_seg ?_)))⟩) ?_
 refine Tr.not J J J (Tr.pick J J J J J J (Tr.move J J J (Tr.loadAll J J J Y53 J Sz53 (by (repeat (first | exact List.mem_cons_self | refine List.mem_cons_of_mem _ ?_ | refine mem_seg ?_))) (Block.length (by exact h31.ok)) ?_)))
 refine Tr.callV J J J J Body40 (cG31) (fun w h => ho31 w (Lies.of h (by repeat (first | exact in_here | refine in_there ?_ | refine in_seg ?_)))) ?_
 refine Tr.nei J J J J (show (!decide _) = false from congrArg not (decide_eq_true (rfl))) (Tr.pick J J J J J J (Tr.nil (at_n (Sat.cond_f J J (Sat.skip (at_n (Sat.seq (Sat.draw [(1, 0), (1, 2), (3, 1), (3, 3), (2, 4), (2, 5), (4, 6), (4, 7)] Mixed zK (Tr.loadAll J J J Y53 J Sz53 (by (repeat (first | exact List.mem_cons_self | refine List.mem_cons_of_mem _ ?_ | refine mem_seg ?_))) (Block.length (by exact h31.ok)) ?_)))))))))
 refine Tr.loadAll J J J Y53 J Sz53 (by (repeat (first | exact List.mem_cons_self | refine List.mem_cons_of_mem _ ?_ | refine mem_seg ?_))) (Block.length (by exact h31.ok)) ?_
 refine Tr.call J J J J Body37 (db_own B31 D1 oM oM) (BlkV.loose _ hD1) (fun w h => ho31 w (Lies.of h (by repeat (first | exact in_here | refine in_there ?_ | refine in_seg ?_)))) ?_
 rintro v75 out75 ⟨B75, h75, rfl, ho75⟩
 try simp only [List.append_assoc, List.cons_append, List.nil_append]
 refine Tr.call J J J J Body37 (db_own B31 D1 oM oM) (BlkV.loose _ hD1) (fun w h => ho31 w (Lies.of h (by repeat (first | exact in_here | refine in_there ?_ | refine in_seg ?_)))) ?_
 rintro v77 out77 ⟨B77, h77, rfl, ho77⟩
 try simp only [List.append_assoc, List.cons_append, List.nil_append]
 refine Tr.alloc (cs := Block.zero.cells) J Block.zr J ?_
 intro n14 hn14 hf14
 refine Tr.alloc (cs := Block.zero.cells) J Block.zr J ?_
 intro n15 hn15 hf15
 refine Tr.storeAll J J J J (Block.isCell (by exact h75.ok)) Sz53 (Block.length (by exact h75.ok)) Z1 (Block.length (by exact Block.zero_ok)) zV ?_
 refine Tr.storeAll J J J J (Block.isCell (by exact h77.ok)) Sz53 (Block.length (by exact h77.ok)) Z0 (Block.length (by exact Block.zero_ok)) zU ?_
 refine Tr.nil (at_n (Sat.seq (Sat.region (Tr.loadAll J J J Y23 J Sz23 (by (repeat (first | exact List.mem_cons_self | refine List.mem_cons_of_mem _ ?_ | refine mem_seg ?_))) (by (simp [ho]; done)) ?_))))
 refine Tr.callV J J J J Body18 (cK2) (fun _ _ => trivial) (Tr.fld J J J Y53 J Sz25 dE _ J (Tr.storeN (bytesV _) J J J J J zE Sz25 (by simp [lK2]) Z1 (by rw [Block.length (by exact h75.ok)]; simp [lK2]) (Block.upd_fWriter (by exact h75.ok) _ (by simp [lK2])) zV ?_))
 refine Tr.nil (at_n (Sat.seq (Sat.region (Tr.move J J J (Tr.call4 J J J J J Body24 (kit_own sb xs oM) (fun w h => bytes_ext h J hW.2) ?_)))))
 rintro v82 out82 ⟨q82, c82, rfl, hc82, rfl⟩
 try simp only [List.append_assoc, List.cons_append, List.nil_append]
 refine Tr.fld J J J Y53 J Sz39 dE _ J (Tr.store1 J J J J J Sz39 Z1 (by rw [Block.length (by exact h77.ok)]; decide) (by exact Block.setS_fData (by exact h77.ok) _ _ _) zV ?_)
 refine Tr.nil (at_n (Sat.seq (Sat.draw [(1, 0), (1, 2), (3, 1), (3, 3), (0, 4), (0, 5), (1, 6), (1, 8), (3, 7), (3, 9), (0, 10), (0, 11), (0, 12)] Mixed zK (Tr.loadAll J J J Y53 J Sz53 Z2 (Block.length (by exact ⟨lK2, h75.ok.l_fPrev, h75.ok.l_fSig⟩)) ?_))))
 refine Tr.loadAll J J J Y53 J Sz53 Z2 (Block.length (by exact ⟨lK2, h75.ok.l_fPrev, h75.ok.l_fSig⟩)) ?_
 refine Tr.callV J J J J Body40 (db_good { B75 with fWriter := K2 } { D1 with w := K2 } ⟨lK2, h75.ok.l_fPrev, h75.ok.l_fSig⟩) (fun w h => with_w (ho75 w (Lies.of h (by repeat (first | exact in_here | refine in_there ?_ | refine in_seg ?_)))) lK2) ?_
 refine Tr.callV J J J J Body41 (r15_Good { B75 with fWriter := K2 } { D1 with w := K2 } ⟨lK2, h75.ok.l_fPrev, h75.ok.l_fSig⟩) (fun w h => with_w (ho75 w (Lies.of h (by repeat (first | exact in_here | refine in_there ?_ | refine in_seg ?_)))) lK2) ?_
 refine Tr.eqi J J J J (decide_eq_true (rfl)) (Tr.move J J J (Tr.loadAll J J J Y53 J Sz53 Z1 (Block.length (by exact ⟨h77.ok.l_fWriter, h77.ok.l_fPrev, h77.ok.l_fSig⟩)) ?_))
 refine Tr.loadAll J J J Y53 J Sz53 Z1 (Block.length (by exact ⟨h77.ok.l_fWriter, h77.ok.l_fPrev, h77.ok.l_fSig⟩)) ?_
 refine Tr.callV J J J J Body40 (db_good { B77 with fData := ⟨some ⟨q82, 0, none⟩, sb.n, c82⟩ } { D1 with ds := xs } ⟨h77.ok.l_fWriter, h77.ok.l_fPrev, h77.ok.l_fSig⟩) (fun w h => with_d (ho77 w (Lies.of h (by repeat (first | exact in_here | refine in_there ?_)))) (own_bytes (SeesP.of (sees_own h Z0)) hW.2.len hc82 (by unfold maxLen; omega))) ?_
 refine Tr.callV J J J J Body41 (r15_Good { B77 with fData := ⟨some ⟨q82, 0, none⟩, sb.n, c82⟩ } { D1 with ds := xs } ⟨h77.ok.l_fWriter, h77.ok.l_fPrev, h77.ok.l_fSig⟩) (fun w h => with_d (ho77 w (Lies.of h (by repeat (first | exact in_here | refine in_there ?_)))) (own_bytes (SeesP.of (sees_own h Z0)) hW.2.len hc82 (by unfold maxLen; omega))) ?_
 refine Tr.eqi J J J J (decide_eq_true (rfl)) (Tr.pick J J J J J J (Tr.assign J J J (Tr.nil (at_n (Sat.ret (en_r ?_))))))
 refine ⟨_, [], res_tmp J J, sP, sP, ?_, rfl⟩
 rfl

theorem law_blocksigned_all (B : Block) (D : DB) (seed : List UInt8) (h32 : seed.length = 32) (other : List UInt8) (ho : other.length = 32) (sb : Sl) (xs : List UInt8) : Meets Tryz.prog 7 [agg B.cells, agg (bytesV seed), agg (bytesV other), sb.v] [] (fun W => BlockIs W B D ∧ BytesAt W sb xs) (fun v out => v = .bool true ∧ out = []) := by
  intro W hW
  have hB := hW.1.ok
  cases hL : lightB [B] 1 with
  | false => exact law_bsigned_a B D hB seed h32 other ho sb xs hL W hW
  | true =>
    rcases Nat.lt_or_ge 512 sb.n with h | h
    · exact law_bsigned_b B D hB seed h32 other ho sb xs hL h W hW
    · by_cases hc : D.check = 0
      · exact law_bsigned_d B D hB seed h32 other ho sb xs hL h hc W hW
      · exact law_bsigned_c B D hB seed h32 other ho sb xs hL h hc W hW

end Go.Proofs.YtpacobmjjjillaaGreat
end

section
namespace Go.Proofs.YtpacobmjjjillaaGreat
open Go Go.ChangeShapes Go.WideShapes Go.ChangeAt Go.RowKit
set_option linter.unusedVariables false

theorem ownBSigned : ownKnob Tryz.prog.godebug = none := by kernel_rfl
theorem laidOutBSigned : laidOutB Tryz.prog = true := by kernel_rfl

theorem openSlBSigned {H : Type} {enc : TypeId × Value → H} {P : Program} {W : World} {base : Nat} {sp : Nat → Bool} {held : Bool} {k e : TypeId} (hu : P.underlying k = some (.slice e)) (he : P.underlying e = some (.int .u8)) (hc : P.cellsOf e = 1) {r : Reach} {b0 : Nat} {v : Value} {d : DataW H} {ps : List MemPlace}
    (hval : Value.okWide P W r b0 k v) (hd : DataW.Trod enc P W base sp held k v d ps) : ∃ s l, v = Hw.Sl.v s ∧ Hw.BytesAt W s l := by
  simp only [Value.okWide, hu, Cell.okWide] at hval
  obtain ⟨a1, len, cap, rfl⟩ : ∃ a1 len cap, v = .slice a1 len cap := by
    unfold Cell.ok at hval
    rw [hu] at hval
    split at hval <;> first | exact hval.elim | exact ⟨_, _, _, rfl⟩ | simp_all
  obtain ⟨fuel, hf⟩ := hd
  obtain ⟨s, l, h1, h2⟩ := Hw.open_bytesS hu he hc hf
  refine ⟨s, l, ?_, h2⟩
  simp [Value.cells] at h1
  exact h1

theorem walkBSigned (w : World) (x0 : Block) (ok0 : x0.ok) (ls0 : List (List UInt8)) (hls0 : Hw.RowsAt w x0.fLinks 32 ls0) (ld0 : List UInt8) (hld0 : Hw.BytesAt w x0.fData ld0) (l1 : List UInt8) (hl1 : l1.length = 32) (l2 : List UInt8) (hl2 : l2.length = 32) (s3 : Hw.Sl) (l3 : List UInt8) (hs3 : Hw.BytesAt w s3 l3) : Calls Tryz.prog 7 #[Hw.agg x0.cells, Hw.agg (Hw.bytesV l1), Hw.agg (Hw.bytesV l2), Hw.Sl.v s3] w fun e w' => e = .returned (.bool true) ∧ Below w.heap.size w w' :=
  by
  have fin : ∀ {us : Array Value}, Calls Tryz.prog 7 us w (fun e W' => ∃ v out, e = .returned v ∧ (v = .bool true ∧ out = []) ∧ Hw.Ret [] out w W') → Calls Tryz.prog 7 us w (fun e w' => e = .returned (.bool true) ∧ Below w.heap.size w w') :=
    fun h => h.mono fun e w' ⟨v, out, he, ⟨hv, ho⟩, hr⟩ => ⟨by rw [he, hv], Hw.Keeps.below hr.keeps⟩
  exact fin (law_blocksigned_all x0 ⟨x0.fWriter, x0.fSeq, x0.fPrev, ls0, ld0, x0.fSig⟩ l1 hl1 l2 hl2 s3 l3 w ⟨⟨ok0, rfl, rfl, rfl, hls0, hld0, rfl⟩, hs3⟩)

theorem liftedBSigned (os : Os) (started : os.Started) (H : Type) (enc : TypeId × Value → H) :
    ReturnsInHanded {} Tryz.checked os 7 .any (Rows.blockSignedSpec.pre6 enc Tryz.prog Tryz.f7 Rows.blockSignedRow.domain false) (Rows.blockSignedSpec.post enc Tryz.prog Tryz.f7 false true false false) := by
  refine returnsInHanded_of_change (C := Tryz.checked) ownBSigned started (by kernel_rfl) Tryz.func7
    (ChangeSpec.witness6 (enc := enc) (C := Tryz.checked) false ⟨#[], #[.agg (Array.replicate 32 (.int .u8 0) ++ #[.int .u64 0] ++ Array.replicate 32 (.int .u8 0) ++ #[.slice none 0 0, .slice none 0 0] ++ Array.replicate 64 (.int .u8 0)), .agg (Array.replicate 32 (.int .u8 0)), .agg (Array.replicate 32 (.int .u8 0)), .slice none 0 0], []⟩ 8 (by kernel_rfl) (by kernel_rfl) (by kernel_rfl) (by kernel_rfl)) ?_
  intro W base args ds gs before hval0 hW hcnd _
  have hval : ∀ (j : Nat) t v, Tryz.f7.params[j]? = some t → args[j]? = some v → Value.okWide Tryz.prog W .any base t v := hval0
  have hW' := hW
  obtain ⟨p, q, hA0, hV, rfl, hfz, hnd⟩ := hW
  have hA : DataW.TrodAll enc Tryz.prog W 0 (fun _ => true) true Tryz.f7.params.toList args.toList ds p := hA0
  rw [Tryz.params7] at hA hval
  obtain ⟨v0, vs0, d0, ds0, p0, q0, hargs, rfl, rfl, h0, r0⟩ := trodAll_cons hA
  obtain ⟨v1, vs1, d1, ds1, p1, q1, rfl, rfl, rfl, h1, r1⟩ := trodAll_cons r0
  obtain ⟨v2, vs2, d2, ds2, p2, q2, rfl, rfl, rfl, h2, r2⟩ := trodAll_cons r1
  obtain ⟨v3, vs3, d3, ds3, p3, q3, rfl, rfl, rfl, h3, r3⟩ := trodAll_cons r2
  obtain ⟨rfl, rfl, rfl⟩ := trodAll_nil r3
  obtain rfl : args = #[v0, v1, v2, v3] := by cases args; simp_all
  obtain ⟨rfl, rfl⟩ := trodVars_none hV
  have k0 := h0
  have lt0 : ∀ x ∈ p0, x.block < W.heap.size := by obtain ⟨m, hm⟩ := k0; exact DataW.trod_lt m _ _ _ hm
  have k1 := h1
  have lt1 : ∀ x ∈ p1, x.block < W.heap.size := by obtain ⟨m, hm⟩ := k1; exact DataW.trod_lt m _ _ _ hm
  have k2 := h2
  have lt2 : ∀ x ∈ p2, x.block < W.heap.size := by obtain ⟨m, hm⟩ := k2; exact DataW.trod_lt m _ _ _ hm
  have k3 := h3
  have lt3 : ∀ x ∈ p3, x.block < W.heap.size := by obtain ⟨m, hm⟩ := k3; exact DataW.trod_lt m _ _ _ hm
  obtain ⟨x0, ok0, rfl, xx0⟩ := Block.openV (hval 0 53 v0 rfl rfl) h0
  obtain ⟨⟨ls0, hls0⟩, ⟨ld0, hld0⟩⟩ := xx0
  obtain ⟨l1, rfl, hl1⟩ := Hw.open_bytes Tryz.underlying23 Tryz.underlying5 (by kernel_rfl) (by kernel_rfl) (hval 1 23 v1 rfl rfl) h1
  obtain ⟨l2, rfl, hl2⟩ := Hw.open_bytes Tryz.underlying23 Tryz.underlying5 (by kernel_rfl) (by kernel_rfl) (hval 2 23 v2 rfl rfl) h2
  obtain ⟨s3, l3, rfl, hs3⟩ := openSlBSigned Tryz.underlying39 Tryz.underlying5 (by kernel_rfl) (hval 3 39 v3 rfl rfl) h3
  clear hA0 hval0
  refine (walkBSigned W x0 ok0 ls0 hls0 ld0 hld0 l1 hl1 l2 hl2 s3 l3 hs3).mono fun e W' ⟨he, bel⟩ => ?_
  subst he
  exact ⟨_, rfl, _, _, _, [], _, [], hW', trodAll_mk1 (shut_bool Tryz.underlying4 _), (trodAll_cons_mk (Below.trod laidOutBSigned (by kernel_rfl) (of_decide_eq_true (by kernel_rfl)) k0 bel lt0) (trodAll_cons_mk (Below.trod laidOutBSigned (by kernel_rfl) (of_decide_eq_true (by kernel_rfl)) k1 bel lt1) (trodAll_cons_mk (Below.trod laidOutBSigned (by kernel_rfl) (of_decide_eq_true (by kernel_rfl)) k2 bel lt2) (trodAll_cons_mk (Below.trod laidOutBSigned (by kernel_rfl) (of_decide_eq_true (by kernel_rfl)) k3 bel lt3) trodAll_mk0)))), rfl, bel.frame _, fun h => by cases h⟩

theorem blockSigned_holds : Rows.BlockSignedSaid :=
  OpenClaim.holds_of_wide 7 Tryz.f7 rfl rfl rfl rfl rfl rfl rfl ⟨rfl, rfl, rfl, rfl, rfl⟩ rfl rfl rfl rfl rfl (by kernel_rfl) Tryz.func7 (by kernel_rfl)
    (of_decide_eq_true (by kernel_rfl)) (by unfold Func.isWrapper; first | (rw [if_pos (by decide +kernel)]; kernel_rfl) | (rw [if_neg (by decide +kernel)]; exact ⟨rfl, rfl⟩))
    (fun os started H enc _ => liftedBSigned os started H enc)

end Go.Proofs.YtpacobmjjjillaaGreat
end
