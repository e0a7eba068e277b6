/- Contracts of functions of the loaded program, and the lemmas that they need (part 4). It proves no statement by itself; it has no conditions. -/
import Derived.WalkKit
import Derived.Orders
import Derived.Deep.LoopGhost
import Derived.IntWalk
import Derived.Laws.StructEq
import Derived.Test.YtpacobmjjjillaaGreatRows
import Derived.KernelRfl
import Derived.ArgAppend
import Derived.Deep.AppendSrc
import Derived.Lib.Bytealg
import Derived.Lib.BytesEntry
import Derived.Laws.IdiomStrings
import Derived.Laws.Externs
import Derived.WideKeyArr2
import Derived.ProofKit
import Derived.OpenShut
import Derived.Deep.Slices
import Derived.Laws.Pointers
import Derived.Laws.Cover3
import Derived.LaidEqlPtr
import Derived.LoopN
import Derived.RangeFuncLeaves
import Derived.RangeFuncSeq
import Derived.OrdersIn
import Derived.Defers
import Derived.Laws.MathBits
import Derived.ChangeOld
import Derived.Below
import Derived.Test.YtpacobmjjjillaaGreatBSignedC3
set_option maxRecDepth 100000
set_option maxHeartbeats 8000000
section
namespace Go.Proofs.YtpacobmjjjillaaGreat
open Go Hw
set_option linter.unusedVariables false
set_option linter.unusedSimpArgs false

open Ed

/-- the residue of a hash -/
def sgR (s : List UInt8) : List UInt8 := leb 32 (le s % L)
theorem sgR_length (s : List UInt8) : (sgR s).length = 32 := leb_length _ _
def sgF (s1 : List UInt8) : List UInt8 := pb (cv.mul (le (sgR s1)) bP)
def sgK (s : List UInt8) : List UInt8 := pb (cv.mul (le (clampB (s.take 32))) bP)
theorem sgF_length (s : List UInt8) : (sgF s).length = 32 := pb_length _
theorem sgK_length (s : List UInt8) : (sgK s).length = 32 := pb_length _
def sgS (s s1 s2 : List UInt8) : List UInt8 := leb 32 ((le (sgR s2) * le (clampB (s.take 32)) + le (sgR s1)) % L)
theorem sgS_length (s s1 s2 : List UInt8) : (sgS s s1 s2).length = 32 := leb_length _ _
theorem upd_first {f : List UInt8} (h : f.length = 32) : upd (bytesV (List.replicate 64 0)) 0 (bytesV f) = bytesV (f ++ List.replicate 32 0) := by
  simp [upd, bytesV, h]
theorem upd_last {f g : List UInt8} (h : f.length = 32) (hg : g.length = 32) : upd (bytesV (f ++ List.replicate 32 0)) 32 (bytesV g) = bytesV (f ++ g) := by
  simp [upd, bytesV, h, hg]

theorem sign_residueR (p : Option Addr) (n c : Nat) (ss : List Sl) (ls : List (List UInt8)) (hss : ss.length = n) (hls : ls.length = n) (hsl : ∀ j, j < n → (ss.getD j Sl.nil).n = (ls.getD j []).length ∧ ((ss.getD j Sl.nil).p = none → (ss.getD j Sl.nil).n = 0)) (F : List UInt8) (hF : ls.flatten = F) (htot : F.length ≤ 90000) (hn : n ≤ 1000000) (s : List UInt8) (hs : Hid (sha512 F = s)) (r : List UInt8) (hr : Hid (sgR s = r))  : Meets Tryz.prog 105 [.slice p n c] [] (fun W => SeesP W p (ss.map Sl.v) ∧ ∀ j, j < n → SeesP W (ss.getD j Sl.nil).p (bytesV (ls.getD j []))) (fun v out => v = agg (bytesV r) ∧ out = []) := by
  have h := sign_residue p n c ss ls hss hls hsl F hF htot hn s hs
  rwa [show leb 32 (le s % L) = r from hr.out] at h

theorem take_sees {l : List UInt8} {n i : Nat} {v : Value} (h : (bytesV (l.take n))[i]? = some v) : (bytesV l)[i]? = some v := by
  rw [bytesV, List.map_take, List.getElem?_take] at h
  split at h
  · exact h
  · cases h

theorem sign_Sign (seed : List UInt8) (h32 : seed.length = 32) (sb : Sl) (bb : List UInt8) (hbn : bb.length ≤ 80000) (s s1 s2 : List UInt8) (hs : Hid (sha512 seed = s)) (hs1 : Hid (sha512 (s.drop 32 ++ bb) = s1)) (hs2 : Hid (sha512 (sgF s1 ++ (sgK s ++ bb)) = s2)) : Meets Tryz.prog 59 [agg (bytesV seed), sb.v] [] (fun W => BytesAt W sb bb) (fun v out => v = agg (bytesV (sgF s1 ++ sgS s s1 s2)) ∧ out = []) := by
 intro W hW
 have hs64 : s.length = 64 := by rw [← hs.out]; exact sha512_length seed
 have hexp := sign_expand seed h32 s hs
 obtain ⟨sc, hsc⟩ : ∃ sc, secB s = sc := ⟨_, rfl⟩
 rw [hsc] at hexp
 have hok : sc.ok := by rw [← hsc]; exact secB_ok hs64
 have hnum : clampB (s.take 32) = sc.fNumber := by rw [← hsc]; rfl
 have hrst : s.drop 32 = sc.fRest := by rw [← hsc]; rfl
 have hnl := hok.l_fNumber
 have hrl := hok.l_fRest
 obtain ⟨r1, hr1⟩ : ∃ r, Hid (sgR s1 = r) := ⟨_, ⟨rfl⟩⟩
 obtain ⟨r2, hr2⟩ : ∃ r, Hid (sgR s2 = r) := ⟨_, ⟨rfl⟩⟩
 have hr1l : r1.length = 32 := by rw [← hr1.out]; exact sgR_length s1
 have hr2l : r2.length = 32 := by rw [← hr2.out]; exact sgR_length s2
 have hm1 := sign_multiple sc.fNumber hnl
 have hm2 := sign_multiple r1 hr1l
 obtain ⟨K1, hK1⟩ : ∃ l, Hid (sgK s = l) := ⟨_, ⟨rfl⟩⟩
 obtain ⟨F1, hF1⟩ : ∃ l, Hid (sgF s1 = l) := ⟨_, ⟨rfl⟩⟩
 obtain ⟨S1, hS1⟩ : ∃ l, Hid (sgS s s1 s2 = l) := ⟨_, ⟨rfl⟩⟩
 have hF1l : F1.length = 32 := by rw [← hF1.out]; exact sgF_length s1
 have hK1l : K1.length = 32 := by rw [← hK1.out]; exact sgK_length s
 have hSl : S1.length = 32 := by rw [← hS1.out]; exact sgS_length s s1 s2
 rw [show pb (cv.mul (le sc.fNumber) bP) = K1 from by rw [← hK1.out, sgK, hnum]] at hm1
 rw [show pb (cv.mul (le r1) bP) = F1 from by rw [← hF1.out, sgF, hr1.out]] at hm2
 have hma := scalar_muladd r2 sc.fNumber r1 hr2l hnl hr1l
 rw [show leb 32 ((le r2 * le sc.fNumber + le r1) % L) = S1 from by rw [← hS1.out, sgS, hr1.out, hr2.out, hnum]] at hma
 rw [hF1.out, hS1.out]
 rw [hF1.out, hK1.out] at hs2
 rw [hrst] at hs1
 clear hsc hnum hrst
 refine calls_of (hp0 := []) Tryz.func59 J 39 Tryz.ntmps59 J (HRep.nil _) (Sat.seq (Sat.region (Tr.boxA J J ?_)))
 intro n2 hn2 hf2
 refine Tr.alloc (cs := (bytesV (List.replicate 64 0))) J Zr27 J ?_
 intro n4 hn4 hf4
 refine Tr.nil (at_n (Sat.seq (Sat.region (Tr.loadAll J J J Y23 J Sz23 Z1 (by (simp [h32]; done)) ?_))))
 refine Tr.callV J J J J Body104 (hexp) (fun _ _ => trivial) (Tr.alloc (cs := secrets.zero.cells) J secrets.zr J ?_)
 intro n5 hn5 hf5
 refine Tr.storeAll J J J J (secrets.isCell (by exact hok)) Sz114 (secrets.length (by exact hok)) Z0 (secrets.length (by exact secrets.zero_ok)) zU ?_
 refine Tr.nil (at_n (Sat.seq (Sat.region (Tr.fld J J J Tryz.underlying114 J Sz77 dE _ J (Tr.loadN (bytesV _) J J J Y77 J Sz77 Z0 (secrets.row_fNumber (by exact hok)) (secrets.rl_fNumber (by exact hok)) ?_)))))
 refine Tr.callV J J J J Body103 (hm1) (fun _ _ => trivial) (Tr.alloc (cs := (bytesV (List.replicate 32 0))) J Zr23 J ?_)
 intro n6 hn6 hf6
 refine Tr.storeAll J J J J zE Sz23 (by (simp [hK1l]; done)) Z0 sP zU ?_
 refine Tr.nil (at_n (Sat.seq (Sat.region (Tr.fld J J J Tryz.underlying114 J Sz23 dE _ J (Tr.sliceArr J J J Y23 Sz5 (Tr.move J J J (Tr.mkRow2 (z := .slice none 0 0) [.slice (some ⟨n5, 32, none⟩) 32 32, sb.v] [.slice (some ⟨n5, 32, none⟩) 32 32, sb.v] rfl J Y133 Sz39 Zr39 J J (by intro v hv; simp only [List.mem_cons, List.not_mem_nil, or_false] at hv; rcases hv with rfl | rfl <;> rfl) dE J ?_)))))))
 intro q19
 refine Tr.callV J J J J Body105 (sign_residueR (some ⟨q19, 0, none⟩) 2 2 [⟨some ⟨n5, 32, none⟩, 32, 32⟩, sb] [sc.fRest, bb] rfl J (fun j hj => (by
   rcases (show j = 0 ∨ j = 1 by omega) with rfl | rfl
   · exact ⟨by show 32 = List.length _; exact hrl.symm, fun e => by cases e⟩
   · exact ⟨by show sb.n = bb.length; exact hW.len.symm, fun e => by have h1 := hW.nil e; have h2 := hW.cap; show sb.n = 0; omega⟩)) (sc.fRest ++ bb) sP (by simp [hrl]; omega) dE s1 hs1 r1 hr1) (fun w h => ⟨SeesP.of (sees_own h Z0), (fun j hj => (by
   rcases (show j = 0 ∨ j = 1 by omega) with rfl | rfl
   · exact SeesP.of (by have h9 := sees_subC (sees_own h Z2) (secrets.see_fRest hok); exact h9)
   · exact seesP_ext h rfl hW.see))⟩) ?_
 refine Tr.alloc (cs := (bytesV (List.replicate 32 0))) J Zr77 J ?_
 intro n7 hn7 hf7
 refine Tr.storeAll J J J J zE Sz77 (by (simp [hr1l]; done)) Z0 sP zU ?_
 refine Tr.nil (at_n (Sat.seq (Sat.region (Tr.loadAll J J J Y77 J Sz77 Z0 (by (simp [hr1l]; done)) ?_))))
 refine Tr.callV J J J J Body103 (hm2) (fun _ _ => trivial) (Tr.alloc (cs := (bytesV (List.replicate 32 0))) J Zr23 J ?_)
 intro n8 hn8 hf8
 refine Tr.storeAll J J J J zE Sz23 (by (simp [hF1l]; done)) Z0 sP zU ?_
 refine Tr.nil (at_n (Sat.seq (Sat.draw [(0, 0), (0, 1), (0, 2), (0, 5), (1, 6), (1, 7), (2, 3), (3, 4), (3, 8), (2, 9), (4, 10)] Mixed zK (Tr.sliceArr J J J Y23 Sz5 (Tr.sliceArr J J J Y23 Sz5 (Tr.move J J J (Tr.fld J J J Tryz.underlying114 J Sz77 dE _ J (Tr.loadN (bytesV _) J J J Y77 J Sz77 Z4 (secrets.row_fNumber (by exact hok)) (secrets.rl_fNumber (by exact hok)) ?_))))))))
 refine Tr.loadAll J J J Y77 J Sz77 Z1 (by (simp [hr1l]; done)) ?_
 refine Tr.mkRow2 (z := .slice none 0 0) [.slice (some ⟨n8, 0, none⟩) 32 32, .slice (some ⟨n6, 0, none⟩) 32 32, sb.v] [.slice (some ⟨n8, 0, none⟩) 32 32, .slice (some ⟨n6, 0, none⟩) 32 32, sb.v] rfl J Y133 Sz39 Zr39 J J (by intro v hv; simp only [List.mem_cons, List.not_mem_nil, or_false] at hv; rcases hv with rfl | rfl | rfl <;> rfl) dE J ?_
 intro q26
 refine Tr.callV J J J J Body105 (sign_residueR (some ⟨q26, 0, none⟩) 3 3 [⟨some ⟨n8, 0, none⟩, 32, 32⟩, ⟨some ⟨n6, 0, none⟩, 32, 32⟩, sb] [F1, K1, bb] rfl J (fun j hj => (by
   rcases (show j = 0 ∨ j = 1 ∨ j = 2 by omega) with rfl | rfl | rfl
   · exact ⟨by show 32 = List.length _; exact hF1l.symm, fun e => by cases e⟩
   · exact ⟨by show 32 = List.length _; exact hK1l.symm, fun e => by cases e⟩
   · exact ⟨by show sb.n = bb.length; exact hW.len.symm, fun e => by have h1 := hW.nil e; have h2 := hW.cap; show sb.n = 0; omega⟩)) (F1 ++ (K1 ++ bb)) sP (by simp [hF1l, hK1l]; omega) dE s2 hs2 r2 hr2) (fun w h => ⟨SeesP.of (sees_own h Z0), (fun j hj => (by
   rcases (show j = 0 ∨ j = 1 ∨ j = 2 by omega) with rfl | rfl | rfl
   · exact SeesP.of (sees_own (cs := bytesV F1) h Z1)
   · exact SeesP.of (sees_own (cs := bytesV K1) h Z4)
   · exact seesP_ext h rfl hW.see))⟩) ?_
 refine Tr.callV J J J J Body106 (hma) (fun _ _ => trivial) (Tr.alloc (cs := (bytesV (List.replicate 32 0))) J Zr77 J ?_)
 intro n9 hn9 hf9
 refine Tr.storeAll J J J J zE Sz77 (by (simp [hSl]; done)) Z0 sP zU ?_
 refine Tr.nil (at_n (Sat.seq (Sat.region (Tr.alloc (cs := (bytesV (List.replicate 64 0))) J Zr27 J ?_))))
 intro n10 hn10 hf10
 refine Tr.nil (at_n (Sat.seq (Sat.draw [(0, 0), (0, 1), (4, 2)] Mixed zK (Tr.sliceArrHi 32 J J J J J dE dE Y27 Sz5 (Tr.sliceArr J J J Y23 Sz5 (Tr.copyP (bytesV F1) 32 J J J J J Y39 Sz5 (fun w h => SeesP.of (sees_own h Z3)) (fun e => by cases e) (by rw [bytesV, List.length_map]; exact hF1l) J (by rw [bytesV, ← List.map_take, List.take_of_length_le (Nat.le_of_eq hF1l)]) (bytesV_cell _) Z0 sP (by exact upd_first hF1l) zU ?_))))))
 refine Tr.nil (at_n (Sat.seq (Sat.draw [(0, 0), (0, 1), (4, 2)] Mixed zK (Tr.sliceArrLo 32 J J J J J dE Y27 Sz5 (Tr.sliceArr J J J Y77 Sz5 (Tr.copyP (bytesV S1) 32 J J J J J Y39 Sz5 (fun w h => SeesP.of (sees_own h Z1)) (fun e => by cases e) (by rw [bytesV, List.length_map]; exact hSl) J (by rw [bytesV, ← List.map_take, List.take_of_length_le (Nat.le_of_eq hSl)]) (bytesV_cell _) Z0 (by (simp; omega)) (by exact upd_last hF1l hSl) zU ?_))))))
 refine Tr.nil (at_n (Sat.seq (Sat.region (Tr.loadAll J J J Y27 J Sz27 Z0 (by (simp [hF1l, hSl]; done)) ?_))))
 refine Tr.storeAll J J J J zE Sz27 (by (simp [hF1l, hSl]; done)) (by (repeat (first | exact List.mem_cons_self | refine List.mem_cons_of_mem _ ?_))) sP (by (repeat (first | exact upd0 | apply Upd.tail))) ?_
 refine Tr.nil (at_n (Sat.ret (en_r ?_)))
 refine ⟨_, [], res_cell J J Y27 J Sz27 (by (repeat (first | exact List.mem_cons_self | refine List.mem_cons_of_mem _ ?_))) (by simp [hF1l, hSl]), sP, sP, ?_, rfl⟩
 rfl

theorem curve_Read_none (b : List UInt8) (hb : b.length = 32) (h : rdP b = none) : Meets Tryz.prog 108 [agg (bytesV b)] [] (fun _ => True) (fun v out => v = .tuple #[agg Point.zero.cells, i64 4] ∧ out = []) := by
  have := curve_Read b hb
  rwa [rdV_none h] at this
theorem curve_Read_some (b : List UInt8) (P : Pt Fp) (hb : b.length = 32) (h : rdP b = some P) : Meets Tryz.prog 108 [agg (bytesV b)] [] (fun _ => True) (fun v out => v = .tuple #[agg (ptc P).cells, i64 0] ∧ out = []) := by
  have := curve_Read b hb
  rwa [rdV_some h] at this
open Classical in
noncomputable def goodB (k bb sg : List UInt8) : Bool := decide (le (sg.drop 32) < L ∧ ∃ A R, rdP k = some A ∧ rdP (sg.take 32) = some R ∧ cv.lin (le (sg.drop 32)) (le (sgR (sha512 (sg.take 32 ++ (k ++ bb))))) bP (neg A) = R)
theorem good_dec {k bb sg : List UInt8} {A R Q : Pt Fp} (h1 : le (sg.drop 32) < L) (h2 : rdP k = some A) (h3 : rdP (sg.take 32) = some R) (h4 : cv.lin (le (sg.drop 32)) (le (sgR (sha512 (sg.take 32 ++ (k ++ bb))))) bP (neg A) = Q) : @decide (ptc Q = ptc R) (Classical.propDecidable _) = goodB k bb sg := by
  rw [goodB, Bool.eq_iff_iff]
  simp only [decide_eq_true_eq, ptc_inj]
  constructor
  · intro h
    exact ⟨h1, A, R, h2, h3, h4.trans h⟩
  · rintro ⟨_, A', R', e1, e2, e3⟩
    rw [h2] at e1; rw [h3] at e2
    cases e1; cases e2
    exact h4.symm.trans e3
theorem good_no {k bb sg : List UInt8} (h : ¬ (le (sg.drop 32) < L ∧ (∃ A, rdP k = some A) ∧ ∃ R, rdP (sg.take 32) = some R)) : goodB k bb sg = false := by
  rw [goodB, decide_eq_false_iff_not]
  intro e
  refine h ?_
  obtain ⟨h1, A, R, h2, h3, _⟩ := e
  exact ⟨h1, ⟨A, h2⟩, ⟨R, h3⟩⟩

theorem sign_Good_c (k : List UInt8) (hk : k.length = 32) (sb : Sl) (bb : List UInt8) (hbn : bb.length ≤ 80000) (sg : List UInt8) (hsg : sg.length = 64) (hc : ¬ le (sg.drop 32) < L) : Meets Tryz.prog 60 [agg (bytesV k), sb.v, agg (bytesV sg)] [] (fun W => BytesAt W sb bb) (fun v out => v = .bool false ∧ out = []) := by
 intro W hW
 have hd32 : (sg.drop 32).length = 32 := by rw [List.length_drop, hsg]
 have ht32 : (sg.take 32).length = 32 := by rw [List.length_take, hsg]; rfl
 refine calls_of (hp0 := []) Tryz.func60 J 45 Tryz.ntmps60 J (HRep.nil _) (Sat.seq (Sat.region (Tr.boxA J J ?_)))
 intro n3 hn3 hf3
 refine Tr.boxA J J ?_
 intro n5 hn5 hf5
 refine Tr.assign J J J (Tr.nil (at_n (Sat.seq (Sat.region (Tr.sliceArrLo 32 J J J J J dE Y27 Sz5 (Tr.s2a J J J Y77 oM (Tr.loadN (bytesV (sg.drop 32)) J J J Y77 J Sz77 Z0 (by show ((sg.map u8).drop 32).take 32 = _; rw [← List.map_drop, ← List.map_take, d64 hsg]) (by rw [List.length_map]; exact hd32) ?_)))))))
 refine Tr.alloc (cs := (bytesV (List.replicate 32 0))) J Zr77 J ?_
 intro n7 hn7 hf7
 refine Tr.storeAll J J J J zE Sz77 (by (simp [hsg]; done)) Z0 sP zU ?_
 refine Tr.nil (at_n (Sat.seq (Sat.seq (Sat.region (Tr.loadAll J J J Y77 J Sz77 Z0 (by (simp [hsg]; done)) ?_)))))
 refine Tr.callV J J J J Body107 (scalar_canon (sg.drop 32) hd32) (fun _ _ => trivial) (Tr.not J J J (Tr.nil (at_n (Sat.cond_t J (by rw [decide_eq_false hc]; rfl) ?_))))
 refine Sat.seq (Sat.region (Tr.assign J J J (Tr.nil (at_n (Sat.ret (at_r (en_r ?_)))))))
 refine ⟨_, [], res_tmp J J, sP, sP, ?_, rfl⟩
 rfl

theorem sign_Good_k (k : List UInt8) (hk : k.length = 32) (sb : Sl) (bb : List UInt8) (hbn : bb.length ≤ 80000) (sg : List UInt8) (hsg : sg.length = 64) (hc : le (sg.drop 32) < L) (h1 : rdP k = none) : Meets Tryz.prog 60 [agg (bytesV k), sb.v, agg (bytesV sg)] [] (fun W => BytesAt W sb bb) (fun v out => v = .bool false ∧ out = []) := by
 intro W hW
 have hd32 : (sg.drop 32).length = 32 := by rw [List.length_drop, hsg]
 have ht32 : (sg.take 32).length = 32 := by rw [List.length_take, hsg]; rfl
 refine calls_of (hp0 := []) Tryz.func60 J 45 Tryz.ntmps60 J (HRep.nil _) (Sat.seq (Sat.region (Tr.boxA J J ?_)))
 intro n3 hn3 hf3
 refine Tr.boxA J J ?_
 intro n5 hn5 hf5
 refine Tr.assign J J J (Tr.nil (at_n (Sat.seq (Sat.region (Tr.sliceArrLo 32 J J J J J dE Y27 Sz5 (Tr.s2a J J J Y77 oM (Tr.loadN (bytesV (sg.drop 32)) J J J Y77 J Sz77 Z0 (by show ((sg.map u8).drop 32).take 32 = _; rw [← List.map_drop, ← List.map_take, d64 hsg]) (by rw [List.length_map]; exact hd32) ?_)))))))
 refine Tr.alloc (cs := (bytesV (List.replicate 32 0))) J Zr77 J ?_
 intro n7 hn7 hf7
 refine Tr.storeAll J J J J zE Sz77 (by (simp [hsg]; done)) Z0 sP zU ?_
 refine Tr.nil (at_n (Sat.seq (Sat.seq (Sat.region (Tr.loadAll J J J Y77 J Sz77 Z0 (by (simp [hsg]; done)) ?_)))))
 refine Tr.callV J J J J Body107 (scalar_canon (sg.drop 32) hd32) (fun _ _ => trivial) (Tr.not J J J (Tr.nil (at_n (Sat.cond_f J (by rw [decide_eq_true hc]; rfl) ?_))))
 refine Sat.skip (at_n (Sat.seq (Sat.region (Tr.loadAll J J J Y25 J Sz25 Z2 (by (simp [hk]; done)) ?_))))
 refine Tr.callV J J J J Body108 (curve_Read_none k hk h1) (fun _ _ => trivial) (Tr.move J J J (Tr.extract J J J J (Tr.extract J J J J (Tr.alloc (cs := Point.zero.cells) J Point.zr J ?_))))
 intro n8 hn8 hf8
 refine Tr.storeAll J J J J (Point.isCell zZ) Sz79 (Point.length zZ) Z0 (Point.length zZ) zU ?_
 refine Tr.assign J J J (Tr.nil (at_n (Sat.seq (Sat.seq (Sat.region (Tr.move J J J (Tr.nei J J J J (show (!decide _) = true from congrArg not (decide_eq_false dE)) (Tr.nil (at_n (Sat.cond_t J (rfl) (Sat.seq (Sat.region (Tr.assign J J J (Tr.nil (at_n (Sat.ret (at_r (en_r ?_))))))))))))))))))
 refine ⟨_, [], res_tmp J J, sP, sP, ?_, rfl⟩
 rfl

theorem sign_Good_r (k : List UInt8) (hk : k.length = 32) (sb : Sl) (bb : List UInt8) (hbn : bb.length ≤ 80000) (sg : List UInt8) (hsg : sg.length = 64) (hc : le (sg.drop 32) < L) (A : Pt Fp) (h1 : rdP k = some A) (h2 : rdP (sg.take 32) = none) : Meets Tryz.prog 60 [agg (bytesV k), sb.v, agg (bytesV sg)] [] (fun W => BytesAt W sb bb) (fun v out => v = .bool false ∧ out = []) := by
 intro W hW
 have hd32 : (sg.drop 32).length = 32 := by rw [List.length_drop, hsg]
 have ht32 : (sg.take 32).length = 32 := by rw [List.length_take, hsg]; rfl
 refine calls_of (hp0 := []) Tryz.func60 J 45 Tryz.ntmps60 J (HRep.nil _) (Sat.seq (Sat.region (Tr.boxA J J ?_)))
 intro n3 hn3 hf3
 refine Tr.boxA J J ?_
 intro n5 hn5 hf5
 refine Tr.assign J J J (Tr.nil (at_n (Sat.seq (Sat.region (Tr.sliceArrLo 32 J J J J J dE Y27 Sz5 (Tr.s2a J J J Y77 oM (Tr.loadN (bytesV (sg.drop 32)) J J J Y77 J Sz77 Z0 (by show ((sg.map u8).drop 32).take 32 = _; rw [← List.map_drop, ← List.map_take, d64 hsg]) (by rw [List.length_map]; exact hd32) ?_)))))))
 refine Tr.alloc (cs := (bytesV (List.replicate 32 0))) J Zr77 J ?_
 intro n7 hn7 hf7
 refine Tr.storeAll J J J J zE Sz77 (by (simp [hsg]; done)) Z0 sP zU ?_
 refine Tr.nil (at_n (Sat.seq (Sat.seq (Sat.region (Tr.loadAll J J J Y77 J Sz77 Z0 (by (simp [hsg]; done)) ?_)))))
 refine Tr.callV J J J J Body107 (scalar_canon (sg.drop 32) hd32) (fun _ _ => trivial) (Tr.not J J J (Tr.nil (at_n (Sat.cond_f J (by rw [decide_eq_true hc]; rfl) ?_))))
 refine Sat.skip (at_n (Sat.seq (Sat.region (Tr.loadAll J J J Y25 J Sz25 Z2 (by (simp [hk]; done)) ?_))))
 refine Tr.callV J J J J Body108 (curve_Read_some k A hk h1) (fun _ _ => trivial) (Tr.move J J J (Tr.extract J J J J (Tr.extract J J J J (Tr.alloc (cs := Point.zero.cells) J Point.zr J ?_))))
 intro n8 hn8 hf8
 refine Tr.storeAll J J J J (Point.isCell zP) Sz79 (Point.length zP) Z0 (Point.length zZ) zU ?_
 refine Tr.assign J J J (Tr.nil (at_n (Sat.seq (Sat.seq (Sat.region (Tr.move J J J (Tr.nei J J J J (show (!decide _) = false from congrArg not (decide_eq_true (rfl))) (Tr.nil (at_n (Sat.cond_f J (rfl) (Sat.skip (at_n (Sat.seq (Sat.region (Tr.sliceArrHi 32 J J J J J dE dE Y27 Sz5 (Tr.s2a J J J Y23 oM (Tr.loadN (bytesV (sg.take 32)) J J J Y23 J Sz23 Z2 (by rw [List.drop_zero, ← List.map_take]) (by rw [List.length_map]; exact ht32) ?_)))))))))))))))))
 refine Tr.callV J J J J Body108 (curve_Read_none (sg.take 32) ht32 h2) (fun _ _ => trivial) (Tr.move J J J (Tr.extract J J J J (Tr.extract J J J J (Tr.alloc (cs := Point.zero.cells) J Point.zr J ?_))))
 intro n10 hn10 hf10
 refine Tr.storeAll J J J J (Point.isCell zZ) Sz79 (Point.length zZ) Z0 (Point.length zZ) zU ?_
 refine Tr.assign J J J (Tr.nil (at_n (Sat.seq (Sat.seq (Sat.region (Tr.move J J J (Tr.nei J J J J (show (!decide _) = true from congrArg not (decide_eq_false dE)) (Tr.nil (at_n (Sat.cond_t J (rfl) (Sat.seq (Sat.region (Tr.assign J J J (Tr.nil (at_n (Sat.ret (at_r (en_r ?_))))))))))))))))))
 refine ⟨_, [], res_tmp J J, sP, sP, ?_, rfl⟩
 rfl

theorem sign_Good_ok (k : List UInt8) (hk : k.length = 32) (sb : Sl) (bb : List UInt8) (hbn : bb.length ≤ 80000) (sg : List UInt8) (hsg : sg.length = 64) (hc : le (sg.drop 32) < L) (A R : Pt Fp) (h1 : rdP k = some A) (h2 : rdP (sg.take 32) = some R) (s r : List UInt8) (hs : Hid (sha512 (sg.take 32 ++ (k ++ bb)) = s)) (hr : Hid (sgR s = r)) (hrl : r.length = 32) : Meets Tryz.prog 60 [agg (bytesV k), sb.v, agg (bytesV sg)] [] (fun W => BytesAt W sb bb) (fun v out => v = .bool (goodB k bb sg) ∧ out = []) := by
 intro W hW
 have hd32 : (sg.drop 32).length = 32 := by rw [List.length_drop, hsg]
 have ht32 : (sg.take 32).length = 32 := by rw [List.length_take, hsg]; rfl
 have hA := rdP_on h1
 obtain ⟨Q, hQ⟩ : ∃ Q, cv.lin (le (sg.drop 32)) (le (sgR (sha512 (sg.take 32 ++ (k ++ bb))))) bP (neg A) = Q := ⟨_, rfl⟩
 have hmul := curve_Mul2 (sg.drop 32) r bP (neg A) hd32 hrl bP_on (cv.on_neg hA)
 rw [show cv.lin (le (sg.drop 32)) (le r) bP (neg A) = Q from by rw [← hr.out, ← hs.out]; exact hQ] at hmul
 refine calls_of (hp0 := []) Tryz.func60 J 45 Tryz.ntmps60 J (HRep.nil _) (Sat.seq (Sat.region (Tr.boxA J J ?_)))
 intro n3 hn3 hf3
 refine Tr.boxA J J ?_
 intro n5 hn5 hf5
 refine Tr.assign J J J (Tr.nil (at_n (Sat.seq (Sat.region (Tr.sliceArrLo 32 J J J J J dE Y27 Sz5 (Tr.s2a J J J Y77 oM (Tr.loadN (bytesV (sg.drop 32)) J J J Y77 J Sz77 Z0 (by show ((sg.map u8).drop 32).take 32 = _; rw [← List.map_drop, ← List.map_take, d64 hsg]) (by rw [List.length_map]; exact hd32) ?_)))))))
 refine Tr.alloc (cs := (bytesV (List.replicate 32 0))) J Zr77 J ?_
 intro n7 hn7 hf7
 refine Tr.storeAll J J J J zE Sz77 (by (simp [hsg]; done)) Z0 sP zU ?_
 refine Tr.nil (at_n (Sat.seq (Sat.seq (Sat.region (Tr.loadAll J J J Y77 J Sz77 Z0 (by (simp [hsg]; done)) ?_)))))
 refine Tr.callV J J J J Body107 (scalar_canon (sg.drop 32) hd32) (fun _ _ => trivial) (Tr.not J J J (Tr.nil (at_n (Sat.cond_f J (by rw [decide_eq_true hc]; rfl) ?_))))
 refine Sat.skip (at_n (Sat.seq (Sat.region (Tr.loadAll J J J Y25 J Sz25 Z2 (by (simp [hk]; done)) ?_))))
 refine Tr.callV J J J J Body108 (curve_Read_some k A hk h1) (fun _ _ => trivial) (Tr.move J J J (Tr.extract J J J J (Tr.extract J J J J (Tr.alloc (cs := Point.zero.cells) J Point.zr J ?_))))
 intro n8 hn8 hf8
 refine Tr.storeAll J J J J (Point.isCell zP) Sz79 (Point.length zP) Z0 (Point.length zZ) zU ?_
 refine Tr.assign J J J (Tr.nil (at_n (Sat.seq (Sat.seq (Sat.region (Tr.move J J J (Tr.nei J J J J (show (!decide _) = false from congrArg not (decide_eq_true (rfl))) (Tr.nil (at_n (Sat.cond_f J (rfl) (Sat.skip (at_n (Sat.seq (Sat.region (Tr.sliceArrHi 32 J J J J J dE dE Y27 Sz5 (Tr.s2a J J J Y23 oM (Tr.loadN (bytesV (sg.take 32)) J J J Y23 J Sz23 Z2 (by rw [List.drop_zero, ← List.map_take]) (by rw [List.length_map]; exact ht32) ?_)))))))))))))))))
 refine Tr.callV J J J J Body108 (curve_Read_some (sg.take 32) R ht32 h2) (fun _ _ => trivial) (Tr.move J J J (Tr.extract J J J J (Tr.extract J J J J (Tr.alloc (cs := Point.zero.cells) J Point.zr J ?_))))
 intro n10 hn10 hf10
 refine Tr.storeAll J J J J (Point.isCell zP) Sz79 (Point.length zP) Z0 (Point.length zZ) zU ?_
 refine Tr.assign J J J (Tr.nil (at_n (Sat.seq (Sat.seq (Sat.region (Tr.move J J J (Tr.nei J J J J (show (!decide _) = false from congrArg not (decide_eq_true (rfl))) (Tr.nil (at_n (Sat.cond_f J (rfl) (Sat.skip (at_n (Sat.seq (Sat.draw [(1, 0), (0, 2), (0, 3), (0, 4), (1, 7), (1, 10), (3, 1), (2, 5), (3, 6), (3, 8), (3, 9), (0, 11), (0, 12)] Mixed zK (Tr.loadAll J J J Y77 J Sz77 Z2 (by (simp [hsg]; done)) ?_)))))))))))))))
 refine Tr.sliceArrHi 32 J J J J J dE dE Y27 Sz5 (Tr.sliceArr J J J Y25 Sz5 (Tr.move J J J (Tr.loadAll J J J Y79 J Sz79 Z1 (Point.length zP) ?_)))
 refine Tr.loadAll J J J Y79 J Sz79 Z0 (Point.length zP) ?_
 refine Tr.callV J J J J Body110 (curve_Base) (fun _ _ => trivial) (Tr.mkRow2 (z := .slice none 0 0) [.slice (some ⟨n5, 0, none⟩) 32 64, .slice (some ⟨n3, 0, none⟩) 32 32, sb.v] [.slice (some ⟨n5, 0, none⟩) 32 64, .slice (some ⟨n3, 0, none⟩) 32 32, sb.v] rfl J Y133 Sz39 Zr39 J J (by intro v hv; simp only [List.mem_cons, List.not_mem_nil, or_false] at hv; rcases hv with rfl | rfl | rfl <;> rfl) dE J ?_)
 intro q38
 refine Tr.callV J J J J Body105 (sign_residueR (some ⟨q38, 0, none⟩) 3 3 [⟨some ⟨n5, 0, none⟩, 32, 64⟩, ⟨some ⟨n3, 0, none⟩, 32, 32⟩, sb] [sg.take 32, k, bb] rfl J (fun j hj => (by
   rcases (show j = 0 ∨ j = 1 ∨ j = 2 by omega) with rfl | rfl | rfl
   · exact ⟨by show 32 = List.length _; exact ht32.symm, fun e => by cases e⟩
   · exact ⟨by show 32 = List.length _; exact hk.symm, fun e => by cases e⟩
   · exact ⟨by show sb.n = bb.length; exact hW.len.symm, fun e => by have h1 := hW.nil e; have h2 := hW.cap; show sb.n = 0; omega⟩)) (sg.take 32 ++ (k ++ bb)) sP (by simp [hsg, hk]; omega) dE s hs r hr) (fun w h => ⟨SeesP.of (sees_own h Z0), (fun j hj => (by
   rcases (show j = 0 ∨ j = 1 ∨ j = 2 by omega) with rfl | rfl | rfl
   · exact SeesP.of (by have h9 := sees_own (cs := bytesV sg) h Z4; exact fun i v hv => h9 i v (take_sees hv))
   · exact SeesP.of (sees_own (cs := bytesV k) h (by exact mem5))
   · exact seesP_ext h rfl hW.see))⟩) ?_
 refine Tr.callV J J J J Body111 (curve_Neg A hA) (fun _ _ => trivial) (Tr.callV J J J J Body109 (hmul) (fun _ _ => trivial) (Tr.eql_rec J J J J Point.eg (fun w => Point.eq_runC (ptc_ok _) (ptc_ok _) w) (good_dec hc h1 h2 hQ) (Tr.assign J J J (Tr.nil (at_n (Sat.ret (en_r ?_)))))))
 refine ⟨_, [], res_tmp J J, sP, sP, ?_, rfl⟩
 rfl

theorem sign_Good (k : List UInt8) (hk : k.length = 32) (sb : Sl) (bb : List UInt8) (hbn : bb.length ≤ 80000) (sg : List UInt8) (hsg : sg.length = 64) : Meets Tryz.prog 60 [agg (bytesV k), sb.v, agg (bytesV sg)] [] (fun W => BytesAt W sb bb) (fun v out => v = .bool (goodB k bb sg) ∧ out = []) := by
  by_cases hc : le (sg.drop 32) < L
  · cases h1 : rdP k with
    | none =>
      rw [good_no (fun e => by obtain ⟨_, ⟨A, h⟩, _⟩ := e; rw [h1] at h; cases h)]
      exact sign_Good_k k hk sb bb hbn sg hsg hc h1
    | some A =>
      cases h2 : rdP (sg.take 32) with
      | none =>
        rw [good_no (fun e => by obtain ⟨_, _, ⟨R, h⟩⟩ := e; rw [h2] at h; cases h)]
        exact sign_Good_r k hk sb bb hbn sg hsg hc A h1 h2
      | some R => exact sign_Good_ok k hk sb bb hbn sg hsg hc A R h1 h2 _ _ ⟨rfl⟩ ⟨rfl⟩ (sgR_length _)
  · rw [good_no (fun e => hc e.1)]
    exact sign_Good_c k hk sb bb hbn sg hsg hc
end Go.Proofs.YtpacobmjjjillaaGreat
end

section
namespace Hw
open Go
set_option linter.unusedSimpArgs false
set_option linter.unusedVariables false
set_option maxRecDepth 100000

/-- the low k bytes of a number, and zeros up to N -/
def padW (N n k : Nat) : List UInt8 := leb k n ++ List.replicate (N - k) 0
theorem padW_length (N n k : Nat) (h : k ≤ N) : (padW N n k).length = N := by simp [padW, leb_length]; omega
theorem padW_zero (N n : Nat) : padW N n 0 = List.replicate N 0 := by simp [padW, leb]
theorem padW_all (N n : Nat) : padW N n N = leb N n := by simp [padW]
theorem leb_getD (k n i : Nat) (h : i < k) : (leb k n).getD i 0 = UInt8.ofNat (n / 256 ^ i) := by
  rw [List.getD_eq_getElem?_getD, leb_get k n i h]; rfl
theorem ofNat8 {m n : Nat} (h : m % 256 = n % 256) : UInt8.ofNat m = UInt8.ofNat n := by
  apply UInt8.toNat_inj.1
  rw [UInt8.toNat_ofNat', UInt8.toNat_ofNat']; exact h
theorem byte_low (A m k i : Nat) (h : i < k) : (A + 256 ^ k * m) / 256 ^ i % 256 = A / 256 ^ i % 256 := by
  have e : 256 ^ k * m = 256 ^ i * (256 * (256 ^ (k - i - 1) * m)) := by
    rw [← Nat.mul_assoc, ← Nat.mul_assoc, ← Nat.pow_succ, ← Nat.pow_add]
    congr 2; omega
  rw [e, Nat.add_mul_div_left _ _ (Nat.pow_pos dE), Nat.add_mul_mod_self_left]
theorem leb_low (A m k : Nat) : leb k (A + 256 ^ k * m) = leb k A := by
  apply List.ext_getElem?
  intro i
  rcases Nat.lt_or_ge i k with h | h
  · rw [leb_get _ _ i h, leb_get _ _ i h]
    congr 1
    exact ofNat8 (byte_low A m k i h)
  · rw [List.getElem?_eq_none (by rw [leb_length]; exact h), List.getElem?_eq_none (by rw [leb_length]; exact h)]
theorem leb_succ' (k n : Nat) : leb (k + 1) n = leb k n ++ [UInt8.ofNat (n / 256 ^ k)] := by
  apply List.ext_getElem?
  intro i
  rcases Nat.lt_trichotomy i k with h | h | h
  · rw [leb_get _ _ i oM, List.getElem?_append_left (by rw [leb_length]; exact h), leb_get _ _ i h]
  · subst h
    rw [leb_get _ _ i oM, List.getElem?_append_right (by rw [leb_length]; omega), leb_length, Nat.sub_self]; rfl
  · rw [List.getElem?_eq_none (by rw [leb_length]; omega), List.getElem?_eq_none (by simp [leb_length]; omega)]
theorem byteOf_mod (s : Int) : byteOf (s % 256) = byteOf s := by simp [byteOf]
theorem byteOf_nat (n : Nat) : byteOf (n : Int) = UInt8.ofNat n := by
  apply ofNat8
  omega
theorem set_end {α : Type} (l : List α) (x y : α) (r : List α) (k : Nat) (h : l.length = k) : (l ++ x :: r).set k y = l ++ [y] ++ r := by
  subst h; simp
/-- one byte of a sum with a carry -/
theorem padW_step (N A m k : Nat) (hk : k < N) (s : Int) (hs : s = ((A / 256 ^ k + m : Nat) : Int)) :
    (padW N A k).set k (byteOf s) = padW N (A + 256 ^ k * m) (k + 1) := by
  subst hs
  have e : List.replicate (N - k) (0 : UInt8) = 0 :: List.replicate (N - (k + 1)) 0 := by
    rw [show N - k = (N - (k + 1)) + 1 by omega]; rfl
  rw [padW, e, set_end _ _ _ _ _ (leb_length k A), padW, leb_succ', leb_low, Nat.add_mul_div_left _ _ (Nat.pow_pos dE), byteOf_nat]
theorem carry_step (A m k : Nat) (s : Int) (hs : s = ((A / 256 ^ k + m : Nat) : Int)) : s / 256 = (((A + 256 ^ k * m) / 256 ^ (k + 1) : Nat) : Int) := by
  subst hs
  rw [Nat.pow_succ, ← Nat.div_div_eq_div_mul, Nat.add_mul_div_left _ _ (Nat.pow_pos dE)]
  omega
/-- the order of numbers is that of their highest differing bytes -/
theorem le_lt_at {a b : List UInt8} {i : Nat} (ha : a.length = 32) (hb : b.length = 32) (hi : i < 32) (hd : a.drop (i + 1) = b.drop (i + 1)) (hne : (a.getD i 0).toNat ≠ (b.getD i 0).toNat) :
    ((a.getD i 0).toNat < (b.getD i 0).toNat) ↔ le a < le b := by
  have h1 := le_take_drop a (i + 1) oM
  have h2 := le_take_drop b (i + 1) oM
  rw [le_take_succ a i oM] at h1
  rw [le_take_succ b i oM, ← hd] at h2
  have l1 := le_take_lt a i
  have l2 := le_take_lt b i
  generalize 256 ^ (i + 1) * le (a.drop (i + 1)) = X at h1 h2
  generalize hP : 256 ^ i = P at h1 h2 l1 l2
  generalize (a.getD i 0).toNat = x at *
  generalize (b.getD i 0).toNat = y at *
  rw [h1, h2]
  constructor
  · intro h
    have : P * (x + 1) ≤ P * y := Nat.mul_le_mul_left _ h
    rw [Nat.mul_add, Nat.mul_one] at this
    omega
  · intro h
    apply Nat.lt_of_not_le
    intro h'
    have : P * (y + 1) ≤ P * x := Nat.mul_le_mul_left _ oM
    rw [Nat.mul_add, Nat.mul_one] at this
    omega
theorem drop_step {a b : List UInt8} {i : Nat} (ha : a.length = 32) (hb : b.length = 32) (hi : i < 32) (hd : a.drop (i + 1) = b.drop (i + 1)) (he : (a.getD i 0).toNat = (b.getD i 0).toNat) : a.drop i = b.drop i := by
  rw [List.drop_eq_getElem_cons oM, List.drop_eq_getElem_cons (l := b) oM, hd]
  congr 1
  have := UInt8.toNat_inj.1 he
  rw [List.getD_eq_getElem?_getD, List.getD_eq_getElem?_getD, List.getElem?_eq_getElem oM, List.getElem?_eq_getElem oM] at this
  exact this

/-- the borrow of (D + m) - m below byte k -/
def bor (D m k : Nat) : Nat := (D % 256 ^ k + m % 256 ^ k) / 256 ^ k
theorem bor_zero (D m : Nat) : bor D m 0 = 0 := by simp [bor, Nat.mod_one]
theorem mod_succ256 (n k : Nat) : n % 256 ^ (k + 1) = n % 256 ^ k + 256 ^ k * (n / 256 ^ k % 256) := by
  rw [Nat.pow_succ, Nat.mod_mul]
theorem bor_step (D m k : Nat) : bor D m (k + 1) = (D / 256 ^ k % 256 + m / 256 ^ k % 256 + bor D m k) / 256 := by
  unfold bor
  rw [mod_succ256, mod_succ256, Nat.pow_succ, ← Nat.div_div_eq_div_mul]
  have e : D % 256 ^ k + 256 ^ k * (D / 256 ^ k % 256) + (m % 256 ^ k + 256 ^ k * (m / 256 ^ k % 256)) = (D % 256 ^ k + m % 256 ^ k) + 256 ^ k * (D / 256 ^ k % 256 + m / 256 ^ k % 256) := by
    rw [Nat.mul_add]; omega
  rw [e, Nat.add_mul_div_left _ _ (Nat.pow_pos dE), Nat.add_comm (_ / _)]
theorem bor_le (D m k : Nat) : bor D m k ≤ 1 := by
  unfold bor
  have h1 : D % 256 ^ k < 256 ^ k := Nat.mod_lt _ (Nat.pow_pos dE)
  have h2 : m % 256 ^ k < 256 ^ k := Nat.mod_lt _ (Nat.pow_pos dE)
  rw [← Nat.lt_succ_iff, Nat.div_lt_iff_lt_mul (Nat.pow_pos dE)]
  omega
theorem sum_byte (D m k : Nat) : (D + m) / 256 ^ k % 256 = (D / 256 ^ k % 256 + m / 256 ^ k % 256 + bor D m k) % 256 := by
  have e : D + m = (D % 256 ^ k + m % 256 ^ k) + 256 ^ k * (D / 256 ^ k + m / 256 ^ k) := by
    have h1 := Nat.mod_add_div D (256 ^ k)
    have h2 := Nat.mod_add_div m (256 ^ k)
    rw [Nat.mul_add]; omega
  rw [e, Nat.add_mul_div_left _ _ (Nat.pow_pos dE)]
  change (bor D m k + _) % 256 = _
  omega
/-- a difference, its low k bytes done -/
def subB (D m k : Nat) : List UInt8 := leb k D ++ (leb 32 (D + m)).drop k
theorem subB_length (D m k : Nat) (h : k ≤ 32) : (subB D m k).length = 32 := by simp [subB, leb_length]; omega
theorem subB_zero (D m : Nat) : subB D m 0 = leb 32 (D + m) := by simp [subB, leb]
theorem subB_all (D m : Nat) : subB D m 32 = leb 32 D := by simp [subB, leb_length]
theorem subB_get (D m k : Nat) (h : k < 32) : (subB D m k).getD k 0 = UInt8.ofNat ((D + m) / 256 ^ k) := by
  rw [List.getD_eq_getElem?_getD, subB, List.getElem?_append_right (by rw [leb_length]; omega), leb_length, Nat.sub_self, List.getElem?_drop, Nat.add_zero, leb_get _ _ _ h]; rfl
theorem subB_step (D m k : Nat) (h : k < 32) (d : Int) (hd : d = (((D + m) / 256 ^ k % 256 : Nat) : Int) - ((m / 256 ^ k % 256 : Nat) : Int) + -((bor D m k : Nat) : Int)) :
    (subB D m k).set k (byteOf (d + 256)) = subB D m (k + 1) := by
  have e : (leb 32 (D + m)).drop k = UInt8.ofNat ((D + m) / 256 ^ k) :: (leb 32 (D + m)).drop (k + 1) := by
    rw [List.drop_eq_getElem_cons (by rw [leb_length]; omega)]
    congr 1
    have := leb_get 32 (D + m) k h
    rw [List.getElem?_eq_getElem (by rw [leb_length]; omega)] at this
    exact Option.some.inj this
  rw [subB, e, set_end _ _ _ _ _ (leb_length k D), subB, leb_succ' k D]
  congr 2
  have hb := sum_byte D m k
  have hle := bor_le D m k
  generalize bor D m k = c at *
  generalize (D + m) / 256 ^ k % 256 = x at *
  have hm : m / 256 ^ k % 256 < 256 := Nat.mod_lt _ dE
  generalize m / 256 ^ k % 256 = y at *
  rw [show UInt8.ofNat (D / 256 ^ k) = UInt8.ofNat (D / 256 ^ k % 256) from ofNat8 oM]
  have hz : D / 256 ^ k % 256 < 256 := Nat.mod_lt _ dE
  generalize D / 256 ^ k % 256 = z at *
  congr 1
  apply ofNat8
  subst hd
  omega
theorem bor_next (D m k : Nat) (d : Int) (hd : d = (((D + m) / 256 ^ k % 256 : Nat) : Int) - ((m / 256 ^ k % 256 : Nat) : Int) + -((bor D m k : Nat) : Int)) :
    (d < 0 → bor D m (k + 1) = 1) ∧ (¬ d < 0 → bor D m (k + 1) = 0) := by
  rw [bor_step]
  have hb := sum_byte D m k
  have hle := bor_le D m k
  generalize bor D m k = c at *
  generalize (D + m) / 256 ^ k % 256 = x at *
  have hm : m / 256 ^ k % 256 < 256 := Nat.mod_lt _ dE
  generalize m / 256 ^ k % 256 = y at *
  have hz : D / 256 ^ k % 256 < 256 := Nat.mod_lt _ dE
  generalize D / 256 ^ k % 256 = z at *
  subst hd
  omega
theorem ofNat8_toNat (n : Nat) : (UInt8.ofNat n).toNat = n % 256 := by rw [UInt8.toNat_ofNat']
theorem wordOf_id (n : Int) (h : 0 ≤ n ∧ n < 18446744073709551616) : ((wordOf n).toNat : Int) = n := by
  rw [wordOf, UInt64.toNat_ofNat']; omega
theorem zero_set (n : UInt64) (k : Nat) (hk : k < 8) : (padW 32 n.toNat k).set k (shr64 n (8 * k)).toUInt8 = padW 32 n.toNat (k + 1) := by
  have e : List.replicate (32 - k) (0 : UInt8) = 0 :: List.replicate (32 - (k + 1)) 0 := by
    rw [show 32 - k = (32 - (k + 1)) + 1 by omega]; rfl
  rw [padW, e, set_end _ _ _ _ _ (leb_length k _), padW, leb_succ']
  congr 3
  apply UInt8.toNat_inj.1
  rw [UInt64.toNat_toUInt8, shr64_toNat, UInt8.toNat_ofNat', pow256]
theorem pad_small (n : UInt64) : padW 32 n.toNat 8 = leb 32 n.toNat := by
  have h := n.toNat_lt
  apply List.ext_getElem?
  intro i
  rw [padW]
  rcases Nat.lt_or_ge i 8 with hi | hi
  · rw [List.getElem?_append_left (by rw [leb_length]; exact hi), leb_get _ _ _ hi, leb_get _ _ _ oM]
  · rw [List.getElem?_append_right (by rw [leb_length]; exact hi), leb_length]
    rcases Nat.lt_or_ge i 32 with h2 | h2
    · rw [leb_get _ _ _ h2, List.getElem?_replicate, if_pos oM, Nat.div_eq_of_lt]; rfl
      refine Nat.lt_of_lt_of_le h ?_
      rw [pow256]; exact Nat.pow_le_pow_right dE oM
    · rw [List.getElem?_replicate, if_neg oM, List.getElem?_eq_none (by rw [leb_length]; exact h2)]
theorem div_bit (n j : Nat) : n / 2 ^ j = 2 * (n / 2 ^ (j + 1)) + (if n.testBit j then 1 else 0) := by
  rw [Nat.pow_succ, ← Nat.div_div_eq_div_mul, Nat.testBit_eq_decide_div_mod_eq]
  by_cases h : n / 2 ^ j % 2 = 1
  · rw [if_pos (decide_eq_true h)]; omega
  · rw [if_neg (by simpa using h)]; omega
theorem le_one' : le ((List.replicate 32 0).set 0 1) = 1 := by decide
theorem dbl_mod (m : Nat) : (m % L + m % L) % L = (2 * m) % L := by
  rw [← Nat.add_mod, Nat.two_mul]
theorem dbl_mod1 (m : Nat) : ((m % L + m % L) % L + 1) % L = (2 * m + 1) % L := by
  rw [← Nat.add_mod, Nat.mod_add_mod, Nat.two_mul]
theorem le_zero_div (xs : List UInt8) (n : Nat) (h : xs.length = n) : le xs / 2 ^ (8 * n) = 0 := by
  apply Nat.div_eq_of_lt
  rw [← pow256, ← h]; exact le_lt xs
theorem leb_zero32 : leb 32 0 = List.replicate 32 0 := by decide
theorem zero_modL : 0 % L = 0 := Nat.zero_mod L
theorem mod_bit (n k : Nat) : n % 2 ^ (k + 1) = n % 2 ^ k + (if n.testBit k then 2 ^ k else 0) := by
  rw [Nat.pow_succ, Nat.mod_mul, Nat.testBit_eq_decide_div_mod_eq]
  by_cases h : n / 2 ^ k % 2 = 1
  · rw [if_pos (decide_eq_true h), h, Nat.mul_one]
  · rw [if_neg (by simpa using h), show n / 2 ^ k % 2 = 0 by omega, Nat.mul_zero]
end Hw
end

section
namespace Ed
open Hw Go
set_option linter.unusedVariables false

def BB : Nat := 115792089237316195423570985008687907853269984665640564039457584007913129639936
def pk (x y z t : Nat) : Nat := (x + BB * (y + BB * (z + BB * t))) + 1
def ux (s : Nat) : Nat := (s - 1) % BB
def uy (s : Nat) : Nat := (s - 1) / BB % BB
def uz (s : Nat) : Nat := (s - 1) / BB / BB % BB
def ut (s : Nat) : Nat := (s - 1) / BB / BB / BB
def wdN (s : Nat) : Wd Fp := ⟨fe (ux s), fe (uy s), fe (uz s), fe (ut s)⟩
def subN (a b : Nat) : Nat := (a + (PF - b % PF)) % PF
def finN (e f g h : Nat) : Nat := pk (e * f % PF) (g * h % PF) (f * g % PF) (e * h % PF)
def dblN (s : Nat) : Nat :=
  finN (subN (ux s * ux s + uy s * uy s) ((ux s + uy s) * (ux s + uy s))) ((uz s * uz s + uz s * uz s + subN (ux s * ux s) (uy s * uy s)) % PF) (subN (ux s * ux s) (uy s * uy s)) ((ux s * ux s + uy s * uy s) % PF)
def twoDN : Nat := 2 * fD.val
def addN (s p : Nat) : Nat :=
  finN (subN ((uy s + ux s) * (uy p + ux p)) (subN (uy s) (ux s) * subN (uy p) (ux p))) (subN (uz s * uz p + uz s * uz p) (ut s * twoDN % PF * ut p)) ((uz s * uz p + uz s * uz p + ut s * twoDN % PF * ut p) % PF) (((uy s + ux s) * (uy p + ux p) + subN (uy s) (ux s) * subN (uy p) (ux p)) % PF)
theorem fe_neg (n : Nat) : fe (PF - n % PF) = - fe n := by
  have h : fe (PF - n % PF) + fe n = 0 := by
    rw [← fe_add]
    refine Fin.ext ?_
    rw [fe_val]
    show _ = 0
    have h1 : n % PF < PF := Nat.mod_lt _ dE
    have e : (PF - n % PF + n) = PF * (n / PF + 1) := by
      have := Nat.mod_add_div n PF
      rw [Nat.mul_add, Nat.mul_one]
      generalize PF * (n / PF) = q at *
      omega
    rw [e, Nat.mul_mod_right]
  grind
theorem fe_subN (a b : Nat) : fe (subN a b) = fe a - fe b := by
  rw [subN, fe_mod, fe_add, fe_neg]; grind
theorem pk_lt (e : Nat) : e % PF < BB := Nat.lt_trans (Nat.mod_lt _ dE) dE
theorem wd_pk (x y z t : Nat) (hx : x < BB) (hy : y < BB) (hz : z < BB) : wdN (pk x y z t) = ⟨fe x, fe y, fe z, fe t⟩ := by
  have e1 : ux (pk x y z t) = x := by
    rw [ux, pk, Nat.add_sub_cancel, Nat.add_mul_mod_self_left, Nat.mod_eq_of_lt hx]
  have d1 : (pk x y z t - 1) / BB = y + BB * (z + BB * t) := by
    rw [pk, Nat.add_sub_cancel, Nat.add_mul_div_left _ _ dE, Nat.div_eq_of_lt hx, Nat.zero_add]
  have d2 : (pk x y z t - 1) / BB / BB = z + BB * t := by
    rw [d1, Nat.add_mul_div_left _ _ dE, Nat.div_eq_of_lt hy, Nat.zero_add]
  have e2 : uy (pk x y z t) = y := by rw [uy, d1, Nat.add_mul_mod_self_left, Nat.mod_eq_of_lt hy]
  have e3 : uz (pk x y z t) = z := by rw [uz, d2, Nat.add_mul_mod_self_left, Nat.mod_eq_of_lt hz]
  have e4 : ut (pk x y z t) = t := by rw [ut, d2, Nat.add_mul_div_left _ _ dE, Nat.div_eq_of_lt hz, Nat.zero_add]
  rw [wdN, e1, e2, e3, e4]
theorem wd_fin (e f g h : Nat) : wdN (finN e f g h) = Wd.fin (fe e) (fe f) (fe g) (fe h) := by
  rw [finN, wd_pk _ _ _ _ (pk_lt _) (pk_lt _) (pk_lt _)]
  simp only [Wd.fin, fe_mod, fe_mul]
theorem wd_dbl (s : Nat) : wdN (dblN s) = Wd.dbl (wdN s) := by
  rw [dblN, wd_fin]
  simp only [Wd.dbl, wdN, fe_subN, fe_mod, fe_add, fe_mul]
theorem fe_twoD : fe twoDN = fD + fD := by
  rw [twoDN, Nat.two_mul, fe_add, fe_of]
theorem wd_add (s p : Nat) : wdN (addN s p) = Wd.add fD (wdN s) (wdN p) := by
  rw [addN, wd_fin]
  simp only [Wd.add, wdN, fe_subN, fe_mod, fe_add, fe_mul, fe_twoD]
def force (s : Nat) (f : Nat → Nat) : Nat := Nat.casesOn (motive := fun _ => Nat) s (f 0) (fun m => f (m + 1))
theorem force_eq (s : Nat) (f : Nat → Nat) : force s f = f s := by cases s <;> rfl
def stepN (p : Nat) (s : Nat) (b : Bool) : Nat := force s fun s => bif b then addN (dblN s) p else dblN s
def loopN (p : Nat) (bs : List Bool) (s : Nat) : Nat := bs.foldl (stepN p) s
theorem stepN_t (p s : Nat) : stepN p s true = addN (dblN s) p := by rw [stepN, force_eq]; rfl
theorem stepN_f (p s : Nat) : stepN p s false = dblN s := by rw [stepN, force_eq]; rfl
theorem loopN_eq (p : Nat) (bs : List Bool) : ∀ s : Nat, wdN (loopN p bs s) = mulW fD (wdN p) bs (wdN s) := by
  induction bs with
  | nil => intro s; rfl
  | cons b bs ih =>
    intro s
    rw [loopN, List.foldl_cons, ← loopN, ih]
    cases b
    · rw [stepN_f, wd_dbl, mulW_f]
    · rw [stepN_t, wd_add, wd_dbl, mulW_t]
/-- the base point, packed -/
def bN : Nat := pk bP.x.val bP.y.val 1 (bP.x * bP.y).val
theorem bN_wd : wdN bN = Wd.of bP := by
  rw [bN, wd_pk _ _ _ _ (Nat.lt_trans bP.x.isLt dE) (Nat.lt_trans bP.y.isLt dE) dE, fe_of, fe_of, fe_of]
  rfl
def zN : Nat := pk 0 1 1 0
theorem zN_wd : wdN zN = Wd.of zero := by
  rw [zN, wd_pk _ _ _ _ dE dE dE]
  have e : (Wd.of zero : Wd Fp) = ⟨0, 1, 1, 0 * 1⟩ := rfl
  rw [e]
  have h : (0 : Fp) * 1 = 0 := by kernel_rfl
  rw [h]; rfl
/-- n times the base point, packed -/
def fastN (n : Nat) : Nat := loopN bN (toBits 256 n) zN
theorem fastN_rep {n : Nat} (hn : n < 2 ^ 256) : (wdN (fastN n)).rep (cv.mul n bP) := by
  have h0 : (wdN zN).rep (cv.mul 0 bP) := by rw [zN_wd]; exact cv.rep_of zero
  have h := cv.mulW_rep bP_on (cv.rep_of bP) (toBits 256 n) (wdN zN) 0 h0
  rw [toBits_v, Nat.zero_mul, Nat.zero_add, Nat.mod_eq_of_lt hn] at h
  have e : wdN (fastN n) = mulW cv.d (Wd.of bP) (toBits 256 n) (wdN zN) := by
    rw [fastN, loopN_eq, bN_wd]; rfl
  rw [e]; exact h
theorem order_x : ux (fastN L) % PF = 0 := by kernel_rfl
theorem order_y : uy (fastN L) = uz (fastN L) := by kernel_rfl
theorem bP_order : cv.mul L bP = zero := by
  have h := fastN_rep (n := L) dE
  have h1 : fe (ux (fastN L)) = (cv.mul L bP).x * fe (uz (fastN L)) := h.x
  have h2 : fe (uy (fastN L)) = (cv.mul L bP).y * fe (uz (fastN L)) := h.y
  have h3 : fe (uz (fastN L)) ≠ 0 := h.z
  have hx : fe (ux (fastN L)) = 0 := Fin.ext order_x
  rw [hx] at h1
  rw [order_y] at h2
  generalize fe (uz (fastN L)) = z at *
  generalize cv.mul L bP = Q at *
  obtain ⟨x, y⟩ := Q
  simp only at h1 h2
  have e1 : x = 0 := by
    rcases cv.zero_or h1.symm with e | e
    · exact e
    · exact absurd e h3
  have e2 : y = 1 := by
    refine cv.cancel h3 ?_
    have e3 : z * y = y * z := by grind
    have e4 : z * 1 = z := by grind
    rw [e3, e4]; exact h2.symm
  rw [e1, e2]; rfl
theorem fp_cases {a : Fp} (h : a * a = 1) : a = 1 ∨ a = -1 := by
  have h1 : (a - 1) * (a + 1) = 0 := by grind
  rcases cv.zero_or h1 with e | e
  · exact .inl (by grind)
  · exact .inr (by grind)
theorem sq_cases {a b : Fp} (h : a * a = b * b) : a = b ∨ a = -b := by
  have h1 : (a - b) * (a + b) = 0 := by grind
  rcases cv.zero_or h1 with e | e
  · exact .inl (by grind)
  · exact .inr (by grind)
def unit2 : Fp := fpow (fe 2) ((PF - 1) / 4)
theorem unit2_sq : unit2 * unit2 = -1 := by kernel_rfl
theorem fpow_one' (a : Fp) : fpow a 1 = a := by
  rw [show (1 : Nat) = 0 + 1 from rfl, fpow_succ dE, fpow_zero]; grind
theorem fpow_sq2 (x : Fp) : x * x = fpow x 2 := by
  rw [show (2 : Nat) = 2 * 1 from rfl, fpow_two dE, fpow_one']
theorem root_pow (x : Fp) : fpow (x * x) ((PF + 3) / 8) * fpow (x * x) ((PF + 3) / 8) = x * x * fpow x ((PF - 1) / 2) := by
  rw [← fpow_two dE, fpow_sq2, fpow_mul dE dE dE, ← fpow_add dE]
  rfl
theorem half_cases {x : Fp} (h : x ≠ 0) : fpow x ((PF - 1) / 2) = 1 ∨ fpow x ((PF - 1) / 2) = -1 := by
  refine fp_cases ?_
  rw [← fpow_two dE]
  exact ferm h
theorem fRoot1_sq (x : Fp) : fRoot1 (x * x) * fRoot1 (x * x) = x * x := by
  have h0 := root_pow x
  have hu := unit2_sq
  unfold fRoot1
  change (if fpow (x * x) ((PF + 3) / 8) * fpow (x * x) ((PF + 3) / 8) = x * x then fpow (x * x) ((PF + 3) / 8) else fpow (x * x) ((PF + 3) / 8) * unit2) * (if fpow (x * x) ((PF + 3) / 8) * fpow (x * x) ((PF + 3) / 8) = x * x then fpow (x * x) ((PF + 3) / 8) else fpow (x * x) ((PF + 3) / 8) * unit2) = x * x
  have hc : fpow (x * x) ((PF + 3) / 8) * fpow (x * x) ((PF + 3) / 8) = x * x ∨ fpow (x * x) ((PF + 3) / 8) * fpow (x * x) ((PF + 3) / 8) = -(x * x) := by
    by_cases hx : x = 0
    · left
      rw [h0, hx]; grind
    · rcases half_cases hx with e | e
      · left; rw [h0, e]; grind
      · right; rw [h0, e]; grind
  revert hc
  generalize fpow (x * x) ((PF + 3) / 8) = r
  generalize unit2 = u at *
  intro hc
  clear h0
  by_cases h1 : r * r = x * x
  · rw [if_pos h1]; exact h1
  · rw [if_neg h1]
    rcases hc with e | e
    · exact absurd e h1
    · have : r * u * (r * u) = r * r * (u * u) := by grind
      rw [this, e, hu]; grind
theorem val_neg {x : Fp} (h : x ≠ 0) : (-x).val + x.val = PF := by
  have h1 : fe ((-x).val + x.val) = 0 := by
    rw [fe_add, fe_of, fe_of]; grind
  have h2 : ((-x).val + x.val) % PF = 0 := congrArg Fin.val h1
  have h3 := (-x).isLt
  have h4 := x.isLt
  have h5 : x.val ≠ 0 := fun e => h (Fin.ext e)
  have h6 : PF ∣ (-x).val + x.val := Nat.dvd_of_mod_eq_zero h2
  obtain ⟨k, hk⟩ := h6
  generalize (-x).val = a at *
  generalize x.val = b at *
  clear h h1 h2
  have hP : 0 < PF := by decide
  generalize PF = q at *
  have h7 : k = 1 := by
    rcases Nat.lt_or_ge k 1 with h | h
    · obtain rfl : k = 0 := by omega
      rw [Nat.mul_zero] at hk; omega
    · rcases Nat.lt_or_ge 1 k with h9 | h9
      · have : q * 2 ≤ q * k := Nat.mul_le_mul_left _ h9
        omega
      · omega
  rw [h7, Nat.mul_one] at hk
  exact hk
theorem neg_neg' (x : Fp) : - -x = x := by grind
/-- the even one of x and -x -/
theorem fRoot_eq (x : Fp) : fRoot (x * x) = ((if x.val % 2 = 1 then -x else x), true) := by
  have h1 := fRoot1_sq x
  have h2 := sq_cases h1
  unfold fRoot
  generalize fRoot1 (x * x) = r at *
  rw [if_pos h1]
  congr 1
  by_cases hx : x = 0
  · have : r = 0 := by rcases h2 with e | e <;> rw [e, hx] <;> grind
    rw [this, hx]
  · have hv := val_neg hx
    have hodd : PF % 2 = 1 := by decide
    rcases h2 with e | e
    · rw [e]
    · rw [e]
      have hn : -x ≠ 0 := fun e2 => hx (by grind)
      by_cases h3 : x.val % 2 = 1
      · rw [if_pos h3, if_neg oM]
      · rw [if_neg h3, if_pos oM, neg_neg']
theorem on_xsq {x y : Fp} (h : cv.on ⟨x, y⟩) : (y * y - 1) * finv (fD * (y * y) + 1) = x * x := by
  have h1 := finv_mul (cv.below_ne y)
  have h2 := (cv.on_iff ⟨x, y⟩).1 h
  have h3 : y * y - x * x = 1 + fD * (x * x * (y * y)) := h2
  have h4 : (cv.d * (y * y) + 1) * finv (cv.d * (y * y) + 1) = 1 := h1
  change (fD * (y * y) + 1) * finv (fD * (y * y) + 1) = 1 at h4
  generalize finv (fD * (y * y) + 1) = u at *
  generalize fD = d at *
  have h5 : y * y - 1 = x * x * (d * (y * y) + 1) := by grind
  rw [h5]
  have : x * x * (d * (y * y) + 1) * u = x * x * ((d * (y * y) + 1) * u) := by grind
  rw [this, h4]; grind
theorem xOf_eq {x y : Fp} (h : cv.on ⟨x, y⟩) : xOf y = ((if x.val % 2 = 1 then -x else x), true) := by
  rw [xOf, on_xsq h, fRoot_eq]
theorem fb_top (x : Fp) : ((fb x).getD 31 0).toNat < 128 := by
  have h : (fb x).getD 31 0 = UInt8.ofNat (x.val / 256 ^ 31) := leb_getD 32 x.val 31 dE
  have h1 := x.isLt
  have h2 : x.val / 256 ^ 31 < 128 := by
    rw [Nat.div_lt_iff_lt_mul dE]
    exact Nat.lt_of_lt_of_le h1 dE
  rw [h, UInt8.toNat_ofNat']
  omega
theorem byte_clear : ∀ b : UInt8, b.toNat < 128 → (b &&& 127) = b ∧ ((b ||| 128) &&& 127) = b ∧ (b &&& 128) = 0 ∧ ((b ||| 128) &&& 128) = 128 := by
  intro b hb
  have h : ∀ n, n < 128 → ((UInt8.ofNat n) &&& 127) = UInt8.ofNat n ∧ ((UInt8.ofNat n ||| 128) &&& 127) = UInt8.ofNat n ∧ (UInt8.ofNat n &&& 128) = 0 ∧ ((UInt8.ofNat n ||| 128) &&& 128) = 128 := by decide
  have h2 := h b.toNat hb
  rwa [UInt8.ofNat_toNat] at h2
theorem set_same (l : List UInt8) (i : Nat) (hi : i < l.length) : l.set i (l.getD i 0) = l := by
  apply List.ext_getElem sP
  intro j h1 h2
  rw [List.getElem_set]
  split
  · rename_i e
    subst e
    rw [List.getD_eq_getElem?_getD, List.getElem?_eq_getElem hi]; rfl
  · rfl
theorem getD_set (l : List UInt8) (i : Nat) (v : UInt8) (hi : i < l.length) : (l.set i v).getD i 0 = v := by
  rw [List.getD_eq_getElem?_getD, List.getElem?_set_self hi, Option.getD_some]
theorem lowB_pb (P : Pt Fp) : lowB (pb P) = fb P.y := by
  have h := byte_clear _ (fb_top P.y)
  have hl := fb_length P.y
  unfold lowB pb
  split
  · rw [getD_set _ _ _ oM, h.2.1, List.set_set, set_same _ _ oM]
  · rw [h.1, set_same _ _ oM]
theorem topB_pb (P : Pt Fp) : topB (pb P) = decide (P.x.val % 2 = 1) := by
  have h := byte_clear _ (fb_top P.y)
  have hl := fb_length P.y
  unfold topB pb
  split
  · rename_i e
    rw [getD_set _ _ _ oM, h.2.2.2, decide_eq_true e]; rfl
  · rename_i e
    rw [h.2.2.1, decide_eq_false e]; rfl
theorem rdP_pb {P : Pt Fp} (h : cv.on P) : rdP (pb P) = some P := by
  obtain ⟨x, y⟩ := P
  have hx := xOf_eq h
  unfold rdP
  rw [lowB_pb, topB_pb, fe_fb, if_pos rfl, hx]
  simp only
  by_cases h1 : x.val % 2 = 1
  · have hx0 : x ≠ 0 := fun e => by rw [e] at h1; revert h1; decide
    have hn : -x ≠ 0 := fun e2 => hx0 (by grind)
    rw [if_pos h1, if_pos ⟨trivial, fun e => hn e.2⟩, if_pos (decide_eq_true h1), neg_neg']
  · rw [if_neg h1, if_pos ⟨trivial, fun e => h1 (of_decide_eq_true e.1)⟩, if_neg (fun e => h1 (of_decide_eq_true e))]
end Ed
end

section
namespace Go.Proofs.YtpacobmjjjillaaGreat
open Go Hw Ed
set_option linter.unusedVariables false
set_option maxRecDepth 100000
theorem sgK_read (s : List UInt8) : rdP (sgK s) = some (cv.mul (le (clampB (s.take 32))) bP) := rdP_pb (cv.on_mul bP_on _)
theorem sgF_read (s : List UInt8) : rdP (sgF s) = some (cv.mul (le (sgR s)) bP) := rdP_pb (cv.on_mul bP_on _)
theorem sgS_lt (s s1 s2 : List UInt8) : le (sgS s s1 s2) < L := by
  have h := Nat.mod_lt (le (sgR s2) * le (clampB (s.take 32)) + le (sgR s1)) L_pos
  rw [sgS, le_leb32 (Nat.lt_trans h L_lt)]; exact h
theorem sgS_eq (s s1 s2 : List UInt8) : le (sgS s s1 s2) = (le (sgR s2) * le (clampB (s.take 32)) + le (sgR s1)) % L := by
  have h := Nat.mod_lt (le (sgR s2) * le (clampB (s.take 32)) + le (sgR s1)) L_pos
  rw [sgS, le_leb32 (Nat.lt_trans h L_lt)]
theorem lin_self (k n r : Nat) : cv.lin ((k * n + r) % L) k bP (neg (cv.mul n bP)) = cv.mul r bP := by
  have hn := cv.on_mul bP_on n
  have hk := cv.on_mul hn k
  have hr := cv.on_mul bP_on r
  rw [Cv.lin, cv.mul_order bP_on bP_order, Nat.add_comm, cv.mul_add bP_on, cv.mul_mul bP_on, cv.mul_neg hn, cv.add_assoc hr hk (cv.on_neg hk), cv.add_neg hk, cv.add_zero]
theorem sg_take (s s1 s2 : List UInt8) : (sgF s1 ++ sgS s s1 s2).take 32 = sgF s1 := by
  rw [List.take_left' (sgF_length s1)]
theorem sg_drop (s s1 s2 : List UInt8) : (sgF s1 ++ sgS s s1 s2).drop 32 = sgS s s1 s2 := by
  rw [List.drop_left' (sgF_length s1)]
theorem good_self (s s1 bb : List UInt8) {s2 : List UInt8} (h : sha512 (sgF s1 ++ (sgK s ++ bb)) = s2) : goodB (sgK s) bb (sgF s1 ++ sgS s s1 s2) = true := by
  unfold goodB
  simp only [decide_eq_true_eq]
  rw [sg_take, sg_drop, h]
  refine ⟨sgS_lt s s1 s2, _, _, sgK_read s, sgF_read s1, ?_⟩
  rw [sgS_eq]
  exact lin_self _ _ _
end Go.Proofs.YtpacobmjjjillaaGreat
end

section
namespace Go.Proofs.YtpacobmjjjillaaGreat
open Go Hw
set_option linter.unusedVariables false
set_option linter.unusedSimpArgs false

open Ed

theorem own_bytes {W : World} {q n c : Nat} {l : List UInt8} (hs : SeesP W (some ⟨q, 0, none⟩) (bytesV l)) (hl : l.length = n) (hc : n ≤ c) (hm : n ≤ maxLen) : BytesAt W ⟨some ⟨q, 0, none⟩, n, c⟩ l := ⟨hl, hc, hs, hm, fun e => by cases e⟩
end Go.Proofs.YtpacobmjjjillaaGreat
end

section
namespace Hw
open Go Go.RowKit
set_option linter.unusedSimpArgs false
set_option linter.unusedVariables false

/-- words as the program holds them -/
def wdsV (w : List Nat) : List Value := intsV (w.map Int.ofNat)
theorem wdsV_length (w : List Nat) : (wdsV w).length = w.length := by simp [wdsV, intsV]
theorem get_wds {w : List Nat} {o : Nat} (h : o < w.length) : (wdsV w)[o]? = some (i64 ((w.getD o 0 : Nat) : Int)) := by
  rw [wdsV, get_ints (by simpa using h)]
  congr 2
  rw [List.getD_eq_getElem?_getD, List.getD_eq_getElem?_getD, List.getElem?_map, List.getElem?_eq_getElem h]
  rfl
theorem set_wds (w : List Nat) (o v : Nat) : (wdsV w).set o (i64 (v : Int)) = wdsV (w.set o v) := by
  simp [wdsV, intsV, List.map_set]
theorem wdsV_cell (w : List Nat) : ∀ u ∈ wdsV w, isCell u = true := by
  intro u hu
  simp only [wdsV, intsV, List.mem_map] at hu
  obtain ⟨x, _, rfl⟩ := hu
  rfl
section
variable {C : Cx} {ops : Array Oper} {rest : List (Nat × Oper)} {sl : List (Nat × Value)} {hp : List Blk} {Q : St → Prop} {c d : Nat} {ty : TypeId} {pos : String} {af : Array Edge} {g : Option (Nat × Bool)}
variable {xT yT : TypeId} {x y : Operand}
theorem Tr.addN (a b : Nat) (hg : guardOk ops sl g = true) (hk : okD c d C.N = true) (hx : evIn sl x = some (i64 (a : Int))) (hy : evIn sl y = some (i64 (b : Int))) (hr : a + b ≤ 9223372036854775807)
    (k : Tr C ops rest ⟨(d, i64 ((a + b : Nat) : Int)) :: sl, hp⟩ Q) : Tr C ops ((c, ⟨some d, .binOp .add xT x y yT, ty, pos, af, g⟩) :: rest) ⟨sl, hp⟩ Q := by
  refine .add_i64 hg hk hx hy oM ?_
  rwa [show ((a : Int) + b) = ((a + b : Nat) : Int) by omega]
theorem Tr.subN (a b : Nat) (hg : guardOk ops sl g = true) (hk : okD c d C.N = true) (hx : evIn sl x = some (i64 (a : Int))) (hy : evIn sl y = some (i64 (b : Int))) (hr : b ≤ a ∧ a ≤ 9223372036854775807)
    (k : Tr C ops rest ⟨(d, i64 ((a - b : Nat) : Int)) :: sl, hp⟩ Q) : Tr C ops ((c, ⟨some d, .binOp .sub xT x y yT, ty, pos, af, g⟩) :: rest) ⟨sl, hp⟩ Q := by
  refine .sub_i64 hg hk hx hy oM ?_
  rwa [show ((a : Int) - b) = ((a - b : Nat) : Int) by omega]
theorem Tr.mulN (a b : Nat) (hg : guardOk ops sl g = true) (hk : okD c d C.N = true) (hx : evIn sl x = some (i64 (a : Int))) (hy : evIn sl y = some (i64 (b : Int))) (hr : a * b ≤ 9223372036854775807)
    (k : Tr C ops rest ⟨(d, i64 ((a * b : Nat) : Int)) :: sl, hp⟩ Q) : Tr C ops ((c, ⟨some d, .binOp .mul xT x y yT, ty, pos, af, g⟩) :: rest) ⟨sl, hp⟩ Q := by
  have e : ((a : Int) * b) = ((a * b : Nat) : Int) := (Int.natCast_mul a b).symm
  refine .mul_i64 hg hk hx hy (by rw [e]; omega) ?_
  rwa [e]
theorem Tr.remN (a b : Nat) (hg : guardOk ops sl g = true) (hk : okD c d C.N = true) (hx : evIn sl x = some (i64 (a : Int))) (hy : evIn sl y = some (i64 (b : Int))) (hr : 1 ≤ b)
    (k : Tr C ops rest ⟨(d, i64 ((a % b : Nat) : Int)) :: sl, hp⟩ Q) : Tr C ops ((c, ⟨some d, .binOp .rem xT x y yT, ty, pos, af, g⟩) :: rest) ⟨sl, hp⟩ Q := by
  refine .rem_i64 hg hk hx hy oM ?_
  rwa [show ((a : Int) % b) = ((a % b : Nat) : Int) from rfl]
theorem Tr.quoN (a b : Nat) (hg : guardOk ops sl g = true) (hk : okD c d C.N = true) (hx : evIn sl x = some (i64 (a : Int))) (hy : evIn sl y = some (i64 (b : Int))) (hr : 1 ≤ b ∧ a ≤ 9223372036854775807)
    (k : Tr C ops rest ⟨(d, i64 ((a / b : Nat) : Int)) :: sl, hp⟩ Q) : Tr C ops ((c, ⟨some d, .binOp .quo xT x y yT, ty, pos, af, g⟩) :: rest) ⟨sl, hp⟩ Q := by
  refine .quo_i64 hg hk hx hy oM ?_
  rwa [show ((a : Int) / b) = ((a / b : Nat) : Int) from rfl]
theorem Tr.shrN (a n : Nat) {ky : IntKind} {b : Int} (hg : guardOk ops sl g = true) (hk : okD c d C.N = true) (hx : evIn sl x = some (i64 (a : Int))) (hy : evIn sl y = some (.int ky b)) (hn : b = n) (hr : n ≤ 64)
    (k : Tr C ops rest ⟨(d, i64 ((a / 2 ^ n : Nat) : Int)) :: sl, hp⟩ Q) : Tr C ops ((c, ⟨some d, .binOp .shr xT x y yT, ty, pos, af, g⟩) :: rest) ⟨sl, hp⟩ Q :=
  .bin hg hk hx hy (fun w => by
    subst hn
    simp only [binOp, Op.shift, IntKind.bits]
    rw [if_neg oM, Int.toNat_natCast, Nat.min_eq_left hr]
    have e : ((2 : Int) ^ n) = ((2 ^ n : Nat) : Int) := by simp
    rw [e, Int.fdiv_eq_ediv_of_nonneg _ (Int.natCast_nonneg _)]
    rfl) k
theorem Tr.shlN (a n : Nat) {ky : IntKind} {b : Int} (hg : guardOk ops sl g = true) (hk : okD c d C.N = true) (hx : evIn sl x = some (i64 (a : Int))) (hy : evIn sl y = some (.int ky b)) (hn : b = n) (hn2 : n ≤ 64) (hr : a * 2 ^ n ≤ 9223372036854775807)
    (k : Tr C ops rest ⟨(d, i64 ((a * 2 ^ n : Nat) : Int)) :: sl, hp⟩ Q) : Tr C ops ((c, ⟨some d, .binOp .shl xT x y yT, ty, pos, af, g⟩) :: rest) ⟨sl, hp⟩ Q :=
  .bin hg hk hx hy (fun w => by
    subst hn
    simp only [binOp, Op.shift, IntKind.bits]
    rw [if_neg oM, Int.toNat_natCast, Nat.min_eq_left hn2]
    have e : ((a : Int) * 2 ^ n) = ((a * 2 ^ n : Nat) : Int) := by simp
    rw [e, i64_wrap oM]; rfl) k
theorem Tr.quo_u8 {p : UInt8} {b : Int} (hg : guardOk ops sl g = true) (hk : okD c d C.N = true) (hx : evIn sl x = some (u8 p)) (hy : evIn sl y = some (.int .u8 b)) (n : Nat) (hn : b = n) (h0 : 0 < n)
    (k : Tr C ops rest ⟨(d, u8 (UInt8.ofNat (p.toNat / n))) :: sl, hp⟩ Q) : Tr C ops ((c, ⟨some d, .binOp .quo xT x y yT, ty, pos, af, g⟩) :: rest) ⟨sl, hp⟩ Q :=
  .bin hg hk hx hy (fun w => by
    subst hn
    simp [binOp, Op.intDiv, show ¬ n = 0 by omega]
    exact IntKind.wrap_u8 _) k
end
end Hw
end

section
namespace Go.Proofs.YtpacobmjjjillaaGreat
open Go Hw
set_option linter.unusedVariables false
set_option linter.unusedSimpArgs false

theorem rolW_64 (x : UInt64) (n : Nat) (h : n ≤ 64) : shr64 x n ||| shl64 x (64 - n) = rolW x (64 - n) := by
  rw [rolW, show 64 - (64 - n) = n by omega, UInt64.or_comm]
theorem W8.of_l {st : List UInt64} (h : st.length = 8) : (W8.of st).l = st := by
  match st, h with
  | [a, b, c, d, e, f, g, i], _ => rfl
theorem addUp_gets (st xs : List UInt64) : ∀ i j, i ≤ st.length → j < st.length → (addUp st xs i).getD j 0 = if j < i then st.getD j 0 + xs.getD j 0 else st.getD j 0
  | 0, j, _, hj => by rw [if_neg oM]; rfl
  | i + 1, j, hi, hj => by
    have hl := addUp_length st xs i
    rw [addUp, List.getD_eq_getElem?_getD, List.getElem?_set]
    split
    · rename_i e
      subst e
      rw [if_pos oM, if_pos oM, Option.getD_some, addUp_get st xs i i (Nat.le_refl _)]
    · rename_i e
      rw [← List.getD_eq_getElem?_getD, addUp_gets st xs i j oM hj]
      by_cases h : j < i
      · rw [if_pos h, if_pos oM]
      · rw [if_neg h, if_neg oM]
theorem addUp_comm {st xs : List UInt64} (h : st.length = 8) (hx : xs.length = 8) : addUp xs st 8 = addUp st xs 8 := by
  have h1 := addUp_length xs st 8
  have h2 := addUp_length st xs 8
  apply List.ext_getElem oM
  intro j ha hb
  have e1 := addUp_gets xs st 8 j oM oM
  have e2 := addUp_gets st xs 8 j oM oM
  rw [if_pos oM] at e1 e2
  rw [List.getD_eq_getElem?_getD, List.getElem?_eq_getElem ha, Option.getD_some] at e1
  rw [List.getD_eq_getElem?_getD, List.getElem?_eq_getElem hb, Option.getD_some] at e2
  rw [e1, e2, UInt64.add_comm]
/-- the words of a piece, one by one -/
def schT (p : List UInt8) (A : List UInt64) (t : Nat) : List UInt64 := if t ≤ 16 then schA p (8 * t) else schB A (t - 16)
theorem schT_lo {p : List UInt8} {A : List UInt64} {t : Nat} (h : t ≤ 16) : schT p A t = schA p (8 * t) := if_pos h
theorem schT_hi {p : List UInt8} {A : List UInt64} {t : Nat} (hA : schA p 128 = A) (h : 16 ≤ t) : schT p A t = schB A (t - 16) := by
  unfold schT
  split
  · obtain rfl : t = 16 := by omega
    exact hA
  · rfl
theorem schT_step {p : List UInt8} {A : List UInt64} {j : Nat} (hA : schA p 128 = A) : schT p A (16 + j + 1) = (schB A j).set (16 + j) ((schB A j).getD j 0 + sig0 ((schB A j).getD (j + 1) 0) + (schB A j).getD (j + 9) 0 + sig1 ((schB A j).getD (j + 14) 0)) := by
  rw [schT_hi hA oM, show 16 + j + 1 - 16 = j + 1 by omega]; rfl
theorem schA_step (p : List UInt8) (t i : Nat) (hi : i < 8) : schA p (8 * t + (i + 1)) = (schA p (8 * t + i)).set t (shl64 ((schA p (8 * t + i)).getD t 0) 8 ||| (p.getD (8 * t + i) 0).toUInt64) := by
  have e : (8 * t + i) / 8 = t := by omega
  show schA p ((8 * t + i) + 1) = _
  rw [schA, e]

theorem r2_K (k : List UInt64) (hk : Hid (kW = k)) : Meets Tryz.prog 239 [] [] (fun _ => True) (fun v out => v = agg (wordsV k) ∧ out = []) := by
 intro W hW
 rw [← hk.out]
 refine calls_of (hp0 := []) Tryz.func239 J 2 Tryz.ntmps239 J (HRep.nil _) (Sat.seq (Sat.region (Tr.alloc (cs := (wordsV (List.replicate 80 0))) J Zr209 J ?_)))
 intro n0 hn0 hf0
 refine Tr.nil (at_n (Sat.seq (Sat.region (Tr.build (cs := wordsV kW) J J J (fun w => by kernel_rfl) ?_))))
 refine Tr.storeAll J J J J zB Sz209 (by (simp [kW]; done)) Z0 sP zU ?_
 refine Tr.nil (at_n (Sat.ret (en_r ?_)))
 refine ⟨_, [], res_cell J J Y209 J Sz209 Z0 (by simp [kW]), sP, sP, ?_, rfl⟩
 rfl

theorem r2_Start (k : List UInt64) (hk : Hid (startW = k)) : Meets Tryz.prog 208 [] [] (fun _ => True) (fun v out => v = agg (wordsV k) ∧ out = []) := by
 intro W hW
 rw [← hk.out]
 refine calls_of (hp0 := []) Tryz.func208 J 2 Tryz.ntmps208 J (HRep.nil _) (Sat.seq (Sat.region (Tr.alloc (cs := (wordsV (List.replicate 8 0))) J Zr135 J ?_)))
 intro n0 hn0 hf0
 refine Tr.nil (at_n (Sat.seq (Sat.region (Tr.build (cs := wordsV startW) J J J (fun w => by kernel_rfl) ?_))))
 refine Tr.storeAll J J J J zB Sz135 (by (simp [startW]; done)) Z0 sP zU ?_
 refine Tr.nil (at_n (Sat.ret (en_r ?_)))
 refine ⟨_, [], res_cell J J Y135 J Sz135 Z0 (by simp [startW]), sP, sP, ?_, rfl⟩
 rfl

theorem r2_rot (x : UInt64) (n : Nat) (hn : n ≤ 63) : Meets Tryz.prog 240 [u64 x, i64 (n : Int)] [] (fun _ => True) (fun v out => v = u64 (rolW x (64 - n)) ∧ out = []) := by
 intro W hW
 refine calls_of (hp0 := []) Tryz.func240 J 15 Tryz.ntmps240 J (HRep.nil _) (Sat.seq (Sat.region (Tr.assign J J (show evIn _ _ = some (u64 0) from rfl) (Tr.nil (at_n (Sat.seq (Sat.region (Tr.move J J J (Tr.move J J J (Tr.conv J J J Y3 Y35 (cv_i64_u64 _) (Tr.shr_u64 J J J J n (by rw [wordOf_id _ oM]) oM ?_)))))))))))
 refine Tr.move J J J (Tr.move J J J (Tr.subN 64 n J J J J oM (Tr.conv J J J Y3 Y35 (cv_i64_u64 _) (Tr.shl_u64 J J J J (64 - n) (by rw [wordOf_id _ oM]) oM ?_))))
 refine Tr.or_u64 J J J J (Tr.assign J J J (Tr.nil (at_n (Sat.ret (en_r ?_)))))
 refine ⟨_, [], res_tmp J J, sP, sP, ?_, rfl⟩
 rw [rolW_64 x n oM]

theorem r2_piece (st : List UInt64) (hst : st.length = 8) (p : List UInt8) (hp : p.length = 128) (q o c : Nat) (A w k : List UInt64) (R : W8) (hA : Hid (schA p 128 = A)) (hwp : Hid (schB A 64 = w)) (hk : Hid (kW = k)) (hk80 : k.length = 80) (hR : Hid (rnds k w (W8.of st) 80 = R)) : Meets Tryz.prog 213 [agg (wordsV st), .slice (some ⟨q, o, none⟩) 128 c] [] (fun W => Sees W q o (bytesV p)) (fun v out => v = agg (wordsV (addUp st R.l 8)) ∧ out = []) := by
 intro W hW
 have hA80 : A.length = 80 := by rw [← hA.out]; exact schA_length p 128
 have hw80 : w.length = 80 := by rw [← hwp.out, schB_length]; exact hA80
 have hRl := W8.l_length R
 have hlw := hw80
 have hcm := addUp_comm hst hRl
 refine calls_of (hp0 := []) Tryz.func213 J 176 Tryz.ntmps213 J (HRep.nil _) (Sat.seq (Sat.region (Tr.boxA J J ?_)))
 intro n2 hn2 hf2
 refine Tr.alloc (cs := (wordsV (List.replicate 8 0))) J Zr135 J ?_
 intro n4 hn4 hf4
 refine Tr.nil (at_n (Sat.seq (Sat.region (Tr.callV J J J J Body239 (r2_K k hk) (fun _ _ => trivial) (Tr.alloc (cs := (wordsV (List.replicate 80 0))) J Zr209 J ?_)))))
 intro n5 hn5 hf5
 refine Tr.storeAll J J J J zB Sz209 (by (simp [hk80]; done)) Z0 sP zU ?_
 refine Tr.nil (at_n (Sat.seq (Sat.region (Tr.alloc (cs := (wordsV (List.replicate 80 0))) J Zr209 J ?_))))
 intro n6 hn6 hf6
 refine Tr.nil (at_n (Sat.seq (Sat.seq (Sat.region (Tr.assign J J J (Tr.nil (at_n (Sat.block (Sat.loop (ι := Nat) (fun t => ⟨[(1, .slice (some ⟨q, o, none⟩) 128 c), (2, ptr n2 0), (4, ptr n4 0), (5, ptr n5 0), (6, ptr n6 0), (7, i64 (t : Int))], [⟨n6, wordsV (schT p A t), 209, 80⟩, ⟨n5, wordsV k, 209, 80⟩, ⟨n4, wordsV (List.replicate 8 0), 135, 8⟩, ⟨n2, wordsV st, 135, (wordsV st).length⟩]⟩) (fun t => t ≤ 80) (fun t => 80 - t) (0) ?_ ?_ ?_)))))))))
 · omega
 · exact weak_of (wk1 rfl (wk1 rfl (wk1 rfl (wk1 rfl (wk1 rfl (wk1 rfl wk0)))))) (wh1 (by rw [schT_lo oM]; exact mem0) (wh1 Z1 (wh1 Z2 (wh1 Z3 wh0)))) nD
 ·
  rintro t ht
  refine Sat.seq (Sat.seq (Sat.region (Tr.move J J J (Tr.lss J J J J J (Tr.nil (at_n (Sat.condP J (fun hc0 => ?_) (fun hc0 => ?_))))))))
  ·
   refine Sat.skip (at_n (Sat.seq (Sat.block (Sat.seq (Sat.seq (Sat.region (Tr.move J J J (Tr.lss J J J J J (Tr.nil (at_n (Sat.condP J (fun hc1 => ?_) (fun hc1 => ?_))))))))))))
   ·
    refine Sat.seq (Sat.seq (Sat.region (Tr.assign J J J (Tr.nil (at_n (Sat.block (Sat.loop (ι := Nat) (fun i => ⟨[(1, .slice (some ⟨q, o, none⟩) 128 c), (2, ptr n2 0), (4, ptr n4 0), (5, ptr n5 0), (6, ptr n6 0), (7, i64 (t : Int)), (8, i64 (i : Int))], [⟨n6, wordsV (schA p (8 * t + i)), 209, 80⟩, ⟨n5, wordsV k, 209, 80⟩, ⟨n4, wordsV (List.replicate 8 0), 135, 8⟩, ⟨n2, wordsV st, 135, (wordsV st).length⟩]⟩) (fun i => i ≤ 8) (fun i => 8 - i) (0) ?_ ?_ ?_)))))))
    · omega
    · exact weak_of (wk1 rfl (wk1 rfl (wk1 rfl (wk1 rfl (wk1 rfl (wk1 rfl (wk1 rfl wk0))))))) (wh1 (by rw [Nat.add_zero, ← schT_lo (p := p) (A := A) (by omega : t ≤ 16)]; exact mem0) (wh1 Z1 (wh1 Z2 (wh1 Z3 wh0)))) nD
    ·
     rintro i hi
     have hlw := schA_length p (8 * t + i)
     refine Sat.seq (Sat.seq (Sat.region (Tr.move J J J (Tr.lss J J J J J (Tr.nil (at_n (Sat.condP J (fun hc2 => ?_) (fun hc2 => ?_))))))))
     ·
      refine Sat.skip (at_n (Sat.seq (Sat.block (Sat.draw [(0, 0), (0, 1), (0, 2), (1, 3), (0, 4), (0, 5), (0, 6), (0, 7), (0, 8), (0, 9), (0, 10), (1, 11), (0, 12), (0, 13), (0, 14), (4, 15)] Mixed zK (Tr.move J J J (Tr.move J J J (Tr.idxArr1 J J J J Y209 Sz22 _ J oM (Tr.load1 J J J Y22 J Z0 (by exact get_words oM) ?_))))))))
      refine Tr.shl_u64 J J J J 8 J dE (Tr.move J J J (Tr.move J J J (Tr.mulN 8 t J J J J oM (Tr.move J J J (Tr.addN (8 * t) i J J J J oM (Tr.idxSlO J J J J Y39 Sz5 (8 * t + i) oM oM (Tr.loadE J J J Y5 J sP (hW (8 * t + i) _ (get_bytes oM)) (Tr.conv J J J Y5 Y22 (cv_u8_u64 _) (Tr.or_u64 J J J J (Tr.idxArr1 J J J J Y209 Sz22 _ J oM (Tr.store1 J J J J J Sz22 Z0 (by (simp [hlw]; omega)) (by exact set_words _ _ _) zU ?_)))))))))))
      refine Tr.nil (bl_n (at_n (Sat.region (Tr.move J J J (Tr.add_i64 J J J J oM (Tr.assign J J J (Tr.nil (at_n ?_))))))))
      exact ⟨i + 1, by omega, by omega, weak_of (wk1 rfl (wk1 rfl (wk1 rfl (wk1 rfl (wk1 rfl (wk1 rfl (wk1 rfl wk0))))))) (wh1 (by rw [schA_step p t i oM]; exact mem0) (wh1 Z1 (wh1 Z2 (wh1 Z3 wh0)))) nD⟩
     ·
      refine Sat.exit (at_x (at_x (bl_h (at_n (Sat.exit (at_x (bl_h (at_n (Sat.region (Tr.move J J J (Tr.add_i64 J J J J oM (Tr.assign J J J (Tr.nil (at_n ?_))))))))))))))
      exact ⟨t + 1, by omega, by omega, weak_of (wk1 rfl (wk1 rfl (wk1 rfl (wk1 rfl (wk1 rfl (wk1 rfl wk0)))))) (wh1 (by (rw [schT_lo (by omega : t + 1 ≤ 16), show 8 * (t + 1) = 8 * t + i by omega]; exact mem0)) (wh1 Z1 (wh1 Z2 (wh1 Z3 wh0)))) nD⟩
   ·
    obtain ⟨j, rfl⟩ : ∃ j, t = 16 + j := ⟨t - 16, by omega⟩
    rw [schT_hi hA.out (show 16 ≤ 16 + j by omega), show 16 + j - 16 = j by omega]
    have hlw : (schB A j).length = 80 := by rw [schB_length]; exact hA80
    refine Sat.skip (at_n (Sat.seq (Sat.draw [(0, 0), (0, 1), (0, 2), (1, 3), (0, 4), (0, 5), (0, 6), (1, 7), (0, 8), (0, 9)] Mixed zK (Tr.move J J J (Tr.sub_i64 J J J J oM (Tr.idxArr1 J J J J Y209 Sz22 (j + 1) oM oM (Tr.load1 J J J Y22 J Z0 (by exact get_words oM) ?_)))))))
    refine Tr.move J J J (Tr.sub_i64 J J J J oM (Tr.idxArr1 J J J J Y209 Sz22 (j + 14) oM oM (Tr.load1 J J J Y22 J Z0 (by exact get_words oM) ?_)))
    refine Tr.assign J J J (Tr.assign J J J (Tr.nil (at_n (Sat.draw [(0, 0), (0, 1), (0, 2), (0, 3), (1, 4), (0, 5), (0, 7), (0, 10), (0, 11), (0, 14), (0, 15), (0, 16), (1, 17), (0, 19), (0, 21), (0, 24), (0, 25), (3, 6), (3, 8), (0, 9), (0, 12), (0, 13), (0, 18), (3, 20), (3, 22), (0, 23), (0, 26), (0, 27), (0, 28), (4, 29)] Mixed zK (Tr.move J J J (Tr.move J J J (Tr.sub_i64 J J J J oM (Tr.idxArr1 J J J J Y209 Sz22 j oM oM (Tr.load1 J J J Y22 J Z0 (by exact get_words oM) ?_)))))))))
    refine Tr.move J J J (Tr.move J J J (Tr.move J J J (Tr.shr_u64 J J J J 7 J dE (Tr.move J J J (Tr.sub_i64 J J J J oM (Tr.idxArr1 J J J J Y209 Sz22 (j + 9) oM oM (Tr.load1 J J J Y22 J Z0 (by exact get_words oM) ?_)))))))
    refine Tr.move J J J (Tr.move J J J (Tr.move J J J (Tr.shr_u64 J J J J 6 J dE (Tr.callV J J J J Body240 (r2_rot _ 1 dE) (fun _ _ => trivial) (Tr.callV J J J J Body240 (r2_rot _ 8 dE) (fun _ _ => trivial) (Tr.xor_u64 J J J J (Tr.xor_u64 J J J J (Tr.add_u64 J J J J (Tr.add_u64 J J J J (Tr.callV J J J J Body240 (r2_rot _ 19 dE) (fun _ _ => trivial) (Tr.callV J J J J Body240 (r2_rot _ 61 dE) (fun _ _ => trivial) (Tr.xor_u64 J J J J (Tr.xor_u64 J J J J (Tr.add_u64 J J J J (Tr.idxArr1 J J J J Y209 Sz22 (16 + j) oM oM (Tr.store1 J J J J J Sz22 Z0 (by (simp [hlw]; omega)) (by exact set_words _ _ _) zU ?_))))))))))))))))
    refine Tr.nil (bl_n (at_n (Sat.region (Tr.move J J J (Tr.add_i64 J J J J oM (Tr.assign J J J (Tr.nil (at_n ?_))))))))
    exact ⟨16 + j + 1, by omega, by omega, weak_of (wk1 rfl (wk1 rfl (wk1 rfl (wk1 rfl (wk1 rfl (wk1 rfl wk0)))))) (wh1 (by (rw [schT_step hA.out]; exact mem0)) (wh1 Z1 (wh1 Z2 (wh1 Z3 wh0)))) nD⟩
  ·
   obtain rfl : t = 80 := by omega
   rw [show schT p A 80 = w from by rw [schT_hi hA.out dE]; exact hwp.out]
   refine Sat.exit (at_x (at_x (bl_h (at_n (Sat.seq (Sat.region (Tr.loadAll J J J Y135 J Sz135 Z3 (by (simp [hst]; done)) ?_)))))))
   refine Tr.alloc (cs := (wordsV (List.replicate 8 0))) J Zr135 J ?_
   intro n11 hn11 hf11
   refine Tr.storeAll J J J J zB Sz135 (by (simp [hst]; done)) Z0 sP zU ?_
   refine Tr.nil (at_n (Sat.seq (Sat.seq (Sat.region (Tr.assign J J J (Tr.nil (at_n (Sat.block (Sat.loop (ι := Nat) (fun t => ⟨[(2, ptr n2 0), (4, ptr n4 0), (5, ptr n5 0), (6, ptr n6 0), (11, ptr n11 0), (12, i64 (t : Int))], [⟨n11, wordsV (rnds k w (W8.of st) t).l, 135, 8⟩, ⟨n6, wordsV w, 209, 80⟩, ⟨n5, wordsV k, 209, 80⟩, ⟨n4, wordsV (List.replicate 8 0), 135, 8⟩, ⟨n2, wordsV st, 135, (wordsV st).length⟩]⟩) (fun t => t ≤ 80) (fun t => 80 - t) (0) ?_ ?_ ?_)))))))))
   · omega
   · exact weak_of (wk1 rfl (wk1 rfl (wk1 rfl (wk1 rfl (wk1 rfl (wk1 rfl wk0)))))) (wh1 (by rw [show (rnds k w (W8.of st) 0).l = st from W8.of_l hst]; exact mem0) (wh1 Z1 (wh1 Z2 (wh1 Z3 (wh1 Z4 wh0))))) nD
   ·
    rintro t ht
    have hlr := W8.l_length (rnds k w (W8.of st) t)
    refine Sat.seq (Sat.seq (Sat.region (Tr.move J J J (Tr.lss J J J J J (Tr.nil (at_n (Sat.condP J (fun hc3 => ?_) (fun hc3 => ?_))))))))
    ·
     refine Sat.skip (at_n (Sat.seq (Sat.block (Sat.seq (Sat.draw [(0, 0), (1, 1), (0, 2), (1, 3), (0, 4), (0, 5)] Mixed zK (Tr.idxArr1 J J J J Y135 Sz22 0 J dE (Tr.load1 J J J Y22 J Z0 (by rfl) ?_)))))))
     refine Tr.idxArr1 J J J J Y135 Sz22 4 J dE (Tr.load1 J J J Y22 J Z0 (by rfl) ?_)
     refine Tr.assign J J J (Tr.assign J J J (Tr.nil (at_n (Sat.seq (Sat.draw [(0, 0), (1, 1), (0, 2), (0, 4), (0, 7), (0, 11), (0, 12), (1, 13), (0, 14), (0, 15), (0, 16), (0, 17), (1, 18), (0, 19), (0, 20), (0, 22), (0, 23), (1, 24), (0, 26), (0, 27), (1, 28), (3, 3), (3, 5), (0, 6), (3, 8), (0, 9), (0, 10), (0, 21), (0, 25), (0, 29), (0, 30)] Mixed zK (Tr.idxArr1 J J J J Y135 Sz22 7 J dE (Tr.load1 J J J Y22 J Z0 (by rfl) ?_)))))))
     refine Tr.move J J J (Tr.move J J J (Tr.move J J J (Tr.move J J J (Tr.idxArr1 J J J J Y135 Sz22 5 J dE (Tr.load1 J J J Y22 J Z0 (by rfl) ?_)))))
     refine Tr.and_u64 J J J J (Tr.move J J J (Tr.not_u64 J J J (Tr.idxArr1 J J J J Y135 Sz22 6 J dE (Tr.load1 J J J Y22 J Z0 (by rfl) ?_))))
     refine Tr.and_u64 J J J J (Tr.xor_u64 J J J J (Tr.move J J J (Tr.idxArr1 J J J J Y209 Sz22 _ J oM (Tr.load1 J J J Y22 J Z2 (by exact get_words oM) ?_))))
     refine Tr.move J J J (Tr.idxArr1 J J J J Y209 Sz22 _ J oM (Tr.load1 J J J Y22 J Z1 (by exact get_words oM) ?_))
     refine Tr.callV J J J J Body240 (r2_rot _ 14 dE) (fun _ _ => trivial) (Tr.callV J J J J Body240 (r2_rot _ 18 dE) (fun _ _ => trivial) (Tr.xor_u64 J J J J (Tr.callV J J J J Body240 (r2_rot _ 41 dE) (fun _ _ => trivial) (Tr.xor_u64 J J J J (Tr.add_u64 J J J J (Tr.add_u64 J J J J (Tr.add_u64 J J J J (Tr.add_u64 J J J J (Tr.assign J J J (Tr.nil (at_n (Sat.seq (Sat.draw [(0, 0), (0, 2), (0, 5), (0, 8), (0, 9), (1, 10), (0, 11), (0, 12), (0, 13), (1, 14), (0, 15), (0, 16), (0, 17), (1, 18), (0, 19), (1, 20), (0, 21), (0, 22), (3, 1), (3, 3), (0, 4), (3, 6), (0, 7), (0, 23), (0, 24)] Mixed zK (Tr.move J J J (Tr.move J J J (Tr.move J J J (Tr.move J J J (Tr.idxArr1 J J J J Y135 Sz22 1 J dE (Tr.load1 J J J Y22 J Z0 (by rfl) ?_)))))))))))))))))))
     refine Tr.and_u64 J J J J (Tr.move J J J (Tr.idxArr1 J J J J Y135 Sz22 2 J dE (Tr.load1 J J J Y22 J Z0 (by rfl) ?_)))
     refine Tr.and_u64 J J J J (Tr.xor_u64 J J J J (Tr.idxArr1 J J J J Y135 Sz22 1 J dE (Tr.load1 J J J Y22 J Z0 (by rfl) ?_)))
     refine Tr.idxArr1 J J J J Y135 Sz22 2 J dE (Tr.load1 J J J Y22 J Z0 (by rfl) ?_)
     refine Tr.and_u64 J J J J (Tr.xor_u64 J J J J (Tr.callV J J J J Body240 (r2_rot _ 28 dE) (fun _ _ => trivial) (Tr.callV J J J J Body240 (r2_rot _ 34 dE) (fun _ _ => trivial) (Tr.xor_u64 J J J J (Tr.callV J J J J Body240 (r2_rot _ 39 dE) (fun _ _ => trivial) (Tr.xor_u64 J J J J (Tr.add_u64 J J J J (Tr.assign J J J (Tr.nil (at_n (Sat.region (Tr.move J J J (Tr.move J J J (Tr.add_u64 J J J J (Tr.move J J J (Tr.idxArr1 J J J J Y135 Sz22 1 J dE (Tr.load1 J J J Y22 J Z0 (by rfl) ?_)))))))))))))))))
     refine Tr.idxArr1 J J J J Y135 Sz22 2 J dE (Tr.load1 J J J Y22 J Z0 (by rfl) ?_)
     refine Tr.idxArr1 J J J J Y135 Sz22 3 J dE (Tr.load1 J J J Y22 J Z0 (by rfl) ?_)
     refine Tr.move J J J (Tr.add_u64 J J J J (Tr.move J J J (Tr.idxArr1 J J J J Y135 Sz22 5 J dE (Tr.load1 J J J Y22 J Z0 (by rfl) ?_))))
     refine Tr.idxArr1 J J J J Y135 Sz22 6 J dE (Tr.load1 J J J Y22 J Z0 (by rfl) ?_)
     refine Tr.build (cs := wordsV (rnd1 (rnds k w (W8.of st) t) (k.getD t 0) (w.getD t 0)).l) J J J (fun w => by kernel_rfl) ?_
     refine Tr.storeAll J J J J zB Sz135 (by (simp [W8.l_length]; done)) Z0 (by (simp [W8.l_length]; done)) zU ?_
     refine Tr.nil (bl_n (at_n (Sat.region (Tr.move J J J (Tr.add_i64 J J J J oM (Tr.assign J J J (Tr.nil (at_n ?_))))))))
     exact ⟨t + 1, by omega, by omega, weak_of (wk1 rfl (wk1 rfl (wk1 rfl (wk1 rfl (wk1 rfl (wk1 rfl wk0)))))) (wh1 Z0 (wh1 Z1 (wh1 Z2 (wh1 Z3 (wh1 Z4 wh0))))) nD⟩
    ·
     obtain rfl : t = 80 := by omega
     rw [hR.out]
     refine Sat.exit (at_x (at_x (bl_h (at_n (Sat.seq (Sat.seq (Sat.region (Tr.assign J J J (Tr.nil (at_n (Sat.block (Sat.loop (ι := Nat) (fun i => ⟨[(2, ptr n2 0), (4, ptr n4 0), (11, ptr n11 0), (17, i64 (i : Int))], [⟨n11, wordsV (addUp R.l st i), 135, 8⟩, ⟨n4, wordsV (List.replicate 8 0), 135, 8⟩, ⟨n2, wordsV st, 135, (wordsV st).length⟩]⟩) (fun i => i ≤ 8) (fun i => 8 - i) (0) ?_ ?_ ?_))))))))))))
     · omega
     · exact weak_of (wk1 rfl (wk1 rfl (wk1 rfl (wk1 rfl wk0)))) (wh1 Z0 (wh1 Z3 (wh1 Z4 wh0))) nD
     ·
      rintro i hi
      have hlu := addUp_length R.l st i
      refine Sat.seq (Sat.seq (Sat.region (Tr.move J J J (Tr.lss J J J J J (Tr.nil (at_n (Sat.condP J (fun hc4 => ?_) (fun hc4 => ?_))))))))
      ·
       refine Sat.skip (at_n (Sat.seq (Sat.block (Sat.draw [(0, 0), (0, 1), (0, 2), (1, 3), (0, 4), (0, 5), (1, 6), (0, 7), (0, 8), (4, 9)] Mixed zK (Tr.move J J J (Tr.move J J J (Tr.idxArr1 J J J J Y135 Sz22 _ J oM (Tr.load1 J J J Y22 J Z0 (by exact get_words oM) ?_))))))))
       refine Tr.move J J J (Tr.idxArr1 J J J J Y135 Sz22 _ J oM (Tr.load1 J J J Y22 J Z2 (by exact get_words oM) ?_))
       refine Tr.add_u64 J J J J (Tr.idxArr1 J J J J Y135 Sz22 _ J oM (Tr.store1 J J J J J Sz22 Z0 (by (simp [hRl, addUp_length]; omega)) (by exact set_words _ _ _) zU ?_))
       refine Tr.nil (bl_n (at_n (Sat.region (Tr.move J J J (Tr.add_i64 J J J J oM (Tr.assign J J J (Tr.nil (at_n ?_))))))))
       exact ⟨i + 1, by omega, by omega, weak_of (wk1 rfl (wk1 rfl (wk1 rfl (wk1 rfl wk0)))) (wh1 Z0 (wh1 Z1 (wh1 Z2 wh0))) nD⟩
      ·
       obtain rfl : i = 8 := by omega
       rw [hcm]
       refine Sat.exit (at_x (at_x (bl_h (at_n (Sat.seq (Sat.region (Tr.loadAll J J J Y135 J Sz135 Z0 (by (simp [hst, addUp_length]; done)) ?_)))))))
       refine Tr.storeAll J J J J zB Sz135 (by (simp [hst, addUp_length]; done)) Z1 sP zV ?_
       refine Tr.nil (at_n (Sat.ret (en_r ?_)))
       refine ⟨_, [], res_cell J J Y135 J Sz135 Z1 (by simp [hst, addUp_length]), sP, sP, ?_, rfl⟩
       rfl

theorem r2_bytes (st : List UInt64) (hst : st.length = 8) (s : List UInt8) (hs : Hid (sumUp st 64 = s)) : Meets Tryz.prog 140 [agg (wordsV st)] [] (fun _ => True) (fun v out => v = agg (bytesV s) ∧ out = []) := by
 intro W hW
 have hs64 : s.length = 64 := by rw [← hs.out]; exact sumUp_length st 64
 refine calls_of (hp0 := []) Tryz.func140 J 23 Tryz.ntmps140 J (HRep.nil _) (Sat.seq (Sat.region (Tr.boxA J J ?_)))
 intro n1 hn1 hf1
 refine Tr.alloc (cs := (bytesV (List.replicate 64 0))) J Zr26 J ?_
 intro n2 hn2 hf2
 refine Tr.nil (at_n (Sat.seq (Sat.region (Tr.alloc (cs := (bytesV (List.replicate 64 0))) J Zr26 J ?_))))
 intro n3 hn3 hf3
 refine Tr.nil (at_n (Sat.seq (Sat.seq (Sat.region (Tr.assign J J J (Tr.nil (at_n (Sat.block (Sat.loop (ι := Nat) (fun k => ⟨[(1, ptr n1 0), (2, ptr n2 0), (3, ptr n3 0), (4, i64 (k : Int))], [⟨n3, bytesV (sumUp st k), 26, 64⟩, ⟨n2, bytesV (List.replicate 64 0), 26, 64⟩, ⟨n1, wordsV st, 135, (wordsV st).length⟩]⟩) (fun k => k ≤ 64) (fun k => 64 - k) (0) ?_ ?_ ?_)))))))))
 · omega
 · exact weak_of (wk1 rfl (wk1 rfl (wk1 rfl (wk1 rfl wk0)))) (wh1 Z0 (wh1 Z1 (wh1 Z2 wh0))) nD
 ·
  rintro k hi
  have hlk := sumUp_length st k
  refine Sat.seq (Sat.seq (Sat.region (Tr.move J J J (Tr.lss J J J J J (Tr.nil (at_n (Sat.condP J (fun hc0 => ?_) (fun hc0 => ?_))))))))
  ·
   refine Sat.skip (at_n (Sat.seq (Sat.block (Sat.region (Tr.move J J J (Tr.move J J J (Tr.quo_i64 J J J J oM (Tr.idxArr1 J J J J Y135 Sz22 (k / 8) oM oM (Tr.load1 J J J Y22 J Z2 (by exact get_words oM) ?_)))))))))
   refine Tr.move J J J (Tr.remN k 8 J J J J dE (Tr.mulN 8 (k % 8) J J J J oM (Tr.subN 56 (8 * (k % 8)) J J J J oM (Tr.conv J J J Y3 Y35 (cv_i64_u64 _) (Tr.shr_u64 J J J J (56 - 8 * (k % 8)) (by rw [wordOf_id _ oM]) oM ?_)))))
   refine Tr.conv J J J Y22 Y5 (cv_u64_u8 _) (Tr.idxArr1 J J J J Y26 Sz5 _ J oM (Tr.store1 J J J J J Sz5 Z0 (by (simp [sumUp_length]; omega)) (by exact set_bytes _ _ _) zU ?_))
   refine Tr.nil (bl_n (at_n (Sat.region (Tr.move J J J (Tr.add_i64 J J J J oM (Tr.assign J J J (Tr.nil (at_n ?_))))))))
   exact ⟨k + 1, by omega, by omega, weak_of (wk1 rfl (wk1 rfl (wk1 rfl (wk1 rfl wk0)))) (wh1 Z0 (wh1 Z1 (wh1 Z2 wh0))) nD⟩
  ·
   obtain rfl : k = 64 := by omega
   rw [hs.out]
   clear hlk
   refine Sat.exit (at_x (at_x (bl_h (at_n (Sat.seq (Sat.region (Tr.loadAll J J J Y26 J Sz26 Z0 (by (simp [hs64]; done)) ?_)))))))
   refine Tr.storeAll J J J J zE Sz26 (by (simp [hs64]; done)) Z1 sP zV ?_
   refine Tr.nil (at_n (Sat.ret (en_r ?_)))
   refine ⟨_, [], res_cell J J Y26 J Sz26 Z1 (by simp [hs64]), sP, sP, ?_, rfl⟩
   rfl

theorem r2_join (p : Option Addr) (n c : Nat) (ss : List Sl) (ls : List (List UInt8)) (hss : ss.length = n) (hls : ls.length = n) (hsl : ∀ j, j < n → (ss.getD j Sl.nil).n = (ls.getD j []).length ∧ ((ss.getD j Sl.nil).p = none → (ss.getD j Sl.nil).n = 0)) (F : List UInt8) (hF : ls.flatten = F) (htot : F.length ≤ 90000) (hn : n ≤ 1000000)  : Meets Tryz.prog 143 [.slice p n c] [] (fun W => SeesP W p (ss.map Sl.v) ∧ ∀ j, j < n → SeesP W (ss.getD j Sl.nil).p (bytesV (ls.getD j []))) (fun v out => ∃ s, v = s.v ∧ Acc s out (bytesV F) 5 F.length 1) := by
 intro W hW
 have hle := take_flat_le ls
 rw [hF] at hle
 refine calls_of (hp0 := []) Tryz.func143 J 18 Tryz.ntmps143 J (HRep.nil _) (Sat.seq (Sat.region (Tr.assign J J J (Tr.nil (at_n (Sat.seq (Sat.region (Tr.assign J J J (Tr.nil (at_n (Sat.seq (Sat.seq (Sat.region (Tr.assign J J J (Tr.nil (at_n (Sat.block (Sat.loop (ι := Nat × Sl × List Blk) (fun x => ⟨[(0, .slice p n c), (3, x.2.1.v), (4, i64 (x.1 : Int))], (x.2.2 ++ [])⟩) (fun x => x.1 ≤ n ∧ Acc x.2.1 x.2.2 (bytesV (ls.take x.1).flatten) 5 (ls.take x.1).flatten.length 1) (fun x => n - x.1) ((0, Sl.nil, [])) ?_ ?_ ?_))))))))))))))))))
 · exact ⟨Nat.zero_le _, Acc.none⟩
 · exact weak_perm (wk1 rfl (wk1 rfl (wk1 rfl wk0))) (pm_none pm_nil)
 ·
  rintro x ⟨hx, hax⟩
  refine Sat.seq (Sat.seq (Sat.region (Tr.move J J J (Tr.move J J J (Tr.lenSl J J J Y133 (Tr.lss J J J J J (Tr.nil (at_n (Sat.condP J (fun hc0 => ?_) (fun hc0 => ?_))))))))))
  ·
   have hx3 : x.1 < n := by omega
   obtain ⟨b, o, hbp, hbs⟩ := hW.1.at (by rw [List.length_map]; omega)
   have hv : W.cell? ⟨b, o + x.1 * 1, none⟩ = some (ss.getD x.1 Sl.nil).v := by rw [Nat.mul_one]; exact hbs x.1 _ (sl_get oM)
   have hstep := hle (x.1 + 1)
   rw [take_flat oM, List.length_append, ← (hsl x.1 oM).1] at hstep
   refine Sat.skip (at_n (Sat.seq (Sat.block (Sat.region (Tr.move J J J (Tr.move J J J (Tr.move J J J (Tr.idxSlP 1 J J J hbp J Y133 Sz39 x.1 J oM (Tr.loadE J J J Y39 J sP (hv) (Tr.appendAcc (z := u8 0) (by' := 1) (bytesV (ls.getD x.1 [])) J J J J J Y39 Y39 Sz5 Zr5 (by unfold By; kernel_rfl) J hax sG (fun w h => seesP_ext h J (hW.2 x.1 oM)) (hsl x.1 oM).2 (bytesV_cell _) oM oM (by rw [bytesV, List.length_map, Nat.mul_one]; exact (hsl x.1 oM).1.symm) ?_))))))))))
   intro s16 bl16 hac16
   refine Tr.assign J J J (Tr.nil (bl_n (at_n (Sat.region (Tr.move J J J (Tr.add_i64 J J J J oM (Tr.assign J J J (Tr.nil (at_n ?_)))))))))
   refine ⟨(x.1 + 1, s16, bl16), ⟨by simp only []; omega, ?_⟩, by simp only []; omega, weak_perm (wk1 J (wk1 J (wk1 J wk0))) (pm_seg sG pm_nil)⟩
   rw [take_flat oM, List.length_append, ← (hsl x.1 oM).1]
   simpa [bytesV] using hac16
  ·
   have hx3 : x.1 = n := by omega
   rw [hx3, List.take_of_length_le oM, hF] at hax
   refine Sat.exit (at_x (at_x (bl_h (at_n (Sat.seq (Sat.region (Tr.move J J J (Tr.assign J J J (Tr.nil (at_n (Sat.ret (en_r (end_perm (out := (x.2.2 ++ [])) (res_tmp J J) (pm_seg sG pm_nil) ?_)))))))))))))
   exact ⟨x.2.1, rfl, by rw [List.append_nil]; exact hax⟩

theorem pad_acc (F : List UInt8) {q c : Nat} (x : UInt64) (h : F.length + 1 + padZ F.length + 8 ≤ c) : Acc ⟨some ⟨q, 0, none⟩, F.length + 1 + padZ F.length + 8, c⟩ [⟨q, bytesV (F ++ [128] ++ List.replicate (padZ F.length) 0) ++ List.replicate 8 (u8 0), 5, c⟩] (bytesV (F ++ [128] ++ List.replicate (padZ F.length) 0 ++ beUp 0 8 ++ beUp x 0)) 5 (F.length + 1 + padZ F.length + 8 + 0) 1 := by
  have e : bytesV (F ++ [128] ++ List.replicate (padZ F.length) 0) ++ List.replicate 8 (u8 0) = bytesV (F ++ [128] ++ List.replicate (padZ F.length) 0 ++ beUp 0 8 ++ beUp x 0) := by
    rw [show beUp x 0 = [] from rfl, List.append_nil, bytesV_app (b := beUp 0 8)]
    rfl
  have h2 : (bytesV (F ++ [128] ++ List.replicate (padZ F.length) 0 ++ beUp 0 8 ++ beUp x 0)).length = (F.length + 1 + padZ F.length + 8) * 1 := by
    simp [bytesV, beUp_length]; omega
  have h3 := Acc.some (q := q) (E := 5) (size := 1) h h2
  rw [Nat.mul_one] at h3
  rw [e]
  exact h3

theorem r2_Pad (s : Sl) (F : List UInt8) (hsl : s.n = F.length) (hsn : s.p = none → s.n = 0) (htot : F.length ≤ 90000) : Meets Tryz.prog 212 [s.v] [] (fun W => SeesP W s.p (bytesV F)) (fun v out => ∃ s, v = s.v ∧ Acc s out (bytesV (padB F)) 5 (padB F).length 1) := by
 intro W hW
 have hz := padZ_lt F.length
 refine calls_of (hp0 := []) Tryz.func212 J 38 Tryz.ntmps212 J (HRep.nil _) (Sat.seq (Sat.region (Tr.assign J J J (Tr.nil (at_n (Sat.seq (Sat.region (Tr.mkRow (z := u8 0) [] ([]) J J J Y39 Sz5 Zr5 J J (by intro v hv; cases hv) dE J ?_))))))))
 intro q6
 refine Tr.move J J J (Tr.appendSl (z := u8 0) (by' := 1) (bytesV F) J J J J J Y39 Y39 Sz5 Zr5 (by unfold By; kernel_rfl) J (fun w h => seesP_ext h J hW) hsn (bytesV_cell _) rM J J oM oM oM (by rw [bytesV, List.length_map]; omega) ?_)
 intro q8 c8 hq8
 refine Tr.mkRow (z := u8 0) [u8 (128)] (bytesV [128]) J J J Y39 Sz5 Zr5 J J (by intro v hv; rw [List.mem_singleton.1 hv]; rfl) dE J ?_
 intro q9
 refine Tr.appendSl (z := u8 0) (by' := 1) (bytesV [128]) J J J J J Y39 Y39 Sz5 Zr5 (by unfold By; kernel_rfl) J (fun w h => SeesP.of (sees_own h Z0)) (fun e => by cases e) (bytesV_cell _) rM J (by rw [List.nil_append, bytesV, List.length_map]; omega) oM oM oM (by rfl) ?_
 intro q10 c10 hq10
 refine Tr.assign J J J (Tr.nil (at_n (Sat.seq (Sat.block (Sat.loop (ι := Nat × Sl × List Blk) (fun z => ⟨[(0, s.v), (3, z.2.1.v)], (z.2.2 ++ [])⟩) (fun z => z.1 ≤ padZ F.length ∧ Acc z.2.1 z.2.2 (bytesV (F ++ [128] ++ List.replicate z.1 0)) 5 (F.length + 1 + z.1) 1) (fun z => padZ F.length - z.1) ((0, ⟨some ⟨q10, 0, none⟩, 0 + s.n + 1, c10⟩, [⟨q10, [] ++ bytesV F ++ bytesV [128], 5, c10 * 1⟩])) ?_ ?_ ?_)))))
 · exact ⟨Nat.zero_le _, by rw [show [] ++ bytesV F ++ bytesV [128] = bytesV (F ++ [128] ++ List.replicate 0 0) from by simp [bytesV], show 0 + s.n + 1 = F.length + 1 + 0 by omega]; exact Acc.some oM (by simp [bytesV])⟩
 · exact weak_perm (wk1 rfl (wk1 rfl wk0)) (pm_consE rM rfl rfl pm_nil)
 ·
  rintro ⟨j, sz, blz⟩ ⟨hz1, haz⟩
  simp only [] at hz1 haz
  have hzn := haz.num
  have hpz := padZ_at F.length j hz1
  refine Sat.seq (Sat.seq (Sat.region (Tr.move J J J (Tr.lenSl J J J Y39 (Tr.rem_i64 J J J J oM (Tr.nei J J J J J (Tr.nil (at_n (Sat.condNP J (fun hc0 => ?_) (fun hc0 => ?_))))))))))
  ·
   simp only [] at hc0
   have hz3 : j < padZ F.length := by omega
   refine Sat.skip (at_n (Sat.block (Sat.region (Tr.move J J J (Tr.mkRow (z := u8 0) [u8 (0)] (bytesV [0]) J J J Y39 Sz5 Zr5 J J (by intro v hv; rw [List.mem_singleton.1 hv]; rfl) dE J ?_)))))
   intro q16
   refine Tr.appendAcc (z := u8 0) (by' := 1) (bytesV [0]) J J J J J Y39 Y39 Sz5 Zr5 (by unfold By; kernel_rfl) J haz (by repeat (first | exact sg_here | apply sg_there)) (fun w h => SeesP.of (sees_own h Z0)) (fun e => by cases e) (bytesV_cell _) oM oM (by rfl) ?_
   intro s17 bl17 hac17
   refine Tr.assign J J J (Tr.nil (bl_n (at_n ?_)))
   refine ⟨(j + 1, s17, bl17), ⟨by simp only []; omega, ?_⟩, by simp only []; omega, weak_perm (wk1 J (wk1 J wk0)) (pm_seg sG pm_nil)⟩
   rw [List.replicate_succ', ← List.append_assoc]
   simpa [bytesV, Nat.add_assoc] using hac17
  ·
   simp only [] at hc0
   have hz3 : j = padZ F.length := by omega
   rw [hz3] at haz
   obtain ⟨qz, cz, rfl, hcz, rfl⟩ := acc_pos haz oM
   refine Sat.exit (at_x (at_x (bl_h (at_n (Sat.seq (Sat.region (Tr.move J J J (Tr.appendMade (n := F.length + 1 + padZ F.length) (m := 8) (z := u8 0) (by' := 1) J J J J J J Y39 Y3 Sz5 Zr5 (by unfold By; kernel_rfl) J J rM (Nat.mul_one _) (by rw [bytesV, List.length_map]; simp; omega) hcz oM dE ?_))))))))
   intro q19 c19 hq19
   refine Tr.assign J J J (Tr.nil (at_n (Sat.seq (Sat.region (Tr.move J J J (Tr.lenSl J J J Y39 (Tr.conv J J J Y3 Y22 (cv_i64_u64 _) ?_)))))))
   rw [word_nat (n := s.n) oM]
   refine Tr.mul_u64 J J J (show evIn _ _ = some (u64 8) from rfl) ?_
   rw [hsl]
   refine Tr.assign J J J (Tr.nil (at_n (Sat.seq (Sat.seq (Sat.region (Tr.assign J J J (Tr.nil (at_n (Sat.block (Sat.loop (ι := Nat × Sl × List Blk) (fun y => ⟨[(3, y.2.1.v), (4, u64 (UInt64.ofNat F.length * 8)), (5, i64 (7 - (y.1 : Int)))], (y.2.2 ++ [])⟩) (fun y => y.1 ≤ 8 ∧ Acc y.2.1 y.2.2 (bytesV (F ++ [128] ++ List.replicate (padZ F.length) 0 ++ beUp 0 8 ++ beUp (UInt64.ofNat F.length * 8) y.1)) 5 (F.length + 1 + padZ F.length + 8 + y.1) 1) (fun y => 8 - y.1) ((0, ⟨some ⟨q19, 0, none⟩, F.length + 1 + padZ F.length + 8, c19⟩, [⟨q19, bytesV (F ++ [128] ++ List.replicate (padZ F.length) 0) ++ List.replicate 8 (u8 0), 5, c19⟩])) ?_ ?_ ?_))))))))))
   · exact ⟨Nat.zero_le _, pad_acc F _ hq19⟩
   · exact weak_perm (wk1 rfl (wk1 rfl (wk1 rfl wk0))) (pm_consE rM rfl rfl pm_nil)
   ·
    rintro y ⟨hy, hay⟩
    refine Sat.seq (Sat.seq (Sat.region (Tr.move J J J (Tr.geq J J J J J (Tr.nil (at_n (Sat.condP J (fun hc1 => ?_) (fun hc1 => ?_))))))))
    ·
     have hy3 : y.1 ≤ 7 := by omega
     refine Sat.skip (at_n (Sat.seq (Sat.block (Sat.region (Tr.move J J J (Tr.move J J J (Tr.move J J J (Tr.mul_i64 J J J J oM (Tr.conv J J J Y3 Y35 (cv_i64_u64 _) (Tr.shr_u64 J J J J (56 - 8 * y.1) (by rw [wordOf_id _ oM]; omega) oM ?_))))))))))
     refine Tr.conv J J J Y22 Y5 (cv_u64_u8 _) (Tr.mkRow (z := u8 0) [u8 ((shr64 (UInt64.ofNat F.length * 8) (56 - 8 * y.1)).toUInt8)] (bytesV [(shr64 (UInt64.ofNat F.length * 8) (56 - 8 * y.1)).toUInt8]) J J J Y39 Sz5 Zr5 J J (by intro v hv; rw [List.mem_singleton.1 hv]; rfl) dE J ?_)
     intro q35
     refine Tr.appendAcc (z := u8 0) (by' := 1) (bytesV [(shr64 (UInt64.ofNat F.length * 8) (56 - 8 * y.1)).toUInt8]) J J J J J Y39 Y39 Sz5 Zr5 (by unfold By; kernel_rfl) J hay (by repeat (first | exact sg_here | apply sg_there)) (fun w h => SeesP.of (sees_own h Z0)) (fun e => by cases e) (bytesV_cell _) oM oM (by rfl) ?_
     intro s36 bl36 hac36
     refine Tr.assign J J J (Tr.nil (bl_n (at_n (Sat.region (Tr.move J J J (Tr.sub_i64 J J J J oM (Tr.assign J J J (Tr.nil (at_n ?_)))))))))
     refine ⟨(y.1 + 1, s36, bl36), ⟨by simp only []; omega, ?_⟩, by simp only []; omega, weak_perm (wk1 J (wk1 J (wk1 (congrArg (fun z => some (i64 z)) oM) wk0))) (pm_seg sG pm_nil)⟩
     rw [show beUp (UInt64.ofNat F.length * 8) (y.1 + 1) = beUp (UInt64.ofNat F.length * 8) y.1 ++ [(shr64 (UInt64.ofNat F.length * 8) (56 - 8 * y.1)).toUInt8] from rfl, ← List.append_assoc, bytesV_app]
     exact hac36
    ·
     have hy3 : y.1 = 8 := by omega
     rw [hy3] at hay
     refine Sat.exit (at_x (at_x (bl_h (at_n (Sat.seq (Sat.region (Tr.move J J J (Tr.assign J J J (Tr.nil (at_n (Sat.ret (en_r (end_perm (out := (y.2.2 ++ [])) (res_tmp J J) (pm_seg sG pm_nil) ?_)))))))))))))
     refine ⟨y.2.1, rfl, ?_⟩
     have e8 : UInt64.ofNat F.length * 8 = UInt64.ofNat (8 * F.length) := by
      apply UInt64.toNat_inj.1
      rw [mul8_nat (by rw [ofNat_nat oM]; omega), ofNat_nat oM, ofNat_nat oM]; omega
     rw [e8] at hay
     rw [padB_length, padB]
     simpa [Nat.add_assoc, Nat.add_comm, Nat.add_left_comm] using hay

theorem take_len2 {xs : List UInt8} {i K : Nat} (h : xs.length = 128 * K) (hi : i < K) : ((xs.drop (128 * i)).take 128).length = 128 := by simp; omega
theorem sees_chunk {w : World} {q i : Nat} {l : List UInt8} (h : Sees w q 0 (bytesV l)) : Sees w q (128 * i) (bytesV ((l.drop (128 * i)).take 128)) := fun j v hj => by
  have e : (bytesV l)[128 * i + j]? = some v := by
    rw [bytesV, List.map_take, List.map_drop, List.getElem?_take] at hj
    split at hj
    · rwa [List.getElem?_drop] at hj
    · cases hj
  have h1 := h _ v e
  rwa [Nat.zero_add] at h1
theorem cut_chunk (q c i : Nat) (h : 128 * i < c) : (.slice (some ⟨q, if c = 128 * i then 0 else 0 + 128 * i * 1, none⟩) (128 * i + 128 - 128 * i) (c - 128 * i) : Value) = .slice (some ⟨q, 128 * i, none⟩) 128 (c - 128 * i) := by
  rw [if_neg oM, show 128 * i + 128 - 128 * i = 128 by omega, show 0 + 128 * i * 1 = 128 * i by omega]

theorem r2_run (st : List UInt64) (hst : st.length = 8) (k : List UInt64) (hk : Hid (kW = k)) (hk80 : k.length = 80) (s : Sl) (F : List UInt8) (hsl : s.n = F.length) (hsn : s.p = none → s.n = 0) (htot : F.length ≤ 90000) : Meets Tryz.prog 141 [agg (wordsV st), s.v] [] (fun W => SeesP W s.p (bytesV F)) (fun v out => v = agg (wordsV (allW k st F)) ∧ out = []) := by
 intro W hW
 have hpl := padB_length F
 have hpz := padZ_lt F.length
 have hpm := padB_mod F
 obtain ⟨K, hK⟩ : ∃ K, (padB F).length / 128 = K := ⟨_, rfl⟩
 rw [hK] at hpm
 obtain ⟨U, hU⟩ : ∃ U, Hid (allW k st F = U) := ⟨_, ⟨rfl⟩⟩
 have hst2 : U.length = 8 := by rw [← hU.out, allW_length]; exact hst
 rw [hU.out]
 have hrl := hst2
 refine calls_of (hp0 := []) Tryz.func141 J 23 Tryz.ntmps141 J (HRep.nil _) (Sat.seq (Sat.region (Tr.boxA J J ?_)))
 intro n2 hn2 hf2
 refine Tr.alloc (cs := (wordsV (List.replicate 8 0))) J Zr135 J ?_
 intro n4 hn4 hf4
 refine Tr.nil (at_n (Sat.seq (Sat.region (Tr.move J J J (Tr.call4 J J J J J Body212 (r2_Pad s F hsl hsn htot) (fun w h => seesP_ext h J hW) ?_)))))
 rintro v8 out8 ⟨s7, rfl, hac7⟩
 obtain ⟨q7, c7, rfl, hc7, rfl⟩ := acc_pos hac7 oM
 refine Tr.assign J J J (Tr.nil (at_n (Sat.seq (Sat.seq (Sat.region (Tr.assign J J J (Tr.nil (at_n (Sat.block (Sat.loop (ι := Nat) (fun i => ⟨[(2, ptr n2 0), (4, ptr n4 0), (5, .slice (some ⟨q7, 0, none⟩) (padB F).length c7), (6, i64 ((128 * i : Nat) : Int))], [⟨q7, bytesV (padB F), 5, c7 * 1⟩, ⟨n4, wordsV (List.replicate 8 0), 135, 8⟩, ⟨n2, wordsV (runW k st (padB F) i), 135, (wordsV st).length⟩]⟩) (fun i => i ≤ K) (fun i => K - i) (0) ?_ ?_ ?_))))))))))
 · exact Nat.zero_le _
 · exact weak_perm (wk1 rfl (wk1 rfl (wk1 rfl (wk1 rfl wk0)))) (pm_cons rM (pm_cons rM (pm_cons rM pm_nil)))
 ·
  rintro i hi
  have hrl : (runW k st (padB F) i).length = 8 := by rw [runW_length]; exact hst
  refine Sat.seq (Sat.seq (Sat.region (Tr.move J J J (Tr.move J J J (Tr.lenSl J J J Y39 (Tr.lss J J J J J (Tr.nil (at_n (Sat.condP J (fun hc0 => ?_) (fun hc0 => ?_))))))))))
  ·
   have hi3 : i < K := by omega
   obtain ⟨A, hA⟩ : ∃ A, Hid (schA ((padB F).drop (128 * i) |>.take 128) 128 = A) := ⟨_, ⟨rfl⟩⟩
   obtain ⟨w, hwp⟩ : ∃ w, Hid (schB A 64 = w) := ⟨_, ⟨rfl⟩⟩
   obtain ⟨R, hR⟩ : ∃ R, Hid (rnds k w (W8.of (runW k st (padB F) i)) 80 = R) := ⟨_, ⟨rfl⟩⟩
   have e1 : addUp (runW k st (padB F) i) R.l 8 = runW k st (padB F) (i + 1) := by rw [runW, pieceW, schW, hA.out, hwp.out, hR.out]
   have hrl2 : (runW k st (padB F) (i + 1)).length = 8 := by rw [runW_length]; exact hst
   refine Sat.skip (at_n (Sat.seq (Sat.block (Sat.draw [(1, 0), (0, 1), (0, 2), (0, 3), (0, 4), (0, 5), (3, 6), (4, 7)] Mixed zK (Tr.loadAll J J J Y135 J Sz135 Z2 (by (simp [hrl]; done)) ?_)))))
   refine Tr.move J J J (Tr.move J J J (Tr.move J J J (Tr.add_i64 J J J J oM (Tr.sliceLoHiN (128*i) (128*i+128) J J J J J oM oM oM oM Y39 Sz5 ?_))))
   rw [cut_chunk q7 c7 i oM]
   refine Tr.callV J J J J Body213 (r2_piece (runW k st (padB F) i) hrl ((padB F).drop (128 * i) |>.take 128) (take_len2 hpm hi3) q7 (128 * i) (c7 - 128 * i) A w k R hA hwp hk hk80 hR) (fun w h => sees_chunk (sees_own h Z0)) ?_
   rw [e1]
   refine Tr.storeAll J J J J zB Sz135 (by (simp [hst, runW_length]; done)) Z2 (by (simp [hrl]; done)) (by exact upd2) ?_
   refine Tr.nil (bl_n (at_n (Sat.region (Tr.move J J J (Tr.add_i64 J J J J oM (Tr.assign J J J (Tr.nil (at_n ?_))))))))
   exact ⟨i + 1, by omega, by omega, weak_perm (wk1 rfl (wk1 rfl (wk1 rfl (wk1 (congrArg (fun z => some (i64 z)) oM) wk0)))) (pm_cons rM (pm_cons rM (pm_cons rM pm_nil)))⟩
  ·
   rw [show (runW k st (padB F) i) = U from by rw [show i = K by omega, ← hU.out, allW, hK]]
   refine Sat.exit (at_x (at_x (bl_h (at_n (Sat.seq (Sat.region (Tr.loadAll J J J Y135 J Sz135 Z2 (by (simp [hst2]; done)) ?_)))))))
   refine Tr.storeAll J J J J zB Sz135 (by (simp [hst2]; done)) Z1 sP zV ?_
   refine Tr.nil (at_n (Sat.ret (en_r ?_)))
   refine ⟨_, [], res_cell J J Y135 J Sz135 Z1 (by simp [hst2]), sP, sP, ?_, rfl⟩
   rfl

theorem r2_Sum512 (p : Option Addr) (n c : Nat) (ss : List Sl) (ls : List (List UInt8)) (hss : ss.length = n) (hls : ls.length = n) (hsl : ∀ j, j < n → (ss.getD j Sl.nil).n = (ls.getD j []).length ∧ ((ss.getD j Sl.nil).p = none → (ss.getD j Sl.nil).n = 0)) (F : List UInt8) (hF : ls.flatten = F) (htot : F.length ≤ 90000) (hn : n ≤ 1000000) (s : List UInt8) (hs : Hid (sha512 F = s))  : Meets Tryz.prog 136 [.slice p n c] [] (fun W => SeesP W p (ss.map Sl.v) ∧ ∀ j, j < n → SeesP W (ss.getD j Sl.nil).p (bytesV (ls.getD j []))) (fun v out => v = agg (bytesV s) ∧ out = []) := by
 intro W hW
 have hs64 : s.length = 64 := by rw [← hs.out]; exact sha512_length F
 obtain ⟨k, hk⟩ : ∃ k, Hid (kW = k) := ⟨_, ⟨rfl⟩⟩
 obtain ⟨st, hst⟩ : ∃ k, Hid (startW = k) := ⟨_, ⟨rfl⟩⟩
 obtain ⟨r, hr⟩ : ∃ r, Hid (allW k st F = r) := ⟨_, ⟨rfl⟩⟩
 have hk80 : k.length = 80 := by rw [← hk.out]; rfl
 have hst8 : st.length = 8 := by rw [← hst.out]; rfl
 have hr8 : r.length = 8 := by rw [← hr.out, allW_length]; exact hst8
 have hsum : Hid (sumUp r 64 = s) := ⟨by rw [← hr.out, ← hk.out, ← hst.out]; exact hs.out⟩
 have hrun := fun (x : Sl) (h1 : x.n = F.length) (h2 : x.p = none → x.n = 0) => r2_run st hst8 k hk hk80 x F h1 h2 htot
 rw [hr.out] at hrun
 refine calls_of (hp0 := []) Tryz.func136 J 8 Tryz.ntmps136 J (HRep.nil _) (Sat.seq (Sat.region (Tr.alloc (cs := (bytesV (List.replicate 64 0))) J Zr26 J ?_)))
 intro n2 hn2 hf2
 refine Tr.nil (at_n (Sat.seq (Sat.region (Tr.callV J J J J Body208 (r2_Start st hst) (fun _ _ => trivial) (Tr.move J J J (Tr.call4 J J J J J Body143 (r2_join p n c ss ls hss hls hsl F hF htot hn) (fun w h => ⟨seesP_ext h J hW.1, fun j hj => seesP_ext h J (hW.2 j hj)⟩) ?_))))))
 rintro v5 out5 ⟨s5, rfl, hac5⟩
 refine Tr.callV J J J J Body141 (hrun s5 hac5.num hac5.nil) (fun w h => hac5.see (Lies.of h (by repeat (exact in_here)))) ?_
 refine Tr.callV J J J J Body140 (r2_bytes r hr8 s hsum) (fun _ _ => trivial) (Tr.storeAll J J J J zE Sz26 (by (simp [hs64]; done)) (by (repeat (first | exact List.mem_cons_self | refine mem_seg ?_))) sP (by (repeat (first | exact upd0 | apply Upd.seg))) ?_)
 refine Tr.nil (at_n (Sat.ret (en_r ?_)))
 refine ⟨_, [], res_cell J J Y26 J Sz26 (by (repeat (first | exact List.mem_cons_self | refine mem_seg ?_))) (by simp [hs64]), sP, sP, ?_, rfl⟩
 rfl

end Go.Proofs.YtpacobmjjjillaaGreat
end

section
namespace Ed
open Hw Go
set_option linter.unusedVariables false

def mr : List Nat → List Nat → Nat
  | w :: ws, b :: bs => w + 2 ^ b * mr ws bs
  | _, _ => 0
def dg (n : Nat) : List Nat → List Nat
  | b :: bs => n % 2 ^ b :: dg (n / 2 ^ b) bs
  | [] => []
def carL (c : Nat) : List Nat → List Nat → List Nat
  | w :: ws, b :: bs => (w + c) % 2 ^ b :: carL ((w + c) / 2 ^ b) ws bs
  | _, _ => []
theorem dg_length : ∀ (bs : List Nat) (n : Nat), (dg n bs).length = bs.length
  | [], _ => rfl
  | b :: bs, n => by simp [dg, dg_length bs]
theorem carL_dg : ∀ (bs ws : List Nat) (c : Nat), ws.length = bs.length → carL c ws bs = dg (mr ws bs + c) bs
  | [], ws, c, h => by cases ws <;> simp_all [carL, dg]
  | b :: bs, [], c, h => by simp at h
  | b :: bs, w :: ws, c, h => by
    have hp : 0 < 2 ^ b := Nat.pow_pos dE
    have h1 : mr (w :: ws) (b :: bs) + c = (w + c) + 2 ^ b * mr ws bs := by rw [mr]; omega
    rw [carL, dg, h1, Nat.add_mul_mod_self_left, Nat.add_mul_div_left _ _ hp, carL_dg bs ws _ (by simpa using h), Nat.add_comm (mr ws bs)]
theorem mr_dg : ∀ (bs : List Nat) (n : Nat), mr (dg n bs) bs = n % 2 ^ bs.sum
  | [], n => by simp [mr, dg, Nat.mod_one]
  | b :: bs, n => by
    rw [dg, mr, mr_dg bs, List.sum_cons, Nat.pow_add, Nat.mod_mul]
def b10 : List Nat := [26, 25, 26, 25, 26, 25, 26, 25, 26, 25]
theorem b10_sum : b10.sum = 255 := rfl
def bitsAt (i : Nat) : Nat := if i % 2 = 0 then 26 else 25
def v10 (w : List Nat) : Nat := mr w b10
/-- one step of a carry -/
def stepC (w : List Nat) (i : Nat) : List Nat :=
  if i = 9 then (w.set i (w.getD i 0 % 2 ^ bitsAt i)).set 0 ((w.set i (w.getD i 0 % 2 ^ bitsAt i)).getD 0 0 + 19 * (w.getD i 0 / 2 ^ bitsAt i))
  else (w.set i (w.getD i 0 % 2 ^ bitsAt i)).set (i + 1) ((w.set i (w.getD i 0 % 2 ^ bitsAt i)).getD (i + 1) 0 + w.getD i 0 / 2 ^ bitsAt i)
def carAt (w : List Nat) : Nat → List Nat
  | 0 => w
  | i + 1 => stepC (carAt w i) i
def car10 (w : List Nat) : List Nat := (dg (v10 w) b10).set 0 (v10 w % 2 ^ 26 + 19 * (v10 w / 2 ^ 255))
theorem len10 {w : List Nat} (h : w.length = 10) : ∃ a b c d e f g i j k, w = [a, b, c, d, e, f, g, i, j, k] := by
  match w, h with
  | [a, b, c, d, e, f, g, i, j, k], _ => exact ⟨a, b, c, d, e, f, g, i, j, k, rfl⟩
def cout (c : Nat) : List Nat → List Nat → Nat
  | w :: ws, b :: bs => cout ((w + c) / 2 ^ b) ws bs
  | _, _ => c
theorem cout_eq : ∀ (bs ws : List Nat) (c : Nat), ws.length = bs.length → cout c ws bs = (mr ws bs + c) / 2 ^ bs.sum
  | [], ws, c, h => by cases ws <;> simp_all [cout, mr]
  | b :: bs, [], c, h => by simp at h
  | b :: bs, w :: ws, c, h => by
    have hp : 0 < 2 ^ b := Nat.pow_pos dE
    have h1 : mr (w :: ws) (b :: bs) + c = (w + c) + 2 ^ b * mr ws bs := by rw [mr]; omega
    rw [cout, h1, List.sum_cons, Nat.pow_add, ← Nat.div_div_eq_div_mul, Nat.add_mul_div_left _ _ hp, cout_eq bs ws _ (by simpa using h), Nat.add_comm (mr ws bs)]
theorem stepC_0 (a b c d e f g i j k : Nat) : stepC [a, b, c, d, e, f, g, i, j, k] 0 = [a % 2 ^ 26, b + a / 2 ^ 26, c, d, e, f, g, i, j, k] := rfl
theorem stepC_1 (a b c d e f g i j k : Nat) : stepC [a, b, c, d, e, f, g, i, j, k] 1 = [a, b % 2 ^ 25, c + b / 2 ^ 25, d, e, f, g, i, j, k] := rfl
theorem stepC_2 (a b c d e f g i j k : Nat) : stepC [a, b, c, d, e, f, g, i, j, k] 2 = [a, b, c % 2 ^ 26, d + c / 2 ^ 26, e, f, g, i, j, k] := rfl
theorem stepC_3 (a b c d e f g i j k : Nat) : stepC [a, b, c, d, e, f, g, i, j, k] 3 = [a, b, c, d % 2 ^ 25, e + d / 2 ^ 25, f, g, i, j, k] := rfl
theorem stepC_4 (a b c d e f g i j k : Nat) : stepC [a, b, c, d, e, f, g, i, j, k] 4 = [a, b, c, d, e % 2 ^ 26, f + e / 2 ^ 26, g, i, j, k] := rfl
theorem stepC_5 (a b c d e f g i j k : Nat) : stepC [a, b, c, d, e, f, g, i, j, k] 5 = [a, b, c, d, e, f % 2 ^ 25, g + f / 2 ^ 25, i, j, k] := rfl
theorem stepC_6 (a b c d e f g i j k : Nat) : stepC [a, b, c, d, e, f, g, i, j, k] 6 = [a, b, c, d, e, f, g % 2 ^ 26, i + g / 2 ^ 26, j, k] := rfl
theorem stepC_7 (a b c d e f g i j k : Nat) : stepC [a, b, c, d, e, f, g, i, j, k] 7 = [a, b, c, d, e, f, g, i % 2 ^ 25, j + i / 2 ^ 25, k] := rfl
theorem stepC_8 (a b c d e f g i j k : Nat) : stepC [a, b, c, d, e, f, g, i, j, k] 8 = [a, b, c, d, e, f, g, i, j % 2 ^ 26, k + j / 2 ^ 26] := rfl
theorem stepC_9 (a b c d e f g i j k : Nat) : stepC [a, b, c, d, e, f, g, i, j, k] 9 = [a + 19 * (k / 2 ^ 25), b, c, d, e, f, g, i, j, k % 2 ^ 25] := rfl
theorem carAt_car {w : List Nat} (h : w.length = 10) : carAt w 10 = (carL 0 w b10).set 0 ((carL 0 w b10).getD 0 0 + 19 * cout 0 w b10) := by
  obtain ⟨a, b, c, d, e, f, g, i, j, k, rfl⟩ := len10 h
  simp only [carAt, stepC_0, stepC_1, stepC_2, stepC_3, stepC_4, stepC_5, stepC_6, stepC_7, stepC_8, stepC_9, b10, carL, cout, Nat.add_zero, List.set_cons_zero, List.getD_cons_zero]
theorem carAt_eq {w : List Nat} (h : w.length = 10) : carAt w 10 = car10 w := by
  rw [carAt_car h, carL_dg b10 w 0 h, cout_eq b10 w 0 h, b10_sum]
  rfl
theorem car10_length (w : List Nat) : (car10 w).length = 10 := by simp [car10, dg_length, b10]
/-- words within their bits; the lowest may have a little more -/
structure Fit10 (w : List Nat) : Prop where
  len : w.length = 10
  lo : w.getD 0 0 < 2 ^ 26 + 128
  hi : ∀ i, 0 < i → i < 10 → w.getD i 0 < 2 ^ bitsAt i
theorem dg_lt : ∀ (bs : List Nat) (n i : Nat), i < bs.length → (dg n bs).getD i 0 < 2 ^ bs.getD i 0
  | b :: bs, n, 0, _ => Nat.mod_lt _ (Nat.pow_pos dE)
  | b :: bs, n, i + 1, h => dg_lt bs (n / 2 ^ b) i (by simpa using h)
theorem b10_at : ∀ i : _root_.Fin 10, b10.getD i.val 0 = bitsAt i.val := by decide
theorem car10_fit {w : List Nat} (h : v10 w < 6 * 2 ^ 255) : Fit10 (car10 w) := by
  refine ⟨car10_length w, ?_, fun i h1 h2 => ?_⟩
  · show v10 w % 2 ^ 26 + 19 * (v10 w / 2 ^ 255) < _
    have : v10 w / 2 ^ 255 < 6 := Nat.div_lt_of_lt_mul oM
    have := Nat.mod_lt (v10 w) (show 0 < 2 ^ 26 by decide)
    omega
  · have h3 := dg_lt b10 (v10 w) i h2
    rw [b10_at ⟨i, h2⟩] at h3
    rwa [car10, List.getD_eq_getElem?_getD, List.getElem?_set_ne oM, ← List.getD_eq_getElem?_getD]
theorem car10_val (w : List Nat) : v10 (car10 w) = v10 w % 2 ^ 255 + 19 * (v10 w / 2 ^ 255) := by
  have h1 : dg (v10 w) b10 = v10 w % 2 ^ 26 :: dg (v10 w / 2 ^ 26) [25, 26, 25, 26, 25, 26, 25, 26, 25] := rfl
  have h2 : mr (dg (v10 w) b10) b10 = v10 w % 2 ^ 255 := mr_dg b10 (v10 w)
  rw [← h2, v10, car10, h1]
  show (v10 w % 2 ^ 26 + 19 * (v10 w / 2 ^ 255)) + 2 ^ 26 * _ = (v10 w % 2 ^ 26 + 2 ^ 26 * _) + _
  generalize mr _ _ = x
  omega
theorem car10_v (w : List Nat) : fe (v10 (car10 w)) = fe (v10 w) := by
  rw [car10_val]
  have h4 : v10 w = v10 w % 2 ^ 255 + 2 ^ 255 * (v10 w / 2 ^ 255) := (Nat.mod_add_div _ _).symm
  generalize v10 w / 2 ^ 255 = q at *
  generalize v10 w % 2 ^ 255 = r at *
  rw [h4, fe_eq]
  have e : r + 2 ^ 255 * q = (r + 19 * q) + PF * q := by
    have : (2 : Nat) ^ 255 = 19 + PF := by decide
    rw [this, Nat.add_mul]; omega
  rw [e, Nat.add_mul_mod_self_left]
def atOf (i : Nat) : Nat := (51 * i + 1) / 2
def coef (i k : Nat) : Nat := (if i + k > 9 then 19 else 1) * (if i % 2 = 1 ∧ k % 2 = 1 then 2 else 1)
theorem coef_le (i k : Nat) : coef i k ≤ 38 := by
  unfold coef
  split <;> split <;> omega
def coefOk (i k : Nat) : Bool := Nat.beq (2 ^ atOf ((i + k) % 10) * coef i k % PF) (2 ^ atOf i * 2 ^ atOf k % PF)
def coefAll : Bool := (List.range 10).all fun i => (List.range 10).all fun k => coefOk i k
theorem coef_all : coefAll = true := by kernel_rfl
theorem coef_fe {i k : Nat} (hi : i < 10) (hk : k < 10) : fe (2 ^ atOf ((i + k) % 10) * coef i k) = fe (2 ^ atOf i) * fe (2 ^ atOf k) := by
  have h := coef_all
  unfold coefAll at h
  rw [List.all_eq_true] at h
  have h1 := h i (List.mem_range.2 hi)
  rw [List.all_eq_true] at h1
  have h2 := h1 k (List.mem_range.2 hk)
  rw [← fe_mul]
  exact fe_eq.2 (Nat.eq_of_beq_eq_true h2)
theorem mr_set (p : Nat) : ∀ (bs w : List Nat) (m : Nat), w.length = bs.length → m < w.length → mr (w.set m (w.getD m 0 + p)) bs = mr w bs + 2 ^ (bs.take m).sum * p
  | [], [], m, _, h => by simp at h
  | b :: bs, x :: w, 0, _, _ => by
    show (x + p) + 2 ^ b * mr w bs = (x + 2 ^ b * mr w bs) + 2 ^ 0 * p
    omega
  | b :: bs, x :: w, m + 1, h1, h2 => by
    have ih := mr_set p bs w m (by simpa using h1) (by simpa using h2)
    show x + 2 ^ b * mr (w.set m (w.getD m 0 + p)) bs = (x + 2 ^ b * mr w bs) + 2 ^ (b + (bs.take m).sum) * p
    rw [ih, Nat.mul_add, Nat.pow_add, Nat.mul_assoc, Nat.add_assoc]
theorem at_sum : ∀ m : _root_.Fin 10, (b10.take m.val).sum = atOf m.val := by decide
theorem v10_set {w : List Nat} (h : w.length = 10) (p : Nat) {m : Nat} (hm : m < 10) : v10 (w.set m (w.getD m 0 + p)) = v10 w + 2 ^ atOf m * p := by
  rw [v10, mr_set p b10 w m h oM, at_sum ⟨m, hm⟩]; rfl
def tCell (x y : List Nat) (i k : Nat) (o : List Nat) : List Nat := o.set ((i + k) % 10) (o.getD ((i + k) % 10) 0 + coef i k * (x.getD i 0 * y.getD k 0))
def tRow (x y : List Nat) (i : Nat) (o : List Nat) : Nat → List Nat
  | 0 => o
  | k + 1 => tCell x y i k (tRow x y i o k)
def tAll (x y : List Nat) : Nat → List Nat
  | 0 => List.replicate 10 0
  | i + 1 => tRow x y i (tAll x y i) 10
theorem tRow_length (x y : List Nat) (i : Nat) {o : List Nat} (h : o.length = 10) : ∀ k, (tRow x y i o k).length = 10
  | 0 => h
  | k + 1 => by rw [tRow, tCell, List.length_set, tRow_length x y i h k]
theorem tAll_length (x y : List Nat) : ∀ i, (tAll x y i).length = 10
  | 0 => rfl
  | i + 1 => tRow_length x y i (tAll_length x y i) 10
/-- the value of the first words -/
def pv (w : List Nat) : Nat → Fp
  | 0 => 0
  | k + 1 => pv w k + fe (2 ^ atOf k) * fe (w.getD k 0)
theorem pv_all {w : List Nat} (h : w.length = 10) : pv w 10 = fe (v10 w) := by
  obtain ⟨a, b, c, d, e, f, g, i, j, k, rfl⟩ := len10 h
  have e1 : v10 [a, b, c, d, e, f, g, i, j, k] = 2 ^ atOf 0 * a + 2 ^ atOf 1 * b + 2 ^ atOf 2 * c + 2 ^ atOf 3 * d + 2 ^ atOf 4 * e + 2 ^ atOf 5 * f + 2 ^ atOf 6 * g + 2 ^ atOf 7 * i + 2 ^ atOf 8 * j + 2 ^ atOf 9 * k := by
    simp only [v10, mr, b10, atOf, Nat.mul_add, ← Nat.mul_assoc, ← Nat.pow_add, Nat.mul_zero, Nat.add_zero, ← Nat.add_assoc]
    simp
  rw [e1]
  simp only [fe_add, fe_mul, pv, List.getD_cons_zero, List.getD_cons_succ]
  grind
theorem tRow_v (x y : List Nat) (i : Nat) (hi : i < 10) {o : List Nat} (h : o.length = 10) : ∀ k, k ≤ 10 → fe (v10 (tRow x y i o k)) = fe (v10 o) + fe (2 ^ atOf i) * fe (x.getD i 0) * pv y k
  | 0, _ => by simp only [tRow, pv]; grind
  | k + 1, hk => by
    have ih := tRow_v x y i hi h k oM
    have hc := coef_fe hi (show k < 10 by omega)
    rw [tRow, tCell, v10_set (tRow_length x y i h k) _ (Nat.mod_lt _ dE), fe_add, ih, ← Nat.mul_assoc, fe_mul, hc, fe_mul, pv]
    generalize fe (2 ^ atOf i) = A
    generalize fe (2 ^ atOf k) = B
    grind
theorem tAll_v {x y : List Nat} (hy : y.length = 10) : ∀ i, i ≤ 10 → fe (v10 (tAll x y i)) = pv x i * fe (v10 y)
  | 0, _ => by
    have e : fe (v10 (List.replicate 10 0)) = 0 := by kernel_rfl
    rw [tAll, e, pv]; grind
  | i + 1, hi => by
    rw [tAll, tRow_v x y i oM (tAll_length x y i) 10 (Nat.le_refl _), tAll_v hy i oM, pv_all hy, pv]
    grind
def ones : List Nat → Nat
  | b :: bs => 1 + 2 ^ b * ones bs
  | [] => 0
theorem mr_le (B : Nat) : ∀ bs w : List Nat, w.length = bs.length → (∀ m, m < w.length → w.getD m 0 ≤ B) → mr w bs ≤ B * ones bs
  | [], [], _, _ => Nat.zero_le _
  | b :: bs, x :: w, h1, h2 => by
    have ih := mr_le B bs w (by simpa using h1) (fun m hm => h2 (m + 1) (by simpa using hm))
    have hx : x ≤ B := h2 0 sP
    have h3 : 2 ^ b * mr w bs ≤ 2 ^ b * (B * ones bs) := Nat.mul_le_mul_left _ ih
    show x + 2 ^ b * mr w bs ≤ B * (1 + 2 ^ b * ones bs)
    rw [Nat.mul_add, Nat.mul_one, Nat.mul_left_comm B]
    omega
theorem ones_lt : Nat.ble (ones b10 + 1) (2 ^ 231) = true := by kernel_rfl
theorem v10_le {w : List Nat} (h : w.length = 10) (B : Nat) (h2 : ∀ m, m < 10 → w.getD m 0 ≤ B) : v10 w ≤ B * 2 ^ 231 :=
  Nat.le_trans (mr_le B b10 w h (by rw [h]; exact h2)) (Nat.mul_le_mul_left _ (Nat.le_of_succ_le (Nat.le_of_ble_eq_true ones_lt)))
theorem getD_set' {l : List Nat} {i j v : Nat} (hi : i < l.length) : (l.set i v).getD j 0 = if j = i then v else l.getD j 0 := by
  rw [List.getD_eq_getElem?_getD, List.getElem?_set]
  split
  · rename_i e; subst e; rw [if_pos rfl]; simp
  · rename_i e; rw [if_neg (fun h => e h.symm), List.getD_eq_getElem?_getD]
theorem tRow_le {x y : List Nat} {B i : Nat} (hi : i < 10) (hb : ∀ k, k < 10 → coef i k * (x.getD i 0 * y.getD k 0) ≤ B) {o : List Nat} (h : o.length = 10) : ∀ k, k ≤ 10 → ∀ m, m < 10 → (tRow x y i o k).getD m 0 ≤ o.getD m 0 + (if (m + 10 - i) % 10 < k then B else 0)
  | 0, _, m, hm => by rw [if_neg oM]; exact Nat.le_refl _
  | k + 1, hk, m, hm => by
    have ih := tRow_le hi hb h k oM
    have hl := tRow_length x y i h k
    rw [tRow, tCell, getD_set' (by rw [hl]; exact Nat.mod_lt _ dE)]
    split
    · rename_i e
      have h1 := ih m hm
      have h2 := hb k oM
      rw [if_neg oM] at h1
      rw [if_pos oM, ← e]
      omega
    · rename_i e
      have h1 := ih m hm
      refine Nat.le_trans h1 (Nat.add_le_add_left ?_ _)
      split
      · rw [if_pos oM]; exact Nat.le_refl _
      · exact Nat.zero_le _
theorem tAll_le {x y : List Nat} {B : Nat} (hb : ∀ i k, i < 10 → k < 10 → coef i k * (x.getD i 0 * y.getD k 0) ≤ B) : ∀ i, i ≤ 10 → ∀ m, m < 10 → (tAll x y i).getD m 0 ≤ i * B
  | 0, _, m, hm => by
    show (List.replicate 10 0).getD m 0 ≤ _
    rw [List.getD_eq_getElem?_getD, List.getElem?_replicate_of_lt hm, Nat.zero_mul]; exact Nat.le_refl _
  | i + 1, hi, m, hm => by
    have h1 := tRow_le oM (fun k hk => hb i k oM hk) (tAll_length x y i) 10 (Nat.le_refl _) m hm
    have h2 := tAll_le hb i oM m hm
    rw [if_pos (Nat.mod_lt _ dE)] at h1
    rw [tAll, Nat.succ_mul]
    omega
theorem Fit10.all {w : List Nat} (h : Fit10 w) {m : Nat} (hm : m < 10) : w.getD m 0 < 2 ^ 27 := by
  by_cases h0 : m = 0
  · subst h0; have := h.lo; omega
  · have h1 := h.hi m oM hm
    refine Nat.lt_of_lt_of_le h1 ?_
    unfold bitsAt; split <;> decide
theorem term_le {x y : List Nat} (hx : Fit10 x) (hy : Fit10 y) (i k : Nat) (hi : i < 10) (hk : k < 10) : coef i k * (x.getD i 0 * y.getD k 0) ≤ 38 * (2 ^ 27 * 2 ^ 27) :=
  Nat.mul_le_mul (coef_le i k) (Nat.mul_le_mul (Nat.le_of_lt (hx.all hi)) (Nat.le_of_lt (hy.all hk)))
def mulT (x y : List Nat) : List Nat := car10 (car10 (tAll x y 10))
theorem mulT_v {x y : List Nat} (hx : x.length = 10) (hy : y.length = 10) : fe (v10 (mulT x y)) = fe (v10 x) * fe (v10 y) := by
  rw [mulT, car10_v, car10_v, tAll_v hy 10 (Nat.le_refl _), pv_all hx]
theorem mr_lt : ∀ bs w : List Nat, w.length = bs.length → (∀ m, m < w.length → w.getD m 0 < 2 ^ bs.getD m 0) → mr w bs + 1 ≤ 2 ^ bs.sum
  | [], [], _, _ => Nat.le_refl _
  | b :: bs, x :: w, h1, h2 => by
    have ih := mr_lt bs w (by simpa using h1) (fun m hm => h2 (m + 1) (by simpa using hm))
    have hx : x < 2 ^ b := h2 0 sP
    have h3 : 2 ^ b * (mr w bs + 1) ≤ 2 ^ b * 2 ^ bs.sum := Nat.mul_le_mul_left _ ih
    rw [mr, List.sum_cons, Nat.pow_add]
    rw [Nat.mul_add, Nat.mul_one] at h3
    omega
theorem Fit10.v {w : List Nat} (h : Fit10 w) : v10 w < 2 ^ 255 + 128 := by
  have hl := h.len
  have h0 := h.lo
  have h1 := h.hi
  cases w with
  | nil => simp at hl
  | cons a t =>
    have h2 := mr_lt [25, 26, 25, 26, 25, 26, 25, 26, 25] t (by simpa using hl) (fun m hm => by
      have h3 := h1 (m + 1) oM (by simp at hl; omega)
      have h4 := b10_at ⟨m + 1, by simp at hl; omega⟩
      rw [← h4] at h3
      exact h3)
    have h5 : [25, 26, 25, 26, 25, 26, 25, 26, 25].sum = 229 := rfl
    rw [h5] at h2
    have h6 : a < 2 ^ 26 + 128 := h0
    show a + 2 ^ 26 * mr t _ < _
    omega
theorem mulT_fit {x y : List Nat} (hx : Fit10 x) (hy : Fit10 y) : Fit10 (mulT x y) := by
  have h1 := tAll_le (term_le hx hy) 10 (Nat.le_refl _)
  have h2 := v10_le (tAll_length x y 10) _ h1
  refine car10_fit ?_
  have h4 : v10 (tAll x y 10) / 2 ^ 255 < 2 ^ 40 := Nat.div_lt_of_lt_mul oM
  have h5 := Nat.mod_lt (v10 (tAll x y 10)) (show 0 < 2 ^ 255 by decide)
  rw [car10_val]
  omega
theorem mulT_length (x y : List Nat) : (mulT x y).length = 10 := car10_length _
def addAt (x y : List Nat) : Nat → List Nat
  | 0 => x
  | i + 1 => (addAt x y i).set i ((addAt x y i).getD i 0 + y.getD i 0)
theorem addAt_length {x : List Nat} (y : List Nat) (h : x.length = 10) : ∀ i, (addAt x y i).length = 10
  | 0 => h
  | i + 1 => by rw [addAt, List.length_set, addAt_length y h i]
def npv (w : List Nat) : Nat → Nat
  | 0 => 0
  | k + 1 => npv w k + 2 ^ atOf k * w.getD k 0
theorem addAt_v {x y : List Nat} (h : x.length = 10) : ∀ i, i ≤ 10 → v10 (addAt x y i) = v10 x + npv y i
  | 0, _ => rfl
  | i + 1, hi => by rw [addAt, v10_set (addAt_length y h i) _ oM, addAt_v h i oM, npv, Nat.add_assoc]
theorem npv_all {w : List Nat} (h : w.length = 10) : npv w 10 = v10 w := by
  obtain ⟨a, b, c, d, e, f, g, i, j, k, rfl⟩ := len10 h
  simp only [v10, mr, b10, atOf, Nat.mul_add, ← Nat.mul_assoc, ← Nat.pow_add, Nat.mul_zero, Nat.add_zero, ← Nat.add_assoc, npv, List.getD_cons_zero, List.getD_cons_succ]
  simp
def plusT (x y : List Nat) : List Nat := car10 (addAt x y 10)
theorem plusT_v {x y : List Nat} (hx : x.length = 10) (hy : y.length = 10) : fe (v10 (plusT x y)) = fe (v10 x) + fe (v10 y) := by
  rw [plusT, car10_v, addAt_v hx 10 (Nat.le_refl _), npv_all hy, fe_add]
theorem plusT_fit {x y : List Nat} (hx : Fit10 x) (hy : Fit10 y) : Fit10 (plusT x y) := by
  refine car10_fit ?_
  rw [addAt_v hx.len 10 (Nat.le_refl _), npv_all hy.len]
  have := hx.v
  have := hy.v
  omega
/-- four times the prime, in words -/
def p4 (i : Nat) : Nat := 4 * (2 ^ bitsAt i - 1 - (if i = 0 then 18 else 0))
def subAt (x y : List Nat) : Nat → List Nat
  | 0 => x
  | i + 1 => (subAt x y i).set i ((subAt x y i).getD i 0 + (p4 i - y.getD i 0))
theorem subAt_length {x : List Nat} (y : List Nat) (h : x.length = 10) : ∀ i, (subAt x y i).length = 10
  | 0 => h
  | i + 1 => by rw [subAt, List.length_set, subAt_length y h i]
def p4v : Nat → Nat
  | 0 => 0
  | k + 1 => p4v k + 2 ^ atOf k * p4 k
theorem p4v_all : p4v 10 = 4 * PF := by kernel_rfl
theorem p4_ge {y : List Nat} (hy : Fit10 y) {i : Nat} (hi : i < 10) : y.getD i 0 ≤ p4 i := by
  unfold p4
  by_cases h0 : i = 0
  · subst h0
    have := hy.lo
    rw [if_pos rfl]
    show _ ≤ 4 * (2 ^ 26 - 1 - 18)
    omega
  · have h1 := hy.hi i oM hi
    rw [if_neg h0]
    have : 1 ≤ 2 ^ bitsAt i := Nat.pow_pos dE
    omega
theorem subAt_v {x y : List Nat} (h : x.length = 10) (hy : Fit10 y) : ∀ i, i ≤ 10 → v10 (subAt x y i) + npv y i = v10 x + p4v i
  | 0, _ => rfl
  | i + 1, hi => by
    have ih := subAt_v h hy i oM
    have h1 := p4_ge hy (show i < 10 by omega)
    have h2 : 2 ^ atOf i * (p4 i - y.getD i 0) + 2 ^ atOf i * y.getD i 0 = 2 ^ atOf i * p4 i := by
      rw [← Nat.mul_add, Nat.sub_add_cancel h1]
    rw [subAt, v10_set (subAt_length y h i) _ oM, npv, p4v]
    omega
def minusT (x y : List Nat) : List Nat := car10 (subAt x y 10)
theorem minusT_v {x y : List Nat} (hx : x.length = 10) (hy : Fit10 y) : fe (v10 (minusT x y)) = fe (v10 x) - fe (v10 y) := by
  have h := congrArg fe (subAt_v hx hy 10 (Nat.le_refl _))
  rw [npv_all hy.len, p4v_all, fe_add, fe_add, fe_four] at h
  rw [minusT, car10_v]
  generalize fe (v10 (subAt x y 10)) = u at *
  generalize fe (v10 x) = a at *
  generalize fe (v10 y) = b at *
  grind
theorem minusT_fit {x y : List Nat} (hx : Fit10 x) (hy : Fit10 y) : Fit10 (minusT x y) := by
  refine car10_fit ?_
  have h := subAt_v hx.len hy 10 (Nat.le_refl _)
  rw [p4v_all] at h
  have h1 := hx.v
  have h2 : PF < 2 ^ 255 := by decide
  omega
theorem car10_low {w : List Nat} (h : v10 w < 2 ^ 255) : car10 w = dg (v10 w) b10 := by
  rw [car10, Nat.div_eq_of_lt h, Nat.mul_zero, Nat.add_zero]; rfl
theorem v10_dg {n : Nat} (h : n < 2 ^ 255) : v10 (dg n b10) = n := by rw [v10, mr_dg, b10_sum, Nat.mod_eq_of_lt h]
/-- the number below 2^255 that four carries leave -/
def low10 (w : List Nat) : Nat := v10 w % 2 ^ 255 + 19 * (v10 w / 2 ^ 255)
theorem low10_fe (w : List Nat) : fe (low10 w) = fe (v10 w) := by rw [low10, ← car10_val, car10_v]
theorem low10_lt {w : List Nat} (h : Fit10 w) : low10 w < 2 ^ 255 := by
  have h1 := h.v
  rw [low10]
  omega
theorem car10_four {w : List Nat} (h : Fit10 w) : car10 (car10 (car10 (car10 w))) = dg (low10 w) b10 := by
  have h1 := low10_lt h
  have h2 : v10 (car10 w) = low10 w := car10_val w
  have h3 : car10 (car10 w) = dg (low10 w) b10 := by rw [car10_low (by rw [h2]; exact h1), h2]
  have h4 : car10 (dg (low10 w) b10) = dg (low10 w) b10 := by rw [car10_low (by rw [v10_dg h1]; exact h1), v10_dg h1]
  rw [h3, h4, h4]
end Ed
end

section
namespace Ed
open Hw Go
set_option linter.unusedVariables false

structure Mid10 (w : List Nat) : Prop where
  len : w.length = 10
  le : ∀ m, m < 10 → w.getD m 0 ≤ 7205759403792793600
theorem bits_ge (i : Nat) : 33554432 ≤ 2 ^ bitsAt i := by unfold bitsAt; split <;> decide
theorem bits_le (i : Nat) : 2 ^ bitsAt i ≤ 67108864 := by unfold bitsAt; split <;> decide
theorem bits_26 (i : Nat) : bitsAt i ≤ 26 := by unfold bitsAt; split <;> decide
theorem carAt_length {w : List Nat} (h : w.length = 10) : ∀ i, (carAt w i).length = 10
  | 0 => h
  | i + 1 => by rw [carAt, stepC]; split <;> simp [carAt_length h i]
theorem div_bits (x i : Nat) (h : x ≤ 7205759403792793600 + 274877906944) : x / 2 ^ bitsAt i ≤ 274877906944 := by
  have h1 : x / 2 ^ bitsAt i ≤ x / 33554432 := Nat.div_le_div_left (bits_ge i) dE
  omega
theorem carAt_le {w : List Nat} (h : Mid10 w) : ∀ i, i < 10 → ∀ m, m < 10 → (carAt w i).getD m 0 ≤ (if m = i then 7205759403792793600 + 274877906944 else 7205759403792793600)
  | 0, _, m, hm => by
    have := h.le m hm
    rw [carAt]
    split <;> omega
  | i + 1, hi, m, hm => by
    have ih := carAt_le h i oM
    have hl := carAt_length h.len i
    have h2 := ih i oM
    rw [if_pos rfl] at h2
    rw [carAt, stepC, if_neg oM, getD_set' (by rw [List.length_set, hl]; omega)]
    split
    · rename_i e
      rw [getD_set' (by rw [hl]; omega), if_neg oM]
      have h1 := ih (i + 1) oM
      rw [if_neg oM] at h1
      have h3 := div_bits _ i h2
      omega
    · rename_i e
      rw [getD_set' (by rw [hl]; omega)]
      split
      · have h3 : (carAt w i).getD i 0 % 2 ^ bitsAt i < 2 ^ bitsAt i := Nat.mod_lt _ (Nat.pow_pos dE)
        have h4 := bits_le i
        omega
      · rename_i e2
        have h1 := ih m hm
        rw [if_neg e2] at h1
        exact h1
/-- what one round of a carry needs -/
structure CarK (w : List Nat) (k : Nat) : Prop where
  len : (carAt w k).length = 10
  x : (carAt w k).getD k 0 ≤ 7480637310737687 * 1000
  q : (carAt w k).getD k 0 / 2 ^ bitsAt k ≤ 274877906944
  nx : k < 9 → ((carAt w k).set k ((carAt w k).getD k 0 % 2 ^ bitsAt k)).getD (k + 1) 0 ≤ 7205759403792793600
  fs : k = 9 → ((carAt w k).set k ((carAt w k).getD k 0 % 2 ^ bitsAt k)).getD 0 0 ≤ 7205759403792793600
theorem carK {w : List Nat} (h : Mid10 w) {k : Nat} (hk : k < 10) : CarK w k := by
  have hl := carAt_length h.len k
  have h0 := carAt_le h k hk
  have h1 := h0 k hk
  rw [if_pos rfl] at h1
  refine ⟨hl, by omega, div_bits _ k h1, fun h9 => ?_, fun h9 => ?_⟩
  · rw [getD_set' (by rw [hl]; omega), if_neg oM]
    have := h0 (k + 1) oM
    rwa [if_neg oM] at this
  · rw [getD_set' (by rw [hl]; omega), if_neg oM]
    have := h0 0 oM
    rwa [if_neg oM] at this
theorem car_cut (x n : Nat) : x / 2 ^ n * 2 ^ n ≤ x ∧ x - x / 2 ^ n * 2 ^ n = x % 2 ^ n := by
  have := Nat.mod_add_div x (2 ^ n)
  rw [Nat.mul_comm] at this
  omega
theorem stepC_nine {w : List Nat} {k : Nat} (h : k = 9) : stepC w k = (w.set k (w.getD k 0 % 2 ^ bitsAt k)).set 0 ((w.set k (w.getD k 0 % 2 ^ bitsAt k)).getD 0 0 + 19 * (w.getD k 0 / 2 ^ bitsAt k)) := if_pos h
theorem stepC_low {w : List Nat} {k : Nat} (h : ¬ k = 9) : stepC w k = (w.set k (w.getD k 0 % 2 ^ bitsAt k)).set (k + 1) ((w.set k (w.getD k 0 % 2 ^ bitsAt k)).getD (k + 1) 0 + w.getD k 0 / 2 ^ bitsAt k) := if_neg h
theorem Fit10.mid {w : List Nat} (h : Fit10 w) : Mid10 w := ⟨h.len, fun m hm => by have := h.all hm; omega⟩
theorem car10_mid {w : List Nat} (h : v10 w < 2 ^ 300) : Mid10 (car10 w) := by
  refine ⟨car10_length w, fun m hm => ?_⟩
  have hl : (dg (v10 w) b10).length = 10 := by rw [dg_length]; rfl
  rw [car10, getD_set' (by rw [hl]; decide)]
  split
  · have h1 : v10 w / 2 ^ 255 < 2 ^ 45 := Nat.div_lt_of_lt_mul oM
    have h2 := Nat.mod_lt (v10 w) (show 0 < 2 ^ 26 by decide)
    omega
  · have h3 := dg_lt b10 (v10 w) m hm
    rw [b10_at ⟨m, hm⟩] at h3
    have := bits_le m
    simp only at h3
    omega
theorem tAll_mid {x y : List Nat} (hx : Fit10 x) (hy : Fit10 y) : Mid10 (tAll x y 10) :=
  ⟨tAll_length x y 10, fun m hm => by have := tAll_le (term_le hx hy) 10 (Nat.le_refl _) m hm; omega⟩
theorem tAll_v10 {x y : List Nat} (hx : Fit10 x) (hy : Fit10 y) : v10 (tAll x y 10) < 2 ^ 300 := by
  have h1 := tAll_le (term_le hx hy) 10 (Nat.le_refl _)
  have h2 := v10_le (tAll_length x y 10) _ h1
  omega
theorem addAt_get {x y : List Nat} (h : x.length = 10) : ∀ i, i ≤ 10 → ∀ m, m < 10 → (addAt x y i).getD m 0 = x.getD m 0 + (if m < i then y.getD m 0 else 0)
  | 0, _, m, hm => by rw [addAt, if_neg oM]; rfl
  | i + 1, hi, m, hm => by
    have ih := addAt_get (y := y) h i oM
    have hl := addAt_length y h i
    rw [addAt, getD_set' (by rw [hl]; omega)]
    split
    · rename_i e
      subst e
      rw [ih m hm, if_neg oM, if_pos oM]; rfl
    · rename_i e
      rw [ih m hm]
      by_cases h1 : m < i
      · rw [if_pos h1, if_pos oM]
      · rw [if_neg h1, if_neg oM]
theorem addAt_mid {x y : List Nat} (hx : Fit10 x) (hy : Fit10 y) : Mid10 (addAt x y 10) :=
  ⟨addAt_length y hx.len 10, fun m hm => by
    rw [addAt_get hx.len 10 (Nat.le_refl _) m hm, if_pos hm]
    have := hx.all hm
    have := hy.all hm
    omega⟩
theorem subAt_get {x y : List Nat} (h : x.length = 10) : ∀ i, i ≤ 10 → ∀ m, m < 10 → (subAt x y i).getD m 0 = x.getD m 0 + (if m < i then p4 m - y.getD m 0 else 0)
  | 0, _, m, hm => by rw [subAt, if_neg oM]; rfl
  | i + 1, hi, m, hm => by
    have ih := subAt_get (y := y) h i oM
    have hl := subAt_length y h i
    rw [subAt, getD_set' (by rw [hl]; omega)]
    split
    · rename_i e
      subst e
      rw [ih m hm, if_neg oM, if_pos oM]; rfl
    · rename_i e
      rw [ih m hm]
      by_cases h1 : m < i
      · rw [if_pos h1, if_pos oM]
      · rw [if_neg h1, if_neg oM]
theorem p4_le (m : Nat) : p4 m ≤ 268435456 := by
  have := bits_le m
  unfold p4
  omega
theorem subAt_mid {x y : List Nat} (hx : Fit10 x) : Mid10 (subAt x y 10) :=
  ⟨subAt_length y hx.len 10, fun m hm => by
    rw [subAt_get hx.len 10 (Nat.le_refl _) m hm, if_pos hm]
    have := hx.all hm
    have := p4_le m
    omega⟩
def o10 : List Nat := [26, 25, 26, 25, 26, 25, 26, 25, 26, 26]
def opB (i : Nat) : Nat := if i = 9 then 26 else bitsAt i
def opD (N : Nat) : List Nat := dg N o10
def opAt (N i : Nat) : List Nat := (opD N).take i ++ List.replicate (10 - i) 0
theorem opD_length (N : Nat) : (opD N).length = 10 := by rw [opD, dg_length]; rfl
theorem opAt_length (N i : Nat) (h : i ≤ 10) : (opAt N i).length = 10 := by
  rw [opAt, List.length_append, List.length_take, opD_length, List.length_replicate]; omega
theorem dg_get : ∀ (bs : List Nat) (n i : Nat), i < bs.length → (dg n bs).getD i 0 = n / 2 ^ (bs.take i).sum % 2 ^ bs.getD i 0
  | b :: bs, n, 0, _ => by
    show n % 2 ^ b = n / 2 ^ 0 % 2 ^ b
    rw [Nat.pow_zero, Nat.div_one]
  | b :: bs, n, i + 1, h => by
    have ih := dg_get bs (n / 2 ^ b) i (by simpa using h)
    show (dg (n / 2 ^ b) bs).getD i 0 = n / 2 ^ (b + (bs.take i).sum) % 2 ^ bs.getD i 0
    rw [ih, Nat.div_div_eq_div_mul, ← Nat.pow_add]
theorem o10_at : ∀ i : _root_.Fin 10, o10.getD i.val 0 = opB i.val ∧ (o10.take i.val).sum = atOf i.val := by decide
theorem opD_get (N : Nat) {i : Nat} (h : i < 10) : (opD N).getD i 0 = N / 2 ^ atOf i % 2 ^ opB i := by
  have h1 := o10_at ⟨i, h⟩
  rw [opD, dg_get o10 N i h, h1.1, h1.2]
theorem opAt_set (N : Nat) {i : Nat} (h : i < 10) : (opAt N i).set i (N / 2 ^ atOf i % 2 ^ opB i) = opAt N (i + 1) := by
  rw [← opD_get N h]
  have hl := opD_length N
  have e : (opD N).take (i + 1) = (opD N).take i ++ [(opD N).getD i 0] := by
    rw [List.getD_eq_getElem?_getD, List.getElem?_eq_getElem oM, Option.getD_some]
    exact List.take_succ_eq_append_getElem oM
  rw [opAt, opAt, show 10 - i = (10 - (i + 1)) + 1 by omega, List.replicate_succ, List.set_append_right _ _ (by rw [List.length_take, hl]; omega), List.length_take, hl, show i - min i 10 = 0 by omega, List.set_cons_zero, e, List.append_assoc]
  rfl
theorem opAt_first (N : Nat) {i : Nat} (h : i < 10) : (opAt N i).set i (N / 2 ^ atOf i % 2 ^ 0) = opAt N i := by
  have hl := opD_length N
  rw [Nat.pow_zero, Nat.mod_one, opAt, show 10 - i = (10 - (i + 1)) + 1 by omega, List.replicate_succ, List.set_append_right _ _ (by rw [List.length_take, hl]; omega), List.length_take, hl, show i - min i 10 = 0 by omega, List.set_cons_zero]
theorem opAt_ten (N : Nat) : opAt N 10 = opD N := by
  rw [opAt, Nat.sub_self, List.replicate_zero, List.append_nil, List.take_of_length_le (by rw [opD_length]; exact Nat.le_refl _)]
theorem opD_v {N : Nat} (h : N < 2 ^ 256) : v10 (opD N) = N := by
  have h1 : v10 (opD N) = mr (dg N o10) o10 := by simp [v10, opD, o10, b10, dg, mr]
  rw [h1, mr_dg]
  exact Nat.mod_eq_of_lt h
theorem opD_mid (N : Nat) : Mid10 (opD N) := ⟨opD_length N, fun m hm => by
  rw [opD_get N hm]
  have h1 : N / 2 ^ atOf m % 2 ^ opB m < 2 ^ opB m := Nat.mod_lt _ (Nat.pow_pos dE)
  have h2 : 2 ^ opB m ≤ 67108864 := by
    unfold opB
    split
    · decide
    · exact bits_le m
  omega⟩
def openT (N : Nat) : List Nat := car10 (opD N)
theorem openT_fit {N : Nat} (h : N < 2 ^ 256) : Fit10 (openT N) := car10_fit (by rw [opD_v h]; omega)
theorem openT_v {N : Nat} (h : N < 2 ^ 256) : fe (v10 (openT N)) = fe N := by rw [openT, car10_v, opD_v h]
theorem openT_length (N : Nat) : (openT N).length = 10 := car10_length _
theorem op_bit (N i k : Nat) : N / 2 ^ atOf i % 2 ^ (k + 1) = N / 2 ^ atOf i % 2 ^ k + (if N.testBit (atOf i + k) then 2 ^ k else 0) := by
  rw [mod_bit, Nat.testBit_div_two_pow, Nat.add_comm k]
theorem at_succ {i : Nat} (h : i < 10) : atOf i + bitsAt i = atOf (i + 1) := by
  have : ∀ i : _root_.Fin 10, atOf i.val + bitsAt i.val = atOf (i.val + 1) := by decide
  exact this ⟨i, h⟩
theorem at_le {i : Nat} (h : i < 10) : atOf i ≤ 230 := by unfold atOf; omega
theorem at_op {i : Nat} (h : i < 10) : atOf i + opB i ≤ 256 := by
  have : ∀ i : _root_.Fin 10, atOf i.val + opB i.val ≤ 256 := by decide
  exact this ⟨i, h⟩
theorem op_le (i : Nat) : opB i ≤ 26 := by
  unfold opB
  split
  · exact Nat.le_refl _
  · exact bits_26 i
theorem byte_hi {n i : Nat} (h : n < 256 ^ i) : n / 256 ^ i = 0 := Nat.div_eq_of_lt h
theorem bit_set (X : Nat) {m : Nat} (hm : m < 256) (hb : X.testBit m = true) : (leb 32 (X % 2 ^ m)).set (m / 8) ((leb 32 (X % 2 ^ m)).getD (m / 8) 0 + shl8 1 (m % 8)) = leb 32 (X % 2 ^ (m + 1)) := by
  have e1 : X % 2 ^ (m + 1) = X % 2 ^ m + 2 ^ m := by rw [mod_bit, if_pos hb]
  have e2 : (2 : Nat) ^ m = 256 ^ (m / 8) * 2 ^ (m % 8) := by rw [pow256, ← Nat.pow_add]; congr 1; omega
  have hlt : X % 2 ^ m < 2 ^ m := Nat.mod_lt _ (Nat.pow_pos dE)
  rw [e1]
  generalize X % 2 ^ m = A at *
  have hc : 2 ^ (m % 8) < 256 := Nat.pow_lt_pow_of_lt (a := 2) (n := m % 8) (m := 8) dE oM
  have hj : m / 8 < 32 := by omega
  generalize m / 8 = j at *
  apply List.ext_getElem?
  intro i
  rcases Nat.lt_or_ge i 32 with hi | hi
  · rw [List.getElem?_set, leb_length, leb_get 32 (A + 2 ^ m) i hi]
    split
    · rename_i e
      subst e
      rw [leb_getD 32 A _ hj]
      congr 1
      rw [shl8, show (1 : UInt8).toNat = 1 from rfl, Nat.one_mul, e2, Nat.add_mul_div_left _ _ (Nat.pow_pos dE), ← UInt8.ofNat_add]
    · rename_i e
      rw [leb_get 32 A i hi]
      congr 1
      apply ofNat8
      rcases Nat.lt_or_ge i j with h | h
      · rw [e2, byte_low A _ j i h]
      · have h2 : j + 1 ≤ i := by omega
        have h3 : A + 2 ^ m < 256 ^ i := by
          have h4 : (256 : Nat) ^ (j + 1) ≤ 256 ^ i := Nat.pow_le_pow_right dE h2
          have h5 : (2 : Nat) ^ m + 2 ^ m ≤ 256 ^ (j + 1) := by
            rw [e2, Nat.pow_succ, ← Nat.mul_add]
            refine Nat.mul_le_mul_left _ ?_
            have h6 : 2 ^ (m % 8) ≤ 2 ^ 7 := Nat.pow_le_pow_right dE oM
            omega
          omega
        rw [byte_hi h3, byte_hi oM]
  · rw [List.getElem?_eq_none (by rw [List.length_set, leb_length]; exact hi), List.getElem?_eq_none (by rw [leb_length]; exact hi)]
theorem bit_off (X m : Nat) (hb : X.testBit m = false) : leb 32 (X % 2 ^ m) = leb 32 (X % 2 ^ (m + 1)) := by
  rw [mod_bit, if_neg (by rw [hb]; decide), Nat.add_zero]
/-- bit k of word i -/
theorem dg_bit (X : Nat) {i k : Nat} (hi : i < 10) (hk : k < bitsAt i) : ((dg X b10).getD i 0).testBit k = X.testBit (atOf i + k) := by
  have h1 := b10_at ⟨i, hi⟩
  have h2 := at_sum ⟨i, hi⟩
  rw [dg_get b10 X i hi, h1, h2, Nat.testBit_mod_two_pow, Nat.testBit_div_two_pow, decide_eq_true hk, Bool.true_and, Nat.add_comm k]
theorem dg_bit_dec (X : Nat) {i k : Nat} (hi : i < 10) (hk : k < bitsAt i) : ((((dg X b10).getD i 0 / 2 ^ k : Nat) : Int) % 2 = 1) ↔ X.testBit (atOf i + k) = true := by
  rw [← dg_bit X hi hk, Nat.testBit_eq_decide_div_mod_eq, decide_eq_true_eq]
  omega
def topL (d : Nat) : List UInt8 := UInt8.ofNat (237 + d) :: (List.replicate 30 255 ++ [127])
theorem top_all : ((List.range 19).all fun d => leb 32 (PF + d) == topL d && leb 32 d == UInt8.ofNat d :: List.replicate 31 0) = true := by kernel_rfl
theorem top_at {d : Nat} (h : d < 19) : leb 32 (PF + d) = topL d ∧ leb 32 d = UInt8.ofNat d :: List.replicate 31 0 := by
  have := List.all_eq_true.1 top_all d (List.mem_range.2 h)
  rw [Bool.and_eq_true] at this
  exact ⟨eq_of_beq this.1, eq_of_beq this.2⟩
theorem pf_19 : PF + 19 = 2 ^ 255 := by decide
theorem fb_low {X : Nat} (h : X < PF) : leb 32 X = fb (fe X) := by rw [fb_fe, Nat.mod_eq_of_lt h]
theorem not_top {X : Nat} (hX : X < 2 ^ 255) (h : ¬ (237 ≤ ((leb 32 X).getD 0 0).toNat ∧ ((leb 32 X).getD 31 0).toNat = 127)) : leb 32 X = fb (fe X) := by
  rcases Nat.lt_or_ge X PF with h1 | h1
  · exact fb_low h1
  · exfalso
    have h2 := pf_19
    obtain ⟨d, rfl⟩ : ∃ d, X = PF + d := ⟨X - PF, by omega⟩
    have hd : d < 19 := by omega
    rw [(top_at hd).1] at h
    refine h ⟨?_, rfl⟩
    show 237 ≤ (UInt8.ofNat (237 + d)).toNat
    rw [UInt8.toNat_ofNat']
    omega
theorem not_mid {X i : Nat} (hX : X < 2 ^ 255) (hi : 0 < i) (hi2 : i < 31) (h : ¬ ((leb 32 X).getD i 0).toNat = 255) : leb 32 X = fb (fe X) := by
  rcases Nat.lt_or_ge X PF with h1 | h1
  · exact fb_low h1
  · exfalso
    have h2 := pf_19
    obtain ⟨d, rfl⟩ : ∃ d, X = PF + d := ⟨X - PF, by omega⟩
    have hd : d < 19 := by omega
    rw [(top_at hd).1] at h
    refine h ?_
    obtain ⟨j, rfl⟩ : ∃ j, i = j + 1 := ⟨i - 1, by omega⟩
    show ((List.replicate 30 (255 : UInt8) ++ [127]).getD j 0).toNat = 255
    rw [List.getD_eq_getElem?_getD, List.getElem?_append_left (by rw [List.length_replicate]; omega), List.getElem?_replicate_of_lt oM]
    rfl
theorem u8_eq (x y : UInt8) (h : x.toNat = y.toNat) : x = y := UInt8.toNat_inj.1 h
theorem top_list {l : List UInt8} {d : Nat} (hl : l.length = 32) (hd19 : d < 19) (hd : (l.getD 0 0).toNat = 237 + d) (h31 : (l.getD 31 0).toNat = 127) (hm : ∀ i, 0 < i → i < 31 → (l.getD i 0).toNat = 255) : l = topL d := by
  apply List.ext_getElem?
  intro i
  rcases Nat.lt_or_ge i 32 with hi | hi
  · have g : l[i]? = some (l.getD i 0) := by
      rw [List.getD_eq_getElem?_getD, List.getElem?_eq_getElem oM]; rfl
    rw [g]
    by_cases h1 : i = 0
    · rw [h1]
      show _ = some (UInt8.ofNat (237 + d))
      refine congrArg some (u8_eq _ _ ?_)
      rw [hd, UInt8.toNat_ofNat']
      exact (Nat.mod_eq_of_lt oM).symm
    · obtain ⟨j, rfl⟩ : ∃ j, i = j + 1 := ⟨i - 1, by omega⟩
      show _ = (List.replicate 30 (255 : UInt8) ++ [127])[j]?
      by_cases h2 : j = 30
      · rw [h2]
        exact congrArg some (u8_eq _ _ h31)
      · rw [List.getElem?_append_left (by rw [List.length_replicate]; omega), List.getElem?_replicate_of_lt oM]
        exact congrArg some (u8_eq _ _ (hm (j + 1) oM oM))
  · rw [List.getElem?_eq_none oM, List.getElem?_eq_none (by simp only [topL, List.length_cons, List.length_append, List.length_replicate, List.length_nil]; omega)]
theorem top_sub : ∀ d : _root_.Fin 19, UInt8.ofNat (237 + d.val) - 237 = UInt8.ofNat d.val := by decide
theorem top_val {X d : Nat} (hX : X < 2 ^ 255) (hd : d < 19) (h : leb 32 X = topL d) : X = PF + d := by
  have h5 := (top_at hd).1
  rw [← h] at h5
  have h6 := congrArg le h5
  have h7 := pf_19
  rw [le_leb, le_leb] at h6
  generalize PF = p at *
  rw [Nat.mod_eq_of_lt (Nat.lt_of_lt_of_le (show p + d < 2 ^ 255 by omega) (Nat.le_of_lt dE)), Nat.mod_eq_of_lt (Nat.lt_trans hX dE)] at h6
  exact h6.symm
theorem is_top {X : Nat} (hX : X < 2 ^ 255) (h0 : 237 ≤ ((leb 32 X).getD 0 0).toNat) (h31 : ((leb 32 X).getD 31 0).toNat = 127) (hm : ∀ i, 0 < i → i < 31 → ((leb 32 X).getD i 0).toNat = 255) : ((leb 32 X).getD 0 0 - 237) :: List.replicate 31 0 = fb (fe X) := by
  have h3 := ((leb 32 X).getD 0 0).toNat_lt
  obtain ⟨d, hd⟩ : ∃ d, ((leb 32 X).getD 0 0).toNat = 237 + d := ⟨((leb 32 X).getD 0 0).toNat - 237, by omega⟩
  have hd19 : d < 19 := by omega
  have e := top_list (leb_length 32 X) hd19 hd h31 hm
  have e2 := top_val hX hd19 e
  have e3 : (leb 32 X).getD 0 0 = UInt8.ofNat (237 + d) := by rw [e]; rfl
  have h7 : fe X = fe d := by rw [e2, fe_eq, Nat.add_mod_left]
  rw [h7, fb_fe, Nat.mod_eq_of_lt (Nat.lt_trans hd19 dE), (top_at hd19).2, e3, top_sub ⟨d, hd19⟩]
theorem finv_mulF (a b : Fp) : finv (a * b) = finv a * finv b := mulpow dE
def cA : Fp := fe 121666
def cB : Fp := fe 121665
theorem cA_ne : cA ≠ 0 := by
  intro h
  have := congrArg Fin.val h
  revert this
  decide
theorem fD_cA : fD * cA = -cB := by kernel_rfl
theorem ref_quot (Y : Fp) : cA * (Y * Y - 1) * finv (cA - cB * (Y * Y)) = (Y * Y - 1) * finv (fD * (Y * Y) + 1) := by
  have h1 : cA - cB * (Y * Y) = cA * (fD * (Y * Y) + 1) := by
    have := fD_cA
    generalize Y * Y = q at *
    generalize cA = a at *
    generalize cB = b at *
    generalize fD = d at *
    grind
  have h2 := finv_mul cA_ne
  rw [h1, finv_mulF]
  generalize finv (fD * (Y * Y) + 1) = u at *
  generalize finv cA = v at *
  generalize cA = a at *
  grind
theorem ref_D : -cB * finv cA = fD := by
  have h1 := fD_cA
  have h2 := finv_mul cA_ne
  generalize finv cA = v at *
  generalize cA = a at *
  generalize cB = b at *
  generalize fD = d at *
  grind
end Ed
end

section
namespace Go.Proofs.YtpacobmjjjillaaGreat
open Go Hw
set_option linter.unusedVariables false
set_option linter.unusedSimpArgs false

open Ed

theorem bits_even {i : Nat} (h : (i : Int).tmod 2 = 0) : bitsAt i = 26 := by 
  unfold bitsAt
  have e : (i : Int).tmod 2 = ((i % 2 : Nat) : Int) := rfl
  rw [if_pos oM]
theorem bits_odd {i : Nat} (h : ¬ (i : Int).tmod 2 = 0) : bitsAt i = 25 := by 
  unfold bitsAt
  have e : (i : Int).tmod 2 = ((i % 2 : Nat) : Int) := rfl
  rw [if_neg oM]
theorem bits_w (i : Nat) : ((UInt64.ofNat (bitsAt i)).toNat : Int) = ((bitsAt i : Nat) : Int) := by
  have := bits_26 i
  rw [UInt64.toNat_ofNat', Nat.mod_eq_of_lt oM]
theorem bits_wn (i : Nat) : (UInt64.ofNat (bitsAt i)).toNat = bitsAt i := by
  have := bits_26 i
  rw [UInt64.toNat_ofNat', Nat.mod_eq_of_lt oM]
theorem carAt_nine {w : List Nat} {k : Nat} (h : (k : Int) = 9) : carAt w (k + 1) = ((carAt w k).set k ((carAt w k).getD k 0 % 2 ^ bitsAt k)).set 0 (((carAt w k).set k ((carAt w k).getD k 0 % 2 ^ bitsAt k)).getD 0 0 + 19 * ((carAt w k).getD k 0 / 2 ^ bitsAt k)) := stepC_nine oM
theorem carAt_low {w : List Nat} {k : Nat} (h : ¬ (k : Int) = 9) : carAt w (k + 1) = ((carAt w k).set k ((carAt w k).getD k 0 % 2 ^ bitsAt k)).set (k + 1) (((carAt w k).set k ((carAt w k).getD k 0 % 2 ^ bitsAt k)).getD (k + 1) 0 + (carAt w k).getD k 0 / 2 ^ bitsAt k) := stepC_low oM
theorem opB_nine {i : Nat} (h : (i : Int) = 9) : opB i = 26 := if_pos oM
theorem opB_low {i : Nat} (h : ¬ (i : Int) = 9) : opB i = bitsAt i := if_neg oM
theorem natc {a b : Nat} (h : a = b) : some (i64 (a : Int)) = some (i64 (b : Int)) := by rw [h]

theorem r3_bits (i : Nat) (hi : i < 10) : Meets Tryz.prog 229 [i64 (i : Int)] [] (fun _ => True) (fun v out => v = u64 (UInt64.ofNat (bitsAt i)) ∧ out = []) := by
 intro W hW
 refine calls_of (hp0 := []) Tryz.func229 J 6 Tryz.ntmps229 J (HRep.nil _) (Sat.seq (Sat.region (Tr.assign J J (show evIn _ _ = some (u64 0) from rfl) (Tr.nil (at_n (Sat.seq (Sat.seq (Sat.region (Tr.move J J J (Tr.rem_i64 J J J J oM (Tr.eqi J J J J J (Tr.nil (at_n (Sat.condP J (fun hc0 => ?_) (fun hc0 => ?_)))))))))))))))
 ·
  rw [bits_even hc0]
  refine Sat.seq (Sat.region (Tr.assign J J (show evIn _ _ = some (u64 26) from rfl) (Tr.nil (at_n (Sat.ret (at_r (en_r ?_)))))))
  refine ⟨_, [], res_tmp J J, sP, sP, ?_, rfl⟩
  rfl
 ·
  rw [bits_odd hc0]
  refine Sat.skip (at_n (Sat.seq (Sat.region (Tr.assign J J (show evIn _ _ = some (u64 25) from rfl) (Tr.nil (at_n (Sat.ret (en_r ?_))))))))
  refine ⟨_, [], res_tmp J J, sP, sP, ?_, rfl⟩
  rfl

theorem r3_carry (w : List Nat) (h : Mid10 w) : Meets Tryz.prog 230 [agg (wdsV w)] [] (fun _ => True) (fun v out => v = agg (wdsV (car10 w)) ∧ out = []) := by
 intro W hW
 have hlw := h.len
 obtain ⟨u, hu0⟩ : ∃ u, Hid (car10 w = u) := ⟨_, ⟨rfl⟩⟩
 have hul : u.length = 10 := by rw [← hu0.out]; exact car10_length w
 rw [hu0.out]
 refine calls_of (hp0 := []) Tryz.func230 J 43 Tryz.ntmps230 J (HRep.nil _) (Sat.seq (Sat.region (Tr.boxA J J ?_)))
 intro n1 hn1 hf1
 refine Tr.alloc (cs := (intsV (List.replicate 10 0))) J Zr177 J ?_
 intro n2 hn2 hf2
 refine Tr.nil (at_n (Sat.seq (Sat.seq (Sat.region (Tr.assign J J J (Tr.nil (at_n (Sat.block (Sat.loop (ι := Nat) (fun k => ⟨[(1, ptr n1 0), (2, ptr n2 0), (3, i64 (k : Int))], [⟨n2, (intsV (List.replicate 10 0)), 177, 10⟩, ⟨n1, wdsV (carAt w k), 177, (wdsV w).length⟩]⟩) (fun k => k ≤ 10) (fun k => 10 - k) (0) ?_ ?_ ?_)))))))))
 · omega
 · exact weak_of (wk1 rfl (wk1 rfl (wk1 rfl wk0))) (wh1 Z0 (wh1 Z1 wh0)) nD
 ·
  rintro k hi
  have hlc := carAt_length h.len k
  refine Sat.seq (Sat.seq (Sat.region (Tr.move J J J (Tr.lss J J J J J (Tr.nil (at_n (Sat.condP J (fun hc0 => ?_) (fun hc0 => ?_))))))))
  ·
   have hk2 : k < 10 := by omega
   have ck := carK h hk2
   have hb26 := bits_26 k
   have hcut := car_cut ((carAt w k).getD k 0) (bitsAt k)
   have hx := ck.x
   have hq := ck.q
   have hsl : ((carAt w k).set k ((carAt w k).getD k 0 % 2 ^ bitsAt k)).length = 10 := by rw [List.length_set]; exact hlc
   refine Sat.skip (at_n (Sat.seq (Sat.block (Sat.seq (Sat.draw [(0, 0), (0, 1), (1, 2), (0, 3), (3, 4), (0, 5), (0, 6)] Mixed zK (Tr.move J J J (Tr.idxArr1 J J J J Y177 Sz2 _ J oM (Tr.load1 J J J Y2 J Z1 (by exact get_wds oM) ?_))))))))
   refine Tr.move J J J (Tr.callV J J J J Body229 (r3_bits k hk2) (fun _ _ => trivial) (Tr.shrN ((carAt w k).getD k 0) (bitsAt k) J J J J (bits_w k) oM (Tr.assign J J J (Tr.nil (at_n (Sat.seq (Sat.draw [(0, 0), (0, 1), (0, 2), (1, 3), (0, 4), (0, 5), (3, 6), (0, 7), (0, 8), (0, 9), (4, 10)] Mixed zK (Tr.move J J J (Tr.move J J J (Tr.idxArr1 J J J J Y177 Sz2 _ J oM (Tr.load1 J J J Y2 J Z1 (by exact get_wds oM) ?_)))))))))))
   refine Tr.move J J J (Tr.move J J J (Tr.callV J J J J Body229 (r3_bits k hk2) (fun _ _ => trivial) (Tr.shlN ((carAt w k).getD k 0 / 2 ^ bitsAt k) (bitsAt k) J J J J (bits_w k) oM oM (Tr.subN ((carAt w k).getD k 0) ((carAt w k).getD k 0 / 2 ^ bitsAt k * 2 ^ bitsAt k) J J J J oM (Tr.idxArr1 J J J J Y177 Sz2 _ J oM ?_)))))
   rw [hcut.2]
   refine Tr.store1 J J J J J Sz2 Z1 (by (simp [wdsV_length]; omega)) (by exact set_wds _ _ _) zV ?_
   refine Tr.nil (at_n (Sat.seq (Sat.region (Tr.move J J J (Tr.eqi J J J J J (Tr.nil (at_n (Sat.condP J (fun hc1 => ?_) (fun hc1 => ?_)))))))))
   ·
    have hfs := ck.fs oM
    refine Sat.region (Tr.idxArr1 J J J J Y177 Sz2 0 J dE (Tr.load1 J J J Y2 J Z1 (by exact get_wds oM) ?_))
    refine Tr.move J J J (Tr.mulN (19) ((carAt w k).getD k 0 / 2 ^ bitsAt k) J J J J oM (Tr.addN (((carAt w k).set k ((carAt w k).getD k 0 % 2 ^ bitsAt k)).getD 0 0) (19 * ((carAt w k).getD k 0 / 2 ^ bitsAt k)) J J J J oM (Tr.idxArr1 J J J J Y177 Sz2 0 J dE (Tr.store1 J J J J J Sz2 Z1 (by (simp [wdsV_length]; omega)) (by exact set_wds _ _ _) zV ?_))))
    refine Tr.nil (bl_n (at_n (Sat.region (Tr.move J J J (Tr.add_i64 J J J J oM (Tr.assign J J J (Tr.nil (at_n ?_))))))))
    exact ⟨k + 1, by omega, by omega, weak_of (wk1 rfl (wk1 rfl (wk1 rfl wk0))) (wh1 Z0 (wh1 (by (rw [carAt_nine hc1]; exact mem1)) wh0)) nD⟩
   ·
    have hnx := ck.nx oM
    refine Sat.region (Tr.move J J J (Tr.addN (k) (1) J J J J oM (Tr.move J J J (Tr.addN (k) (1) J J J J oM (Tr.idxArr1 J J J J Y177 Sz2 _ J oM (Tr.load1 J J J Y2 J Z1 (by exact get_wds oM) ?_))))))
    refine Tr.move J J J (Tr.addN (((carAt w k).set k ((carAt w k).getD k 0 % 2 ^ bitsAt k)).getD (k + 1) 0) ((carAt w k).getD k 0 / 2 ^ bitsAt k) J J J J oM (Tr.idxArr1 J J J J Y177 Sz2 _ J oM (Tr.store1 J J J J J Sz2 Z1 (by (simp [wdsV_length]; omega)) (by exact set_wds _ _ _) zV ?_)))
    refine Tr.nil (bl_n (at_n (Sat.region (Tr.move J J J (Tr.add_i64 J J J J oM (Tr.assign J J J (Tr.nil (at_n ?_))))))))
    exact ⟨k + 1, by omega, by omega, weak_of (wk1 rfl (wk1 rfl (wk1 rfl wk0))) (wh1 Z0 (wh1 (by (rw [carAt_low hc1]; exact mem1)) wh0)) nD⟩
  ·
   rw [show carAt w k = u from by rw [show k = 10 by omega, carAt_eq h.len, hu0.out]]
   refine Sat.exit (at_x (at_x (bl_h (at_n (Sat.seq (Sat.region (Tr.loadAll J J J Y177 J Sz177 Z1 (by (simp [wdsV_length, hul]; done)) ?_)))))))
   refine Tr.storeAll J J J J (by exact wdsV_cell _) Sz177 (by (simp [wdsV_length, hul]; done)) Z0 sP zU ?_
   refine Tr.nil (at_n (Sat.ret (en_r ?_)))
   refine ⟨_, [], res_cell J J Y177 J Sz177 Z0 (by simp [wdsV_length, hul]), sP, sP, ?_, rfl⟩
   rfl

theorem op_on {N i k : Nat} (hi : i < 10) (hb : N.testBit (atOf i + k) = true) : ((opAt N i).set i (N / 2 ^ atOf i % 2 ^ k)).set i (((opAt N i).set i (N / 2 ^ atOf i % 2 ^ k)).getD i 0 + 1 * 2 ^ k) = (opAt N i).set i (N / 2 ^ atOf i % 2 ^ (k + 1)) := by
  have hl := opAt_length N i oM
  rw [getD_set' oM, if_pos rfl, List.set_set, op_bit, hb, if_pos rfl, Nat.one_mul]
theorem op_off {N i k : Nat} (hb : N.testBit (atOf i + k) = false) : (opAt N i).set i (N / 2 ^ atOf i % 2 ^ k) = (opAt N i).set i (N / 2 ^ atOf i % 2 ^ (k + 1)) := by
  rw [op_bit, hb, if_neg dE, Nat.add_zero]
theorem op_val {N i k : Nat} (hi : i < 10) (hk : k ≤ 26) : ((opAt N i).set i (N / 2 ^ atOf i % 2 ^ k)).getD i 0 ≤ 67108864 ∧ 2 ^ k ≤ 67108864 := by
  have hl := opAt_length N i oM
  have h1 : 2 ^ k ≤ 2 ^ 26 := Nat.pow_le_pow_right dE hk
  have h2 : N / 2 ^ atOf i % 2 ^ k < 2 ^ k := Nat.mod_lt _ (Nat.pow_pos dE)
  rw [getD_set' oM, if_pos rfl]
  omega
theorem bit_is {a : List UInt8} {m : Nat} (h : (((UInt8.ofNat ((shr8 (a.getD (m / 8) 0) (m % 8)).toNat % 2)).toNat : Int) = 1)) : (le a).testBit m = true := by rw [← bit_rem]; exact decide_eq_true h
theorem bit_isn {a : List UInt8} {m : Nat} (h : ¬ (((UInt8.ofNat ((shr8 (a.getD (m / 8) 0) (m % 8)).toNat % 2)).toNat : Int) = 1)) : (le a).testBit m = false := by rw [← bit_rem]; exact decide_eq_false h

theorem r3_Open (a : List UInt8) (ha : a.length = 32) : Meets Tryz.prog 188 [agg (bytesV a)] [] (fun _ => True) (fun v out => v = agg (wdsV (openT (le a))) ∧ out = []) := by
 intro W hW
 obtain ⟨u, hu⟩ : ∃ u, Hid (openT (le a) = u) := ⟨_, ⟨rfl⟩⟩
 obtain ⟨D, hD⟩ : ∃ D, Hid (opD (le a) = D) := ⟨_, ⟨rfl⟩⟩
 have hu10 : u.length = 10 := by rw [← hu.out]; exact openT_length _
 have hd10 : D.length = 10 := by rw [← hD.out]; exact opD_length _
 have hc := r3_carry D (by rw [← hD.out]; exact opD_mid _)
 rw [show car10 D = u from by rw [← hD.out]; exact hu.out] at hc
 rw [hu.out]
 have hsl := hd10
 refine calls_of (hp0 := []) Tryz.func188 J 58 Tryz.ntmps188 J (HRep.nil _) (Sat.seq (Sat.region (Tr.boxA J J ?_)))
 intro n1 hn1 hf1
 refine Tr.alloc (cs := (intsV (List.replicate 10 0))) J Zr177 J ?_
 intro n2 hn2 hf2
 refine Tr.nil (at_n (Sat.seq (Sat.region (Tr.alloc (cs := (intsV (List.replicate 10 0))) J Zr177 J ?_))))
 intro n3 hn3 hf3
 refine Tr.nil (at_n (Sat.seq (Sat.region (Tr.assign J J J (Tr.nil (at_n (Sat.seq (Sat.seq (Sat.region (Tr.assign J J J (Tr.nil (at_n (Sat.block (Sat.loop (ι := Nat) (fun i => ⟨[(1, ptr n1 0), (2, ptr n2 0), (3, ptr n3 0), (4, i64 ((atOf i : Nat) : Int)), (5, i64 (i : Int))], [⟨n3, wdsV (opAt (le a) i), 177, 10⟩, ⟨n2, (intsV (List.replicate 10 0)), 177, 10⟩, ⟨n1, bytesV a, 77, (bytesV a).length⟩]⟩) (fun i => i ≤ 10) (fun i => 10 - i) (0) ?_ ?_ ?_))))))))))))))
 · omega
 · exact weak_of (wk1 rfl (wk1 rfl (wk1 rfl (wk1 rfl (wk1 rfl wk0))))) (wh1 (by rw [show wdsV (opAt (le a) 0) = intsV (List.replicate 10 0) from rfl]; exact mem0) (wh1 Z1 (wh1 Z2 wh0))) nD
 ·
  rintro i hi
  refine Sat.seq (Sat.seq (Sat.region (Tr.move J J J (Tr.lss J J J J J (Tr.nil (at_n (Sat.condP J (fun hc0 => ?_) (fun hc0 => ?_))))))))
  ·
   have hi2 : i < 10 := by omega
   have hb26 := bits_26 i
   have hbw := bits_wn i
   have hop := at_op hi2
   have hopl := op_le i
   have hat := at_le hi2
   refine Sat.skip (at_n (Sat.seq (Sat.block (Sat.seq (Sat.region (Tr.move J J J (Tr.callV J J J J Body229 (r3_bits i hi2) (fun _ _ => trivial) (Tr.conv J J J Y35 Y3 (cv_u64_i64 oM) ?_))))))))
   rw [bits_wn]
   refine Tr.assign J J J (Tr.nil (at_n (Sat.join (ι := Unit) (fun _u => ⟨[(1, ptr n1 0), (2, ptr n2 0), (3, ptr n3 0), (4, i64 ((atOf i : Nat) : Int)), (5, i64 (i : Int)), (6, i64 ((opB i : Nat) : Int))], [⟨n3, wdsV (opAt (le a) i), 177, 10⟩, ⟨n2, (intsV (List.replicate 10 0)), 177, 10⟩, ⟨n1, bytesV a, 77, (bytesV a).length⟩]⟩) (fun _u => True) ?_ ?_)))
   ·
    refine Sat.seq (Sat.region (Tr.move J J J (Tr.eqi J J J J J (Tr.nil (at_n (Sat.condP J (fun hc1 => ?_) (fun hc1 => ?_)))))))
    ·
     refine Sat.region (Tr.assign J J J (Tr.nil (at_n ?_)))
     (rw [opB_nine hc1]; exact ⟨(), trivial, weak_of (wk1 rfl (wk1 rfl (wk1 rfl (wk1 rfl (wk1 rfl (wk1 rfl wk0)))))) (wh1 Z0 (wh1 Z1 (wh1 Z2 wh0))) nD⟩)
    ·
     refine Sat.skip (at_n ?_)
     (rw [opB_low hc1]; exact ⟨(), trivial, weak_of (wk1 rfl (wk1 rfl (wk1 rfl (wk1 rfl (wk1 rfl (wk1 rfl wk0)))))) (wh1 Z0 (wh1 Z1 (wh1 Z2 wh0))) nD⟩)
   ·
    intro _u hj
    skip
    refine Sat.seq (Sat.seq (Sat.region (Tr.assign J J J (Tr.nil (at_n (Sat.block (Sat.loop (ι := Nat) (fun k => ⟨[(1, ptr n1 0), (2, ptr n2 0), (3, ptr n3 0), (4, i64 ((atOf i : Nat) : Int)), (5, i64 (i : Int)), (6, i64 ((opB i : Nat) : Int)), (7, i64 (k : Int))], [⟨n3, wdsV ((opAt (le a) i).set i (le a / 2 ^ atOf i % 2 ^ k)), 177, 10⟩, ⟨n2, (intsV (List.replicate 10 0)), 177, 10⟩, ⟨n1, bytesV a, 77, (bytesV a).length⟩]⟩) (fun k => k ≤ opB i) (fun k => opB i - k) (0) ?_ ?_ ?_)))))))
    · exact Nat.zero_le _
    · exact weak_of (wk1 rfl (wk1 rfl (wk1 rfl (wk1 rfl (wk1 rfl (wk1 rfl (wk1 rfl wk0))))))) (wh1 (by rw [opAt_first _ hi2]; exact mem0) (wh1 Z1 (wh1 Z2 wh0))) nD
    ·
     rintro k hk
     have hsl : ((opAt (le a) i).set i (le a / 2 ^ atOf i % 2 ^ k)).length = 10 := by rw [List.length_set]; exact opAt_length _ i oM
     refine Sat.seq (Sat.seq (Sat.region (Tr.move J J J (Tr.move J J J (two (fun r hr k => Tr.lss J J J J hr k) (fun hs10_20 => ?_) (fun hs10_20 => ?_))))))
     ·
      have hs10_2 := of_decide_eq_true hs10_20
      skip
      refine Tr.move J J J (Tr.move J J J (Tr.move J J J (Tr.addN (atOf i) (k) J J J J oM (Tr.lss J J J J (decide_eq_true oM) (Tr.pick J J J J J J (Tr.nil (at_n (Sat.cond_t J J (Sat.skip (at_n (Sat.seq (Sat.block (Sat.seq (Sat.region (Tr.move J J J (Tr.move J J J (Tr.addN (atOf i) (k) J J J J oM (Tr.quoN (atOf i + k) (8) J J J J ⟨by decide, by omega⟩ ?_))))))))))))))))))
      refine Tr.idxArr1 J J J J Y77 Sz5 _ J oM (Tr.load1 J J J Y5 J Z2 zG ?_)
      refine Tr.move J J J (Tr.move J J J (Tr.addN (atOf i) (k) J J J J oM (Tr.remN (atOf i + k) (8) J J J J dE (Tr.conv J J J Y3 Y35 (cv_i64_u64 _) (Tr.shr_u8 J J J J ((atOf i + k) % 8) (by rw [wordOf_id _ oM]) oM ?_)))))
      refine Tr.rem_u8 J J J J 2 J dE (Tr.eqi J J J J J (Tr.nil (at_n (Sat.condP J (fun hc3 => ?_) (fun hc3 => ?_)))))
      ·
       have hbt := bit_is hc3
       have hov := op_val (N := le a) hi2 (show k ≤ 26 by omega)
       refine Sat.region (Tr.move J J J (Tr.move J J J (Tr.idxArr1 J J J J Y177 Sz2 _ J oM (Tr.load1 J J J Y2 J Z0 (by exact get_wds oM) ?_))))
       refine Tr.move J J J (Tr.conv J J J Y3 Y35 (cv_i64_u64 _) (Tr.shlN 1 k J J J J (wordOf_id _ oM) oM oM (Tr.addN (((opAt (le a) i).set i (le a / 2 ^ atOf i % 2 ^ k)).getD i 0) (1 * 2 ^ k) J J J J oM (Tr.idxArr1 J J J J Y177 Sz2 _ J oM (Tr.store1 J J J J J Sz2 Z0 (by (simp [wdsV_length, hsl]; omega)) (by exact set_wds _ _ _) zU ?_)))))
       refine Tr.nil (bl_n (at_n (Sat.region (Tr.move J J J (Tr.add_i64 J J J J oM (Tr.assign J J J (Tr.nil (at_n ?_))))))))
       exact ⟨k + 1, by omega, by omega, weak_of (wk1 rfl (wk1 rfl (wk1 rfl (wk1 rfl (wk1 rfl (wk1 rfl (wk1 rfl wk0))))))) (wh1 (by (rw [← op_on hi2 hbt]; exact mem0)) (wh1 Z1 (wh1 Z2 wh0))) nD⟩
      ·
       have hbf := bit_isn hc3
       refine Sat.skip (bl_n (at_n (Sat.region (Tr.move J J J (Tr.add_i64 J J J J oM (Tr.assign J J J (Tr.nil (at_n ?_))))))))
       exact ⟨k + 1, by omega, by omega, weak_of (wk1 rfl (wk1 rfl (wk1 rfl (wk1 rfl (wk1 rfl (wk1 rfl (wk1 rfl wk0))))))) (wh1 (by (rw [← op_off hbf]; exact mem0)) (wh1 Z1 (wh1 Z2 wh0))) nD⟩
     ·
      have hs10_2 := of_decide_eq_false hs10_20
      skip
      refine Tr.move J J J (Tr.skp J J (Tr.skp J J (Tr.skp J J (Tr.skp J J (Tr.pick J J J J J J (Tr.nil (at_n (Sat.cond_f J J (Sat.exit (at_x (at_x (bl_h (at_n (Sat.region (Tr.move J J J (Tr.move J J J (Tr.callV J J J J Body229 (r3_bits i hi2) (fun _ _ => trivial) (Tr.conv J J J Y35 Y3 (cv_u64_i64 oM) ?_))))))))))))))))))
      rw [bits_wn]
      refine Tr.addN (atOf i) (bitsAt i) J J J J oM (Tr.assign J J J (Tr.nil (bl_n (at_n (Sat.region (Tr.move J J J (Tr.add_i64 J J J J oM (Tr.assign J J J (Tr.nil (at_n ?_))))))))))
      exact ⟨i + 1, by omega, by omega, weak_of (wk1 rfl (wk1 rfl (wk1 rfl (wk1 (natc (at_succ hi2)) (wk1 rfl wk0))))) (wh1 (by rw [← opAt_set (le a) hi2, show opB i = k by omega]; exact mem0) (wh1 Z1 (wh1 Z2 wh0))) nD⟩
  ·
   rw [show opAt (le a) i = D from by rw [show i = 10 by omega, opAt_ten]; exact hD.out]
   refine Sat.exit (at_x (at_x (bl_h (at_n (Sat.seq (Sat.region (Tr.loadAll J J J Y177 J Sz177 Z0 (by (simp [wdsV_length, hd10]; done)) ?_)))))))
   refine Tr.callV J J J J Body230 (hc) (fun _ _ => trivial) (Tr.storeAll J J J J (by exact wdsV_cell _) Sz177 (by (simp [wdsV_length, hu10]; done)) Z1 sP zV ?_)
   refine Tr.nil (at_n (Sat.ret (en_r ?_)))
   refine ⟨_, [], res_cell J J Y177 J Sz177 Z1 (by simp [wdsV_length, hu10]), sP, sP, ?_, rfl⟩
   rfl

theorem close_first (X : Nat) : leb 32 (X % 2 ^ atOf 0) = List.replicate 32 0 := by
  rw [show atOf 0 = 0 from rfl, Nat.pow_zero, Nat.mod_one, leb_zero32]

theorem r3_Close (w : List Nat) (hw : Fit10 w) : Meets Tryz.prog 196 [agg (wdsV w)] [] (fun _ => True) (fun v out => v = agg (bytesV (fb (fe (v10 w)))) ∧ out = []) := by
 intro W hW
 have hlw := hw.len
 obtain ⟨X, hX⟩ : ∃ X, Hid (low10 w = X) := ⟨_, ⟨rfl⟩⟩
 have hX255 : X < 2 ^ 255 := by rw [← hX.out]; exact low10_lt hw
 have h4 := car10_four hw
 rw [hX.out] at h4
 have hfx : fe (v10 w) = fe X := by rw [← hX.out]; exact (low10_fe w).symm
 rw [hfx]
 have f1 : Fit10 (car10 w) := car10_fit (by have := hw.v; omega)
 have f2 : Fit10 (car10 (car10 w)) := car10_fit (by have := f1.v; omega)
 have f3 : Fit10 (car10 (car10 (car10 w))) := car10_fit (by have := f2.v; omega)
 have c1 := r3_carry w hw.mid
 have c2 := r3_carry _ f1.mid
 have c3 := r3_carry _ f2.mid
 have c4 := r3_carry _ f3.mid
 rw [h4] at c4
 have hl1 := f1.len
 have hl2 := f2.len
 have hl3 := f3.len
 have hDl : (dg X b10).length = 10 := by rw [dg_length]; rfl
 have hDb : ∀ i k, i < 10 → k < bitsAt i → (((((dg X b10).getD i 0 / 2 ^ k % 2 : Nat) : Int) = 1) ↔ X.testBit (atOf i + k) = true) := fun i k h1 h2 => dg_bit_dec X h1 h2
 have ht := fun h => not_top hX255 h
 have hm := fun i h1 h2 h => not_mid (i := i) hX255 h1 h2 h
 have htop := fun h1 h2 h3 => is_top hX255 h1 h2 h3
 obtain ⟨O, hO⟩ : ∃ O, Hid (leb 32 X = O) := ⟨_, ⟨rfl⟩⟩
 have hOl : O.length = 32 := by rw [← hO.out]; exact leb_length _ _
 rw [hO.out] at ht hm htop
 clear f1 f2 f3 h4
 revert c1 c2 c3 c4 hl1 hl2 hl3 hDl hDb
 generalize car10 (car10 (car10 w)) = w3
 generalize car10 (car10 w) = w2
 generalize car10 w = w1
 generalize dg X b10 = D
 intro c1 c2 c3 c4 hl1 hl2 hl3 hDl hDb
 generalize hFB : fb (fe X) = FB at ht hm htop ⊢
 refine calls_of (hp0 := []) Tryz.func196 J 77 Tryz.ntmps196 J (HRep.nil _) (Sat.seq (Sat.region (Tr.boxA J J ?_)))
 intro n1 hn1 hf1
 refine Tr.alloc (cs := (bytesV (List.replicate 32 0))) J Zr77 J ?_
 intro n2 hn2 hf2
 refine Tr.nil (at_n (Sat.seq (Sat.region (Tr.loadAll J J J Y177 J Sz177 Z1 (by (simp [wdsV_length, hlw]; done)) ?_))))
 refine Tr.callV J J J J Body230 (c1) (fun _ _ => trivial) (Tr.callV J J J J Body230 (c2) (fun _ _ => trivial) (Tr.callV J J J J Body230 (c3) (fun _ _ => trivial) (Tr.callV J J J J Body230 (c4) (fun _ _ => trivial) (Tr.storeAll J J J J (by exact wdsV_cell _) Sz177 (by (simp [wdsV_length, hDl]; done)) Z1 (by (simp [wdsV_length, hlw]; done)) zV ?_))))
 refine Tr.nil (at_n (Sat.seq (Sat.region (Tr.alloc (cs := (bytesV (List.replicate 32 0))) J Zr77 J ?_))))
 intro n3 hn3 hf3
 refine Tr.nil (at_n (Sat.seq (Sat.region (Tr.assign J J J (Tr.nil (at_n (Sat.seq (Sat.seq (Sat.region (Tr.assign J J J (Tr.nil (at_n (Sat.block (Sat.loop (ι := Nat) (fun i => ⟨[(1, ptr n1 0), (2, ptr n2 0), (3, ptr n3 0), (4, i64 ((atOf i : Nat) : Int)), (5, i64 (i : Int))], [⟨n3, bytesV (leb 32 (X % 2 ^ atOf i)), 77, 32⟩, ⟨n2, bytesV (List.replicate 32 0), 77, 32⟩, ⟨n1, wdsV D, 177, (wdsV w).length⟩]⟩) (fun i => i ≤ 10) (fun i => 10 - i) (0) ?_ ?_ ?_))))))))))))))
 · omega
 · exact weak_of (wk1 rfl (wk1 rfl (wk1 rfl (wk1 rfl (wk1 rfl wk0))))) (wh1 (by rw [close_first]; exact mem0) (wh1 Z1 (wh1 Z2 wh0))) nD
 ·
  rintro i hi
  refine Sat.seq (Sat.seq (Sat.region (Tr.move J J J (Tr.lss J J J J J (Tr.nil (at_n (Sat.condP J (fun hc0 => ?_) (fun hc0 => ?_))))))))
  ·
   have hi2 : i < 10 := by omega
   have hb26 := bits_26 i
   have hbw := bits_wn i
   have hat := at_le hi2
   have hat2 := at_succ hi2
   have hat3 : atOf (i + 1) ≤ 255 := by unfold atOf; omega
   refine Sat.skip (at_n (Sat.seq (Sat.block (Sat.seq (Sat.seq (Sat.region (Tr.assign J J J (Tr.nil (at_n (Sat.block (Sat.loop (ι := Nat) (fun k => ⟨[(1, ptr n1 0), (2, ptr n2 0), (3, ptr n3 0), (4, i64 ((atOf i : Nat) : Int)), (5, i64 (i : Int)), (6, i64 (k : Int))], [⟨n3, bytesV (leb 32 (X % 2 ^ (atOf i + k))), 77, 32⟩, ⟨n2, bytesV (List.replicate 32 0), 77, 32⟩, ⟨n1, wdsV D, 177, (wdsV w).length⟩]⟩) (fun k => k ≤ bitsAt i) (fun k => bitsAt i - k) (0) ?_ ?_ ?_)))))))))))
   · exact Nat.zero_le _
   · exact weak_of (wk1 rfl (wk1 rfl (wk1 rfl (wk1 rfl (wk1 rfl (wk1 rfl wk0)))))) (wh1 (by rw [Nat.add_zero]; exact mem0) (wh1 Z1 (wh1 Z2 wh0))) nD
   ·
    rintro k hk
    refine Sat.seq (Sat.seq (Sat.region (Tr.move J J J (Tr.move J J J (Tr.callV J J J J Body229 (r3_bits i hi2) (fun _ _ => trivial) (Tr.conv J J J Y35 Y3 (cv_u64_i64 oM) ?_))))))
    rw [bits_wn]
    refine Tr.lss J J J J J (Tr.nil (at_n (Sat.condP J (fun hc1 => ?_) (fun hc1 => ?_))))
    ·
     refine Sat.skip (at_n (Sat.seq (Sat.block (Sat.seq (Sat.region (Tr.move J J J (Tr.idxArr1 J J J J Y177 Sz2 _ J oM (Tr.load1 J J J Y2 J Z2 (by exact get_wds oM) ?_))))))))
     refine Tr.move J J J (Tr.conv J J J Y3 Y35 (cv_i64_u64 _) (Tr.shrN (D.getD i 0) (k) J J J J (wordOf_id _ oM) oM (Tr.remN (D.getD i 0 / 2 ^ k) (2) J J J J dE (Tr.eqi J J J J J (Tr.nil (at_n (Sat.condP J (fun hc2 => ?_) (fun hc2 => ?_))))))))
     ·
      have hbt := (hDb i k hi2 oM).1 hc2
      have hbs : leb 32 (X % 2 ^ (atOf i + (k + 1))) = _ := (bit_set X (m := atOf i + k) oM hbt).symm
      refine Sat.region (Tr.move J J J (Tr.move J J J (Tr.addN (atOf i) (k) J J J J oM (Tr.quoN (atOf i + k) (8) J J J J ⟨by decide, by omega⟩ ?_))))
      refine Tr.move J J J (Tr.move J J J (Tr.addN (atOf i) (k) J J J J oM (Tr.quoN (atOf i + k) (8) J J J J ⟨by decide, by omega⟩ ?_)))
      refine Tr.idxArr1 J J J J Y77 Sz5 _ J oM (Tr.load1 J J J Y5 J Z0 (by exact get_bytes (by (simp [leb_length]; omega))) ?_)
      refine Tr.move J J J (Tr.move J J J (Tr.addN (atOf i) (k) J J J J oM (Tr.remN (atOf i + k) (8) J J J J dE (Tr.conv J J J Y3 Y35 (cv_i64_u64 _) (Tr.shl_u8 J J (show evIn _ _ = some (u8 1) from rfl) J ((atOf i + k) % 8) (by rw [wordOf_id _ oM]) oM ?_)))))
      refine Tr.add_u8 J J J J (Tr.idxArr1 J J J J Y77 Sz5 _ J oM (Tr.store1 J J J J J Sz5 Z0 (by (simp [leb_length]; omega)) (by exact set_bytes _ _ _) zU ?_))
      refine Tr.nil (bl_n (at_n (Sat.region (Tr.move J J J (Tr.add_i64 J J J J oM (Tr.assign J J J (Tr.nil (at_n ?_))))))))
      exact ⟨k + 1, by omega, by omega, weak_of (wk1 rfl (wk1 rfl (wk1 rfl (wk1 rfl (wk1 rfl (wk1 rfl wk0)))))) (wh1 (by rw [hbs]; exact mem0) (wh1 Z1 (wh1 Z2 wh0))) nD⟩
     ·
      have hbf : X.testBit (atOf i + k) = false := Bool.eq_false_iff.2 (fun e => hc2 ((hDb i k hi2 oM).2 e))
      have hbs : leb 32 (X % 2 ^ (atOf i + (k + 1))) = leb 32 (X % 2 ^ (atOf i + k)) := (bit_off X (atOf i + k) hbf).symm
      refine Sat.skip (bl_n (at_n (Sat.region (Tr.move J J J (Tr.add_i64 J J J J oM (Tr.assign J J J (Tr.nil (at_n ?_))))))))
      exact ⟨k + 1, by omega, by omega, weak_of (wk1 rfl (wk1 rfl (wk1 rfl (wk1 rfl (wk1 rfl (wk1 rfl wk0)))))) (wh1 (by rw [hbs]; exact mem0) (wh1 Z1 (wh1 Z2 wh0))) nD⟩
    ·
     refine Sat.exit (at_x (at_x (bl_h (at_n (Sat.region (Tr.move J J J (Tr.move J J J (Tr.callV J J J J Body229 (r3_bits i hi2) (fun _ _ => trivial) (Tr.conv J J J Y35 Y3 (cv_u64_i64 oM) ?_)))))))))
     rw [bits_wn]
     refine Tr.addN (atOf i) (bitsAt i) J J J J oM (Tr.assign J J J (Tr.nil (bl_n (at_n (Sat.region (Tr.move J J J (Tr.add_i64 J J J J oM (Tr.assign J J J (Tr.nil (at_n ?_))))))))))
     exact ⟨i + 1, by omega, by omega, weak_of (wk1 rfl (wk1 rfl (wk1 rfl (wk1 (natc (at_succ hi2)) (wk1 rfl wk0))))) (wh1 (by rw [← at_succ hi2, show bitsAt i = k by omega]; exact mem0) (wh1 Z1 (wh1 Z2 wh0))) nD⟩
  ·
   rw [show leb 32 (X % 2 ^ atOf i) = O from by rw [show atOf i = 255 from by rw [show i = 10 by omega]; rfl, Nat.mod_eq_of_lt hX255]; exact hO.out]
   refine Sat.exit (at_x (at_x (bl_h (at_n (Sat.seq (Sat.seq (Sat.region (Tr.idxArr1 J J J J Y77 Sz5 0 J dE (Tr.load1 J J J Y5 J Z0 zG ?_)))))))))
   refine two (fun r hr k => Tr.lss J J J J hr k) (fun hs13_20 => ?_) (fun hs13_20 => ?_)
   ·
    have hs13_2 := of_decide_eq_true hs13_20
    refine Tr.move J J J (Tr.skp J J (Tr.skp J J (Tr.skp J J (Tr.pick J J J J J J (Tr.nil (at_n (Sat.cond_t J J (Sat.seq (Sat.region (Tr.loadAll J J J Y77 J Sz77 Z0 (by (simp [hOl]; done)) ?_))))))))))
    refine Tr.storeAll J J J J zE Sz77 (by (simp [hOl]; done)) Z1 sP zV ?_
    refine Tr.nil (at_n (Sat.ret (at_r (en_r ?_))))
    refine ⟨_, [], res_cell J J Y77 J Sz77 Z1 (by simp [hOl]), sP, sP, ?_, rfl⟩
    exact congrArg (fun l => agg (bytesV l)) (ht oM)
   ·
    have hs13_2 := of_decide_eq_false hs13_20
    refine Tr.move J J J (Tr.idxArr1 J J J J Y77 Sz5 31 J dE (Tr.load1 J J J Y5 J Z0 zG ?_))
    refine two (fun r hr k => Tr.nei J J J J hr k) (fun hs13_60 => ?_) (fun hs13_60 => ?_)
    ·
     have hs13_6 := nd_t hs13_60
     refine Tr.pick J J J J J J (Tr.nil (at_n (Sat.cond_t J J (Sat.seq (Sat.region (Tr.loadAll J J J Y77 J Sz77 Z0 (by (simp [hOl]; done)) ?_))))))
     refine Tr.storeAll J J J J zE Sz77 (by (simp [hOl]; done)) Z1 sP zV ?_
     refine Tr.nil (at_n (Sat.ret (at_r (en_r ?_))))
     refine ⟨_, [], res_cell J J Y77 J Sz77 Z1 (by simp [hOl]), sP, sP, ?_, rfl⟩
     exact congrArg (fun l => agg (bytesV l)) (ht oM)
    ·
     have hs13_6 := nd_f hs13_60
     refine Tr.pick J J J J J J (Tr.nil (at_n (Sat.cond_f J J (Sat.skip (at_n (Sat.seq (Sat.seq (Sat.region (Tr.assign J J J (Tr.nil (at_n (Sat.block (Sat.loop (ι := Nat) (fun j => ⟨[(2, ptr n2 0), (3, ptr n3 0), (7, i64 (j : Int))], [⟨n3, bytesV O, 77, 32⟩, ⟨n2, bytesV (List.replicate 32 0), 77, 32⟩]⟩) (fun j => 1 ≤ j ∧ j ≤ 31 ∧ ∀ m, 0 < m → m < j → (O.getD m 0).toNat = 255) (fun j => 31 - j) (1) ?_ ?_ ?_)))))))))))))
     · exact ⟨Nat.le_refl _, by omega, fun m h1 h2 => by omega⟩
     · exact weak_of (wk1 rfl (wk1 rfl (wk1 rfl wk0))) (wh1 Z0 (wh1 Z1 wh0)) nD
     ·
      rintro j ⟨hj1, hj2, hj3⟩
      refine Sat.seq (Sat.seq (Sat.region (Tr.move J J J (Tr.lss J J J J J (Tr.nil (at_n (Sat.condP J (fun hc4 => ?_) (fun hc4 => ?_))))))))
      ·
       refine Sat.skip (at_n (Sat.seq (Sat.block (Sat.seq (Sat.region (Tr.move J J J (Tr.idxArr1 J J J J Y77 Sz5 _ J oM (Tr.load1 J J J Y5 J Z0 zG ?_))))))))
       refine Tr.nei J J J J J (Tr.nil (at_n (Sat.condNP J (fun hc5 => ?_) (fun hc5 => ?_))))
       ·
        refine Sat.seq (Sat.region (Tr.loadAll J J J Y77 J Sz77 Z0 (by (simp [hOl]; done)) ?_))
        refine Tr.storeAll J J J J zE Sz77 (by (simp [hOl]; done)) Z1 sP zV ?_
        refine Tr.nil (at_n (Sat.ret (bl_r (at_r (at_r (bl_r (at_r (en_r ?_))))))))
        refine ⟨_, [], res_cell J J Y77 J Sz77 Z1 (by simp [hOl]), sP, sP, ?_, rfl⟩
        exact congrArg (fun l => agg (bytesV l)) (hm j oM oM oM)
       ·
        refine Sat.skip (bl_n (at_n (Sat.region (Tr.move J J J (Tr.add_i64 J J J J oM (Tr.assign J J J (Tr.nil (at_n ?_))))))))
        exact ⟨j + 1, ⟨by omega, by omega, fun m h1 h2 => by
          by_cases e : m = j
          · rw [e]; omega
          · exact hj3 m h1 oM⟩, by omega, weak_of (wk1 rfl (wk1 rfl (wk1 rfl wk0))) (wh1 Z0 (wh1 Z1 wh0)) nD⟩
      ·
       refine Sat.exit (at_x (at_x (bl_h (at_n (Sat.seq (Sat.region (Tr.idxArr1 J J J J Y77 Sz5 0 J dE (Tr.load1 J J J Y5 J Z0 zG ?_))))))))
       refine Tr.sub_u8 J J J (show evIn _ _ = some (u8 237) from rfl) (Tr.build (cs := bytesV ((O.getD 0 0 - 237) :: List.replicate 31 0)) J J J (fun w => by kernel_rfl) ?_)
       refine Tr.storeAll J J J J zE Sz77 (by (simp [hOl]; done)) Z1 sP zV ?_
       refine Tr.nil (at_n (Sat.ret (en_r ?_)))
       refine ⟨_, [], res_cell J J Y77 J Sz77 Z1 (by simp [hOl]), sP, sP, ?_, rfl⟩
       exact congrArg (fun l => agg (bytesV l)) (htop oM oM (fun m h1 h2 => hj3 m h1 oM))

def p1 (i : Nat) : Nat := 2 ^ bitsAt i - 1 - (if i = 0 then 18 else 0)
theorem p1_z {i : Nat} (h : (i : Int) = 0) : p1 i = 1 * 2 ^ bitsAt i - 1 - 18 := by rw [p1, if_pos oM, Nat.one_mul]
theorem p1_n {i : Nat} (h : ¬ (i : Int) = 0) : p1 i = 1 * 2 ^ bitsAt i - 1 := by rw [p1, if_neg oM, Nat.one_mul, Nat.sub_zero]
theorem p4_p1 (i : Nat) : p4 i = 4 * p1 i := rfl
def cf2 (i k : Nat) : Nat := if i % 2 = 1 ∧ k % 2 = 1 then 2 else 1
theorem cf2_t {i k : Nat} (P : Nat) (h : ((i % 2 : Nat) : Int) = 1) (h2 : ((k % 2 : Nat) : Int) = 1) : cf2 i k * P = 2 * P := by rw [cf2, if_pos ⟨by omega, by omega⟩]
theorem cf2_a {i k : Nat} (P : Nat) (h : ¬ ((i % 2 : Nat) : Int) = 1) : cf2 i k * P = P := by rw [cf2, if_neg (fun e => h oM), Nat.one_mul]
theorem cf2_b {i k : Nat} (P : Nat) (h : ¬ ((k % 2 : Nat) : Int) = 1) : cf2 i k * P = P := by rw [cf2, if_neg (fun e => h oM), Nat.one_mul]
theorem cf2_le (i k : Nat) : cf2 i k ≤ 2 := by unfold cf2; split <;> omega
theorem coef_hi {i k : Nat} (P : Nat) (h : (9 : Int) < ((i + k : Nat) : Int)) : coef i k * P = 19 * (cf2 i k * P) := by
  rw [coef, if_pos oM, Nat.mul_assoc]; rfl
theorem coef_lo {i k : Nat} (P : Nat) (h : ¬ (9 : Int) < ((i + k : Nat) : Int)) : coef i k * P = cf2 i k * P := by
  rw [coef, if_neg oM, Nat.one_mul]; rfl
theorem tRow_bd {x y : List Nat} (hx : Fit10 x) (hy : Fit10 y) {i k m : Nat} (hi : i < 10) (hk : k ≤ 10) (hm : m < 10) : (tRow x y i (tAll x y i) k).getD m 0 ≤ 6845471433603153920 := by
  have h1 := tRow_le hi (fun k hk => term_le hx hy i k hi hk) (tAll_length x y i) k hk m hm
  have h2 := tAll_le (term_le hx hy) i oM m hm
  have h3 : (if (m + 10 - i) % 10 < k then 38 * (2 ^ 27 * 2 ^ 27) else 0) ≤ 38 * (2 ^ 27 * 2 ^ 27) := by split <;> omega
  omega
theorem prod_le {x y : List Nat} (hx : Fit10 x) (hy : Fit10 y) {i k : Nat} (hi : i < 10) (hk : k < 10) : x.getD i 0 * y.getD k 0 ≤ 18014398509481984 :=
  Nat.le_trans (Nat.mul_le_mul (Nat.le_of_lt (hx.all hi)) (Nat.le_of_lt (hy.all hk))) dE

theorem r3_Plus (x y : List Nat) (hx : Fit10 x) (hy : Fit10 y) : Meets Tryz.prog 232 [agg (wdsV x), agg (wdsV y)] [] (fun _ => True) (fun v out => v = agg (wdsV (plusT x y)) ∧ out = []) := by
 intro W hW
 have hxl := hx.len
 have hyl := hy.len
 obtain ⟨A, hA⟩ : ∃ A, Hid (addAt x y 10 = A) := ⟨_, ⟨rfl⟩⟩
 obtain ⟨U, hU⟩ : ∃ U, Hid (plusT x y = U) := ⟨_, ⟨rfl⟩⟩
 have hAl : A.length = 10 := by rw [← hA.out]; exact addAt_length y hx.len 10
 have hUl : U.length = 10 := by rw [← hU.out]; exact car10_length _
 have hc := r3_carry A (by rw [← hA.out]; exact addAt_mid hx hy)
 rw [show car10 A = U from by rw [← hA.out]; exact hU.out] at hc
 rw [hU.out]
 have hal := hAl
 refine calls_of (hp0 := []) Tryz.func232 J 21 Tryz.ntmps232 J (HRep.nil _) (Sat.seq (Sat.region (Tr.boxA J J ?_)))
 intro n2 hn2 hf2
 refine Tr.boxA J J ?_
 intro n3 hn3 hf3
 refine Tr.alloc (cs := (intsV (List.replicate 10 0))) J Zr177 J ?_
 intro n4 hn4 hf4
 refine Tr.nil (at_n (Sat.seq (Sat.seq (Sat.region (Tr.assign J J J (Tr.nil (at_n (Sat.block (Sat.loop (ι := Nat) (fun i => ⟨[(2, ptr n2 0), (3, ptr n3 0), (4, ptr n4 0), (5, i64 (i : Int))], [⟨n4, (intsV (List.replicate 10 0)), 177, 10⟩, ⟨n3, wdsV y, 177, (wdsV y).length⟩, ⟨n2, wdsV (addAt x y i), 177, (wdsV x).length⟩]⟩) (fun i => i ≤ 10) (fun i => 10 - i) (0) ?_ ?_ ?_)))))))))
 · omega
 · exact weak_of (wk1 rfl (wk1 rfl (wk1 rfl (wk1 rfl wk0)))) (wh1 Z0 (wh1 Z1 (wh1 Z2 wh0))) nD
 ·
  rintro i hi
  have hal := addAt_length y hxl i
  refine Sat.seq (Sat.seq (Sat.region (Tr.move J J J (Tr.lss J J J J J (Tr.nil (at_n (Sat.condP J (fun hc0 => ?_) (fun hc0 => ?_))))))))
  ·
   have hi2 : i < 10 := by omega
   have hxi : (addAt x y i).getD i 0 = x.getD i 0 + 0 := by rw [addAt_get hx.len i oM i hi2, if_neg oM]
   have hx2 := hx.all hi2
   have hy2 := hy.all hi2
   refine Sat.skip (at_n (Sat.seq (Sat.block (Sat.draw [(0, 0), (0, 1), (0, 2), (1, 3), (0, 4), (0, 5), (1, 6), (0, 7), (0, 8), (4, 9)] Mixed zK (Tr.move J J J (Tr.move J J J (Tr.idxArr1 J J J J Y177 Sz2 _ J oM (Tr.load1 J J J Y2 J Z2 (by exact get_wds oM) ?_))))))))
   refine Tr.move J J J (Tr.idxArr1 J J J J Y177 Sz2 _ J oM (Tr.load1 J J J Y2 J Z1 (by exact get_wds oM) ?_))
   refine Tr.addN ((addAt x y i).getD i 0) (y.getD i 0) J J J J oM (Tr.idxArr1 J J J J Y177 Sz2 _ J oM (Tr.store1 J J J J J Sz2 Z2 (by (simp [wdsV_length, hal]; omega)) (by exact set_wds _ _ _) (by exact upd2) ?_))
   refine Tr.nil (bl_n (at_n (Sat.region (Tr.move J J J (Tr.add_i64 J J J J oM (Tr.assign J J J (Tr.nil (at_n ?_))))))))
   exact ⟨i + 1, by omega, by omega, weak_of (wk1 rfl (wk1 rfl (wk1 rfl (wk1 rfl wk0)))) (wh1 Z0 (wh1 Z1 (wh1 Z2 wh0))) nD⟩
  ·
   rw [show addAt x y i = A from by rw [show i = 10 by omega]; exact hA.out]
   refine Sat.exit (at_x (at_x (bl_h (at_n (Sat.seq (Sat.region (Tr.loadAll J J J Y177 J Sz177 Z2 (by (simp [wdsV_length, hAl]; done)) ?_)))))))
   refine Tr.callV J J J J Body230 (hc) (fun _ _ => trivial) (Tr.storeAll J J J J (by exact wdsV_cell _) Sz177 (by (simp [wdsV_length, hUl]; done)) Z0 sP zU ?_)
   refine Tr.nil (at_n (Sat.ret (en_r ?_)))
   refine ⟨_, [], res_cell J J Y177 J Sz177 Z0 (by simp [wdsV_length, hUl]), sP, sP, ?_, rfl⟩
   rfl

theorem r3_Minus (x y : List Nat) (hx : Fit10 x) (hy : Fit10 y) : Meets Tryz.prog 231 [agg (wdsV x), agg (wdsV y)] [] (fun _ => True) (fun v out => v = agg (wdsV (minusT x y)) ∧ out = []) := by
 intro W hW
 have hxl := hx.len
 have hyl := hy.len
 obtain ⟨A, hA⟩ : ∃ A, Hid (subAt x y 10 = A) := ⟨_, ⟨rfl⟩⟩
 obtain ⟨U, hU⟩ : ∃ U, Hid (minusT x y = U) := ⟨_, ⟨rfl⟩⟩
 have hAl : A.length = 10 := by rw [← hA.out]; exact subAt_length y hx.len 10
 have hUl : U.length = 10 := by rw [← hU.out]; exact car10_length _
 have hc := r3_carry A (by rw [← hA.out]; exact subAt_mid hx)
 rw [show car10 A = U from by rw [← hA.out]; exact hU.out] at hc
 rw [hU.out]
 have hal := hAl
 refine calls_of (hp0 := []) Tryz.func231 J 33 Tryz.ntmps231 J (HRep.nil _) (Sat.seq (Sat.region (Tr.boxA J J ?_)))
 intro n2 hn2 hf2
 refine Tr.boxA J J ?_
 intro n3 hn3 hf3
 refine Tr.alloc (cs := (intsV (List.replicate 10 0))) J Zr177 J ?_
 intro n4 hn4 hf4
 refine Tr.nil (at_n (Sat.seq (Sat.seq (Sat.region (Tr.assign J J J (Tr.nil (at_n (Sat.block (Sat.loop (ι := Nat) (fun i => ⟨[(2, ptr n2 0), (3, ptr n3 0), (4, ptr n4 0), (5, i64 (i : Int))], [⟨n4, (intsV (List.replicate 10 0)), 177, 10⟩, ⟨n3, wdsV y, 177, (wdsV y).length⟩, ⟨n2, wdsV (subAt x y i), 177, (wdsV x).length⟩]⟩) (fun i => i ≤ 10) (fun i => 10 - i) (0) ?_ ?_ ?_)))))))))
 · omega
 · exact weak_of (wk1 rfl (wk1 rfl (wk1 rfl (wk1 rfl wk0)))) (wh1 Z0 (wh1 Z1 (wh1 Z2 wh0))) nD
 ·
  rintro i hi
  have hal := subAt_length y hxl i
  refine Sat.seq (Sat.seq (Sat.region (Tr.move J J J (Tr.lss J J J J J (Tr.nil (at_n (Sat.condP J (fun hc0 => ?_) (fun hc0 => ?_))))))))
  ·
   have hi2 : i < 10 := by omega
   have hxi : (subAt x y i).getD i 0 = x.getD i 0 + 0 := by rw [subAt_get hx.len i oM i hi2, if_neg oM]
   have hx2 := hx.all hi2
   have hy2 := hy.all hi2
   have hpg := p4_ge hy hi2
   have hpl := p4_le i
   rw [p4_p1] at hpg hpl
   have hbg := bits_ge i
   have hbl := bits_le i
   have hb26 := bits_26 i
   have hsub : (subAt x y i).getD i 0 + 4 * p1 i - y.getD i 0 = (subAt x y i).getD i 0 + (p4 i - y.getD i 0) := by rw [p4_p1]; omega
   refine Sat.skip (at_n (Sat.seq (Sat.block (Sat.seq (Sat.region (Tr.move J J J (Tr.callV J J J J Body229 (r3_bits i hi2) (fun _ _ => trivial) (Tr.shlN (1) (bitsAt i) J J J J (bits_w i) oM oM (Tr.subN (1 * 2 ^ bitsAt i) (1) J J J J oM (Tr.assign J J J (Tr.nil (at_n (Sat.join (ι := Unit) (fun _u => ⟨[(2, ptr n2 0), (3, ptr n3 0), (4, ptr n4 0), (5, i64 (i : Int)), (6, i64 ((p1 i : Nat) : Int))], [⟨n4, (intsV (List.replicate 10 0)), 177, 10⟩, ⟨n3, wdsV y, 177, (wdsV y).length⟩, ⟨n2, wdsV (subAt x y i), 177, (wdsV x).length⟩]⟩) (fun _u => True) ?_ ?_)))))))))))))
   ·
    refine Sat.seq (Sat.region (Tr.move J J J (Tr.eqi J J J J J (Tr.nil (at_n (Sat.condP J (fun hc1 => ?_) (fun hc1 => ?_)))))))
    ·
     refine Sat.region (Tr.move J J J (Tr.subN (1 * 2 ^ bitsAt i - 1) (18) J J J J oM (Tr.assign J J J (Tr.nil (at_n ?_)))))
     (rw [p1_z hc1]; exact ⟨(), trivial, weak_of (wk1 rfl (wk1 rfl (wk1 rfl (wk1 rfl (wk1 rfl wk0))))) (wh1 Z0 (wh1 Z1 (wh1 Z2 wh0))) nD⟩)
    ·
     refine Sat.skip (at_n ?_)
     (rw [p1_n hc1]; exact ⟨(), trivial, weak_of (wk1 rfl (wk1 rfl (wk1 rfl (wk1 rfl (wk1 rfl wk0))))) (wh1 Z0 (wh1 Z1 (wh1 Z2 wh0))) nD⟩)
   ·
    intro _u hj
    skip
    refine Sat.draw [(0, 0), (0, 1), (0, 2), (1, 3), (0, 4), (0, 5), (0, 6), (0, 7), (0, 8), (1, 9), (0, 10), (0, 11), (4, 12)] Mixed zK (Tr.move J J J (Tr.move J J J (Tr.idxArr1 J J J J Y177 Sz2 _ J oM (Tr.load1 J J J Y2 J Z2 (by exact get_wds oM) ?_))))
    refine Tr.move J J J (Tr.mulN (4) (p1 i) J J J J oM (Tr.addN ((subAt x y i).getD i 0) (4 * p1 i) J J J J oM (Tr.move J J J (Tr.idxArr1 J J J J Y177 Sz2 _ J oM (Tr.load1 J J J Y2 J Z1 (by exact get_wds oM) ?_)))))
    refine Tr.subN ((subAt x y i).getD i 0 + 4 * p1 i) (y.getD i 0) J J J J oM (Tr.idxArr1 J J J J Y177 Sz2 _ J oM ?_)
    rw [hsub]
    refine Tr.store1 J J J J J Sz2 Z2 (by (simp [wdsV_length, hal]; omega)) (by exact set_wds _ _ _) (by exact upd2) ?_
    refine Tr.nil (bl_n (at_n (Sat.region (Tr.move J J J (Tr.add_i64 J J J J oM (Tr.assign J J J (Tr.nil (at_n ?_))))))))
    exact ⟨i + 1, by omega, by omega, weak_of (wk1 rfl (wk1 rfl (wk1 rfl (wk1 rfl wk0)))) (wh1 Z0 (wh1 Z1 (wh1 Z2 wh0))) nD⟩
  ·
   rw [show subAt x y i = A from by rw [show i = 10 by omega]; exact hA.out]
   refine Sat.exit (at_x (at_x (bl_h (at_n (Sat.seq (Sat.region (Tr.loadAll J J J Y177 J Sz177 Z2 (by (simp [wdsV_length, hAl]; done)) ?_)))))))
   refine Tr.callV J J J J Body230 (hc) (fun _ _ => trivial) (Tr.storeAll J J J J (by exact wdsV_cell _) Sz177 (by (simp [wdsV_length, hUl]; done)) Z0 sP zU ?_)
   refine Tr.nil (at_n (Sat.ret (en_r ?_)))
   refine ⟨_, [], res_cell J J Y177 J Sz177 Z0 (by simp [wdsV_length, hUl]), sP, sP, ?_, rfl⟩
   rfl

theorem r3_Times (x y : List Nat) (hx : Fit10 x) (hy : Fit10 y) : Meets Tryz.prog 197 [agg (wdsV x), agg (wdsV y)] [] (fun _ => True) (fun v out => v = agg (wdsV (mulT x y)) ∧ out = []) := by
 intro W hW
 have hxl := hx.len
 have hyl := hy.len
 obtain ⟨A, hA⟩ : ∃ A, Hid (tAll x y 10 = A) := ⟨_, ⟨rfl⟩⟩
 obtain ⟨U, hU⟩ : ∃ U, Hid (car10 (tAll x y 10) = U) := ⟨_, ⟨rfl⟩⟩
 have hAl : A.length = 10 := by rw [← hA.out]; exact tAll_length x y 10
 have hUl : U.length = 10 := by rw [← hU.out]; exact car10_length _
 have hc := r3_carry A (by rw [← hA.out]; exact tAll_mid hx hy)
 rw [show car10 A = U from by rw [← hA.out]; exact hU.out] at hc
 have hcc := r3_carry U (by rw [← hU.out]; exact car10_mid (tAll_v10 hx hy))
 obtain ⟨V, hV⟩ : ∃ V, Hid (mulT x y = V) := ⟨_, ⟨rfl⟩⟩
 have hVl : V.length = 10 := by rw [← hV.out]; exact car10_length _
 rw [show car10 U = V from by rw [← hU.out]; exact hV.out] at hcc
 rw [hV.out]
 have hal := hAl
 refine calls_of (hp0 := []) Tryz.func197 J 56 Tryz.ntmps197 J (HRep.nil _) (Sat.seq (Sat.region (Tr.boxA J J ?_)))
 intro n2 hn2 hf2
 refine Tr.boxA J J ?_
 intro n3 hn3 hf3
 refine Tr.alloc (cs := (intsV (List.replicate 10 0))) J Zr177 J ?_
 intro n4 hn4 hf4
 refine Tr.nil (at_n (Sat.seq (Sat.region (Tr.alloc (cs := (intsV (List.replicate 10 0))) J Zr177 J ?_))))
 intro n5 hn5 hf5
 refine Tr.nil (at_n (Sat.seq (Sat.seq (Sat.region (Tr.assign J J J (Tr.nil (at_n (Sat.block (Sat.loop (ι := Nat) (fun i => ⟨[(2, ptr n2 0), (3, ptr n3 0), (4, ptr n4 0), (5, ptr n5 0), (6, i64 (i : Int))], [⟨n5, wdsV (tAll x y i), 177, 10⟩, ⟨n4, (intsV (List.replicate 10 0)), 177, 10⟩, ⟨n3, wdsV y, 177, (wdsV y).length⟩, ⟨n2, wdsV x, 177, (wdsV x).length⟩]⟩) (fun i => i ≤ 10) (fun i => 10 - i) (0) ?_ ?_ ?_)))))))))
 · omega
 · exact weak_of (wk1 rfl (wk1 rfl (wk1 rfl (wk1 rfl (wk1 rfl wk0))))) (wh1 (by rw [show wdsV (tAll x y 0) = intsV (List.replicate 10 0) from rfl]; exact mem0) (wh1 Z1 (wh1 Z2 (wh1 Z3 wh0)))) nD
 ·
  rintro i hi
  refine Sat.seq (Sat.seq (Sat.region (Tr.move J J J (Tr.lss J J J J J (Tr.nil (at_n (Sat.condP J (fun hc0 => ?_) (fun hc0 => ?_))))))))
  ·
   have hi2 : i < 10 := by omega
   refine Sat.skip (at_n (Sat.seq (Sat.block (Sat.seq (Sat.region (Tr.assign J J J (Tr.nil (at_n (Sat.block (Sat.loop (ι := Nat) (fun k => ⟨[(2, ptr n2 0), (3, ptr n3 0), (4, ptr n4 0), (5, ptr n5 0), (6, i64 (i : Int)), (7, i64 (k : Int))], [⟨n5, wdsV (tRow x y i (tAll x y i) k), 177, 10⟩, ⟨n4, (intsV (List.replicate 10 0)), 177, 10⟩, ⟨n3, wdsV y, 177, (wdsV y).length⟩, ⟨n2, wdsV x, 177, (wdsV x).length⟩]⟩) (fun k => k ≤ 10) (fun k => 10 - k) (0) ?_ ?_ ?_))))))))))
   · omega
   · exact weak_of (wk1 rfl (wk1 rfl (wk1 rfl (wk1 rfl (wk1 rfl (wk1 rfl wk0)))))) (wh1 Z0 (wh1 Z1 (wh1 Z2 (wh1 Z3 wh0)))) nD
   ·
    rintro k hk
    have hal := tRow_length x y i (tAll_length x y i) k
    refine Sat.seq (Sat.seq (Sat.region (Tr.move J J J (Tr.lss J J J J J (Tr.nil (at_n (Sat.condP J (fun hc1 => ?_) (fun hc1 => ?_))))))))
    ·
     have hk2 : k < 10 := by omega
     have hxy := prod_le hx hy hi2 hk2
     have hcf : cf2 i k * (x.getD i 0 * y.getD k 0) ≤ 2 * 18014398509481984 := Nat.mul_le_mul (cf2_le i k) hxy
     have hco := term_le hx hy i k hi2 hk2
     have hbd := tRow_bd hx hy (m := (i + k) % 10) hi2 (show k ≤ 10 by omega) (Nat.mod_lt _ dE)
     refine Sat.skip (at_n (Sat.seq (Sat.block (Sat.seq (Sat.draw [(0, 0), (0, 1), (1, 2), (0, 3), (0, 4), (1, 5), (0, 6), (0, 7)] Mixed zK (Tr.move J J J (Tr.idxArr1 J J J J Y177 Sz2 _ J oM (Tr.load1 J J J Y2 J Z3 (by exact get_wds oM) ?_))))))))
     refine Tr.move J J J (Tr.idxArr1 J J J J Y177 Sz2 _ J oM (Tr.load1 J J J Y2 J Z2 (by exact get_wds oM) ?_))
     refine Tr.mulN (x.getD i 0) (y.getD k 0) J J J J oM (Tr.assign J J J (Tr.nil (at_n (Sat.join (ι := Unit) (fun _u => ⟨[(2, ptr n2 0), (3, ptr n3 0), (4, ptr n4 0), (5, ptr n5 0), (6, i64 (i : Int)), (7, i64 (k : Int)), (8, i64 ((cf2 i k * (x.getD i 0 * y.getD k 0) : Nat) : Int))], [⟨n5, wdsV (tRow x y i (tAll x y i) k), 177, 10⟩, ⟨n4, (intsV (List.replicate 10 0)), 177, 10⟩, ⟨n3, wdsV y, 177, (wdsV y).length⟩, ⟨n2, wdsV x, 177, (wdsV x).length⟩]⟩) (fun _u => True) ?_ ?_))))
     ·
      refine Sat.seq (Sat.region (Tr.move J J J (Tr.remN (i) (2) J J J J dE (two (fun r hr k => Tr.eqi J J J J hr k) (fun hs9_20 => ?_) (fun hs9_20 => ?_)))))
      ·
       have hs9_2 := of_decide_eq_true hs9_20
       refine Tr.move J J J (Tr.move J J J (Tr.remN (k) (2) J J J J dE (two (fun r hr k => Tr.eqi J J J J hr k) (fun hs9_60 => ?_) (fun hs9_60 => ?_))))
       ·
        have hs9_6 := of_decide_eq_true hs9_60
        refine Tr.pick J J J J J J (Tr.nil (at_n (Sat.cond_t J J (Sat.region (Tr.move J J J (Tr.mulN (2) (x.getD i 0 * y.getD k 0) J J J J oM (Tr.assign J J J (Tr.nil (at_n ?_)))))))))
        (rw [cf2_t _ hs9_2 hs9_6]; exact ⟨(), trivial, weak_of (wk1 rfl (wk1 rfl (wk1 rfl (wk1 rfl (wk1 rfl (wk1 rfl (wk1 rfl wk0))))))) (wh1 Z0 (wh1 Z1 (wh1 Z2 (wh1 Z3 wh0)))) nD⟩)
       ·
        have hs9_6 := of_decide_eq_false hs9_60
        refine Tr.pick J J J J J J (Tr.nil (at_n (Sat.cond_f J J (Sat.skip (at_n ?_)))))
        (rw [cf2_b _ hs9_6]; exact ⟨(), trivial, weak_of (wk1 rfl (wk1 rfl (wk1 rfl (wk1 rfl (wk1 rfl (wk1 rfl (wk1 rfl wk0))))))) (wh1 Z0 (wh1 Z1 (wh1 Z2 (wh1 Z3 wh0)))) nD⟩)
      ·
       have hs9_2 := of_decide_eq_false hs9_20
       refine Tr.move J J J (Tr.skp J J (Tr.skp J J (Tr.skp J J (Tr.pick J J J J J J (Tr.nil (at_n (Sat.cond_f J J (Sat.skip (at_n ?_)))))))))
       (rw [cf2_a _ hs9_2]; exact ⟨(), trivial, weak_of (wk1 rfl (wk1 rfl (wk1 rfl (wk1 rfl (wk1 rfl (wk1 rfl (wk1 rfl wk0))))))) (wh1 Z0 (wh1 Z1 (wh1 Z2 (wh1 Z3 wh0)))) nD⟩)
     ·
      intro _u hj
      skip
      refine Sat.join (ι := Unit) (fun _u => ⟨[(2, ptr n2 0), (3, ptr n3 0), (4, ptr n4 0), (5, ptr n5 0), (6, i64 (i : Int)), (7, i64 (k : Int)), (8, i64 ((coef i k * (x.getD i 0 * y.getD k 0) : Nat) : Int))], [⟨n5, wdsV (tRow x y i (tAll x y i) k), 177, 10⟩, ⟨n4, (intsV (List.replicate 10 0)), 177, 10⟩, ⟨n3, wdsV y, 177, (wdsV y).length⟩, ⟨n2, wdsV x, 177, (wdsV x).length⟩]⟩) (fun _u => True) ?_ ?_
      ·
       refine Sat.seq (Sat.region (Tr.move J J J (Tr.move J J J (Tr.addN (i) (k) J J J J oM (Tr.gtr J J J J J (Tr.nil (at_n (Sat.condP J (fun hc3 => ?_) (fun hc3 => ?_)))))))))
       ·
        refine Sat.region (Tr.move J J J (Tr.mulN (19) (cf2 i k * (x.getD i 0 * y.getD k 0)) J J J J oM (Tr.assign J J J (Tr.nil (at_n ?_)))))
        (rw [coef_hi _ hc3]; exact ⟨(), trivial, weak_of (wk1 rfl (wk1 rfl (wk1 rfl (wk1 rfl (wk1 rfl (wk1 rfl (wk1 rfl wk0))))))) (wh1 Z0 (wh1 Z1 (wh1 Z2 (wh1 Z3 wh0)))) nD⟩)
       ·
        refine Sat.skip (at_n ?_)
        (rw [coef_lo _ hc3]; exact ⟨(), trivial, weak_of (wk1 rfl (wk1 rfl (wk1 rfl (wk1 rfl (wk1 rfl (wk1 rfl (wk1 rfl wk0))))))) (wh1 Z0 (wh1 Z1 (wh1 Z2 (wh1 Z3 wh0)))) nD⟩)
      ·
       intro _u hj
       skip
       refine Sat.region (Tr.move J J J (Tr.move J J J (Tr.addN (i) (k) J J J J oM (Tr.remN (i + k) (10) J J J J dE (Tr.move J J J (Tr.move J J J (Tr.addN (i) (k) J J J J oM (Tr.remN (i + k) (10) J J J J dE (Tr.idxArr1 J J J J Y177 Sz2 _ J oM (Tr.load1 J J J Y2 J Z0 (by exact get_wds oM) ?_))))))))))
       refine Tr.move J J J (Tr.addN ((tRow x y i (tAll x y i) k).getD ((i + k) % 10) 0) (coef i k * (x.getD i 0 * y.getD k 0)) J J J J oM (Tr.idxArr1 J J J J Y177 Sz2 _ J oM (Tr.store1 J J J J J Sz2 Z0 (by (simp [wdsV_length, hal]; omega)) (by exact set_wds _ _ _) zU ?_)))
       refine Tr.nil (bl_n (at_n (Sat.region (Tr.move J J J (Tr.add_i64 J J J J oM (Tr.assign J J J (Tr.nil (at_n ?_))))))))
       exact ⟨k + 1, by omega, by omega, weak_of (wk1 rfl (wk1 rfl (wk1 rfl (wk1 rfl (wk1 rfl (wk1 rfl wk0)))))) (wh1 Z0 (wh1 Z1 (wh1 Z2 (wh1 Z3 wh0)))) nD⟩
    ·
     refine Sat.exit (at_x (at_x (bl_h (bl_n (at_n (Sat.region (Tr.move J J J (Tr.add_i64 J J J J oM (Tr.assign J J J (Tr.nil (at_n ?_)))))))))))
     exact ⟨i + 1, by omega, by omega, weak_of (wk1 rfl (wk1 rfl (wk1 rfl (wk1 rfl (wk1 rfl wk0))))) (wh1 (by rw [show tAll x y (i + 1) = (tRow x y i (tAll x y i) k) from by rw [show k = 10 by omega]; rfl]; exact mem0) (wh1 Z1 (wh1 Z2 (wh1 Z3 wh0)))) nD⟩
  ·
   rw [show tAll x y i = A from by rw [show i = 10 by omega]; exact hA.out]
   refine Sat.exit (at_x (at_x (bl_h (at_n (Sat.seq (Sat.region (Tr.loadAll J J J Y177 J Sz177 Z0 (by (simp [wdsV_length, hAl]; done)) ?_)))))))
   refine Tr.callV J J J J Body230 (hc) (fun _ _ => trivial) (Tr.callV J J J J Body230 (hcc) (fun _ _ => trivial) (Tr.storeAll J J J J (by exact wdsV_cell _) Sz177 (by (simp [wdsV_length, hVl]; done)) Z1 sP zV ?_))
   refine Tr.nil (at_n (Sat.ret (en_r ?_)))
   refine ⟨_, [], res_cell J J Y177 J Sz177 Z1 (by simp [wdsV_length, hVl]), sP, sP, ?_, rfl⟩
   rfl

end Go.Proofs.YtpacobmjjjillaaGreat
end

section
namespace Ed
open Hw Go
set_option linter.unusedVariables false

def oneT : List Nat := 1 :: List.replicate 9 0
def powT (x : List Nat) (E : Nat) : Nat → List Nat
  | 0 => oneT
  | j + 1 => if E.testBit (255 - j) = true then mulT (mulT (powT x E j) (powT x E j)) x else mulT (powT x E j) (powT x E j)
theorem oneT_v : fe (v10 oneT) = 1 := by kernel_rfl
theorem oneT_fit : Fit10 oneT := ⟨rfl, by decide, fun i h1 h2 => by
  have : ∀ i : _root_.Fin 10, oneT.getD i.val 0 < 2 ^ bitsAt i.val := by decide
  exact this ⟨i, h2⟩⟩
theorem test_div (E j : Nat) (b : Bool) (h : E.testBit j = b) : E / 2 ^ j % 2 = (if b = true then 1 else 0) := by
  rw [← h, Nat.testBit_eq_decide_div_mod_eq]
  simp only [decide_eq_true_eq]
  split <;> omega
theorem powT_ok {x : List Nat} (hx : Fit10 x) {E : Nat} (hE : E < 2 ^ 256) : ∀ j, j ≤ 256 → Fit10 (powT x E j) ∧ fe (v10 (powT x E j)) = fpow (fe (v10 x)) (E / 2 ^ (256 - j))
  | 0, _ => ⟨oneT_fit, by rw [powT, oneT_v, show 256 - 0 = 256 from rfl, Nat.div_eq_of_lt hE, fpow_zero]⟩
  | j + 1, hj => by
    obtain ⟨h1, h2⟩ := powT_ok hx hE j oM
    have h3 : E / 2 ^ (256 - (j + 1)) ≤ E := Nat.div_le_self _ _
    rw [next_div E j oM] at h3 ⊢
    rw [powT]
    cases hb : E.testBit (255 - j) with
    | true =>
      have h4 := test_div E (255 - j) true hb
      rw [if_pos rfl] at h4
      rw [h4] at h3 ⊢
      rw [if_pos rfl]
      refine ⟨mulT_fit (mulT_fit h1 h1) hx, ?_⟩
      rw [mulT_v (mulT_length _ _) hx.len, mulT_v h1.len h1.len, h2, fpow_succ oM, fpow_two oM]
    | false =>
      have h4 := test_div E (255 - j) false hb
      rw [if_neg dE] at h4
      rw [h4] at h3 ⊢
      rw [if_neg dE]
      refine ⟨mulT_fit h1 h1, ?_⟩
      rw [mulT_v h1.len h1.len, h2, Nat.add_zero, fpow_two oM]
theorem powT_all {x : List Nat} (hx : Fit10 x) {E : Nat} (hE : E < 2 ^ 256) : fe (v10 (powT x E 256)) = fpow (fe (v10 x)) E := by
  have h := (powT_ok hx hE 256 (Nat.le_refl _)).2
  rwa [Nat.sub_self, Nat.pow_zero, Nat.div_one] at h
theorem powT_t {x : List Nat} {E j : Nat} (h : E.testBit (255 - j) = true) : powT x E (j + 1) = mulT (mulT (powT x E j) (powT x E j)) x := if_pos h
theorem powT_f {x : List Nat} {E j : Nat} (h : E.testBit (255 - j) = false) : powT x E (j + 1) = mulT (powT x E j) (powT x E j) := if_neg (by rw [h]; decide)
def halfAt (M i : Nat) : List UInt8 := (leb 32 (M / 2)).take i ++ (leb 32 M).drop i
theorem halfAt_length (M i : Nat) (h : i ≤ 32) : (halfAt M i).length = 32 := by
  rw [halfAt, List.length_append, List.length_take, List.length_drop, leb_length, leb_length]; omega
theorem halfAt_zero (M : Nat) : halfAt M 0 = leb 32 M := rfl
theorem halfAt_end (M : Nat) : halfAt M 32 = leb 32 (M / 2) := by
  rw [halfAt, List.take_of_length_le (by rw [leb_length]; exact Nat.le_refl _), List.drop_of_length_le (by rw [leb_length]; exact Nat.le_refl _), List.append_nil]
theorem halfAt_get (M : Nat) {i j : Nat} (hi : i ≤ j) (hj : j < 32) : (halfAt M i).getD j 0 = UInt8.ofNat (M / 256 ^ j) := by
  rw [halfAt, List.getD_eq_getElem?_getD, List.getElem?_append_right (by rw [List.length_take, leb_length]; omega), List.length_take, leb_length, List.getElem?_drop, show i + (j - min i 32) = j by omega, leb_get 32 M j hj]
  rfl
theorem half_byte (M i : Nat) : M / 2 / 256 ^ i % 256 = M / 256 ^ i % 256 / 2 + 128 * (M / 256 ^ (i + 1) % 2) := by
  have e1 : M / 2 / 256 ^ i = M / 256 ^ i / 2 := by rw [Nat.div_div_eq_div_mul, Nat.div_div_eq_div_mul, Nat.mul_comm]
  have e2 : M / 256 ^ (i + 1) = M / 256 ^ i / 256 := by rw [Nat.div_div_eq_div_mul, Nat.pow_succ]
  rw [e1, e2]
  generalize M / 256 ^ i = x
  omega
theorem halfAt_next (M : Nat) {i : Nat} (h : i < 32) (v : UInt8) (hv : v = UInt8.ofNat (M / 2 / 256 ^ i)) : (halfAt M i).set i v = halfAt M (i + 1) := by
  have hl : (leb 32 (M / 2)).length = 32 := leb_length _ _
  have hl2 : (leb 32 M).length = 32 := leb_length _ _
  have e : (leb 32 (M / 2)).take (i + 1) = (leb 32 (M / 2)).take i ++ [v] := by
    have e3 : (leb 32 (M / 2))[i]'oM = v := by
      have := leb_get 32 (M / 2) i h
      rw [List.getElem?_eq_getElem oM] at this
      rw [hv]
      exact Option.some.inj this
    rw [← e3]
    exact List.take_succ_eq_append_getElem oM
  have e2 : (leb 32 M).drop i = (leb 32 M)[i]'oM :: (leb 32 M).drop (i + 1) := List.drop_eq_getElem_cons oM
  rw [halfAt, halfAt, e, e2, List.set_append_right _ _ (by rw [List.length_take, hl]; omega), List.length_take, hl, show i - min i 32 = 0 by omega, List.set_cons_zero, List.append_assoc]
  rfl
theorem half_odd (M : Nat) {i : Nat} (h : i < 31) (hb : (((halfAt M i).set i (UInt8.ofNat (((halfAt M i).getD i 0).toNat / 2))).getD (i + 1) 0).toNat % 2 = 1) :
    ((halfAt M i).set i (UInt8.ofNat (((halfAt M i).getD i 0).toNat / 2))).set i (((halfAt M i).set i (UInt8.ofNat (((halfAt M i).getD i 0).toNat / 2))).getD i 0 + 128) = halfAt M (i + 1) := by
  have hl := halfAt_length M i oM
  have g1 : ((halfAt M i).set i (UInt8.ofNat (((halfAt M i).getD i 0).toNat / 2))).getD i 0 = UInt8.ofNat (((halfAt M i).getD i 0).toNat / 2) := by
    rw [List.getD_eq_getElem?_getD, List.getElem?_set_self oM]; rfl
  have g2 : ((halfAt M i).set i (UInt8.ofNat (((halfAt M i).getD i 0).toNat / 2))).getD (i + 1) 0 = UInt8.ofNat (M / 256 ^ (i + 1)) := by
    rw [List.getD_eq_getElem?_getD, List.getElem?_set_ne oM, ← List.getD_eq_getElem?_getD, halfAt_get M oM oM]
  rw [g2, UInt8.toNat_ofNat'] at hb
  rw [g1, List.set_set]
  refine halfAt_next M oM _ ?_
  rw [halfAt_get M (Nat.le_refl _) oM, show (128 : UInt8) = UInt8.ofNat 128 from rfl, ← UInt8.ofNat_add, UInt8.toNat_ofNat']
  apply ofNat8
  have := half_byte M i
  omega
theorem half_even (M : Nat) {i : Nat} (h : i < 31) (hb : ¬ (((halfAt M i).set i (UInt8.ofNat (((halfAt M i).getD i 0).toNat / 2))).getD (i + 1) 0).toNat % 2 = 1) :
    (halfAt M i).set i (UInt8.ofNat (((halfAt M i).getD i 0).toNat / 2)) = halfAt M (i + 1) := by
  have hl := halfAt_length M i oM
  have g2 : ((halfAt M i).set i (UInt8.ofNat (((halfAt M i).getD i 0).toNat / 2))).getD (i + 1) 0 = UInt8.ofNat (M / 256 ^ (i + 1)) := by
    rw [List.getD_eq_getElem?_getD, List.getElem?_set_ne oM, ← List.getD_eq_getElem?_getD, halfAt_get M oM oM]
  rw [g2, UInt8.toNat_ofNat'] at hb
  refine halfAt_next M oM _ ?_
  rw [halfAt_get M (Nat.le_refl _) oM, UInt8.toNat_ofNat']
  apply ofNat8
  have := half_byte M i
  omega
theorem half_last (M : Nat) (hM : M < 2 ^ 256) : (halfAt M 31).set 31 (UInt8.ofNat (((halfAt M 31).getD 31 0).toNat / 2)) = halfAt M 32 := by
  refine halfAt_next M oM _ ?_
  rw [halfAt_get M (Nat.le_refl _) oM, UInt8.toNat_ofNat']
  apply ofNat8
  have := half_byte M 31
  have h2 : M / 256 ^ (31 + 1) = 0 := Nat.div_eq_of_lt (Nat.lt_of_lt_of_le hM dE)
  omega
theorem ones_leb (f l : UInt8) : leb 32 (le (onesB f l)) = onesB f l := by
  have := leb_le (onesB f l)
  rwa [onesB_length] at this
/-- what the reference raises to -/
def expT (n k : Nat) : List UInt8 := leb 32 (le (onesB (UInt8.ofNat (237 - n)) 127) / 2 ^ k)
theorem expT_length (n k : Nat) : (expT n k).length = 32 := leb_length _ _
theorem expT_inv : le (expT 2 0) = PF - 2 := by kernel_rfl
theorem expT_root : le (expT 5 3) = (PF - 5) / 8 := by kernel_rfl
theorem expT_unit : le (expT 1 2) = (PF - 1) / 4 := by kernel_rfl
theorem root_step (X : Fp) : fpow X ((PF - 5) / 8) * X = fpow X ((PF + 3) / 8) := by
  rw [← fpow_succ dE]
  rfl
end Ed
end

section
namespace Go.Proofs.YtpacobmjjjillaaGreat
open Go Hw
set_option linter.unusedVariables false
set_option linter.unusedSimpArgs false

open Ed

theorem o_fit {a : List UInt8} (ha : a.length = 32) : Fit10 (openT (le a)) := openT_fit (le32 ha)
theorem o_v {a : List UInt8} (ha : a.length = 32) : fe (v10 (openT (le a))) = fe (le a) := openT_v (le32 ha)
/-- closed words -/
theorem r3_Close_v (w : List Nat) (hw : Fit10 w) (X : Fp) (h : fe (v10 w) = X) : Meets Tryz.prog 196 [agg (wdsV w)] [] (fun _ => True) (fun v out => v = agg (bytesV (fb X)) ∧ out = []) := by
  rw [← h]; exact r3_Close w hw

theorem r3_Rest (a : List UInt8) (ha : a.length = 32) : Meets Tryz.prog 195 [agg (bytesV a)] [] (fun _ => True) (fun v out => v = agg (bytesV (fb (fe (le a)))) ∧ out = []) := by
 intro W hW
 refine calls_of (hp0 := []) Tryz.func195 J 6 Tryz.ntmps195 J (HRep.nil _) (Sat.seq (Sat.region (Tr.boxA J J ?_)))
 intro n1 hn1 hf1
 refine Tr.alloc (cs := (bytesV (List.replicate 32 0))) J Zr77 J ?_
 intro n2 hn2 hf2
 refine Tr.nil (at_n (Sat.seq (Sat.region (Tr.loadAll J J J Y77 J Sz77 Z1 (by (simp [ha]; done)) ?_))))
 refine Tr.callV J J J J Body188 (r3_Open (a) (ha)) (fun _ _ => trivial) (Tr.callV J J J J Body196 (r3_Close_v (_) (o_fit ha) (_) (o_v ha)) (fun _ _ => trivial) (Tr.storeAll J J J J zE Sz77 zF Z0 sP zU ?_))
 refine Tr.nil (at_n (Sat.ret (en_r ?_)))
 refine ⟨_, [], res_cell J J Y77 J Sz77 Z0 (by simp [fb_length]), sP, sP, ?_, rfl⟩
 rfl

theorem r3_Canon (a : List UInt8) (ha : a.length = 32) : Meets Tryz.prog 184 [agg (bytesV a)] [] (fun _ => True) (fun v out => v = .bool (decide (fb (fe (le a)) = a)) ∧ out = []) := by
 intro W hW
 refine calls_of (hp0 := []) Tryz.func184 J 7 Tryz.ntmps184 J (HRep.nil _) (Sat.seq (Sat.region (Tr.boxA J J ?_)))
 intro n1 hn1 hf1
 refine Tr.assign J J J (Tr.nil (at_n (Sat.seq (Sat.draw [(1, 0), (1, 2), (3, 1), (0, 3), (0, 4)] Mixed zK (Tr.loadAll J J J Y77 J Sz77 Z0 (by (simp [ha]; done)) ?_)))))
 refine Tr.loadAll J J J Y77 J Sz77 Z0 (by (simp [ha]; done)) ?_
 refine Tr.callV J J J J Body195 (r3_Rest (a) (ha)) (fun _ _ => trivial) (Tr.eql_bytes J J J J Tryz.eqGuardType77 Y77 Y5 Sz5 zF (by (simp [ha]; done)) J ?_)
 refine Tr.assign J J J (Tr.nil (at_n (Sat.ret (en_r ?_))))
 refine ⟨_, [], res_tmp J J, sP, sP, ?_, rfl⟩
 rfl

theorem r3_Same (a b : List UInt8) (ha : a.length = 32) (hb : b.length = 32) : Meets Tryz.prog 234 [agg (bytesV a), agg (bytesV b)] [] (fun _ => True) (fun v out => v = .bool (decide (fe (le a) = fe (le b))) ∧ out = []) := by
 intro W hW
 refine calls_of (hp0 := []) Tryz.func234 J 10 Tryz.ntmps234 J (HRep.nil _) (Sat.seq (Sat.region (Tr.boxA J J ?_)))
 intro n2 hn2 hf2
 refine Tr.boxA J J ?_
 intro n3 hn3 hf3
 refine Tr.assign J J J (Tr.nil (at_n (Sat.seq (Sat.draw [(1, 0), (1, 2), (3, 1), (3, 3), (0, 4), (0, 5)] Mixed zK (Tr.loadAll J J J Y77 J Sz77 Z1 (by (simp [ha]; done)) ?_)))))
 refine Tr.loadAll J J J Y77 J Sz77 Z0 (by (simp [hb]; done)) ?_
 refine Tr.callV J J J J Body195 (r3_Rest (a) (ha)) (fun _ _ => trivial) (Tr.callV J J J J Body195 (r3_Rest (b) (hb)) (fun _ _ => trivial) (Tr.eql_bytes J J J J Tryz.eqGuardType77 Y77 Y5 Sz5 zF zF J (Tr.assign J J J (Tr.nil (at_n (Sat.ret (en_r ?_)))))))
 refine ⟨_, [], res_tmp J J, sP, sP, ?_, rfl⟩
 rw [fb_dec]

theorem odd_byte2 (x : Fp) : decide (((UInt8.ofNat (((fb x).getD 0 0).toNat % 2)).toNat : Int) = 1) = decide (x.val % 2 = 1) := by
  have e : (UInt8.ofNat (((fb x).getD 0 0).toNat % 2)).toNat = x.val % 2 := by
    rw [fb_head, UInt8.toNat_ofNat', UInt8.toNat_ofNat']
    omega
  rw [e]
  congr 1
  exact propext ⟨fun h => by omega, fun h => by omega⟩

theorem r3_Odd (a : List UInt8) (ha : a.length = 32) : Meets Tryz.prog 119 [agg (bytesV a)] [] (fun _ => True) (fun v out => v = .bool (decide ((fe (le a)).val % 2 = 1)) ∧ out = []) := by
 intro W hW
 refine calls_of (hp0 := []) Tryz.func119 J 8 Tryz.ntmps119 J (HRep.nil _) (Sat.seq (Sat.region (Tr.boxA J J ?_)))
 intro n1 hn1 hf1
 refine Tr.assign J J J (Tr.nil (at_n (Sat.seq (Sat.region (Tr.loadAll J J J Y77 J Sz77 Z0 (by (simp [ha]; done)) ?_)))))
 refine Tr.callV J J J J Body195 (r3_Rest (a) (ha)) (fun _ _ => trivial) (Tr.idxA1 J J J J Y77 Sz5 Y5 J 0 J oM (by rfl) ?_)
 refine Tr.rem_u8 J J J J 2 J dE (Tr.eqi J J J J J (Tr.assign J J J (Tr.nil (at_n (Sat.ret (en_r ?_))))))
 refine ⟨_, [], res_tmp J J, sP, sP, ?_, rfl⟩
 exact congrArg Value.bool (odd_byte2 _)

theorem r3_Of (x : UInt64) : Meets Tryz.prog 123 [u64 x] [] (fun _ => True) (fun v out => v = agg (bytesV (fb (fe x.toNat))) ∧ out = []) := by
 intro W hW
 have hpl : True := trivial
 refine calls_of (hp0 := []) Tryz.func123 J 18 Tryz.ntmps123 J (HRep.nil _) (Sat.seq (Sat.region (Tr.alloc (cs := (bytesV (List.replicate 32 0))) J Zr77 J ?_)))
 intro n2 hn2 hf2
 refine Tr.nil (at_n (Sat.seq (Sat.region (Tr.alloc (cs := (bytesV (List.replicate 32 0))) J Zr77 J ?_))))
 intro n3 hn3 hf3
 refine Tr.nil (at_n (Sat.seq (Sat.seq (Sat.region (Tr.assign J J J (Tr.nil (at_n (Sat.block (Sat.loop (ι := Nat) (fun k => ⟨[(0, u64 x), (2, ptr n2 0), (3, ptr n3 0), (4, i64 (k : Int))], [⟨n3, bytesV (padW 32 x.toNat k), 77, 32⟩, ⟨n2, bytesV (List.replicate 32 0), 77, 32⟩]⟩) (fun k => k ≤ 8) (fun k => 8 - k) (0) ?_ ?_ ?_)))))))))
 · omega
 · exact weak_of (wk1 rfl (wk1 rfl (wk1 rfl (wk1 rfl wk0)))) (wh1 (by rw [padW_zero]; exact mem0) (wh1 Z1 wh0)) nD
 ·
  rintro k hi
  have hpl := padW_length 32 x.toNat k oM
  refine Sat.seq (Sat.seq (Sat.region (Tr.move J J J (Tr.lss J J J J J (Tr.nil (at_n (Sat.condP J (fun hc0 => ?_) (fun hc0 => ?_))))))))
  ·
   refine Sat.skip (at_n (Sat.seq (Sat.block (Sat.region (Tr.move J J J (Tr.move J J J (Tr.move J J J (Tr.mul_i64 J J J J oM (Tr.conv J J J Y3 Y35 (cv_i64_u64 _) (Tr.shr_u64 J J J J (8 * k) (by rw [wordOf_id _ oM]; omega) oM ?_))))))))))
   refine Tr.conv J J J Y22 Y5 (cv_u64_u8 _) (Tr.idxArr1 J J J J Y77 Sz5 _ J oM (Tr.store1 J J J J J Sz5 Z0 (by (simp [hpl]; omega)) (by exact set_bytes _ _ _) zU ?_))
   refine Tr.nil (bl_n (at_n (Sat.region (Tr.move J J J (Tr.add_i64 J J J J oM (Tr.assign J J J (Tr.nil (at_n ?_))))))))
   exact ⟨k + 1, by omega, by omega, weak_of (wk1 rfl (wk1 rfl (wk1 rfl (wk1 rfl wk0)))) (wh1 (by rw [← zero_set x k oM]; exact mem0) (wh1 Z1 wh0)) nD⟩
  ·
   obtain rfl : k = 8 := by omega
   rw [pad_small] at *
   refine Sat.exit (at_x (at_x (bl_h (at_n (Sat.seq (Sat.region (Tr.loadAll J J J Y77 J Sz77 Z0 (by (simp [hpl]; done)) ?_)))))))
   refine Tr.storeAll J J J J zE Sz77 (by (simp [hpl]; done)) Z1 sP zV ?_
   refine Tr.nil (at_n (Sat.ret (en_r ?_)))
   refine ⟨_, [], res_cell J J Y77 J Sz77 Z1 (by simp [hpl]), sP, sP, ?_, rfl⟩
   rw [fe_small]

theorem mul_ab {a b : List UInt8} (ha : a.length = 32) (hb : b.length = 32) : fe (v10 (mulT (openT (le a)) (openT (le b)))) = fe (le a) * fe (le b) := by rw [mulT_v (o_fit ha).len (o_fit hb).len, o_v ha, o_v hb]
theorem sub_ab {a b : List UInt8} (ha : a.length = 32) (hb : b.length = 32) : fe (v10 (minusT (openT (le a)) (openT (le b)))) = fe (le a) - fe (le b) := by rw [minusT_v (o_fit ha).len (o_fit hb), o_v ha, o_v hb]

theorem r3_Mul (a b : List UInt8) (ha : a.length = 32) (hb : b.length = 32) : Meets Tryz.prog 122 [agg (bytesV a), agg (bytesV b)] [] (fun _ => True) (fun v out => v = agg (bytesV (fb (fe (le a) * fe (le b)))) ∧ out = []) := by
 intro W hW
 refine calls_of (hp0 := []) Tryz.func122 J 11 Tryz.ntmps122 J (HRep.nil _) (Sat.seq (Sat.region (Tr.boxA J J ?_)))
 intro n2 hn2 hf2
 refine Tr.boxA J J ?_
 intro n3 hn3 hf3
 refine Tr.alloc (cs := (bytesV (List.replicate 32 0))) J Zr77 J ?_
 intro n4 hn4 hf4
 refine Tr.nil (at_n (Sat.seq (Sat.draw [(1, 0), (1, 2), (3, 1), (3, 3), (3, 4), (3, 5), (4, 6)] Mixed zK (Tr.loadAll J J J Y77 J Sz77 Z2 (by (simp [ha]; done)) ?_))))
 refine Tr.loadAll J J J Y77 J Sz77 Z1 (by (simp [hb]; done)) ?_
 refine Tr.callV J J J J Body188 (r3_Open (a) (ha)) (fun _ _ => trivial) (Tr.callV J J J J Body188 (r3_Open (b) (hb)) (fun _ _ => trivial) (Tr.callV J J J J Body197 (r3_Times (_) (_) (o_fit ha) (o_fit hb)) (fun _ _ => trivial) (Tr.callV J J J J Body196 (r3_Close_v (_) (mulT_fit (o_fit ha) (o_fit hb)) (_) (mul_ab ha hb)) (fun _ _ => trivial) (Tr.storeAll J J J J zE Sz77 zF Z0 sP zU ?_))))
 refine Tr.nil (at_n (Sat.ret (en_r ?_)))
 refine ⟨_, [], res_cell J J Y77 J Sz77 Z0 (by simp [fb_length]), sP, sP, ?_, rfl⟩
 rfl

theorem r3_Sub (a b : List UInt8) (ha : a.length = 32) (hb : b.length = 32) : Meets Tryz.prog 194 [agg (bytesV a), agg (bytesV b)] [] (fun _ => True) (fun v out => v = agg (bytesV (fb (fe (le a) - fe (le b)))) ∧ out = []) := by
 intro W hW
 refine calls_of (hp0 := []) Tryz.func194 J 11 Tryz.ntmps194 J (HRep.nil _) (Sat.seq (Sat.region (Tr.boxA J J ?_)))
 intro n2 hn2 hf2
 refine Tr.boxA J J ?_
 intro n3 hn3 hf3
 refine Tr.alloc (cs := (bytesV (List.replicate 32 0))) J Zr77 J ?_
 intro n4 hn4 hf4
 refine Tr.nil (at_n (Sat.seq (Sat.draw [(1, 0), (1, 2), (3, 1), (3, 3), (3, 4), (3, 5), (4, 6)] Mixed zK (Tr.loadAll J J J Y77 J Sz77 Z2 (by (simp [ha]; done)) ?_))))
 refine Tr.loadAll J J J Y77 J Sz77 Z1 (by (simp [hb]; done)) ?_
 refine Tr.callV J J J J Body188 (r3_Open (a) (ha)) (fun _ _ => trivial) (Tr.callV J J J J Body188 (r3_Open (b) (hb)) (fun _ _ => trivial) (Tr.callV J J J J Body231 (r3_Minus (_) (_) (o_fit ha) (o_fit hb)) (fun _ _ => trivial) (Tr.callV J J J J Body196 (r3_Close_v (_) (minusT_fit (o_fit ha) (o_fit hb)) (_) (sub_ab ha hb)) (fun _ _ => trivial) (Tr.storeAll J J J J zE Sz77 zF Z0 sP zU ?_))))
 refine Tr.nil (at_n (Sat.ret (en_r ?_)))
 refine ⟨_, [], res_cell J J Y77 J Sz77 Z0 (by simp [fb_length]), sP, sP, ?_, rfl⟩
 rfl

theorem r3_Neg (a : List UInt8) (ha : a.length = 32) : Meets Tryz.prog 185 [agg (bytesV a)] [] (fun _ => True) (fun v out => v = agg (bytesV (fb (- fe (le a)))) ∧ out = []) := by
 intro W hW
 refine calls_of (hp0 := []) Tryz.func185 J 6 Tryz.ntmps185 J (HRep.nil _) (Sat.seq (Sat.region (Tr.boxA J J ?_)))
 intro n1 hn1 hf1
 refine Tr.alloc (cs := (bytesV (List.replicate 32 0))) J Zr77 J ?_
 intro n2 hn2 hf2
 refine Tr.nil (at_n (Sat.seq (Sat.region (Tr.build (cs := bytesV (List.replicate 32 0)) J J J (fun w => by kernel_rfl) ?_))))
 refine Tr.loadAll J J J Y77 J Sz77 Z1 (by (simp [ha]; done)) ?_
 refine Tr.callV J J J J Body194 (r3_Sub (List.replicate 32 0) (a) (rfl) (ha)) (fun _ _ => trivial) (Tr.storeAll J J J J zE Sz77 zF Z0 sP zU ?_)
 refine Tr.nil (at_n (Sat.ret (en_r ?_)))
 refine ⟨_, [], res_cell J J Y77 J Sz77 Z0 (by simp [fb_length]), sP, sP, ?_, rfl⟩
 rw [show fe (le (List.replicate 32 0)) - fe (le a) = - fe (le a) from by rw [show fe (le (List.replicate 32 0)) = 0 by kernel_rfl]; grind]

theorem oneT_l : oneT.length = 10 := rfl

theorem r3_Power (x : List Nat) (e : List UInt8) (hx : Fit10 x) (he : e.length = 32) : Meets Tryz.prog 233 [agg (wdsV x), agg (bytesV e)] [] (fun _ => True) (fun v out => v = agg (wdsV (powT x (le e) 256)) ∧ out = []) := by
 intro W hW
 have hxl := hx.len
 have hE := le32 he
 obtain ⟨U, hU⟩ : ∃ U, Hid (powT x (le e) 256 = U) := ⟨_, ⟨rfl⟩⟩
 have hUl : U.length = 10 := by rw [← hU.out]; exact (powT_ok hx hE 256 (Nat.le_refl _)).1.len
 rw [hU.out]
 have hpl := hUl
 refine calls_of (hp0 := []) Tryz.func233 J 29 Tryz.ntmps233 J (HRep.nil _) (Sat.seq (Sat.region (Tr.boxA J J ?_)))
 intro n2 hn2 hf2
 refine Tr.boxA J J ?_
 intro n3 hn3 hf3
 refine Tr.alloc (cs := (intsV (List.replicate 10 0))) J Zr177 J ?_
 intro n4 hn4 hf4
 refine Tr.nil (at_n (Sat.seq (Sat.region (Tr.build (cs := wdsV oneT) J J J (fun w => by kernel_rfl) ?_))))
 refine Tr.alloc (cs := (intsV (List.replicate 10 0))) J Zr177 J ?_
 intro n5 hn5 hf5
 refine Tr.storeAll J J J J (by exact wdsV_cell _) Sz177 (by (simp [wdsV_length, oneT_l]; done)) Z0 sP zU ?_
 refine Tr.nil (at_n (Sat.seq (Sat.seq (Sat.region (Tr.assign J J J (Tr.nil (at_n (Sat.block (Sat.loop (ι := Nat) (fun j => ⟨[(2, ptr n2 0), (3, ptr n3 0), (4, ptr n4 0), (5, ptr n5 0), (6, i64 (255 - (j : Int)))], [⟨n5, wdsV (powT x (le e) j), 177, 10⟩, ⟨n4, (intsV (List.replicate 10 0)), 177, 10⟩, ⟨n3, bytesV e, 77, (bytesV e).length⟩, ⟨n2, wdsV x, 177, (wdsV x).length⟩]⟩) (fun j => j ≤ 256) (fun j => 256 - j) (0) ?_ ?_ ?_)))))))))
 · omega
 · exact weak_of (wk1 rfl (wk1 rfl (wk1 rfl (wk1 rfl (wk1 rfl wk0))))) (wh1 (by rw [show powT x (le e) 0 = oneT from rfl]; exact mem0) (wh1 Z1 (wh1 Z2 (wh1 Z3 wh0)))) nD
 ·
  rintro j hj
  obtain ⟨hfit, hfv⟩ := powT_ok hx hE j hj
  have hpl := hfit.len
  have hml : (mulT (powT x (le e) j) (powT x (le e) j)).length = 10 := mulT_length _ _
  refine Sat.seq (Sat.seq (Sat.region (Tr.move J J J (Tr.geq J J J J J (Tr.nil (at_n (Sat.condP J (fun hc0 => ?_) (fun hc0 => ?_))))))))
  ·
   have hj2 : j < 256 := by omega
   rw [show (255 : Int) - (j : Int) = ((255 - j : Nat) : Int) by omega]
   refine Sat.skip (at_n (Sat.seq (Sat.block (Sat.seq (Sat.region (Tr.loadAll J J J Y177 J Sz177 Z0 (by (simp [wdsV_length, hpl]; done)) ?_))))))
   refine Tr.loadAll J J J Y177 J Sz177 Z0 (by (simp [wdsV_length, hpl]; done)) ?_
   refine Tr.callV J J J J Body197 (r3_Times _ _ hfit hfit) (fun _ _ => trivial) (Tr.storeAll J J J J (by exact wdsV_cell _) Sz177 (by (simp [wdsV_length, mulT_length]; done)) Z0 (by (simp [wdsV_length, hpl]; done)) zU ?_)
   refine Tr.nil (at_n (Sat.seq (Sat.region (Tr.move J J J (Tr.quoN (255 - j) (8) J J J J ⟨by decide, by omega⟩ ?_)))))
   refine Tr.idxArr1 J J J J Y77 Sz5 _ J oM (Tr.load1 J J J Y5 J Z2 zG ?_)
   refine Tr.move J J J (Tr.remN (255 - j) (8) J J J J dE (Tr.conv J J J Y3 Y35 (cv_i64_u64 _) (Tr.shr_u8 J J J J ((255 - j) % 8) (by rw [wordOf_id _ oM]) oM ?_)))
   refine Tr.rem_u8 J J J J 2 J dE (Tr.eqi J J J J J (Tr.nil (at_n (Sat.condP J (fun hc1 => ?_) (fun hc1 => ?_)))))
   ·
    have hbt := bit_is hc1
    refine Sat.region (Tr.loadAll J J J Y177 J Sz177 Z0 (by (simp [wdsV_length, mulT_length]; done)) ?_)
    refine Tr.loadAll J J J Y177 J Sz177 Z3 (by (simp [wdsV_length, hxl]; done)) ?_
    refine Tr.callV J J J J Body197 (r3_Times _ _ (mulT_fit hfit hfit) hx) (fun _ _ => trivial) (Tr.storeAll J J J J (by exact wdsV_cell _) Sz177 (by (simp [wdsV_length, mulT_length]; done)) Z0 (by (simp [wdsV_length, mulT_length]; done)) zU ?_)
    refine Tr.nil (bl_n (at_n (Sat.region (Tr.move J J J (Tr.sub_i64 J J J J oM (Tr.assign J J J (Tr.nil (at_n ?_))))))))
    exact ⟨j + 1, by omega, by omega, weak_of (wk1 rfl (wk1 rfl (wk1 rfl (wk1 rfl (wk1 (congrArg (fun z => some (i64 z)) (show ((255 - j : Nat) : Int) - 1 = 255 - ((j + 1 : Nat) : Int) by omega)) wk0))))) (wh1 (by (rw [powT_t hbt]; exact mem0)) (wh1 Z1 (wh1 Z2 (wh1 Z3 wh0)))) nD⟩
   ·
    have hbf := bit_isn hc1
    refine Sat.skip (bl_n (at_n (Sat.region (Tr.move J J J (Tr.sub_i64 J J J J oM (Tr.assign J J J (Tr.nil (at_n ?_))))))))
    exact ⟨j + 1, by omega, by omega, weak_of (wk1 rfl (wk1 rfl (wk1 rfl (wk1 rfl (wk1 (congrArg (fun z => some (i64 z)) (show ((255 - j : Nat) : Int) - 1 = 255 - ((j + 1 : Nat) : Int) by omega)) wk0))))) (wh1 (by (rw [powT_f hbf]; exact mem0)) (wh1 Z1 (wh1 Z2 (wh1 Z3 wh0)))) nD⟩
  ·
   rw [show powT x (le e) j = U from by rw [show j = 256 by omega]; exact hU.out]
   refine Sat.exit (at_x (at_x (bl_h (at_n (Sat.seq (Sat.region (Tr.loadAll J J J Y177 J Sz177 Z0 (by (simp [wdsV_length, hUl]; done)) ?_)))))))
   refine Tr.storeAll J J J J (by exact wdsV_cell _) Sz177 (by (simp [wdsV_length, hUl]; done)) Z1 sP zV ?_
   refine Tr.nil (at_n (Sat.ret (en_r ?_)))
   refine ⟨_, [], res_cell J J Y177 J Sz177 Z1 (by simp [wdsV_length, hUl]), sP, sP, ?_, rfl⟩
   rfl

theorem pow_ab {a e : List UInt8} (ha : a.length = 32) (he : e.length = 32) : fe (v10 (powT (openT (le a)) (le e) 256)) = fpow (fe (le a)) (le e) := by rw [powT_all (o_fit ha) (le32 he), o_v ha]

theorem r3_Pow (a e : List UInt8) (ha : a.length = 32) (he : e.length = 32) : Meets Tryz.prog 198 [agg (bytesV a), agg (bytesV e)] [] (fun _ => True) (fun v out => v = agg (bytesV (fb (fpow (fe (le a)) (le e)))) ∧ out = []) := by
 intro W hW
 refine calls_of (hp0 := []) Tryz.func198 J 10 Tryz.ntmps198 J (HRep.nil _) (Sat.seq (Sat.region (Tr.boxA J J ?_)))
 intro n2 hn2 hf2
 refine Tr.boxA J J ?_
 intro n3 hn3 hf3
 refine Tr.alloc (cs := (bytesV (List.replicate 32 0))) J Zr77 J ?_
 intro n4 hn4 hf4
 refine Tr.nil (at_n (Sat.seq (Sat.draw [(1, 0), (1, 2), (3, 1), (3, 3), (3, 4), (4, 5)] Mixed zK (Tr.loadAll J J J Y77 J Sz77 Z2 (by (simp [ha]; done)) ?_))))
 refine Tr.loadAll J J J Y77 J Sz77 Z1 (by (simp [he]; done)) ?_
 refine Tr.callV J J J J Body188 (r3_Open (a) (ha)) (fun _ _ => trivial) (Tr.callV J J J J Body233 (r3_Power (_) (e) (o_fit ha) (he)) (fun _ _ => trivial) (Tr.callV J J J J Body196 (r3_Close_v (_) ((powT_ok (o_fit ha) (le32 he) 256 (Nat.le_refl _)).1) (_) (pow_ab ha he)) (fun _ _ => trivial) (Tr.storeAll J J J J zE Sz77 zF Z0 sP zU ?_)))
 refine Tr.nil (at_n (Sat.ret (en_r ?_)))
 refine ⟨_, [], res_cell J J Y77 J Sz77 Z0 (by simp [fb_length]), sP, sP, ?_, rfl⟩
 rfl

theorem half_rem {p : UInt8} : ((UInt8.ofNat (p.toNat % 2)).toNat : Int) = 1 ↔ p.toNat % 2 = 1 := by
  rw [UInt8.toNat_ofNat']
  omega
theorem ones_three (n : Nat) : ((List.replicate 32 (255 : UInt8)).set 0 (UInt8.ofNat (237 - n))).set 31 127 = leb 32 (le (onesB (UInt8.ofNat (237 - n)) 127) / 2 ^ 0) := by
  rw [Nat.pow_zero, Nat.div_one, ones_leb]; rfl
theorem half_pow (V j : Nat) : leb 32 (V / 2 ^ (j + 1)) = halfAt (V / 2 ^ j) 32 := by
  rw [halfAt_end, Nat.div_div_eq_div_mul, ← Nat.pow_succ]

theorem r3_shifted (n k : Nat) (hn : n ≤ 237) (hk : k ≤ 9) : Meets Tryz.prog 199 [i64 (n : Int), i64 (k : Int)] [] (fun _ => True) (fun v out => v = agg (bytesV (expT n k)) ∧ out = []) := by
 intro W hW
 obtain ⟨V, hV⟩ : ∃ V, Hid (le (onesB (UInt8.ofNat (237 - n)) 127) = V) := ⟨_, ⟨rfl⟩⟩
 have hV2 : V < 2 ^ 256 := by rw [← hV.out]; exact le32 (onesB_length _ _)
 have hx : expT n k = leb 32 (V / 2 ^ k) := by rw [expT, hV.out]
 rw [hx]
 have hon := ones_three n
 rw [hV.out] at hon
 have hhl : True := trivial
 have hsl : True := trivial
 refine calls_of (hp0 := []) Tryz.func199 J 50 Tryz.ntmps199 J (HRep.nil _) (Sat.seq (Sat.region (Tr.alloc (cs := (bytesV (List.replicate 32 0))) J Zr77 J ?_)))
 intro n4 hn4 hf4
 refine Tr.nil (at_n (Sat.seq (Sat.region (Tr.alloc (cs := (bytesV (List.replicate 32 0))) J Zr77 J ?_))))
 intro n5 hn5 hf5
 refine Tr.nil (at_n (Sat.seq (Sat.seq (Sat.region (Tr.assign J J J (Tr.nil (at_n (Sat.block (Sat.loop (ι := Nat) (fun i => ⟨[(0, i64 (n : Int)), (1, i64 (k : Int)), (4, ptr n4 0), (5, ptr n5 0), (6, i64 (i : Int))], [⟨n5, bytesV (List.replicate i 255 ++ List.replicate (32 - i) 0), 77, 32⟩, ⟨n4, bytesV (List.replicate 32 0), 77, 32⟩]⟩) (fun i => i ≤ 32) (fun i => 32 - i) (0) ?_ ?_ ?_)))))))))
 · omega
 · exact weak_of (wk1 rfl (wk1 rfl (wk1 rfl (wk1 rfl (wk1 rfl wk0))))) (wh1 Z0 (wh1 Z1 wh0)) nD
 ·
  rintro i hi
  refine Sat.seq (Sat.seq (Sat.region (Tr.move J J J (Tr.lss J J J J J (Tr.nil (at_n (Sat.condP J (fun hc0 => ?_) (fun hc0 => ?_))))))))
  ·
   have hi2 : i < 32 := by omega
   refine Sat.skip (at_n (Sat.seq (Sat.block (Sat.region (Tr.move J J J (Tr.idxArr1 J J J J Y77 Sz5 _ J oM (Tr.store1 J J J (show evIn _ _ = some (u8 255) from rfl) J Sz5 Z0 (by (simp; omega)) (by exact set_bytes _ _ _) zU ?_)))))))
   refine Tr.nil (bl_n (at_n (Sat.region (Tr.move J J J (Tr.add_i64 J J J J oM (Tr.assign J J J (Tr.nil (at_n ?_))))))))
   exact ⟨i + 1, by omega, by omega, weak_of (wk1 rfl (wk1 rfl (wk1 rfl (wk1 rfl (wk1 rfl wk0))))) (wh1 (by rw [← ones_step hi2]; exact mem0) (wh1 Z1 wh0)) nD⟩
  ·
   obtain rfl : i = 32 := by omega
   rw [show ((List.replicate 32 255 ++ List.replicate (32 - 32) 0) : List UInt8) = List.replicate 32 255 from rfl]
   refine Sat.exit (at_x (at_x (bl_h (at_n (Sat.seq (Sat.region (Tr.move J J J (Tr.subN (237) (n) J J J J oM (Tr.conv J J J Y3 Y5 (cv_i64_u8 _) (Tr.idxArr1 J J J J Y77 Sz5 0 J dE ?_))))))))))
   rw [byteOf_nat]
   refine Tr.store1 J J J J J Sz5 Z0 sP (by exact set_bytes _ _ _) zU ?_
   refine Tr.idxArr1 J J J J Y77 Sz5 31 J dE (Tr.store1 J J J (show evIn _ _ = some (u8 127) from rfl) J Sz5 Z0 sP (by exact set_bytes _ _ _) zU ?_)
   refine Tr.nil (at_n (Sat.seq (Sat.block (Sat.loop (ι := Nat) (fun j => ⟨[(1, i64 ((k : Int) - (j : Int))), (4, ptr n4 0), (5, ptr n5 0)], [⟨n5, bytesV (leb 32 (V / 2 ^ j)), 77, 32⟩, ⟨n4, bytesV (List.replicate 32 0), 77, 32⟩]⟩) (fun j => j ≤ k) (fun j => k - j) (0) ?_ ?_ ?_))))
   · exact Nat.zero_le _
   · exact weak_of (wk1 (congrArg (fun z => some (i64 z)) (show (k : Int) = (k : Int) - ((0 : Nat) : Int) by omega)) (wk1 rfl (wk1 rfl wk0))) (wh1 (by rw [← hon]; exact mem0) (wh1 Z1 wh0)) nD
   ·
    rintro j hj
    refine Sat.seq (Sat.seq (Sat.region (Tr.move J J J (Tr.gtr J J J J J (Tr.nil (at_n (Sat.condP J (fun hc1 => ?_) (fun hc1 => ?_))))))))
    ·
     have hVj : V / 2 ^ j < 2 ^ 256 := Nat.lt_of_le_of_lt (Nat.div_le_self _ _) hV2
     refine Sat.skip (at_n (Sat.seq (Sat.block (Sat.seq (Sat.region (Tr.assign J J J (Tr.nil (at_n (Sat.block (Sat.loop (ι := Nat) (fun i => ⟨[(1, i64 ((k : Int) - (j : Int))), (4, ptr n4 0), (5, ptr n5 0), (7, i64 (i : Int))], [⟨n5, bytesV (halfAt (V / 2 ^ j) i), 77, 32⟩, ⟨n4, bytesV (List.replicate 32 0), 77, 32⟩]⟩) (fun i => i ≤ 32) (fun i => 32 - i) (0) ?_ ?_ ?_))))))))))
     · omega
     · exact weak_of (wk1 rfl (wk1 rfl (wk1 rfl (wk1 rfl wk0)))) (wh1 (by rw [halfAt_zero]; exact mem0) (wh1 Z1 wh0)) nD
     ·
      rintro i hi
      have hhl := halfAt_length (V / 2 ^ j) i hi
      have hsl : ((halfAt (V / 2 ^ j) i).set i (UInt8.ofNat (((halfAt (V / 2 ^ j) i).getD i 0).toNat / 2))).length = 32 := by rw [List.length_set]; exact hhl
      refine Sat.seq (Sat.seq (Sat.region (Tr.move J J J (Tr.lss J J J J J (Tr.nil (at_n (Sat.condP J (fun hc2 => ?_) (fun hc2 => ?_))))))))
      ·
       have hi2 : i < 32 := by omega
       refine Sat.skip (at_n (Sat.seq (Sat.block (Sat.seq (Sat.region (Tr.move J J J (Tr.move J J J (Tr.idxArr1 J J J J Y77 Sz5 _ J oM (Tr.load1 J J J Y5 J Z0 zG ?_)))))))))
       refine Tr.quo_u8 J J J J 2 J dE (Tr.idxArr1 J J J J Y77 Sz5 _ J oM (Tr.store1 J J J J J Sz5 Z0 (by (simp [hhl]; omega)) (by exact set_bytes _ _ _) zU ?_))
       refine Tr.nil (at_n (Sat.seq (Sat.region (Tr.move J J J (two (fun r hr k => Tr.lss J J J J hr k) (fun hs13_10 => ?_) (fun hs13_10 => ?_))))))
       ·
        have hs13_1 := of_decide_eq_true hs13_10
        refine Tr.move J J J (Tr.move J J J (Tr.addN (i) (1) J J J J oM (Tr.idxArr1 J J J J Y77 Sz5 _ J oM (Tr.load1 J J J Y5 J Z0 zG ?_))))
        refine Tr.rem_u8 J J J J 2 J dE (two (fun r hr k => Tr.eqi J J J J hr k) (fun hs13_80 => ?_) (fun hs13_80 => ?_))
        ·
         have hs13_8 := of_decide_eq_true hs13_80
         refine Tr.pick J J J J J J (Tr.nil (at_n (Sat.cond_t J J (Sat.region (Tr.move J J J (Tr.move J J J (Tr.idxArr1 J J J J Y77 Sz5 _ J oM (Tr.load1 J J J Y5 J Z0 zG ?_))))))))
         refine Tr.add_u8 J J J (show evIn _ _ = some (u8 128) from rfl) (Tr.idxArr1 J J J J Y77 Sz5 _ J oM (Tr.store1 J J J J J Sz5 Z0 (by (simp [hhl]; omega)) (by exact set_bytes _ _ _) zU ?_))
         refine Tr.nil (bl_n (at_n (Sat.region (Tr.move J J J (Tr.add_i64 J J J J oM (Tr.assign J J J (Tr.nil (at_n ?_))))))))
         exact ⟨i + 1, by omega, by omega, weak_of (wk1 rfl (wk1 rfl (wk1 rfl (wk1 rfl wk0)))) (wh1 (by (rw [← half_odd (V / 2 ^ j) oM (half_rem.1 hs13_8)]; exact mem0)) (wh1 Z1 wh0)) nD⟩
        ·
         have hs13_8 := of_decide_eq_false hs13_80
         refine Tr.pick J J J J J J (Tr.nil (at_n (Sat.cond_f J J (Sat.skip (bl_n (at_n (Sat.region (Tr.move J J J (Tr.add_i64 J J J J oM (Tr.assign J J J (Tr.nil (at_n ?_))))))))))))
         exact ⟨i + 1, by omega, by omega, weak_of (wk1 rfl (wk1 rfl (wk1 rfl (wk1 rfl wk0)))) (wh1 (by (rw [← half_even (V / 2 ^ j) oM (fun e => hs13_8 (half_rem.2 e))]; exact mem0)) (wh1 Z1 wh0)) nD⟩
       ·
        have hs13_1 := of_decide_eq_false hs13_10
        refine Tr.move J J J (Tr.skp J J (Tr.skp J J (Tr.skp J J (Tr.skp J J (Tr.skp J J (Tr.skp J J (Tr.pick J J J J J J (Tr.nil (at_n (Sat.cond_f J J (Sat.skip (bl_n (at_n (Sat.region (Tr.move J J J (Tr.add_i64 J J J J oM (Tr.assign J J J (Tr.nil (at_n ?_)))))))))))))))))))
        exact ⟨i + 1, by omega, by omega, weak_of (wk1 rfl (wk1 rfl (wk1 rfl (wk1 rfl wk0)))) (wh1 (by (rw [show i = 31 by omega, ← half_last _ hVj]; exact mem0)) (wh1 Z1 wh0)) nD⟩
      ·
       refine Sat.exit (at_x (at_x (bl_h (bl_n (at_n (Sat.region (Tr.move J J J (Tr.sub_i64 J J J J oM (Tr.assign J J J (Tr.nil (at_n ?_)))))))))))
       exact ⟨j + 1, by omega, by omega, weak_of (wk1 (congrArg (fun z => some (i64 z)) (show (k : Int) - (j : Int) - 1 = (k : Int) - ((j + 1 : Nat) : Int) by omega)) (wk1 rfl (wk1 rfl wk0))) (wh1 (by rw [half_pow, show (32 : Nat) = i by omega]; exact mem0) (wh1 Z1 wh0)) nD⟩
    ·
     obtain rfl : j = k := by omega
     refine Sat.exit (at_x (at_x (bl_h (at_n (Sat.seq (Sat.region (Tr.loadAll J J J Y77 J Sz77 Z0 (by (simp [leb_length]; done)) ?_)))))))
     refine Tr.storeAll J J J J zE Sz77 (by (simp [leb_length]; done)) Z1 sP zV ?_
     refine Tr.nil (at_n (Sat.ret (en_r ?_)))
     refine ⟨_, [], res_cell J J Y77 J Sz77 Z1 (by simp [leb_length]), sP, sP, ?_, rfl⟩
     rfl

theorem r3_Pow_e (a e : List UInt8) (ha : a.length = 32) (he : e.length = 32) (N : Nat) (X : Fp) (hN : le e = N) (hX : fe (le a) = X) : Meets Tryz.prog 198 [agg (bytesV a), agg (bytesV e)] [] (fun _ => True) (fun v out => v = agg (bytesV (fb (fpow X N))) ∧ out = []) := by
  rw [← hN, ← hX]; exact r3_Pow a e ha he

theorem r3_Inv (a : List UInt8) (ha : a.length = 32) : Meets Tryz.prog 124 [agg (bytesV a)] [] (fun _ => True) (fun v out => v = agg (bytesV (fb (finv (fe (le a))))) ∧ out = []) := by
 intro W hW
 obtain ⟨E, hE⟩ : ∃ E, Hid (expT 2 0 = E) := ⟨_, ⟨rfl⟩⟩
 have hEl : E.length = 32 := by rw [← hE.out]; exact expT_length _ _
 have hs := r3_shifted 2 0 dE dE
 rw [hE.out] at hs
 have hp := r3_Pow_e a E ha hEl (PF - 2) _ (by rw [← hE.out]; exact expT_inv) rfl
 rw [show fpow (fe (le a)) (PF - 2) = finv (fe (le a)) from rfl] at hp
 obtain ⟨R, hR⟩ : ∃ R, Hid (finv (fe (le a)) = R) := ⟨_, ⟨rfl⟩⟩
 rw [hR.out] at hp ⊢
 refine calls_of (hp0 := []) Tryz.func124 J 6 Tryz.ntmps124 J (HRep.nil _) (Sat.seq (Sat.region (Tr.boxA J J ?_)))
 intro n1 hn1 hf1
 refine Tr.alloc (cs := (bytesV (List.replicate 32 0))) J Zr77 J ?_
 intro n2 hn2 hf2
 refine Tr.nil (at_n (Sat.seq (Sat.draw [(1, 0), (3, 1), (3, 2), (4, 3)] Mixed zK (Tr.loadAll J J J Y77 J Sz77 Z1 (by (simp [ha]; done)) ?_))))
 refine Tr.callV J J J J Body199 (hs) (fun _ _ => trivial) (Tr.callV J J J J Body198 (hp) (fun _ _ => trivial) (Tr.storeAll J J J J zE Sz77 zF Z0 sP zU ?_))
 refine Tr.nil (at_n (Sat.ret (en_r ?_)))
 refine ⟨_, [], res_cell J J Y77 J Sz77 Z0 (by simp [fb_length]), sP, sP, ?_, rfl⟩
 rfl

end Go.Proofs.YtpacobmjjjillaaGreat
end

section
namespace Go.Proofs.YtpacobmjjjillaaGreat
open Go Hw
set_option linter.unusedSimpArgs false
set_option linter.unusedVariables false
set_option maxRecDepth 100000
structure far where
  fX : List Nat
  fY : List Nat
  fZ : List Nat
def far.cells (x : far) : List Value := wdsV x.fX ++ (wdsV x.fY ++ (wdsV x.fZ))
structure far.ok (x : far) : Prop where
  l_fX : x.fX.length = 10
  l_fY : x.fY.length = 10
  l_fZ : x.fZ.length = 10
theorem far.length {x : far} (h : x.ok) : x.cells.length = 30 := by simp [far.cells, bytesV, wdsV, intsV, h.l_fX, h.l_fY, h.l_fZ]
theorem far.isCell {x : far} (h : x.ok) : ∀ u ∈ x.cells, isCell u = true := by
  intro u hu
  simp only [far.cells, List.mem_append, List.mem_singleton, bytesV, wdsV, intsV, List.mem_map] at hu
  rcases hu with ⟨_, _, rfl⟩ | ⟨_, _, rfl⟩ | ⟨_, _, rfl⟩ <;> rfl
theorem far.row_fX {x : far} (h : x.ok) : (x.cells.drop 0).take 10 = wdsV x.fX := by simp [far.cells, bytesV, wdsV, intsV, h.l_fX, h.l_fY, h.l_fZ, List.drop_append, List.take_append, List.drop_of_length_le, List.take_of_length_le]
theorem far.rl_fX {x : far} (h : x.ok) : (wdsV x.fX).length = 10 := by simp [bytesV, wdsV, intsV, h.l_fX]
theorem far.upd_fX {x : far} (h : x.ok) (l : List Nat) (hl : l.length = 10) : upd x.cells 0 (wdsV l) = ({ x with fX := l }).cells := by
  simp [upd, far.cells, bytesV, wdsV, intsV, h.l_fX, h.l_fY, h.l_fZ, hl, List.drop_append, List.take_append, List.drop_of_length_le, List.take_of_length_le]
theorem far.see_fX {x : far} (h : x.ok) : ∀ (j : Nat) (v : Value), (wdsV x.fX)[j]? = some v → x.cells[0 + j]? = some v := fun j v hj => by
  rw [← far.row_fX h, List.getElem?_take] at hj
  split at hj
  · rwa [List.getElem?_drop] at hj
  · cases hj
theorem far.row_fY {x : far} (h : x.ok) : (x.cells.drop 10).take 10 = wdsV x.fY := by simp [far.cells, bytesV, wdsV, intsV, h.l_fX, h.l_fY, h.l_fZ, List.drop_append, List.take_append, List.drop_of_length_le, List.take_of_length_le]
theorem far.rl_fY {x : far} (h : x.ok) : (wdsV x.fY).length = 10 := by simp [bytesV, wdsV, intsV, h.l_fY]
theorem far.upd_fY {x : far} (h : x.ok) (l : List Nat) (hl : l.length = 10) : upd x.cells 10 (wdsV l) = ({ x with fY := l }).cells := by
  simp [upd, far.cells, bytesV, wdsV, intsV, h.l_fX, h.l_fY, h.l_fZ, hl, List.drop_append, List.take_append, List.drop_of_length_le, List.take_of_length_le]
theorem far.see_fY {x : far} (h : x.ok) : ∀ (j : Nat) (v : Value), (wdsV x.fY)[j]? = some v → x.cells[10 + j]? = some v := fun j v hj => by
  rw [← far.row_fY h, List.getElem?_take] at hj
  split at hj
  · rwa [List.getElem?_drop] at hj
  · cases hj
theorem far.row_fZ {x : far} (h : x.ok) : (x.cells.drop 20).take 10 = wdsV x.fZ := by simp [far.cells, bytesV, wdsV, intsV, h.l_fX, h.l_fY, h.l_fZ, List.drop_append, List.take_append, List.drop_of_length_le, List.take_of_length_le]
theorem far.rl_fZ {x : far} (h : x.ok) : (wdsV x.fZ).length = 10 := by simp [bytesV, wdsV, intsV, h.l_fZ]
theorem far.upd_fZ {x : far} (h : x.ok) (l : List Nat) (hl : l.length = 10) : upd x.cells 20 (wdsV l) = ({ x with fZ := l }).cells := by
  simp [upd, far.cells, bytesV, wdsV, intsV, h.l_fX, h.l_fY, h.l_fZ, hl, List.drop_append, List.take_append, List.drop_of_length_le, List.take_of_length_le]
theorem far.see_fZ {x : far} (h : x.ok) : ∀ (j : Nat) (v : Value), (wdsV x.fZ)[j]? = some v → x.cells[20 + j]? = some v := fun j v hj => by
  rw [← far.row_fZ h, List.getElem?_take] at hj
  split at hj
  · rwa [List.getElem?_drop] at hj
  · cases hj
def far.zero : far := ⟨List.replicate 10 0, List.replicate 10 0, List.replicate 10 0⟩
theorem far.zero_ok : far.zero.ok := by constructor <;> simp [far.zero]
theorem far.zr : Zr Tryz.prog 180 (agg far.zero.cells) := by unfold Zr; kernel_rfl
structure Rdr where
  fB : Sl
  fE : Int
def Rdr.cells (x : Rdr) : List Value := [x.fB.v] ++ ([i64 x.fE])
structure Rdr.ok (x : Rdr) : Prop where
  t : True
theorem Rdr.length {x : Rdr} (h : x.ok) : x.cells.length = 2 := by simp [Rdr.cells, bytesV]
theorem Rdr.isCell {x : Rdr} (h : x.ok) : ∀ u ∈ x.cells, isCell u = true := by
  intro u hu
  simp only [Rdr.cells, List.mem_append, List.mem_singleton, bytesV, List.mem_map] at hu
  rcases hu with rfl | rfl <;> first | rfl
def Rdr.zero : Rdr := ⟨Sl.nil, 0⟩
theorem Rdr.zero_ok : Rdr.zero.ok := by constructor <;> first | exact trivial | simp [Rdr.zero]
theorem Rdr.zr : Zr Tryz.prog 108 (agg Rdr.zero.cells) := by unfold Zr; kernel_rfl
end Go.Proofs.YtpacobmjjjillaaGreat
end

section
namespace Go.Proofs.YtpacobmjjjillaaGreat
open Go Hw
set_option linter.unusedVariables false
set_option linter.unusedSimpArgs false

theorem ref_L  : Meets Tryz.prog 187 [] [] (fun _ => True) (fun v out => v = agg (bytesV (leb 32 L)) ∧ out = []) := by
 intro W hW
 refine calls_of (hp0 := []) Tryz.func187 J 2 Tryz.ntmps187 J (HRep.nil _) (Sat.seq (Sat.region (Tr.alloc (cs := (bytesV (List.replicate 32 0))) J Zr77 J ?_)))
 intro n0 hn0 hf0
 refine Tr.nil (at_n (Sat.seq (Sat.region (Tr.build (cs := bytesV (leb 32 L)) J J J (fun w => by kernel_rfl) ?_))))
 refine Tr.storeAll J J J J zB Sz77 (by (simp [leb_length]; done)) Z0 sP zU ?_
 refine Tr.nil (at_n (Sat.ret (en_r ?_)))
 refine ⟨_, [], res_cell J J Y77 J Sz77 Z0 (by simp [leb_length]), sP, sP, ?_, rfl⟩
 rfl

theorem ref_below (a b : List UInt8) (ha : a.length = 32) (hb : b.length = 32) : Meets Tryz.prog 186 [agg (bytesV a), agg (bytesV b)] [] (fun _ => True) (fun v out => v = .bool (decide (le a < le b)) ∧ out = []) := by
  intro W hW
  refine calls_of (hp0 := []) Tryz.func186 J 24 Tryz.ntmps186 J (HRep.nil _) (Sat.seq (Sat.region (Tr.boxA J J ?_)))
  intro n2 hn2 hf2
  refine Tr.boxA J J ?_
  intro n3 hn3 hf3
  refine Tr.assign J J J (Tr.nil (at_n (Sat.seq (Sat.seq (Sat.region (Tr.assign J J J (Tr.nil (at_n (Sat.block (Sat.loop (ι := Nat) (fun k => ⟨[(2, ptr n2 0), (3, ptr n3 0), (5, i64 (31 - (k : Int)))], [⟨n3, bytesV b, 77, (bytesV b).length⟩, ⟨n2, bytesV a, 77, (bytesV a).length⟩]⟩) (fun k => k ≤ 32 ∧ a.drop (32 - k) = b.drop (32 - k)) (fun k => 32 - k) (0) ?_ ?_ ?_))))))))))
  · exact ⟨by omega, by rw [List.drop_of_length_le oM, List.drop_of_length_le oM]⟩
  · exact weak_of (wk1 rfl (wk1 rfl (wk1 rfl wk0))) (wh1 Z0 (wh1 Z1 wh0)) nD
  ·
    rintro k ⟨hk, hd⟩
    refine Sat.seq (Sat.seq (Sat.region (Tr.move J J J (Tr.geq J J J J J (Tr.nil (at_n (Sat.condP J (fun hc0 => ?_) (fun hc0 => ?_))))))))
    ·
      have hk2 : k < 32 := by omega
      refine Sat.skip (at_n (Sat.seq (Sat.block (Sat.seq (Sat.draw [(0, 0), (0, 1), (1, 2), (0, 3), (0, 4), (1, 5), (0, 6)] Mixed zK (Tr.move J J J (Tr.idxArr1 J J J J Y77 Sz5 (31 - k) oM oM (Tr.load1 J J J Y5 J Z1 zG ?_))))))))
      refine Tr.move J J J (Tr.idxArr1 J J J J Y77 Sz5 (31 - k) oM oM (Tr.load1 J J J Y5 J Z0 zG ?_))
      refine Tr.nei J J J J J (Tr.nil (at_n (Sat.condNP J (fun hc1 => ?_) (fun hc1 => ?_))))
      ·
        have hlt := le_lt_at ha hb (i := 31 - k) oM (by rw [show 31 - k + 1 = 32 - k by omega]; exact hd) oM
        refine Sat.seq (Sat.draw [(0, 0), (0, 1), (1, 2), (0, 3), (0, 4), (1, 5), (0, 6), (0, 7)] Mixed zK (Tr.move J J J (Tr.idxArr1 J J J J Y77 Sz5 (31 - k) oM oM (Tr.load1 J J J Y5 J Z1 zG ?_))))
        refine Tr.move J J J (Tr.idxArr1 J J J J Y77 Sz5 (31 - k) oM oM (Tr.load1 J J J Y5 J Z0 zG ?_))
        refine Tr.lss J J J J J (Tr.assign J J J (Tr.nil (at_n (Sat.ret (bl_r (at_r (at_r (bl_r (at_r (en_r ?_))))))))))
        refine ⟨_, [], res_tmp J J, sP, sP, ?_, rfl⟩
        first
          | (rw [show decide (le a < le b) = decide (((a.getD (31 - k) 0).toNat : Int) < ((b.getD (31 - k) 0).toNat : Int)) from decide_eq_decide.2 (hlt.symm.trans oM)])
          | (have he : a = b := by simpa using hd
             rw [he, decide_eq_false (Nat.lt_irrefl _)])
      ·
        refine Sat.skip (bl_n (at_n (Sat.region (Tr.move J J J (Tr.sub_i64 J J J J oM (Tr.assign J J J (Tr.nil (at_n ?_))))))))
        exact ⟨k + 1, ⟨by omega, drop_step ha hb oM (by rw [show 32 - (k + 1) + 1 = 32 - k by omega]; exact hd) (by rw [show 32 - (k + 1) = 31 - k by omega]; omega)⟩, by omega, weak_of (wk1 rfl (wk1 rfl (wk1 (by rw [show (31 - ((k + 1 : Nat) : Int)) = 31 - (k : Int) - 1 by omega]; rfl) wk0))) (wh1 Z0 (wh1 Z1 wh0)) nD⟩
    ·
      obtain rfl : k = 32 := by omega
      refine Sat.exit (at_x (at_x (bl_h (at_n (Sat.seq (Sat.region (Tr.assign J J J (Tr.nil (at_n (Sat.ret (en_r ?_)))))))))))
      refine ⟨_, [], res_tmp J J, sP, sP, ?_, rfl⟩
      first
        | (rw [show decide (le a < le b) = decide (((a.getD (31 - k) 0).toNat : Int) < ((b.getD (31 - k) 0).toNat : Int)) from decide_eq_decide.2 (hlt.symm.trans oM)])
        | (have he : a = b := by simpa using hd
           rw [he, decide_eq_false (Nat.lt_irrefl _)])

theorem ref_plus (a b : List UInt8) (ha : a.length = 32) (hb : b.length = 32) (hla : le a < L) (hlb : le b < L) : Meets Tryz.prog 210 [agg (bytesV a), agg (bytesV b)] [] (fun _ => True) (fun v out => v = agg (bytesV (leb 32 ((le a + le b) % L))) ∧ out = []) := by
 intro W hW
 have hL : L < 2 ^ 253 := by decide
 refine calls_of (hp0 := []) Tryz.func210 J 61 Tryz.ntmps210 J (HRep.nil _) (Sat.seq (Sat.region (Tr.boxA J J ?_)))
 intro n2 hn2 hf2
 refine Tr.boxA J J ?_
 intro n3 hn3 hf3
 refine Tr.alloc (cs := (bytesV (List.replicate 32 0))) J Zr77 J ?_
 intro n4 hn4 hf4
 refine Tr.nil (at_n (Sat.seq (Sat.region (Tr.alloc (cs := (bytesV (List.replicate 32 0))) J Zr77 J ?_))))
 intro n5 hn5 hf5
 refine Tr.nil (at_n (Sat.seq (Sat.region (Tr.assign J J J (Tr.nil (at_n (Sat.join (ι := Unit) (fun _u => ⟨[(4, ptr n4 0), (5, ptr n5 0)], [⟨n5, bytesV (leb 32 (le a + le b)), 77, 32⟩, ⟨n4, bytesV (List.replicate 32 0), 77, 32⟩]⟩) (fun _u => True) ?_ ?_)))))))
 ·
  refine Sat.seq (Sat.region (Tr.assign J J J (Tr.nil (at_n (Sat.block (Sat.loop (ι := Nat) (fun k => ⟨[(2, ptr n2 0), (3, ptr n3 0), (4, ptr n4 0), (5, ptr n5 0), (6, i64 (((le (a.take k) + le (b.take k)) / 256 ^ k : Nat) : Int)), (7, i64 (k : Int))], [⟨n5, bytesV (padW 32 (le (a.take k) + le (b.take k)) k), 77, 32⟩, ⟨n4, bytesV (List.replicate 32 0), 77, 32⟩, ⟨n3, bytesV b, 77, (bytesV b).length⟩, ⟨n2, bytesV a, 77, (bytesV a).length⟩]⟩) (fun k => k ≤ 32) (fun k => 32 - k) (0) ?_ ?_ ?_))))))
  · omega
  · exact weak_of (wk1 rfl (wk1 rfl (wk1 rfl (wk1 rfl (wk1 (by rw [List.take_zero, List.take_zero]; rfl) (wk1 rfl wk0)))))) (wh1 (by rw [padW_zero]; exact mem0) (wh1 Z1 (wh1 Z2 (wh1 Z3 wh0)))) nD
  ·
   rintro k hk
   have hpl := padW_length 32 (le (a.take k) + le (b.take k)) k hk
   have hcb : (le (a.take k) + le (b.take k)) / 256 ^ k ≤ 1 := by
    have h1 := le_take_lt a k
    have h2 := le_take_lt b k
    rw [← Nat.lt_succ_iff, Nat.div_lt_iff_lt_mul (Nat.pow_pos dE)]
    omega
   have hcn : (0 : Int) ≤ (((le (a.take k) + le (b.take k)) / 256 ^ k : Nat) : Int) := Int.natCast_nonneg _
   have hcb2 : (((le (a.take k) + le (b.take k)) / 256 ^ k : Nat) : Int) ≤ 1 := Int.ofNat_le.2 hcb
   refine Sat.seq (Sat.seq (Sat.region (Tr.move J J J (Tr.lss J J J J J (Tr.nil (at_n (Sat.condP J (fun hc0 => ?_) (fun hc0 => ?_))))))))
   ·
    have hk2 : k < 32 := by omega
    have ha8 := (a.getD k 0).toNat_lt
    have hb8 := (b.getD k 0).toNat_lt
    have hs : (((le (a.take k) + le (b.take k)) / 256 ^ k : Nat) : Int) + ((a.getD k 0).toNat : Int) + ((b.getD k 0).toNat : Int) = (((le (a.take k) + le (b.take k)) / 256 ^ k + ((a.getD k 0).toNat + (b.getD k 0).toNat) : Nat) : Int) := by rw [Int.natCast_add, Int.natCast_add, Int.add_assoc]
    refine Sat.skip (at_n (Sat.seq (Sat.block (Sat.seq (Sat.draw [(0, 0), (0, 1), (0, 2), (1, 3), (0, 4), (0, 5), (0, 6), (0, 7), (1, 8), (0, 9), (0, 10), (0, 11)] Mixed zK (Tr.move J J J (Tr.move J J J (Tr.idxArr1 J J J J Y77 Sz5 _ J oM (Tr.load1 J J J Y5 J Z3 zG ?_)))))))))
    refine Tr.conv J J J Y5 Y3 (cv_u8_i64 _) (Tr.add_i64 J J J J oM (Tr.move J J J (Tr.idxArr1 J J J J Y77 Sz5 _ J oM (Tr.load1 J J J Y5 J Z2 zG ?_))))
    refine Tr.conv J J J Y5 Y3 (cv_u8_i64 _) (Tr.add_i64 J J J J oM (Tr.assign J J J (Tr.nil (at_n (Sat.seq (Sat.region (Tr.move J J J (Tr.move J J J (Tr.rem_i64 J J J J oM (Tr.conv J J J Y3 Y5 (cv_i64_u8 _) (Tr.idxArr1 J J J J Y77 Sz5 _ J oM (Tr.store1 J J J J J Sz5 Z0 (by (simp; omega)) (by exact set_bytes _ _ _) zU ?_))))))))))))
    refine Tr.nil (at_n (Sat.region (Tr.move J J J (Tr.quo_i64 J J J J oM (Tr.assign J J J (Tr.nil (bl_n (at_n (Sat.region (Tr.move J J J (Tr.add_i64 J J J J oM (Tr.assign J J J (Tr.nil (at_n ?_))))))))))))))
    have hst : le (a.take (k + 1)) + le (b.take (k + 1)) = (le (a.take k) + le (b.take k)) + 256 ^ k * ((a.getD k 0).toNat + (b.getD k 0).toNat) := by
     rw [le_take_succ a k oM, le_take_succ b k oM, Nat.mul_add]; omega
    exact ⟨k + 1, by omega, by omega, weak_of (wk1 rfl (wk1 rfl (wk1 rfl (wk1 rfl (wk1 (by rw [hst, ← carry_step _ _ _ _ hs]; rfl) (wk1 rfl wk0)))))) (wh1 (by rw [hst, ← padW_step 32 _ _ k oM _ hs, byteOf_mod]; exact mem0) (wh1 Z1 (wh1 Z2 (wh1 Z3 wh0)))) nD⟩
   ·
    obtain rfl : k = 32 := by omega
    have hta : le (a.take 32) = le a := by rw [List.take_of_length_le oM]
    have htb : le (b.take 32) = le b := by rw [List.take_of_length_le oM]
    refine Sat.exit (at_x (at_x (bl_h (at_n ?_))))
    refine ⟨(), trivial, weak_of (wk1 J (wk1 J wk0)) (wh1 (by rw [← padW_all, ← hta, ← htb]; exact mem0) (wh1 Z1 wh0)) nD⟩
 ·
  intro _u hj
  skip
  refine Sat.seq (Sat.seq (Sat.draw [(1, 0), (3, 1), (3, 2)] Mixed zK (Tr.loadAll J J J Y77 J Sz77 Z0 (by (simp [leb_length]; done)) ?_)))
  refine Tr.callV J J J J Body187 (ref_L) (fun _ _ => trivial) (Tr.callV J J J J Body186 (ref_below _ _ (by simp [leb_length]) (by simp [leb_length])) (fun _ _ => trivial) ?_)
  refine Tr.nil (at_n (Sat.condP J (fun hc1 => ?_) (fun hc1 => ?_)))
  ·
   have hS : le a + le b < L := by rw [le_leb32 oM, le_leb32 L_lt] at hc1; exact hc1
   refine Sat.seq (Sat.region (Tr.loadAll J J J Y77 J Sz77 Z0 (by (simp [leb_length]; done)) ?_))
   refine Tr.storeAll J J J J zB Sz77 (by (simp [leb_length]; done)) Z1 sP zV ?_
   refine Tr.nil (at_n (Sat.ret (at_r (en_r ?_))))
   refine ⟨_, [], res_cell J J Y77 J Sz77 Z1 (by simp [leb_length]), sP, sP, ?_, rfl⟩
   (rw [Nat.mod_eq_of_lt hS]; done)
  ·
   have hge : L ≤ le a + le b := by rw [le_leb32 oM, le_leb32 L_lt] at hc1; exact Nat.le_of_not_lt hc1
   refine Sat.skip (at_n (Sat.seq (Sat.region (Tr.callV J J J J Body187 (ref_L) (fun _ _ => trivial) (Tr.alloc (cs := (bytesV (List.replicate 32 0))) J Zr77 J ?_)))))
   intro n8 hn8 hf8
   refine Tr.storeAll J J J J zB Sz77 (by (simp [leb_length]; done)) Z0 sP zU ?_
   refine Tr.nil (at_n (Sat.seq (Sat.region (Tr.assign J J J (Tr.nil (at_n (Sat.seq (Sat.seq (Sat.region (Tr.assign J J J (Tr.nil (at_n (Sat.block (Sat.loop (ι := Nat) (fun k => ⟨[(4, ptr n4 0), (5, ptr n5 0), (8, ptr n8 0), (6, i64 (-((bor (le a + le b - L) L k : Nat) : Int))), (9, i64 (k : Int))], [⟨n8, bytesV (leb 32 L), 77, 32⟩, ⟨n5, bytesV (subB (le a + le b - L) L k), 77, 32⟩, ⟨n4, bytesV (List.replicate 32 0), 77, 32⟩]⟩) (fun k => k ≤ 32) (fun k => 32 - k) (0) ?_ ?_ ?_))))))))))))))
   · omega
   · exact weak_of (wk1 rfl (wk1 rfl (wk1 rfl (wk1 (by rw [bor_zero]; rfl) (wk1 rfl wk0))))) (wh1 Z0 (wh1 (by rw [subB_zero, Nat.sub_add_cancel hge]; exact mem1) (wh1 Z2 wh0))) nD
   ·
    rintro k hk
    have hpl := subB_length (le a + le b - L) L k hk
    have hbl := bor_le (le a + le b - L) L k
    refine Sat.seq (Sat.seq (Sat.region (Tr.move J J J (Tr.lss J J J J J (Tr.nil (at_n (Sat.condP J (fun hc2 => ?_) (fun hc2 => ?_))))))))
    ·
     have hk3 : k < 32 := by omega
     have hx8 := ((subB (le a + le b - L) L k).getD k 0).toNat_lt
     have hy8 := ((leb 32 L).getD k 0).toNat_lt
     have hJ : (((subB (le a + le b - L) L k).getD k 0).toNat : Int) - (((leb 32 L).getD k 0).toNat : Int) + -((bor (le a + le b - L) L k : Nat) : Int) = (((le a + le b - L + L) / 256 ^ k % 256 : Nat) : Int) - ((L / 256 ^ k % 256 : Nat) : Int) + -((bor (le a + le b - L) L k : Nat) : Int) := by rw [subB_get _ _ k hk3, leb_getD 32 L k hk3, ofNat8_toNat, ofNat8_toNat]
     have hbn := bor_next _ _ k _ hJ
     refine Sat.skip (at_n (Sat.join (ι := Unit) (fun _u => ⟨[(4, ptr n4 0), (5, ptr n5 0), (8, ptr n8 0), (6, i64 (-((bor (le a + le b - L) L (k + 1) : Nat) : Int))), (9, i64 (k : Int))], [⟨n8, bytesV (leb 32 L), 77, 32⟩, ⟨n5, bytesV (subB (le a + le b - L) L (k + 1)), 77, 32⟩, ⟨n4, bytesV (List.replicate 32 0), 77, 32⟩]⟩) (fun _u => True) ?_ ?_))
     ·
      refine Sat.block (Sat.seq (Sat.draw [(0, 0), (0, 1), (1, 2), (0, 3), (0, 4), (0, 5), (1, 6), (0, 7), (0, 8), (0, 9), (0, 10), (0, 11)] Mixed zK (Tr.move J J J (Tr.idxArr1 J J J J Y77 Sz5 _ J oM (Tr.load1 J J J Y5 J Z1 zG ?_)))))
      refine Tr.conv J J J Y5 Y3 (cv_u8_i64 _) (Tr.move J J J (Tr.idxArr1 J J J J Y77 Sz5 _ J oM (Tr.load1 J J J Y5 J Z0 (by exact get_bytes (by (simp [leb_length]; omega))) ?_)))
      refine Tr.conv J J J Y5 Y3 (cv_u8_i64 _) (Tr.sub_i64 J J J J oM (Tr.move J J J (Tr.add_i64 J J J J oM (Tr.assign J J J (Tr.nil (at_n (Sat.seq (Sat.region (Tr.move J J J (Tr.move J J J (Tr.add_i64 J J J J oM (Tr.rem_i64 J J J J oM (Tr.conv J J J Y3 Y5 (cv_i64_u8 _) (Tr.idxArr1 J J J J Y77 Sz5 _ J oM (Tr.store1 J J J J J Sz5 Z1 (by (simp; omega)) (by exact set_bytes _ _ _) zV ?_)))))))))))))))
      refine Tr.nil (at_n (Sat.seq (Sat.region (Tr.move J J J (Tr.lss J J J J J (Tr.nil (at_n (Sat.condP J (fun hc3 => ?_) (fun hc3 => ?_)))))))))
      ·
       have hn3 := hbn.1 hc3
       refine Sat.region (Tr.assign J J J (Tr.nil (bl_n (at_n ?_))))
       refine ⟨(), trivial, weak_of (wk1 J (wk1 J (wk1 J (wk1 (by rw [hn3]; rfl) (wk1 J wk0))))) (wh1 Z0 (wh1 (by rw [← subB_step _ _ k hk3 _ hJ, byteOf_mod]; exact mem1) (wh1 Z2 wh0))) nD⟩
      ·
       have hn3 := hbn.2 hc3
       refine Sat.region (Tr.assign J J J (Tr.nil (bl_n (at_n ?_))))
       refine ⟨(), trivial, weak_of (wk1 J (wk1 J (wk1 J (wk1 (by rw [hn3]; rfl) (wk1 J wk0))))) (wh1 Z0 (wh1 (by rw [← subB_step _ _ k hk3 _ hJ, byteOf_mod]; exact mem1) (wh1 Z2 wh0))) nD⟩
     ·
      intro _u hj
      skip
      refine Sat.region (Tr.move J J J (Tr.add_i64 J J J J oM (Tr.assign J J J (Tr.nil (at_n ?_)))))
      exact ⟨k + 1, by omega, by omega, weak_of (wk1 rfl (wk1 rfl (wk1 rfl (wk1 rfl (wk1 rfl wk0))))) (wh1 Z0 (wh1 Z1 (wh1 Z2 wh0))) nD⟩
    ·
     obtain rfl : k = 32 := by omega
     refine Sat.exit (at_x (at_x (bl_h (at_n (Sat.seq (Sat.region (Tr.loadAll J J J Y77 J Sz77 Z1 (by (simp [leb_length, subB_all]; done)) ?_)))))))
     refine Tr.storeAll J J J J zB Sz77 (by (simp [leb_length, subB_all]; done)) Z2 sP (by exact upd2) ?_
     refine Tr.nil (at_n (Sat.ret (en_r ?_)))
     refine ⟨_, [], res_cell J J Y77 J Sz77 Z2 (by simp [leb_length, subB_all]), sP, sP, ?_, rfl⟩
     (rw [subB_all, Nat.mod_eq_sub_mod hge, Nat.mod_eq_of_lt (a := le a + le b - L) oM])

theorem ref_plus_n (x y : Nat) (hx : x < L) (hy : y < L) : Meets Tryz.prog 210 [agg (bytesV (leb 32 x)), agg (bytesV (leb 32 y))] [] (fun _ => True) (fun v out => v = agg (bytesV (leb 32 ((x + y) % L))) ∧ out = []) := by
  have e1 := le_leb32 (Nat.lt_trans hx L_lt)
  have e2 := le_leb32 (Nat.lt_trans hy L_lt)
  have := ref_plus (leb 32 x) (leb 32 y) (leb_length 32 x) (leb_length 32 y) (by rw [e1]; exact hx) (by rw [e2]; exact hy)
  rw [e1, e2] at this
  exact this
theorem ref_plus_one (x : Nat) (hx : x < L) : Meets Tryz.prog 210 [agg (bytesV (leb 32 x)), agg (bytesV ((List.replicate 32 0).set 0 1))] [] (fun _ => True) (fun v out => v = agg (bytesV (leb 32 ((x + 1) % L))) ∧ out = []) := by
  have e1 := le_leb32 (Nat.lt_trans hx L_lt)
  have := ref_plus (leb 32 x) ((List.replicate 32 0).set 0 1) (leb_length 32 x) sP (by rw [e1]; exact hx) (by rw [le_one']; decide)
  rw [e1, le_one'] at this
  exact this

theorem ref_rest (b o c n : Nat) (xs : List UInt8) (hx : xs.length = n) (hn : n ≤ 1000000) : Meets Tryz.prog 209 [.slice (some ⟨b, o, none⟩) n c] [] (fun W => Sees W b o (bytesV xs)) (fun v out => v = agg (bytesV (leb 32 (le xs % L))) ∧ out = []) := by
 intro W hW
 refine calls_of (hp0 := []) Tryz.func209 J 33 Tryz.ntmps209 J (HRep.nil _) (Sat.seq (Sat.region (Tr.alloc (cs := (bytesV (List.replicate 32 0))) J Zr77 J ?_)))
 intro n2 hn2 hf2
 refine Tr.nil (at_n (Sat.seq (Sat.region (Tr.alloc (cs := (bytesV (List.replicate 32 0))) J Zr77 J ?_))))
 intro n3 hn3 hf3
 refine Tr.alloc (cs := (bytesV (List.replicate 32 0))) J Zr77 J ?_
 intro n4 hn4 hf4
 refine Tr.nil (at_n (Sat.seq (Sat.region (Tr.idxArr1 J J J J Y77 Sz5 0 J dE (Tr.store1 J J J (show evIn _ _ = some (u8 1) from rfl) J Sz5 Z0 sP (by exact set_bytes _ _ _) zU ?_)))))
 refine Tr.nil (at_n (Sat.seq (Sat.seq (Sat.region (Tr.move J J J (Tr.lenSl J J J Y39 (Tr.mul_i64 J J J J oM (Tr.sub_i64 J J J J oM (Tr.assign J J J (Tr.nil (at_n (Sat.block (Sat.loop (ι := Nat) (fun k => ⟨[(0, .slice (some ⟨b, o, none⟩) n c), (2, ptr n2 0), (3, ptr n3 0), (4, ptr n4 0), (5, i64 (8 * (n : Int) - 1 - (k : Int)))], [⟨n4, bytesV ((List.replicate 32 0).set 0 1), 77, 32⟩, ⟨n3, bytesV (leb 32 ((le xs / 2 ^ (8 * n - k)) % L)), 77, 32⟩, ⟨n2, bytesV (List.replicate 32 0), 77, 32⟩]⟩) (fun k => k ≤ 8 * n) (fun k => 8 * n - k) (0) ?_ ?_ ?_)))))))))))))
 · omega
 · exact weak_of (wk1 rfl (wk1 rfl (wk1 rfl (wk1 rfl (wk1 (by rw [show (8 * (n : Int) - 1 - ((0 : Nat) : Int)) = 8 * (n : Int) - 1 by omega]; rfl) wk0))))) (wh1 Z0 (wh1 (by rw [Nat.sub_zero, le_zero_div xs n hx, zero_modL, leb_zero32]; exact mem1) (wh1 Z2 wh0))) nD
 ·
  rintro k hk
  refine Sat.seq (Sat.seq (Sat.region (Tr.move J J J (Tr.geq J J J J J (Tr.nil (at_n (Sat.condP J (fun hc0 => ?_) (fun hc0 => ?_))))))))
  ·
   have hk2 : k < 8 * n := by omega
   have hdv := div_bit (le xs) (8 * n - (k + 1))
   rw [show 8 * n - (k + 1) + 1 = 8 * n - k by omega] at hdv
   have hbr := bit_rem xs (8 * n - (k + 1))
   rw [show 8 * n - (k + 1) = 8 * n - 1 - k by omega] at hbr hdv
   refine Sat.skip (at_n (Sat.join (ι := Unit) (fun _u => ⟨[(0, .slice (some ⟨b, o, none⟩) n c), (2, ptr n2 0), (3, ptr n3 0), (4, ptr n4 0), (5, i64 (8 * (n : Int) - 1 - (k : Int)))], [⟨n4, bytesV ((List.replicate 32 0).set 0 1), 77, 32⟩, ⟨n3, bytesV (leb 32 ((le xs / 2 ^ (8 * n - (k + 1))) % L)), 77, 32⟩, ⟨n2, bytesV (List.replicate 32 0), 77, 32⟩]⟩) (fun _u => True) ?_ ?_))
   ·
    refine Sat.block (Sat.seq (Sat.region (Tr.loadAll J J J Y77 J Sz77 Z1 (by (simp [leb_length]; done)) ?_)))
    refine Tr.loadAll J J J Y77 J Sz77 Z1 (by (simp [leb_length]; done)) ?_
    refine Tr.callV J J J J Body210 (ref_plus_n _ _ (Nat.mod_lt _ L_pos) (Nat.mod_lt _ L_pos)) (fun _ _ => trivial) (Tr.storeAll J J J J zB Sz77 (by (simp [leb_length]; done)) Z1 (by (simp [leb_length]; done)) zV ?_)
    refine Tr.nil (at_n (Sat.seq (Sat.region (Tr.move J J J (Tr.move J J J (Tr.quo_i64 J J J J oM (Tr.idxSlO J J J J Y39 Sz5 ((8 * n - 1 - k) / 8) oM oM (Tr.loadE J J J Y5 J sP (hW _ _ (get_bytes oM)) (Tr.move J J J (Tr.rem_i64 J J J J oM (Tr.conv J J J Y3 Y35 (cv_i64_u64 _) (Tr.shr_u8 J J J J ((8 * n - 1 - k) % 8) (by rw [wordOf_id _ oM]; omega) oM ?_))))))))))))
    refine Tr.rem_u8 J J J J 2 J dE (Tr.eqi J J J J J (Tr.nil (at_n (Sat.condP J (fun hc1 => ?_) (fun hc1 => ?_)))))
    ·
     have hdb : le xs / 2 ^ (8 * n - (k + 1)) = 2 * (le xs / 2 ^ (8 * n - k)) + 1 := by rw [show 8 * n - (k + 1) = 8 * n - 1 - k by omega, hdv, ← hbr, if_pos (decide_eq_true hc1)]
     refine Sat.region (Tr.loadAll J J J Y77 J Sz77 Z1 (by (simp [leb_length]; done)) ?_)
     refine Tr.loadAll J J J Y77 J Sz77 Z0 sP ?_
     refine Tr.callV J J J J Body210 (ref_plus_one _ (Nat.mod_lt _ L_pos)) (fun _ _ => trivial) (Tr.storeAll J J J J zB Sz77 (by (simp [leb_length]; done)) Z1 (by (simp [leb_length]; done)) zV ?_)
     refine Tr.nil (bl_n (at_n ?_))
     refine ⟨(), trivial, weak_of (wk1 J (wk1 J (wk1 J (wk1 J (wk1 J wk0))))) (wh1 Z0 (wh1 (by (rw [hdb, ← dbl_mod1]; exact mem1)) (wh1 Z2 wh0))) nD⟩
    ·
     have hdb : le xs / 2 ^ (8 * n - (k + 1)) = 2 * (le xs / 2 ^ (8 * n - k)) := by rw [show 8 * n - (k + 1) = 8 * n - 1 - k by omega, hdv, ← hbr, if_neg (by simpa using hc1), Nat.add_zero]
     refine Sat.skip (bl_n (at_n ?_))
     refine ⟨(), trivial, weak_of (wk1 J (wk1 J (wk1 J (wk1 J (wk1 J wk0))))) (wh1 Z0 (wh1 (by (rw [hdb, ← dbl_mod]; exact mem1)) (wh1 Z2 wh0))) nD⟩
   ·
    intro _u hj
    skip
    refine Sat.region (Tr.move J J J (Tr.sub_i64 J J J J oM (Tr.assign J J J (Tr.nil (at_n ?_)))))
    exact ⟨k + 1, by omega, by omega, weak_of (wk1 rfl (wk1 rfl (wk1 rfl (wk1 rfl (wk1 (by rw [show (8 * (n : Int) - 1 - ((k + 1 : Nat) : Int)) = 8 * (n : Int) - 1 - (k : Int) - 1 by omega]; rfl) wk0))))) (wh1 Z0 (wh1 Z1 (wh1 Z2 wh0))) nD⟩
  ·
   obtain rfl : k = 8 * n := by omega
   refine Sat.exit (at_x (at_x (bl_h (at_n (Sat.seq (Sat.region (Tr.loadAll J J J Y77 J Sz77 Z1 (by (simp [leb_length]; done)) ?_)))))))
   refine Tr.storeAll J J J J zB Sz77 (by (simp [leb_length]; done)) Z2 sP (by exact upd2) ?_
   refine Tr.nil (at_n (Sat.ret (en_r ?_)))
   refine ⟨_, [], res_cell J J Y77 J Sz77 Z2 (by simp [leb_length]), sP, sP, ?_, rfl⟩
   rw [Nat.sub_self, Nat.pow_zero, Nat.div_one]

theorem ref_Rest (b o c n : Nat) (xs : List UInt8) (hx : xs.length = n) (hn : n ≤ 64) : Meets Tryz.prog 137 [.slice (some ⟨b, o, none⟩) n c] [] (fun W => Sees W b o (bytesV xs)) (fun v out => v = .tuple #[agg (bytesV (leb 32 (le xs % L))), i64 0] ∧ out = []) := by
 intro W hW
 refine calls_of (hp0 := []) Tryz.func137 J 10 Tryz.ntmps137 J (HRep.nil _) (Sat.seq (Sat.region (Tr.alloc (cs := (bytesV (List.replicate 32 0))) J Zr77 J ?_)))
 intro n2 hn2 hf2
 refine Tr.assign J J J (Tr.nil (at_n (Sat.seq (Sat.seq (Sat.region (Tr.move J J J (Tr.lenSl J J J Y39 (Tr.gtr J J J J (decide_eq_false oM) (Tr.nil (at_n (Sat.cond_f J (rfl) (Sat.skip (at_n (Sat.seq (Sat.region (Tr.move J J J (Tr.callV J J J J Body209 (ref_rest _ _ _ n xs hx oM) (fun W h => sees_ext h sP hW) (Tr.storeAll J J J J zB Sz77 (by (simp [leb_length]; done)) Z0 sP zU ?_))))))))))))))))))
 refine Tr.assign J J J (Tr.nil (at_n (Sat.ret (en_r ?_))))
 refine ⟨_, [], res_cell_tmp J J J Y77 J Sz77 Z0 (by simp [leb_length]), sP, sP, ?_, rfl⟩
 rfl

theorem ref_canon (a : List UInt8) (ha : a.length = 32)  : Meets Tryz.prog 113 [agg (bytesV a)] [] (fun _ => True) (fun v out => v = .bool (decide (le a < L)) ∧ out = []) := by
 intro W hW
 refine calls_of (hp0 := []) Tryz.func113 J 6 Tryz.ntmps113 J (HRep.nil _) (Sat.seq (Sat.region (Tr.boxA J J ?_)))
 intro n1 hn1 hf1
 refine Tr.assign J J J (Tr.nil (at_n (Sat.seq (Sat.draw [(1, 0), (3, 1), (3, 2), (0, 3)] Mixed zK (Tr.loadAll J J J Y77 J Sz77 Z0 (by (simp [ha]; done)) ?_)))))
 refine Tr.callV J J J J Body187 (ref_L) (fun _ _ => trivial) (Tr.callV J J J J Body186 (ref_below _ _ (by simp [ha]) (by simp [leb_length])) (fun _ _ => trivial) ?_)
 refine Tr.assign J J J (Tr.nil (at_n (Sat.ret (en_r ?_))))
 refine ⟨_, [], res_tmp J J, sP, sP, ?_, rfl⟩
 rw [le_leb32 L_lt]

theorem ref_bit_at (a : List UInt8) (ha : a.length = 32) (k : Nat) (hk : k < 256) : Meets Tryz.prog 192 [agg (bytesV a), i64 (k : Int)] [] (fun _ => True) (fun v out => v = .bool ((le a).testBit k) ∧ out = []) := by
 intro W hW
 refine calls_of (hp0 := []) Tryz.func192 J 23 Tryz.ntmps192 J (HRep.nil _) (Sat.seq (Sat.region (Tr.boxA J J ?_)))
 intro n2 hn2 hf2
 refine Tr.assign J J J (Tr.nil (at_n (Sat.seq (Sat.region (Tr.move J J J (Tr.geq J J J J (decide_eq_true oM) (Tr.move J J J (Tr.move J J J (Tr.lss J J J J (decide_eq_true oM) (Tr.pick J J J J J J (Tr.move J J J (Tr.move J J J (Tr.quo_i64 J J J J oM (Tr.idxArr1 J J J J Y77 Sz5 (k / 8) oM oM (Tr.load1 J J J Y5 J Z0 zG ?_)))))))))))))))
 refine Tr.move J J J (Tr.rem_i64 J J J J oM (Tr.conv J J J Y3 Y35 (cv_i64_u64 _) (Tr.shr_u8 J J J J (k % 8) (by rw [wordOf_id _ oM]; omega) oM ?_)))
 refine Tr.rem_u8 J J J J 2 J dE (Tr.eqi J J J J J (Tr.pick J J J J J J (Tr.assign J J J (Tr.nil (at_n (Sat.ret (en_r ?_)))))))
 refine ⟨_, [], res_tmp J J, sP, sP, ?_, rfl⟩
 rw [← bit_rem a k]; rfl

end Go.Proofs.YtpacobmjjjillaaGreat
end

section
namespace Go.Proofs.YtpacobmjjjillaaGreat
open Go Hw
set_option linter.unusedVariables false
set_option linter.unusedSimpArgs false

open Ed

theorem r_mul (x y : Fp) : Meets Tryz.prog 122 [agg (bytesV (fb x)), agg (bytesV (fb y))] [] (fun _ => True) (fun v out => v = agg (bytesV (fb (x * y))) ∧ out = []) := by
  have h := r3_Mul (fb x) (fb y) (fb_length x) (fb_length y)
  rwa [fe_fb x, fe_fb y] at h

theorem r_sub (x y : Fp) : Meets Tryz.prog 194 [agg (bytesV (fb x)), agg (bytesV (fb y))] [] (fun _ => True) (fun v out => v = agg (bytesV (fb (x - y))) ∧ out = []) := by
  have h := r3_Sub (fb x) (fb y) (fb_length x) (fb_length y)
  rwa [fe_fb x, fe_fb y] at h

theorem r_neg (x : Fp) : Meets Tryz.prog 185 [agg (bytesV (fb x))] [] (fun _ => True) (fun v out => v = agg (bytesV (fb (-x))) ∧ out = []) := by
  have h := r3_Neg (fb x) (fb_length x)
  rwa [fe_fb x] at h

theorem r_inv (x : Fp) : Meets Tryz.prog 124 [agg (bytesV (fb x))] [] (fun _ => True) (fun v out => v = agg (bytesV (fb (finv x))) ∧ out = []) := by
  have h := r3_Inv (fb x) (fb_length x)
  rwa [fe_fb x] at h

theorem r_odd (x : Fp) : Meets Tryz.prog 119 [agg (bytesV (fb x))] [] (fun _ => True) (fun v out => v = .bool (decide (x.val % 2 = 1)) ∧ out = []) := by
  have h := r3_Odd (fb x) (fb_length x)
  rwa [fe_fb x] at h

theorem r_canon (x : Fp) : Meets Tryz.prog 184 [agg (bytesV (fb x))] [] (fun _ => True) (fun v out => v = .bool true ∧ out = []) := by
  have h := r3_Canon (fb x) (fb_length x)
  rw [fe_fb x] at h
  rwa [decide_eq_true rfl] at h
theorem r_same_raw (x : Fp) (a : List UInt8) (ha : a.length = 32) : Meets Tryz.prog 234 [agg (bytesV (fb x)), agg (bytesV a)] [] (fun _ => True) (fun v out => v = .bool (decide (x = fe (le a))) ∧ out = []) := by
  have h := r3_Same (fb x) a (fb_length x) ha
  rwa [fe_fb x] at h
theorem r_of (x : UInt64) (X : Fp) (h : fe x.toNat = X) : Meets Tryz.prog 123 [u64 x] [] (fun _ => True) (fun v out => v = agg (bytesV (fb X)) ∧ out = []) := by
  rw [← h]; exact r3_Of x
theorem r_one : Meets Tryz.prog 123 [u64 1] [] (fun _ => True) (fun v out => v = agg (bytesV (fb 1)) ∧ out = []) := r_of 1 1 rfl
theorem r_cA : Meets Tryz.prog 123 [u64 121666] [] (fun _ => True) (fun v out => v = agg (bytesV (fb cA)) ∧ out = []) := r_of 121666 cA rfl
theorem r_cB : Meets Tryz.prog 123 [u64 121665] [] (fun _ => True) (fun v out => v = agg (bytesV (fb cB)) ∧ out = []) := r_of 121665 cB rfl
theorem r_pow_root (a : List UInt8) (ha : a.length = 32) (X : Fp) (hX : fe (le a) = X) : Meets Tryz.prog 198 [agg (bytesV a), agg (bytesV (expT 5 3))] [] (fun _ => True) (fun v out => v = agg (bytesV (fb (fpow X ((PF - 5) / 8)))) ∧ out = []) := r3_Pow_e a _ ha (expT_length _ _) _ X expT_root hX
theorem r_pow_unit : Meets Tryz.prog 198 [agg (bytesV (fb (fe 2))), agg (bytesV (expT 1 2))] [] (fun _ => True) (fun v out => v = agg (bytesV (fb (fpow (fe 2) ((PF - 1) / 4)))) ∧ out = []) := r3_Pow_e _ _ (fb_length _) (expT_length _ _) _ _ expT_unit (fe_fb _)
theorem r_mul_a (p r : Fp) (a : List UInt8) (ha : a.length = 32) (h : p * fe (le a) = r) : Meets Tryz.prog 122 [agg (bytesV (fb p)), agg (bytesV a)] [] (fun _ => True) (fun v out => v = agg (bytesV (fb r)) ∧ out = []) := by
  have h1 := r3_Mul (fb p) a (fb_length p) ha
  rwa [fe_fb p, h] at h1

theorem r3_Root (a : List UInt8) (X : Fp) (ha : a.length = 32) (hX : fe (le a) = X) : Meets Tryz.prog 200 [agg (bytesV a)] [] (fun _ => True) (fun v out => v = .tuple #[agg (bytesV (fb (fRoot X).1)), .bool (fRoot X).2] ∧ out = []) := by
 intro W hW
 obtain ⟨r0, hr0⟩ : ∃ r, fpow X ((PF + 3) / 8) = r := ⟨_, rfl⟩
 obtain ⟨un, hun⟩ : ∃ r, fpow (fe 2) ((PF - 1) / 4) = r := ⟨_, rfl⟩
 obtain ⟨r1, hr1⟩ : ∃ r, fRoot1 X = r := ⟨_, rfl⟩
 have hp0 := r_pow_root a ha X hX
 have hstep := root_step X
 obtain ⟨p0, hpp⟩ : ∃ r, fpow X ((PF - 5) / 8) = r := ⟨_, rfl⟩
 rw [hpp] at hp0 hstep
 rw [hr0] at hstep
 have hm0 := r_mul_a p0 r0 a ha (by rw [hX]; exact hstep)
 have hpu := r_pow_unit
 rw [hun] at hpu
 have hm := fun y => r_same_raw y a ha
 rw [hX] at hm
 have hr1' : r1 = if r0 * r0 = X then r0 else r0 * un := by rw [← hr1, fRoot1, hr0, hun]
 have hR : fRoot X = if r1 * r1 = X then ((if r1.val % 2 = 1 then -r1 else r1), true) else (0, false) := by rw [fRoot, hr1]
 clear hr1 hstep
 have hs53 := r3_shifted 5 3 dE dE
 have hs12 := r3_shifted 1 2 dE dE
 obtain ⟨E, hE⟩ : ∃ E, Hid (expT 5 3 = E) := ⟨_, ⟨rfl⟩⟩
 obtain ⟨G, hG⟩ : ∃ E, Hid (expT 1 2 = E) := ⟨_, ⟨rfl⟩⟩
 have hEl : E.length = 32 := by rw [← hE.out]; exact expT_length _ _
 have hGl : G.length = 32 := by rw [← hG.out]; exact expT_length _ _
 rw [hE.out] at hs53 hp0
 rw [hG.out] at hs12 hpu
 refine calls_of (hp0 := []) Tryz.func200 J 33 Tryz.ntmps200 J (HRep.nil _) (Sat.seq (Sat.region (Tr.boxA J J ?_)))
 intro n1 hn1 hf1
 refine Tr.alloc (cs := (bytesV (List.replicate 32 0))) J Zr77 J ?_
 intro n2 hn2 hf2
 refine Tr.assign J J J (Tr.nil (at_n (Sat.seq (Sat.draw [(1, 0), (1, 3), (3, 1), (3, 2), (3, 4), (2, 5), (4, 6)] Mixed zK (Tr.loadAll J J J Y77 J Sz77 Z1 (by (simp [ha]; done)) ?_)))))
 refine Tr.loadAll J J J Y77 J Sz77 Z1 (by (simp [ha]; done)) ?_
 refine Tr.callV J J J J Body199 (hs53) (fun _ _ => trivial) (Tr.callV J J J J Body198 (hp0) (fun _ _ => trivial) (Tr.callV J J J J Body122 (hm0) (fun _ _ => trivial) (Tr.alloc (cs := (bytesV (List.replicate 32 0))) J Zr77 J ?_)))
 intro n4 hn4 hf4
 refine Tr.storeAll J J J J zE Sz77 zF Z0 sP zU ?_
 refine Tr.nil (at_n (Sat.join (ι := Unit) (fun _u => ⟨[(1, ptr n1 0), (2, ptr n2 0), (4, ptr n4 0)], [⟨n4, bytesV (fb r1), 77, 32⟩, ⟨n2, bytesV (List.replicate 32 0), 77, 32⟩, ⟨n1, bytesV a, 77, (bytesV a).length⟩]⟩) (fun _u => True) ?_ ?_))
 ·
  refine Sat.seq (Sat.draw [(1, 0), (1, 1), (1, 3), (3, 2), (3, 4), (0, 5)] Mixed zK (Tr.loadAll J J J Y77 J Sz77 Z0 zF ?_))
  refine Tr.loadAll J J J Y77 J Sz77 Z0 zF ?_
  refine Tr.loadAll J J J Y77 J Sz77 Z2 (by (simp [ha]; done)) ?_
  refine Tr.callV J J J J Body122 (r_mul r0 r0) (fun _ _ => trivial) (Tr.callV J J J J Body234 (hm (r0 * r0)) (fun _ _ => trivial) (Tr.not J J J (Tr.nil (at_n (Sat.condNP J (fun hc0 => ?_) (fun hc0 => ?_))))))
  ·
   refine Sat.draw [(1, 0), (3, 1), (3, 2), (3, 3), (3, 4), (4, 5)] Mixed zK (Tr.loadAll J J J Y77 J Sz77 Z0 zF ?_)
   refine Tr.callV J J J J Body123 (r_of 2 (fe 2) J) (fun _ _ => trivial) (Tr.callV J J J J Body199 (hs12) (fun _ _ => trivial) (Tr.callV J J J J Body198 (hpu) (fun _ _ => trivial) (Tr.callV J J J J Body122 (r_mul r0 un) (fun _ _ => trivial) (Tr.storeAll J J J J zE Sz77 zF Z0 zF zU ?_))))
   refine Tr.nil (at_n ?_)
   (rw [hr1', if_neg hc0]; exact ⟨(), trivial, weak_of (wk1 rfl (wk1 rfl (wk1 rfl wk0))) (wh1 Z0 (wh1 Z1 (wh1 Z2 wh0))) nD⟩)
  ·
   refine Sat.skip (at_n ?_)
   (rw [hr1', if_pos hc0]; exact ⟨(), trivial, weak_of (wk1 rfl (wk1 rfl (wk1 rfl wk0))) (wh1 Z0 (wh1 Z1 (wh1 Z2 wh0))) nD⟩)
 ·
  intro _u hj
  skip
  refine Sat.seq (Sat.seq (Sat.draw [(1, 0), (1, 1), (1, 3), (3, 2), (3, 4), (0, 5)] Mixed zK (Tr.loadAll J J J Y77 J Sz77 Z0 zF ?_)))
  refine Tr.loadAll J J J Y77 J Sz77 Z0 zF ?_
  refine Tr.loadAll J J J Y77 J Sz77 Z2 (by (simp [ha]; done)) ?_
  refine Tr.callV J J J J Body122 (r_mul r1 r1) (fun _ _ => trivial) (Tr.callV J J J J Body234 (hm (r1 * r1)) (fun _ _ => trivial) (Tr.not J J J (Tr.nil (at_n (Sat.condNP J (fun hc1 => ?_) (fun hc1 => ?_))))))
  ·
   refine Sat.seq (Sat.region (Tr.build (cs := bytesV (List.replicate 32 0)) J J J (fun w => by kernel_rfl) ?_))
   refine Tr.storeAll J J J J zE Sz77 sP Z1 sP zV ?_
   refine Tr.assign J J J (Tr.nil (at_n (Sat.ret (at_r (en_r ?_)))))
   refine ⟨_, [], res_cell_tmp J J J Y77 J Sz77 Z1 sP, sP, sP, ?_, rfl⟩
   (rw [hR, if_neg hc1, fb_zero]; done)
  ·
   refine Sat.skip (at_n (Sat.join (ι := Unit) (fun _u => ⟨[(2, ptr n2 0), (4, ptr n4 0)], [⟨n4, bytesV (fb (if r1.val % 2 = 1 then -r1 else r1)), 77, 32⟩, ⟨n2, bytesV (List.replicate 32 0), 77, 32⟩]⟩) (fun _u => True) ?_ ?_))
   ·
    refine Sat.seq (Sat.region (Tr.loadAll J J J Y77 J Sz77 Z0 zF ?_))
    refine Tr.callV J J J J Body119 (r_odd r1) (fun _ _ => trivial) (Tr.nil (at_n (Sat.condP J (fun hc2 => ?_) (fun hc2 => ?_))))
    ·
     refine Sat.region (Tr.loadAll J J J Y77 J Sz77 Z0 zF ?_)
     refine Tr.callV J J J J Body185 (r_neg r1) (fun _ _ => trivial) (Tr.storeAll J J J J zE Sz77 zF Z0 zF zU ?_)
     refine Tr.nil (at_n ?_)
     (rw [if_pos hc2]; exact ⟨(), trivial, weak_of (wk1 rfl (wk1 rfl wk0)) (wh1 Z0 (wh1 Z1 wh0)) nD⟩)
    ·
     refine Sat.skip (at_n ?_)
     (rw [if_neg hc2]; exact ⟨(), trivial, weak_of (wk1 rfl (wk1 rfl wk0)) (wh1 Z0 (wh1 Z1 wh0)) nD⟩)
   ·
    intro _u hj
    skip
    refine Sat.seq (Sat.region (Tr.loadAll J J J Y77 J Sz77 Z0 zF ?_))
    refine Tr.storeAll J J J J zE Sz77 zF Z1 sP zV ?_
    refine Tr.assign J J J (Tr.nil (at_n (Sat.ret (en_r ?_))))
    refine ⟨_, [], res_cell_tmp J J J Y77 J Sz77 Z1 (by simp [fb_length]), sP, sP, ?_, rfl⟩
    (rw [hR, if_pos hc1]; done)

theorem check_eq {P : Pt Fp} (h : cv.on P) : cA * (P.y * P.y - P.x * P.x - 1) = -(cB * (P.x * P.x * (P.y * P.y))) := by
  have h1 := (cv.on_iff P).1 h
  have h2 : P.y * P.y - P.x * P.x = 1 + fD * (P.x * P.x * (P.y * P.y)) := h1
  have h3 := fD_cA
  rw [h2]
  generalize P.x * P.x * (P.y * P.y) = q at *
  generalize cA = a at *
  generalize cB = b at *
  generalize fD = d at *
  grind

theorem r5_D  : Meets Tryz.prog 189 [] [] (fun _ => True) (fun v out => v = agg (bytesV (fb fD)) ∧ out = []) := by
 intro W hW
 have hm := r_mul (-cB) (finv cA)
 rw [ref_D] at hm
 have hi := r_inv cA
 revert hm hi
 generalize finv cA = ia
 intro hm hi
 refine calls_of (hp0 := []) Tryz.func189 J 6 Tryz.ntmps189 J (HRep.nil _) (Sat.seq (Sat.region (Tr.alloc (cs := (bytesV (List.replicate 32 0))) J Zr77 J ?_)))
 intro n0 hn0 hf0
 refine Tr.nil (at_n (Sat.seq (Sat.region (Tr.callV J J J J Body123 (r_cB) (fun _ _ => trivial) (Tr.callV J J J J Body185 (r_neg cB) (fun _ _ => trivial) ?_)))))
 refine Tr.callV J J J J Body123 (r_cA) (fun _ _ => trivial) (Tr.callV J J J J Body124 (hi) (fun _ _ => trivial) (Tr.callV J J J J Body122 (hm) (fun _ _ => trivial) (Tr.storeAll J J J J zE Sz77 zF Z0 sP zU ?_)))
 refine Tr.nil (at_n (Sat.ret (en_r ?_)))
 refine ⟨_, [], res_cell J J Y77 J Sz77 Z0 (by simp [fb_length]), sP, sP, ?_, rfl⟩
 rfl

theorem r5_Zero  : Meets Tryz.prog 120 [] [] (fun _ => True) (fun v out => v = agg (ptc (zero : Pt Fp)).cells ∧ out = []) := by
 intro W hW
 refine calls_of (hp0 := []) Tryz.func120 J 3 Tryz.ntmps120 J (HRep.nil _) (Sat.seq (Sat.region (Tr.alloc (cs := Point.zero.cells) J Point.zr J ?_)))
 intro n0 hn0 hf0
 refine Tr.nil (at_n (Sat.seq (Sat.region (Tr.callV J J J J Body123 (r_one) (fun _ _ => trivial) (Tr.build (cs := (⟨fb 0, fb 1⟩ : Point).cells) J J J (fun w => by kernel_rfl) ?_)))))
 refine Tr.storeAll J J J J (Point.isCell (by exact ⟨fb32 _, fb32 _⟩)) Sz79 (Point.length (by exact ⟨fb32 _, fb32 _⟩)) Z0 (Point.length zZ) zU ?_
 refine Tr.nil (at_n (Sat.ret (en_r ?_)))
 refine ⟨_, [], res_cell J J Y79 J Sz79 Z0 (by exact Point.length (by exact ⟨fb32 _, fb32 _⟩)), sP, sP, ?_, rfl⟩
 rfl

theorem r5_root (Y : Fp) : Meets Tryz.prog 125 [agg (bytesV (fb Y))] [] (fun _ => True) (fun v out => v = .tuple #[agg (bytesV (fb (xOf Y).1)), .bool (xOf Y).2] ∧ out = []) := by
 intro W hW
 have hq := ref_quot Y
 have hxo : xOf Y = fRoot ((Y * Y - 1) * finv (fD * (Y * Y) + 1)) := rfl
 rw [← hq] at hxo
 have hinv := r_inv (cA - cB * (Y * Y))
 revert hinv hxo
 clear hq
 generalize finv (cA - cB * (Y * Y)) = iz
 intro hxo hinv
 have hroot := r3_Root (fb (cA * (Y * Y - 1) * iz)) (cA * (Y * Y - 1) * iz) (fb_length _) (fe_fb _)
 rw [← hxo] at hroot
 clear hxo
 revert hroot
 generalize xOf Y = xr
 intro hroot
 refine calls_of (hp0 := []) Tryz.func125 J 27 Tryz.ntmps125 J (HRep.nil _) (Sat.seq (Sat.region (Tr.boxA J J ?_)))
 intro n1 hn1 hf1
 refine Tr.alloc (cs := (bytesV (List.replicate 32 0))) J Zr77 J ?_
 intro n2 hn2 hf2
 refine Tr.assign J J J (Tr.nil (at_n (Sat.seq (Sat.region (Tr.loadAll J J J Y77 J Sz77 Z1 zF ?_)))))
 refine Tr.loadAll J J J Y77 J Sz77 Z1 zF ?_
 refine Tr.callV J J J J Body122 (r_mul Y Y) (fun _ _ => trivial) (Tr.alloc (cs := (bytesV (List.replicate 32 0))) J Zr77 J ?_)
 intro n4 hn4 hf4
 refine Tr.storeAll J J J J zE Sz77 zF Z0 sP zU ?_
 refine Tr.nil (at_n (Sat.seq (Sat.draw [(1, 1), (3, 0), (3, 2), (3, 3), (3, 4), (2, 5), (4, 6)] Mixed zK (Tr.loadAll J J J Y77 J Sz77 Z0 zF ?_))))
 refine Tr.callV J J J J Body123 (r_cA) (fun _ _ => trivial) (Tr.callV J J J J Body123 (r_one) (fun _ _ => trivial) (Tr.callV J J J J Body194 (r_sub (Y * Y) 1) (fun _ _ => trivial) (Tr.callV J J J J Body122 (r_mul cA (Y * Y - 1)) (fun _ _ => trivial) (Tr.alloc (cs := (bytesV (List.replicate 32 0))) J Zr77 J ?_))))
 intro n5 hn5 hf5
 refine Tr.storeAll J J J J zE Sz77 zF Z0 sP zU ?_
 refine Tr.nil (at_n (Sat.seq (Sat.draw [(1, 2), (3, 0), (3, 1), (3, 3), (3, 4), (2, 5), (4, 6)] Mixed zK (Tr.loadAll J J J Y77 J Sz77 Z1 zF ?_))))
 refine Tr.callV J J J J Body123 (r_cA) (fun _ _ => trivial) (Tr.callV J J J J Body123 (r_cB) (fun _ _ => trivial) (Tr.callV J J J J Body122 (r_mul cB (Y * Y)) (fun _ _ => trivial) ?_))
 refine Tr.callV J J J J Body194 (r_sub cA (cB * (Y * Y))) (fun _ _ => trivial) ?_
 refine Tr.alloc (cs := (bytesV (List.replicate 32 0))) J Zr77 J ?_
 intro n6 hn6 hf6
 refine Tr.storeAll J J J J zE Sz77 zF Z0 sP zU ?_
 refine Tr.nil (at_n (Sat.seq (Sat.draw [(1, 0), (1, 1), (3, 2), (3, 3), (3, 4), (0, 5), (0, 6), (4, 7), (0, 8)] Mixed zK (Tr.loadAll J J J Y77 J Sz77 Z1 zF ?_))))
 refine Tr.loadAll J J J Y77 J Sz77 Z0 zF ?_
 refine Tr.callV J J J J Body124 (hinv) (fun _ _ => trivial) (Tr.callV J J J J Body122 (r_mul (cA * (Y * Y - 1)) iz) (fun _ _ => trivial) (Tr.callV J J J J Body200 (hroot) (fun _ _ => trivial) (Tr.extract J J J J (Tr.extract J J J J (Tr.storeAll J J J J zE Sz77 zF Z3 sP (by exact upd3) ?_)))))
 refine Tr.assign J J J (Tr.nil (at_n (Sat.ret (en_r ?_))))
 refine ⟨_, [], res_cell_tmp J J J Y77 J Sz77 Z3 (by simp [fb_length]), sP, sP, ?_, rfl⟩
 rfl

theorem bP_four : fe 4 * finv (fe 5) = bP.y := by
  have h1 : bP.y * fe 5 = fe 4 := by kernel_rfl
  have h2 : fe 5 * finv (fe 5) = 1 := finv_mul (by
    intro h
    have := congrArg Fin.val h
    revert this
    decide)
  generalize finv (fe 5) = v at *
  generalize fe 5 = f at *
  rw [← h1]
  generalize bP.y = y at *
  grind
theorem bP_even : (decide (bP.x.val % 2 = 1)) = false := by kernel_rfl
theorem bP_root : xOf bP.y = (bP.x, true) := by
  have h := xOf_eq (x := bP.x) (y := bP.y) bP_on
  rw [h, if_neg (of_decide_eq_false bP_even)]

theorem r5_Base  : Meets Tryz.prog 67 [] [] (fun _ => True) (fun v out => v = agg (ptc bP).cells ∧ out = []) := by
 intro W hW
 have hm := r_mul (fe 4) (finv (fe 5))
 rw [bP_four] at hm
 have hi := r_inv (fe 5)
 have hr := r5_root bP.y
 rw [bP_root] at hr
 have hb : bP = ⟨bP.x, bP.y⟩ := rfl
 rw [hb]
 clear hb
 revert hm hi hr
 generalize finv (fe 5) = iv
 generalize bP.x = bx
 generalize bP.y = bY
 intro hm hi hr
 refine calls_of (hp0 := []) Tryz.func67 J 16 Tryz.ntmps67 J (HRep.nil _) (Sat.seq (Sat.region (Tr.alloc (cs := Point.zero.cells) J Point.zr J ?_)))
 intro n0 hn0 hf0
 refine Tr.nil (at_n (Sat.seq (Sat.region (Tr.callV J J J J Body123 (r_of 4 (fe 4) J) (fun _ _ => trivial) (Tr.callV J J J J Body123 (r_of 5 (fe 5) J) (fun _ _ => trivial) (Tr.callV J J J J Body124 (hi) (fun _ _ => trivial) (Tr.callV J J J J Body122 (hm) (fun _ _ => trivial) (Tr.alloc (cs := (bytesV (List.replicate 32 0))) J Zr77 J ?_))))))))
 intro n1 hn1 hf1
 refine Tr.storeAll J J J J zE Sz77 zF Z0 sP zU ?_
 refine Tr.nil (at_n (Sat.seq (Sat.region (Tr.loadAll J J J Y77 J Sz77 Z0 zF ?_))))
 refine Tr.callV J J J J Body125 (hr) (fun _ _ => trivial) (Tr.move J J J (Tr.extract J J J J (Tr.extract J J J J (Tr.alloc (cs := (bytesV (List.replicate 32 0))) J Zr77 J ?_))))
 intro n2 hn2 hf2
 refine Tr.storeAll J J J J zE Sz77 zF Z0 sP zU ?_
 refine Tr.assign J J J (Tr.nil (at_n (Sat.seq (Sat.region (Tr.loadAll J J J Y77 J Sz77 Z0 zF ?_)))))
 refine Tr.loadAll J J J Y77 J Sz77 Z1 zF ?_
 refine Tr.build (cs := (ptc (⟨bx, bY⟩ : Pt Fp)).cells) J J J (fun w => by kernel_rfl) ?_
 refine Tr.storeAll J J J J (Point.isCell zP) Sz79 (Point.length zP) Z2 (Point.length zZ) (by exact upd2) ?_
 refine Tr.nil (at_n (Sat.ret (en_r ?_)))
 refine ⟨_, [], res_cell J J Y79 J Sz79 Z2 (by exact Point.length zP), sP, sP, ?_, rfl⟩
 rfl

theorem r5_Check (P : Pt Fp) (hP : cv.on P) : Meets Tryz.prog 118 [agg (ptc P).cells] [] (fun _ => True) (fun v out => v = i64 0 ∧ out = []) := by
 intro W hW
 refine calls_of (hp0 := []) Tryz.func118 J 41 Tryz.ntmps118 J (HRep.nil _) (Sat.seq (Sat.region (Tr.boxA J J ?_)))
 intro n1 hn1 hf1
 refine Tr.assign J J J (Tr.nil (at_n (Sat.seq (Sat.seq (Sat.region (Tr.fld J J J Y79 J Sz77 dE _ J (Tr.loadN (bytesV _) J J J Y77 J Sz77 Z0 (Point.row_fX zP) (Point.rl_fX zP) ?_)))))))
 refine Tr.callV J J J J Body184 (r_canon P.x) (fun _ _ => trivial) (Tr.not J J J (Tr.move J J J (Tr.fld J J J Y79 J Sz77 dE _ J (Tr.loadN (bytesV _) J J J Y77 J Sz77 Z0 (Point.row_fY zP) (Point.rl_fY zP) ?_))))
 refine Tr.callV J J J J Body184 (r_canon P.y) (fun _ _ => trivial) (Tr.not J J J (Tr.pick J J J J J J (Tr.nil (at_n (Sat.cond_f J J (Sat.skip (at_n (Sat.seq (Sat.draw [(0, 0), (1, 1), (0, 2), (1, 3), (0, 5), (1, 6), (0, 7), (1, 8), (3, 4), (3, 9), (2, 10), (2, 11), (4, 12), (4, 13)] Mixed zK (Tr.fld J J J Y79 J Sz77 dE _ J (Tr.loadN (bytesV _) J J J Y77 J Sz77 Z0 (Point.row_fX zP) (Point.rl_fX zP) ?_)))))))))))
 refine Tr.fld J J J Y79 J Sz77 dE _ J (Tr.loadN (bytesV _) J J J Y77 J Sz77 Z0 (Point.row_fX zP) (Point.rl_fX zP) ?_)
 refine Tr.fld J J J Y79 J Sz77 dE _ J (Tr.loadN (bytesV _) J J J Y77 J Sz77 Z0 (Point.row_fY zP) (Point.rl_fY zP) ?_)
 refine Tr.fld J J J Y79 J Sz77 dE _ J (Tr.loadN (bytesV _) J J J Y77 J Sz77 Z0 (Point.row_fY zP) (Point.rl_fY zP) ?_)
 refine Tr.callV J J J J Body122 (r_mul P.x P.x) (fun _ _ => trivial) (Tr.callV J J J J Body122 (r_mul P.y P.y) (fun _ _ => trivial) (Tr.alloc (cs := (bytesV (List.replicate 32 0))) J Zr77 J ?_))
 intro n3 hn3 hf3
 refine Tr.alloc (cs := (bytesV (List.replicate 32 0))) J Zr77 J ?_
 intro n4 hn4 hf4
 refine Tr.storeAll J J J J zE Sz77 zF Z1 sP zV ?_
 refine Tr.storeAll J J J J zE Sz77 zF Z0 sP zU ?_
 refine Tr.nil (at_n (Sat.seq (Sat.draw [(1, 1), (1, 2), (3, 0), (3, 3), (3, 4), (3, 5), (3, 6), (2, 7), (4, 8)] Mixed zK (Tr.loadAll J J J Y77 J Sz77 Z0 zF ?_))))
 refine Tr.loadAll J J J Y77 J Sz77 Z1 zF ?_
 refine Tr.callV J J J J Body123 (r_cA) (fun _ _ => trivial) (Tr.callV J J J J Body194 (r_sub (P.y * P.y) (P.x * P.x)) (fun _ _ => trivial) (Tr.callV J J J J Body123 (r_one) (fun _ _ => trivial) (Tr.callV J J J J Body194 (r_sub (P.y * P.y - P.x * P.x) 1) (fun _ _ => trivial) (Tr.callV J J J J Body122 (r_mul cA (P.y * P.y - P.x * P.x - 1)) (fun _ _ => trivial) (Tr.alloc (cs := (bytesV (List.replicate 32 0))) J Zr77 J ?_)))))
 intro n5 hn5 hf5
 refine Tr.storeAll J J J J zE Sz77 zF Z0 sP zU ?_
 refine Tr.nil (at_n (Sat.seq (Sat.seq (Sat.draw [(1, 0), (1, 2), (1, 3), (3, 1), (3, 4), (3, 5), (3, 6), (0, 7)] Mixed zK (Tr.loadAll J J J Y77 J Sz77 Z0 zF ?_)))))
 refine Tr.loadAll J J J Y77 J Sz77 Z2 zF ?_
 refine Tr.loadAll J J J Y77 J Sz77 Z1 zF ?_
 refine Tr.callV J J J J Body123 (r_cB) (fun _ _ => trivial) (Tr.callV J J J J Body122 (r_mul (P.x * P.x) (P.y * P.y)) (fun _ _ => trivial) (Tr.callV J J J J Body122 (r_mul cB (P.x * P.x * (P.y * P.y))) (fun _ _ => trivial) ?_))
 refine Tr.callV J J J J Body185 (r_neg (cB * (P.x * P.x * (P.y * P.y)))) (fun _ _ => trivial) ?_
 refine Tr.neq_bytes J J J J Tryz.eqGuardType77 Y77 Y5 Sz5 zF zF (show (!decide _) = false from congrArg not (decide_eq_true (congrArg fb (check_eq hP)))) (Tr.nil (at_n (Sat.cond_f J (rfl) (Sat.skip (at_n (Sat.seq (Sat.region (Tr.assign J J J (Tr.nil (at_n (Sat.ret (en_r ?_))))))))))))
 refine ⟨_, [], res_tmp J J, sP, sP, ?_, rfl⟩
 rfl

end Go.Proofs.YtpacobmjjjillaaGreat
end
