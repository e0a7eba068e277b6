/- SignNames returns true at every start, and leaves all old memory as it was. Conditions: none beyond the given statement's own. -/
import Derived.WalkKit
import Derived.Orders
import Derived.Deep.LoopGhost
import Derived.IntWalk
import Derived.Laws.StructEq
import Derived.Test.YtmddgelpllffoaaRows
import Derived.KernelRfl
import Derived.Laws.MathBits
import Derived.ArgAppend
import Derived.Deep.AppendSrc
import Derived.Lib.Bytealg
import Derived.Lib.BytesEntry
import Derived.Laws.IdiomStrings
import Derived.WideKeyArr2
import Derived.ProofKit
import Derived.OpenShut
import Derived.Deep.Slices
import Derived.Laws.Pointers
import Derived.Laws.Cover3
import Derived.LaidEqlPtr
import Derived.LoopN
import Derived.Laws.Externs
import Derived.RangeFuncLeaves
import Derived.RangeFuncSeq
import Derived.OrdersIn
import Derived.ChangeOld
import Derived.Below
import Derived.Test.YtmddgelpllffoaaSgnC4
section
namespace Go.Proofs.Ytmddgelpllffoaa
open Go Hw
set_option linter.unusedVariables false
set_option linter.unusedSimpArgs false

open Ed

/-- SHA-512 -/
def sha512 (l : List UInt8) : List UInt8 := sumUp (allW kW startW l) 64
theorem sha512_length (l : List UInt8) : (sha512 l).length = 64 := sumUp_length _ _
theorem sha_StartS (s : List UInt64) (h : Hid (startW = s)) : Meets Try.prog 65 [] [] (fun _ => True) (fun v out => v = agg (wordsV s) ∧ out = []) := by
  rw [← h.out]; exact sha_Start

set_option maxRecDepth 100000 in
set_option maxHeartbeats 4000000 in
theorem sha_Sum512 (p : Option Addr) (n c : Nat) (ss : List Sl) (ls : List (List UInt8)) (hss : ss.length = n) (hls : ls.length = n) (hsl : ∀ j, j < n → (ss.getD j Sl.nil).n = (ls.getD j []).length ∧ ((ss.getD j Sl.nil).p = none → (ss.getD j Sl.nil).n = 0)) (F : List UInt8) (hF : ls.flatten = F) (htot : F.length ≤ 90000) (hn : n ≤ 1000000) (s : List UInt8) (hs : Hid (sha512 F = s))  : Meets Try.prog 32 [.slice p n c] [] (fun W => SeesP W p (ss.map Sl.v) ∧ ∀ j, j < n → SeesP W (ss.getD j Sl.nil).p (bytesV (ls.getD j []))) (fun v out => v = agg (bytesV s) ∧ out = []) := by
  intro W hW
  have hs64 : s.length = 64 := by rw [← hs.out]; exact sha512_length F
  obtain ⟨k, hk⟩ : ∃ k, Hid (kW = k) := ⟨_, ⟨rfl⟩⟩
  obtain ⟨st, hst⟩ : ∃ k, Hid (startW = k) := ⟨_, ⟨rfl⟩⟩
  obtain ⟨r, hr⟩ : ∃ r, Hid (allW k st F = r) := ⟨_, ⟨rfl⟩⟩
  have hk80 : k.length = 80 := by rw [← hk.out]; rfl
  have hst8 : st.length = 8 := by rw [← hst.out]; rfl
  have hr8 : r.length = 8 := by rw [← hr.out, allW_length]; exact hst8
  have hs2 : Hid (sumUp r 64 = s) := ⟨by rw [← hs.out, sha512, hk.out, hst.out, hr.out]⟩
  refine calls_of (hp0 := []) Try.func32 rfl 7 Try.ntmps32 rfl (HRep.nil _) ?_
  refine Sat.seq ?_
  refine Sat.region ?_
  refine Tr.alloc (cs := (bytesV (List.replicate 64 0))) rfl Zr27 rfl ?_
  intro n2 hn2 hf2
  refine Tr.nil ?_
  refine at_n ?_
  refine Sat.seq ?_
  refine Sat.region ?_
  refine Tr.callV rfl rfl rfl rfl Body65 (sha_StartS st hst) (fun _ _ => trivial) ?_
  refine Tr.move rfl rfl rfl ?_
  refine Tr.callV rfl rfl rfl rfl Body64 (sha_whole st hst8 k hk hk80 p n c ss ls hss hls hsl F hF htot hn) (fun w h => ⟨seesP_ext h rfl hW.1, fun j hj => seesP_ext h rfl (hW.2 j hj)⟩) ?_
  rw [hr.out]
  refine Tr.callV rfl rfl rfl rfl Body63 (sha_sum r hr8 s hs2) (fun _ _ => trivial) ?_
  first
    | refine Tr.storeAll rfl rfl rfl rfl cB Sz27 (by first | (simp [fb_length, pb_length, hs64]; done) | assumption | (rw [bytesV, List.length_map]; assumption)) mM (by first | (simp [fb_length, pb_length, hs64]; done) | assumption | (rw [bytesV, List.length_map]; assumption)) uU ?_
    | refine Tr.storeN _ rfl rfl rfl rfl rfl cB Sz27 (by first | (simp [fb_length, pb_length, hs64]; done) | assumption | (rw [bytesV, List.length_map]; assumption)) mM (by first | (simp [fb_length, pb_length, hs64]; done) | assumption | (rw [bytesV, List.length_map]; assumption)) (by exact rfl) uU ?_
  refine Tr.nil ?_
  refine at_n ?_
  refine Sat.ret ?_
  refine en_r ?_
  refine ⟨_, [], res_cell rfl rfl Try.underlying27 rfl Sz27 mM (by simp [fb_length, pb_length, hs64]), sP, sP, ?_, rfl⟩
  rfl

set_option maxRecDepth 100000 in
set_option maxHeartbeats 4000000 in
theorem sign_residue (p : Option Addr) (n c : Nat) (ss : List Sl) (ls : List (List UInt8)) (hss : ss.length = n) (hls : ls.length = n) (hsl : ∀ j, j < n → (ss.getD j Sl.nil).n = (ls.getD j []).length ∧ ((ss.getD j Sl.nil).p = none → (ss.getD j Sl.nil).n = 0)) (F : List UInt8) (hF : ls.flatten = F) (htot : F.length ≤ 90000) (hn : n ≤ 1000000) (s : List UInt8) (hs : Hid (sha512 F = s))  : Meets Try.prog 17 [.slice p n c] [] (fun W => SeesP W p (ss.map Sl.v) ∧ ∀ j, j < n → SeesP W (ss.getD j Sl.nil).p (bytesV (ls.getD j []))) (fun v out => v = agg (bytesV (leb 32 (le s % L))) ∧ out = []) := by
  intro W hW
  have hs64 : s.length = 64 := by rw [← hs.out]; exact sha512_length F
  refine calls_of (hp0 := []) Try.func17 rfl 14 Try.ntmps17 rfl (HRep.nil _) ?_
  refine Sat.seq ?_
  refine Sat.region ?_
  refine Tr.alloc (cs := (bytesV (List.replicate 32 0))) rfl Zr30 rfl ?_
  intro n2 hn2 hf2
  refine Tr.nil ?_
  refine at_n ?_
  refine Sat.seq ?_
  refine Sat.region ?_
  refine Tr.move rfl rfl rfl ?_
  refine Tr.callV rfl rfl rfl rfl Body32 (sha_Sum512 p n c ss ls hss hls hsl F hF htot hn s hs) (fun w h => ⟨seesP_ext h rfl hW.1, fun j hj => seesP_ext h rfl (hW.2 j hj)⟩) ?_
  refine Tr.alloc (cs := (bytesV (List.replicate 64 0))) rfl Zr27 rfl ?_
  intro n3 hn3 hf3
  first
    | refine Tr.storeAll rfl rfl rfl rfl cB Sz27 (by first | (simp [fb_length, pb_length, hs64, leb_length]; done) | assumption | (rw [bytesV, List.length_map]; assumption)) mM (by first | (simp [fb_length, pb_length, hs64, leb_length]; done) | assumption | (rw [bytesV, List.length_map]; assumption)) uU ?_
    | refine Tr.storeN _ rfl rfl rfl rfl rfl cB Sz27 (by first | (simp [fb_length, pb_length, hs64, leb_length]; done) | assumption | (rw [bytesV, List.length_map]; assumption)) mM (by first | (simp [fb_length, pb_length, hs64, leb_length]; done) | assumption | (rw [bytesV, List.length_map]; assumption)) (by exact rfl) uU ?_
  refine Tr.nil ?_
  refine at_n ?_
  refine Sat.seq ?_
  refine Sat.region ?_
  refine Tr.sliceArr rfl rfl rfl Try.underlying27 Sz5 ?_
  refine Tr.callV rfl rfl rfl rfl Body33 (scalar_rest n3 0 64 64 s hs64 dE) (fun w h => sees_own h mM) ?_
  refine Tr.move rfl rfl rfl ?_
  refine Tr.extract rfl rfl rfl rfl ?_
  refine Tr.extract rfl rfl rfl rfl ?_
  refine Tr.alloc (cs := (bytesV (List.replicate 32 0))) rfl Zr30 rfl ?_
  intro n4 hn4 hf4
  first
    | refine Tr.storeAll rfl rfl rfl rfl cB Sz30 (by first | (simp [fb_length, pb_length, hs64, leb_length]; done) | assumption | (rw [bytesV, List.length_map]; assumption)) mM (by first | (simp [fb_length, pb_length, hs64, leb_length]; done) | assumption | (rw [bytesV, List.length_map]; assumption)) uU ?_
    | refine Tr.storeN _ rfl rfl rfl rfl rfl cB Sz30 (by first | (simp [fb_length, pb_length, hs64, leb_length]; done) | assumption | (rw [bytesV, List.length_map]; assumption)) mM (by first | (simp [fb_length, pb_length, hs64, leb_length]; done) | assumption | (rw [bytesV, List.length_map]; assumption)) (by exact rfl) uU ?_
  refine Tr.assign rfl rfl rfl ?_
  refine Tr.nil ?_
  refine at_n ?_
  refine Sat.seq ?_
  refine Sat.region ?_
  first
    | refine Tr.loadAll rfl rfl rfl Try.underlying30 rfl Sz30 mM (by first | (simp [fb_length, pb_length, hs64, leb_length]; done) | assumption | (rw [bytesV, List.length_map]; assumption)) ?_
    | refine Tr.loadN _ rfl rfl rfl Try.underlying30 rfl Sz30 mM (by exact rfl) (by first | (simp [fb_length, pb_length, hs64, leb_length]; done) | assumption | (rw [bytesV, List.length_map]; assumption)) ?_
  first
    | refine Tr.storeAll rfl rfl rfl rfl cB Sz30 (by first | (simp [fb_length, pb_length, hs64, leb_length]; done) | assumption | (rw [bytesV, List.length_map]; assumption)) mM (by first | (simp [fb_length, pb_length, hs64, leb_length]; done) | assumption | (rw [bytesV, List.length_map]; assumption)) uU ?_
    | refine Tr.storeN _ rfl rfl rfl rfl rfl cB Sz30 (by first | (simp [fb_length, pb_length, hs64, leb_length]; done) | assumption | (rw [bytesV, List.length_map]; assumption)) mM (by first | (simp [fb_length, pb_length, hs64, leb_length]; done) | assumption | (rw [bytesV, List.length_map]; assumption)) (by exact rfl) uU ?_
  refine Tr.nil ?_
  refine at_n ?_
  refine Sat.ret ?_
  refine en_r ?_
  refine ⟨_, [], res_cell rfl rfl Try.underlying30 rfl Sz30 mM (by simp [fb_length, pb_length, hs64, leb_length]), sP, sP, ?_, rfl⟩
  rfl

set_option maxRecDepth 100000 in
set_option maxHeartbeats 4000000 in
theorem sign_multiple (a : List UInt8) (ha : a.length = 32) : Meets Try.prog 15 [agg (bytesV a)] [] (fun _ => True) (fun v out => v = agg (bytesV (pb (cv.mul (le a) bP))) ∧ out = []) := by
  intro W hW
  obtain ⟨Q, hQ⟩ : ∃ Q, cv.mul (le a) bP = Q := ⟨_, rfl⟩
  have hQo : cv.on Q := by rw [← hQ]; exact cv.on_mul bP_on _
  have hmul := curve_Mul a bP ha bP_on
  rw [hQ] at hmul ⊢
  refine calls_of (hp0 := []) Try.func15 rfl 13 Try.ntmps15 rfl (HRep.nil _) ?_
  refine Sat.seq ?_
  refine Sat.region ?_
  refine Tr.boxA rfl rfl ?_
  intro n1 hn1 hf1
  refine Tr.alloc (cs := (bytesV (List.replicate 32 0))) rfl Zr22 rfl ?_
  intro n2 hn2 hf2
  refine Tr.nil ?_
  refine at_n ?_
  refine Sat.seq ?_
  refine Sat.draw [(1, 0), (3, 1), (3, 2), (3, 3), (0, 4), (0, 5), (0, 6), (2, 7), (4, 8), (0, 9)] Mixed (by kernel_rfl) ?_
  first
    | refine Tr.loadAll rfl rfl rfl Try.underlying30 rfl Sz30 mM (by first | (simp [fb_length, pb_length, ha]; done) | assumption | (rw [bytesV, List.length_map]; assumption)) ?_
    | refine Tr.loadN _ rfl rfl rfl Try.underlying30 rfl Sz30 mM (by exact rfl) (by first | (simp [fb_length, pb_length, ha]; done) | assumption | (rw [bytesV, List.length_map]; assumption)) ?_
  refine Tr.callV rfl rfl rfl rfl Body25 (curve_Base) (fun _ _ => trivial) ?_
  refine Tr.callV rfl rfl rfl rfl Body31 (hmul) (fun _ _ => trivial) ?_
  refine Tr.callV rfl rfl rfl rfl Body30 (curve_Bytes Q hQo) (fun _ _ => trivial) ?_
  refine Tr.move rfl rfl rfl ?_
  refine Tr.extract rfl rfl rfl rfl ?_
  refine Tr.extract rfl rfl rfl rfl ?_
  refine Tr.alloc (cs := (bytesV (List.replicate 32 0))) rfl Zr22 rfl ?_
  intro n3 hn3 hf3
  first
    | refine Tr.storeAll rfl rfl rfl rfl cB Sz22 (by first | (simp [fb_length, pb_length, ha]; done) | assumption | (rw [bytesV, List.length_map]; assumption)) mM (by first | (simp [fb_length, pb_length, ha]; done) | assumption | (rw [bytesV, List.length_map]; assumption)) uU ?_
    | refine Tr.storeN _ rfl rfl rfl rfl rfl cB Sz22 (by first | (simp [fb_length, pb_length, ha]; done) | assumption | (rw [bytesV, List.length_map]; assumption)) mM (by first | (simp [fb_length, pb_length, ha]; done) | assumption | (rw [bytesV, List.length_map]; assumption)) (by exact rfl) uU ?_
  refine Tr.assign rfl rfl rfl ?_
  refine Tr.nil ?_
  refine at_n ?_
  refine Sat.seq ?_
  refine Sat.region ?_
  first
    | refine Tr.loadAll rfl rfl rfl Try.underlying22 rfl Sz22 mM (by first | (simp [fb_length, pb_length, ha]; done) | assumption | (rw [bytesV, List.length_map]; assumption)) ?_
    | refine Tr.loadN _ rfl rfl rfl Try.underlying22 rfl Sz22 mM (by exact rfl) (by first | (simp [fb_length, pb_length, ha]; done) | assumption | (rw [bytesV, List.length_map]; assumption)) ?_
  first
    | refine Tr.storeAll rfl rfl rfl rfl cB Sz22 (by first | (simp [fb_length, pb_length, ha]; done) | assumption | (rw [bytesV, List.length_map]; assumption)) mM (by first | (simp [fb_length, pb_length, ha]; done) | assumption | (rw [bytesV, List.length_map]; assumption)) uU ?_
    | refine Tr.storeN _ rfl rfl rfl rfl rfl cB Sz22 (by first | (simp [fb_length, pb_length, ha]; done) | assumption | (rw [bytesV, List.length_map]; assumption)) mM (by first | (simp [fb_length, pb_length, ha]; done) | assumption | (rw [bytesV, List.length_map]; assumption)) (by exact rfl) uU ?_
  refine Tr.nil ?_
  refine at_n ?_
  refine Sat.ret ?_
  refine en_r ?_
  refine ⟨_, [], res_cell rfl rfl Try.underlying22 rfl Sz22 mM (by simp [fb_length, pb_length, ha]), sP, sP, ?_, rfl⟩
  rfl

/-- the secret number of 32 bytes -/
def clampB (l : List UInt8) : List UInt8 := (l.set 0 (l.getD 0 0 &&& 248)).set 31 (((l.getD 31 0) &&& 127) ||| 64)
theorem clampB_length {l : List UInt8} (h : l.length = 32) : (clampB l).length = 32 := by simp [clampB, h]
theorem clamp_all (l z : List UInt8) (h : l.length = 32) : ((l ++ z).set 0 ((l ++ z).getD 0 0 &&& 248)).set 31 (((((l ++ z).set 0 ((l ++ z).getD 0 0 &&& 248)).getD 31 0) &&& 127) ||| 64) = clampB l ++ z := by
  have g : ∀ i, i < 32 → (l ++ z).getD i 0 = l.getD i 0 := fun i hi => by
    rw [List.getD_eq_getElem?_getD, List.getElem?_append_left oM, ← List.getD_eq_getElem?_getD]
  have g2 : ((l ++ z).set 0 ((l ++ z).getD 0 0 &&& 248)).getD 31 0 = l.getD 31 0 := by
    rw [List.getD_eq_getElem?_getD, List.getElem?_set_ne dE, ← List.getD_eq_getElem?_getD, g 31 dE]
  rw [g2, g 0 dE, List.set_append_left _ _ oM, List.set_append_left _ _ (by simp; omega)]
  rfl
def secB (h : List UInt8) : secrets := ⟨clampB (h.take 32), h.drop 32⟩
theorem secB_ok {h : List UInt8} (hl : h.length = 64) : (secB h).ok := ⟨clampB_length (by rw [List.length_take, hl]; rfl), by show (h.drop 32).length = 32; rw [List.length_drop, hl]⟩
theorem sec_first (l : List UInt8) : ({ secrets.zero with fNumber := l } : secrets).cells = bytesV (l ++ List.replicate 32 0) := by
  show bytesV l ++ bytesV (List.replicate 32 0) = _
  simp [bytesV]
theorem sec_last (l : List UInt8) : bytesV (clampB l ++ List.replicate 32 0) = (⟨clampB l, List.replicate 32 0⟩ : secrets).cells := by
  show _ = bytesV (clampB l) ++ bytesV (List.replicate 32 0)
  simp [bytesV]
theorem d64 {s : List UInt8} (h : s.length = 64) : (s.drop 32).take 32 = s.drop 32 := List.take_of_length_le (by rw [List.length_drop, h]; decide)

set_option maxRecDepth 100000 in
set_option maxHeartbeats 4000000 in
theorem sign_expand (seed : List UInt8) (h32 : seed.length = 32) (s : List UInt8) (hs : Hid (sha512 seed = s)) : Meets Try.prog 16 [agg (bytesV seed)] [] (fun _ => True) (fun v out => v = agg (secB s).cells ∧ out = []) := by
  intro W hW
  have hs64 : s.length = 64 := by rw [← hs.out]; exact sha512_length seed
  have ht32 : (s.take 32).length = 32 := by rw [List.length_take, hs64]; rfl
  have hd32 : (s.drop 32).length = 32 := by rw [List.length_drop, hs64]
  refine calls_of (hp0 := []) Try.func16 rfl 29 Try.ntmps16 rfl (HRep.nil _) ?_
  refine Sat.seq ?_
  refine Sat.region ?_
  refine Tr.boxA rfl rfl ?_
  intro n1 hn1 hf1
  refine Tr.alloc (cs := secrets.zero.cells) rfl secrets.zr rfl ?_
  intro n2 hn2 hf2
  refine Tr.nil ?_
  refine at_n ?_
  refine Sat.seq ?_
  refine Sat.region ?_
  refine Tr.sliceArr rfl rfl rfl Try.underlying22 Sz5 ?_
  refine Tr.mkRow2 (z := .slice none 0 0) [.slice (some ⟨n1, 0, none⟩) 32 32] [.slice (some ⟨n1, 0, none⟩) 32 32] rfl rfl Try.underlying62 Sz23 Zr23 rfl rfl (by intro v hv; rw [List.mem_singleton.1 hv]; rfl) dE rfl ?_
  intro q5
  refine Tr.callV rfl rfl rfl rfl Body32 (sha_Sum512 (some ⟨q5, 0, none⟩) 1 1 [⟨some ⟨n1, 0, none⟩, 32, 32⟩] [seed] rfl rfl (fun j hj => (by obtain rfl : j = 0 := oM; exact ⟨by simp [h32], fun e => by cases e⟩)) seed sP oM dE s hs) (fun w h => ⟨SeesP.of (sees_own h mM), fun j hj => (by obtain rfl : j = 0 := oM; exact SeesP.of (sees_own h mM))⟩) ?_
  refine Tr.alloc (cs := (bytesV (List.replicate 64 0))) rfl Zr27 rfl ?_
  intro n3 hn3 hf3
  first
    | refine Tr.storeAll rfl rfl rfl rfl cB Sz27 (by first | (simp [fb_length, pb_length, h32, hs64, ht32, hd32]; done) | assumption | (rw [bytesV, List.length_map]; assumption)) mM (by first | (simp [fb_length, pb_length, h32, hs64, ht32, hd32]; done) | assumption | (rw [bytesV, List.length_map]; assumption)) uU ?_
    | refine Tr.storeN _ rfl rfl rfl rfl rfl cB Sz27 (by first | (simp [fb_length, pb_length, h32, hs64, ht32, hd32]; done) | assumption | (rw [bytesV, List.length_map]; assumption)) mM (by first | (simp [fb_length, pb_length, h32, hs64, ht32, hd32]; done) | assumption | (rw [bytesV, List.length_map]; assumption)) (by exact rfl) uU ?_
  refine Tr.nil ?_
  refine at_n ?_
  refine Sat.seq ?_
  refine Sat.region ?_
  refine Tr.sliceArrHi 32 rfl rfl rfl rfl rfl dE dE Try.underlying27 Sz5 ?_
  refine Tr.s2a rfl rfl rfl Try.underlying30 oM ?_
  refine Tr.loadN (bytesV (s.take 32)) rfl rfl rfl Try.underlying30 rfl Sz30 mM (by rw [List.drop_zero, ← List.map_take]) (by rw [List.length_map]; exact ht32) ?_
  refine Tr.fld rfl rfl rfl Try.underlying45 rfl Sz30 dE _ rfl ?_
  refine Tr.storeN (bytesV _) rfl rfl rfl rfl rfl cB Sz30 (by simp [fb_length, pb_length, h32, hs64, ht32, hd32]) mM (by rw [secrets.length (by first | exact secB_ok hs64 | exact ⟨ht32, rfl⟩ | exact ⟨clampB_length ht32, rfl⟩ | exact ⟨clampB_length ht32, hd32⟩ | (simp [fb_length, pb_length, h32, hs64, ht32, hd32]; done) | exact oK | exact Point.zero_ok | exact wide.zero_ok | exact secrets.zero_ok )]; simp [fb_length, pb_length, h32, hs64, ht32, hd32]) (secrets.upd_fNumber (by first | exact secB_ok hs64 | exact ⟨ht32, rfl⟩ | exact ⟨clampB_length ht32, rfl⟩ | exact ⟨clampB_length ht32, hd32⟩ | (simp [fb_length, pb_length, h32, hs64, ht32, hd32]; done) | exact oK | exact Point.zero_ok | exact wide.zero_ok | exact secrets.zero_ok ) _ (by simp [fb_length, pb_length, h32, hs64, ht32, hd32])) uU ?_
  refine Tr.nil ?_
  refine at_n ?_
  refine Sat.seq ?_
  refine Sat.region ?_
  rw [sec_first]
  refine Tr.fld rfl rfl rfl Try.underlying45 rfl Sz30 dE _ rfl ?_
  first
    | refine Tr.idxArr1 rfl rfl rfl rfl Try.underlying30 Sz5 0 rfl dE ?_
    | refine Tr.idxArrO rfl rfl rfl rfl Try.underlying30 Sz5 0 rfl dE ?_
  refine Tr.load1 rfl rfl rfl Try.underlying5 rfl mM (get_bytes (by simp [ht32])) ?_
  refine Tr.and_u8 rfl rfl rfl (show evIn _ _ = some (u8 248) from rfl) ?_
  refine Tr.fld rfl rfl rfl Try.underlying45 rfl Sz30 dE _ rfl ?_
  first
    | refine Tr.idxArr1 rfl rfl rfl rfl Try.underlying30 Sz5 0 rfl dE ?_
    | refine Tr.idxArrO rfl rfl rfl rfl Try.underlying30 Sz5 0 rfl dE ?_
  refine Tr.store1 rfl rfl rfl rfl rfl Sz5 mM (by rw [bytesV, List.length_map]; simp [ht32]) (by exact set_bytes _ 0 _) uU ?_
  refine Tr.nil ?_
  refine at_n ?_
  refine Sat.seq ?_
  refine Sat.region ?_
  refine Tr.fld rfl rfl rfl Try.underlying45 rfl Sz30 dE _ rfl ?_
  first
    | refine Tr.idxArr1 rfl rfl rfl rfl Try.underlying30 Sz5 31 rfl dE ?_
    | refine Tr.idxArrO rfl rfl rfl rfl Try.underlying30 Sz5 31 rfl dE ?_
  refine Tr.load1 rfl rfl rfl Try.underlying5 rfl mM (get_bytes (by simp [ht32])) ?_
  refine Tr.and_u8 rfl rfl rfl (show evIn _ _ = some (u8 127) from rfl) ?_
  refine Tr.or_u8 rfl rfl rfl (show evIn _ _ = some (u8 64) from rfl) ?_
  refine Tr.fld rfl rfl rfl Try.underlying45 rfl Sz30 dE _ rfl ?_
  first
    | refine Tr.idxArr1 rfl rfl rfl rfl Try.underlying30 Sz5 31 rfl dE ?_
    | refine Tr.idxArrO rfl rfl rfl rfl Try.underlying30 Sz5 31 rfl dE ?_
  refine Tr.store1 rfl rfl rfl rfl rfl Sz5 mM (by rw [bytesV, List.length_map]; simp [ht32]) (by exact set_bytes _ 31 _) uU ?_
  refine Tr.nil ?_
  refine at_n ?_
  refine Sat.seq ?_
  refine Sat.region ?_
  rw [clamp_all _ _ ht32, sec_last]
  refine Tr.sliceArrLo 32 rfl rfl rfl rfl rfl dE Try.underlying27 Sz5 ?_
  refine Tr.s2a rfl rfl rfl Try.underlying22 oM ?_
  refine Tr.loadN (bytesV (s.drop 32)) rfl rfl rfl Try.underlying22 rfl Sz22 mM (by show ((s.map u8).drop 32).take 32 = _; rw [← List.map_drop, ← List.map_take, d64 hs64]) (by rw [List.length_map]; exact hd32) ?_
  refine Tr.fld rfl rfl rfl Try.underlying45 rfl Sz22 dE _ rfl ?_
  refine Tr.storeN (bytesV _) rfl rfl rfl rfl rfl cB Sz22 (by simp [fb_length, pb_length, h32, hs64, ht32, hd32]) mM (by rw [secrets.length (by first | exact secB_ok hs64 | exact ⟨ht32, rfl⟩ | exact ⟨clampB_length ht32, rfl⟩ | exact ⟨clampB_length ht32, hd32⟩ | (simp [fb_length, pb_length, h32, hs64, ht32, hd32]; done) | exact oK | exact Point.zero_ok | exact wide.zero_ok | exact secrets.zero_ok )]; simp [fb_length, pb_length, h32, hs64, ht32, hd32]) (secrets.upd_fRest (by first | exact secB_ok hs64 | exact ⟨ht32, rfl⟩ | exact ⟨clampB_length ht32, rfl⟩ | exact ⟨clampB_length ht32, hd32⟩ | (simp [fb_length, pb_length, h32, hs64, ht32, hd32]; done) | exact oK | exact Point.zero_ok | exact wide.zero_ok | exact secrets.zero_ok ) _ (by simp [fb_length, pb_length, h32, hs64, ht32, hd32])) uU ?_
  refine Tr.nil ?_
  refine at_n ?_
  refine Sat.seq ?_
  refine Sat.region ?_
  refine Tr.loadAll rfl rfl rfl Try.underlying45 rfl Sz45 mM (secrets.length (by first | exact secB_ok hs64 | exact ⟨ht32, rfl⟩ | exact ⟨clampB_length ht32, rfl⟩ | exact ⟨clampB_length ht32, hd32⟩ | (simp [fb_length, pb_length, h32, hs64, ht32, hd32]; done) | exact oK | exact Point.zero_ok | exact wide.zero_ok | exact secrets.zero_ok )) ?_
  refine Tr.storeAll rfl rfl rfl rfl (secrets.isCell (by first | exact secB_ok hs64 | exact ⟨ht32, rfl⟩ | exact ⟨clampB_length ht32, rfl⟩ | exact ⟨clampB_length ht32, hd32⟩ | (simp [fb_length, pb_length, h32, hs64, ht32, hd32]; done) | exact oK | exact Point.zero_ok | exact wide.zero_ok | exact secrets.zero_ok )) Sz45 (secrets.length (by first | exact secB_ok hs64 | exact ⟨ht32, rfl⟩ | exact ⟨clampB_length ht32, rfl⟩ | exact ⟨clampB_length ht32, hd32⟩ | (simp [fb_length, pb_length, h32, hs64, ht32, hd32]; done) | exact oK | exact Point.zero_ok | exact wide.zero_ok | exact secrets.zero_ok )) mM (secrets.length (by first | exact secB_ok hs64 | exact ⟨ht32, rfl⟩ | exact ⟨clampB_length ht32, rfl⟩ | exact ⟨clampB_length ht32, hd32⟩ | (simp [fb_length, pb_length, h32, hs64, ht32, hd32]; done) | exact oK | exact Point.zero_ok | exact wide.zero_ok | exact secrets.zero_ok )) uU ?_
  refine Tr.nil ?_
  refine at_n ?_
  refine Sat.ret ?_
  refine en_r ?_
  refine ⟨_, [], res_cell rfl rfl Try.underlying45 rfl Sz45 mM (by first | (simp [fb_length, pb_length, h32, hs64, ht32, hd32]; done) | exact secrets.length (by first | exact secB_ok hs64 | exact ⟨ht32, rfl⟩ | exact ⟨clampB_length ht32, rfl⟩ | exact ⟨clampB_length ht32, hd32⟩ | (simp [fb_length, pb_length, h32, hs64, ht32, hd32]; done) | exact oK | exact Point.zero_ok | exact wide.zero_ok | exact secrets.zero_ok )), sP, sP, ?_, rfl⟩
  rfl

set_option maxRecDepth 100000 in
set_option maxHeartbeats 4000000 in
theorem sign_Secret (seed : List UInt8) (h32 : seed.length = 32) (s : List UInt8) (hs : Hid (sha512 seed = s)) : Meets Try.prog 14 [agg (bytesV seed)] [] (fun _ => True) (fun v out => v = agg (bytesV (clampB (s.take 32))) ∧ out = []) := by
  intro W hW
  have hs64 : s.length = 64 := by rw [← hs.out]; exact sha512_length seed
  have hc32 : (clampB (s.take 32)).length = 32 := clampB_length (by rw [List.length_take, hs64]; rfl)
  have hm := sign_multiple (clampB (s.take 32)) hc32
  refine calls_of (hp0 := []) Try.func14 rfl 6 Try.ntmps14 rfl (HRep.nil _) ?_
  refine Sat.seq ?_
  refine Sat.region ?_
  refine Tr.boxA rfl rfl ?_
  intro n1 hn1 hf1
  refine Tr.alloc (cs := (bytesV (List.replicate 32 0))) rfl Zr30 rfl ?_
  intro n2 hn2 hf2
  refine Tr.nil ?_
  refine at_n ?_
  refine Sat.seq ?_
  refine Sat.region ?_
  first
    | refine Tr.loadAll rfl rfl rfl Try.underlying22 rfl Sz22 mM (by first | (simp [fb_length, pb_length, h32, hc32]; done) | assumption | (rw [bytesV, List.length_map]; assumption)) ?_
    | refine Tr.loadN _ rfl rfl rfl Try.underlying22 rfl Sz22 mM (by exact rfl) (by first | (simp [fb_length, pb_length, h32, hc32]; done) | assumption | (rw [bytesV, List.length_map]; assumption)) ?_
  refine Tr.callV rfl rfl rfl rfl Body16 (sign_expand seed h32 s hs) (fun _ _ => trivial) ?_
  refine Tr.fieldN (bytesV (clampB (s.take 32))) rfl rfl rfl Try.underlying45 rfl Try.underlying30 rfl Sz30 (secrets.row_fNumber (secB_ok hs64)) ?_
  first
    | refine Tr.storeAll rfl rfl rfl rfl cB Sz30 (by first | (simp [fb_length, pb_length, h32, hc32]; done) | assumption | (rw [bytesV, List.length_map]; assumption)) mM (by first | (simp [fb_length, pb_length, h32, hc32]; done) | assumption | (rw [bytesV, List.length_map]; assumption)) uU ?_
    | refine Tr.storeN _ rfl rfl rfl rfl rfl cB Sz30 (by first | (simp [fb_length, pb_length, h32, hc32]; done) | assumption | (rw [bytesV, List.length_map]; assumption)) mM (by first | (simp [fb_length, pb_length, h32, hc32]; done) | assumption | (rw [bytesV, List.length_map]; assumption)) (by exact rfl) uU ?_
  refine Tr.nil ?_
  refine at_n ?_
  refine Sat.ret ?_
  refine en_r ?_
  refine ⟨_, [], res_cell rfl rfl Try.underlying30 rfl Sz30 mM (by simp [fb_length, pb_length, h32, hc32]), sP, sP, ?_, rfl⟩
  rfl

set_option maxRecDepth 100000 in
set_option maxHeartbeats 4000000 in
theorem sign_Key (seed : List UInt8) (h32 : seed.length = 32) (s : List UInt8) (hs : Hid (sha512 seed = s)) : Meets Try.prog 6 [agg (bytesV seed)] [] (fun _ => True) (fun v out => v = agg (bytesV (pb (cv.mul (le (clampB (s.take 32))) bP))) ∧ out = []) := by
  intro W hW
  have hs64 : s.length = 64 := by rw [← hs.out]; exact sha512_length seed
  have hc32 : (clampB (s.take 32)).length = 32 := clampB_length (by rw [List.length_take, hs64]; rfl)
  have hm := sign_multiple (clampB (s.take 32)) hc32
  refine calls_of (hp0 := []) Try.func6 rfl 7 Try.ntmps6 rfl (HRep.nil _) ?_
  refine Sat.seq ?_
  refine Sat.region ?_
  refine Tr.boxA rfl rfl ?_
  intro n1 hn1 hf1
  refine Tr.alloc (cs := (bytesV (List.replicate 32 0))) rfl Zr25 rfl ?_
  intro n2 hn2 hf2
  refine Tr.nil ?_
  refine at_n ?_
  refine Sat.seq ?_
  refine Sat.region ?_
  first
    | refine Tr.loadAll rfl rfl rfl Try.underlying22 rfl Sz22 mM (by first | (simp [fb_length, pb_length, h32, hc32]; done) | assumption | (rw [bytesV, List.length_map]; assumption)) ?_
    | refine Tr.loadN _ rfl rfl rfl Try.underlying22 rfl Sz22 mM (by exact rfl) (by first | (simp [fb_length, pb_length, h32, hc32]; done) | assumption | (rw [bytesV, List.length_map]; assumption)) ?_
  refine Tr.callV rfl rfl rfl rfl Body16 (sign_expand seed h32 s hs) (fun _ _ => trivial) ?_
  refine Tr.fieldN (bytesV (clampB (s.take 32))) rfl rfl rfl Try.underlying45 rfl Try.underlying30 rfl Sz30 (secrets.row_fNumber (secB_ok hs64)) ?_
  refine Tr.callV rfl rfl rfl rfl Body15 (hm) (fun _ _ => trivial) ?_
  first
    | refine Tr.storeAll rfl rfl rfl rfl cB Sz25 (by first | (simp [fb_length, pb_length, h32, hc32]; done) | assumption | (rw [bytesV, List.length_map]; assumption)) mM (by first | (simp [fb_length, pb_length, h32, hc32]; done) | assumption | (rw [bytesV, List.length_map]; assumption)) uU ?_
    | refine Tr.storeN _ rfl rfl rfl rfl rfl cB Sz25 (by first | (simp [fb_length, pb_length, h32, hc32]; done) | assumption | (rw [bytesV, List.length_map]; assumption)) mM (by first | (simp [fb_length, pb_length, h32, hc32]; done) | assumption | (rw [bytesV, List.length_map]; assumption)) (by exact rfl) uU ?_
  refine Tr.nil ?_
  refine at_n ?_
  refine Sat.ret ?_
  refine en_r ?_
  refine ⟨_, [], res_cell rfl rfl Try.underlying25 rfl Sz25 mM (by simp [fb_length, pb_length, h32, hc32]), sP, sP, ?_, rfl⟩
  rfl

end Go.Proofs.Ytmddgelpllffoaa
end

section
namespace Go.Proofs.Ytmddgelpllffoaa
open Go Hw
set_option linter.unusedVariables false
set_option linter.unusedSimpArgs false

open Ed

/-- the residue of a hash -/
def sgR (s : List UInt8) : List UInt8 := leb 32 (le s % L)
theorem sgR_length (s : List UInt8) : (sgR s).length = 32 := leb_length _ _
def sgF (s1 : List UInt8) : List UInt8 := pb (cv.mul (le (sgR s1)) bP)
def sgK (s : List UInt8) : List UInt8 := pb (cv.mul (le (clampB (s.take 32))) bP)
theorem sgF_length (s : List UInt8) : (sgF s).length = 32 := pb_length _
theorem sgK_length (s : List UInt8) : (sgK s).length = 32 := pb_length _
def sgS (s s1 s2 : List UInt8) : List UInt8 := leb 32 ((le (sgR s2) * le (clampB (s.take 32)) + le (sgR s1)) % L)
theorem sgS_length (s s1 s2 : List UInt8) : (sgS s s1 s2).length = 32 := leb_length _ _
theorem upd_first {f : List UInt8} (h : f.length = 32) : upd (bytesV (List.replicate 64 0)) 0 (bytesV f) = bytesV (f ++ List.replicate 32 0) := by
  simp [upd, bytesV, h]
theorem upd_last {f g : List UInt8} (h : f.length = 32) (hg : g.length = 32) : upd (bytesV (f ++ List.replicate 32 0)) 32 (bytesV g) = bytesV (f ++ g) := by
  simp [upd, bytesV, h, hg]

theorem sign_residueR (p : Option Addr) (n c : Nat) (ss : List Sl) (ls : List (List UInt8)) (hss : ss.length = n) (hls : ls.length = n) (hsl : ∀ j, j < n → (ss.getD j Sl.nil).n = (ls.getD j []).length ∧ ((ss.getD j Sl.nil).p = none → (ss.getD j Sl.nil).n = 0)) (F : List UInt8) (hF : ls.flatten = F) (htot : F.length ≤ 90000) (hn : n ≤ 1000000) (s : List UInt8) (hs : Hid (sha512 F = s)) (r : List UInt8) (hr : Hid (sgR s = r))  : Meets Try.prog 17 [.slice p n c] [] (fun W => SeesP W p (ss.map Sl.v) ∧ ∀ j, j < n → SeesP W (ss.getD j Sl.nil).p (bytesV (ls.getD j []))) (fun v out => v = agg (bytesV r) ∧ out = []) := by
  have h := sign_residue p n c ss ls hss hls hsl F hF htot hn s hs
  rwa [show leb 32 (le s % L) = r from hr.out] at h

theorem take_sees {l : List UInt8} {n i : Nat} {v : Value} (h : (bytesV (l.take n))[i]? = some v) : (bytesV l)[i]? = some v := by
  rw [bytesV, List.map_take, List.getElem?_take] at h
  split at h
  · exact h
  · cases h

set_option maxRecDepth 100000 in
set_option maxHeartbeats 8000000 in
theorem sign_Sign (seed : List UInt8) (h32 : seed.length = 32) (sb : Sl) (bb : List UInt8) (hbn : bb.length ≤ 80000) (s s1 s2 : List UInt8) (hs : Hid (sha512 seed = s)) (hs1 : Hid (sha512 (s.drop 32 ++ bb) = s1)) (hs2 : Hid (sha512 (sgF s1 ++ (sgK s ++ bb)) = s2)) : Meets Try.prog 7 [agg (bytesV seed), sb.v] [] (fun W => BytesAt W sb bb) (fun v out => v = agg (bytesV (sgF s1 ++ sgS s s1 s2)) ∧ out = []) := by
  intro W hW
  have hs64 : s.length = 64 := by rw [← hs.out]; exact sha512_length seed
  have hexp := sign_expand seed h32 s hs
  obtain ⟨sc, hsc⟩ : ∃ sc, secB s = sc := ⟨_, rfl⟩
  rw [hsc] at hexp
  have hok : sc.ok := by rw [← hsc]; exact secB_ok hs64
  have hnum : clampB (s.take 32) = sc.fNumber := by rw [← hsc]; rfl
  have hrst : s.drop 32 = sc.fRest := by rw [← hsc]; rfl
  have hnl := hok.l_fNumber
  have hrl := hok.l_fRest
  obtain ⟨r1, hr1⟩ : ∃ r, Hid (sgR s1 = r) := ⟨_, ⟨rfl⟩⟩
  obtain ⟨r2, hr2⟩ : ∃ r, Hid (sgR s2 = r) := ⟨_, ⟨rfl⟩⟩
  have hr1l : r1.length = 32 := by rw [← hr1.out]; exact sgR_length s1
  have hr2l : r2.length = 32 := by rw [← hr2.out]; exact sgR_length s2
  have hm1 := sign_multiple sc.fNumber hnl
  have hm2 := sign_multiple r1 hr1l
  obtain ⟨K1, hK1⟩ : ∃ l, Hid (sgK s = l) := ⟨_, ⟨rfl⟩⟩
  obtain ⟨F1, hF1⟩ : ∃ l, Hid (sgF s1 = l) := ⟨_, ⟨rfl⟩⟩
  obtain ⟨S1, hS1⟩ : ∃ l, Hid (sgS s s1 s2 = l) := ⟨_, ⟨rfl⟩⟩
  have hF1l : F1.length = 32 := by rw [← hF1.out]; exact sgF_length s1
  have hK1l : K1.length = 32 := by rw [← hK1.out]; exact sgK_length s
  have hSl : S1.length = 32 := by rw [← hS1.out]; exact sgS_length s s1 s2
  rw [show pb (cv.mul (le sc.fNumber) bP) = K1 from by rw [← hK1.out, sgK, hnum]] at hm1
  rw [show pb (cv.mul (le r1) bP) = F1 from by rw [← hF1.out, sgF, hr1.out]] at hm2
  have hma := scalar_muladd r2 sc.fNumber r1 hr2l hnl hr1l
  rw [show leb 32 ((le r2 * le sc.fNumber + le r1) % L) = S1 from by rw [← hS1.out, sgS, hr1.out, hr2.out, hnum]] at hma
  rw [hF1.out, hS1.out]
  rw [hF1.out, hK1.out] at hs2
  rw [hrst] at hs1
  clear hsc hnum hrst
  refine calls_of (hp0 := []) Try.func7 rfl 39 Try.ntmps7 rfl (HRep.nil _) ?_
  refine Sat.seq ?_
  refine Sat.region ?_
  refine Tr.boxA rfl rfl ?_
  intro n2 hn2 hf2
  refine Tr.alloc (cs := (bytesV (List.replicate 64 0))) rfl Zr28 rfl ?_
  intro n4 hn4 hf4
  refine Tr.nil ?_
  refine at_n ?_
  refine Sat.seq ?_
  refine Sat.region ?_
  first
    | refine Tr.loadAll rfl rfl rfl Try.underlying22 rfl Sz22 mM (by first | (simp [fb_length, pb_length, leb_length, h32, hF1l, hK1l, hr1l, hr2l, hSl]; done) | assumption | (rw [bytesV, List.length_map]; assumption)) ?_
    | refine Tr.loadN _ rfl rfl rfl Try.underlying22 rfl Sz22 mM (by exact rfl) (by first | (simp [fb_length, pb_length, leb_length, h32, hF1l, hK1l, hr1l, hr2l, hSl]; done) | assumption | (rw [bytesV, List.length_map]; assumption)) ?_
  refine Tr.callV rfl rfl rfl rfl Body16 (hexp) (fun _ _ => trivial) ?_
  refine Tr.alloc (cs := secrets.zero.cells) rfl secrets.zr rfl ?_
  intro n5 hn5 hf5
  refine Tr.storeAll rfl rfl rfl rfl (secrets.isCell (by first | exact hok | (simp [fb_length, pb_length, leb_length, h32, hF1l, hK1l, hr1l, hr2l, hSl]; done) | exact oK | exact Point.zero_ok | exact wide.zero_ok | exact secrets.zero_ok )) Sz45 (secrets.length (by first | exact hok | (simp [fb_length, pb_length, leb_length, h32, hF1l, hK1l, hr1l, hr2l, hSl]; done) | exact oK | exact Point.zero_ok | exact wide.zero_ok | exact secrets.zero_ok )) mM (secrets.length (by first | exact hok | (simp [fb_length, pb_length, leb_length, h32, hF1l, hK1l, hr1l, hr2l, hSl]; done) | exact oK | exact Point.zero_ok | exact wide.zero_ok | exact secrets.zero_ok )) uU ?_
  refine Tr.nil ?_
  refine at_n ?_
  refine Sat.seq ?_
  refine Sat.region ?_
  refine Tr.fld rfl rfl rfl Try.underlying45 rfl Sz30 dE _ rfl ?_
  first
    | refine Tr.loadN (bytesV _) rfl rfl rfl Try.underlying30 rfl Sz30 mM (secrets.row_fNumber (by first | exact hok | (simp [fb_length, pb_length, leb_length, h32, hF1l, hK1l, hr1l, hr2l, hSl]; done) | exact oK | exact Point.zero_ok | exact wide.zero_ok | exact secrets.zero_ok )) (secrets.rl_fNumber (by first | exact hok | (simp [fb_length, pb_length, leb_length, h32, hF1l, hK1l, hr1l, hr2l, hSl]; done) | exact oK | exact Point.zero_ok | exact wide.zero_ok | exact secrets.zero_ok )) ?_
  refine Tr.callV rfl rfl rfl rfl Body15 (hm1) (fun _ _ => trivial) ?_
  refine Tr.alloc (cs := (bytesV (List.replicate 32 0))) rfl Zr22 rfl ?_
  intro n6 hn6 hf6
  first
    | refine Tr.storeAll rfl rfl rfl rfl cB Sz22 (by first | (simp [fb_length, pb_length, leb_length, h32, hF1l, hK1l, hr1l, hr2l, hSl]; done) | assumption | (rw [bytesV, List.length_map]; assumption)) mM (by first | (simp [fb_length, pb_length, leb_length, h32, hF1l, hK1l, hr1l, hr2l, hSl]; done) | assumption | (rw [bytesV, List.length_map]; assumption)) uU ?_
    | refine Tr.storeN _ rfl rfl rfl rfl rfl cB Sz22 (by first | (simp [fb_length, pb_length, leb_length, h32, hF1l, hK1l, hr1l, hr2l, hSl]; done) | assumption | (rw [bytesV, List.length_map]; assumption)) mM (by first | (simp [fb_length, pb_length, leb_length, h32, hF1l, hK1l, hr1l, hr2l, hSl]; done) | assumption | (rw [bytesV, List.length_map]; assumption)) (by exact rfl) uU ?_
  refine Tr.nil ?_
  refine at_n ?_
  refine Sat.seq ?_
  refine Sat.region ?_
  refine Tr.fld rfl rfl rfl Try.underlying45 rfl Sz22 dE _ rfl ?_
  refine Tr.sliceArr rfl rfl rfl Try.underlying22 Sz5 ?_
  refine Tr.move rfl rfl rfl ?_
  refine Tr.mkRow2 (z := .slice none 0 0) [.slice (some ⟨n5, 32, none⟩) 32 32, sb.v] [.slice (some ⟨n5, 32, none⟩) 32 32, sb.v] rfl rfl Try.underlying62 Sz23 Zr23 rfl rfl (by intro v hv; simp only [List.mem_cons, List.not_mem_nil, or_false] at hv; rcases hv with rfl | rfl <;> rfl) dE rfl ?_
  intro q19
  refine Tr.callV rfl rfl rfl rfl Body17 (sign_residueR (some ⟨q19, 0, none⟩) 2 2 [⟨some ⟨n5, 32, none⟩, 32, 32⟩, sb] [sc.fRest, bb] rfl rfl (fun j hj => (by
      rcases (show j = 0 ∨ j = 1 by omega) with rfl | rfl
      · exact ⟨by show 32 = List.length _; exact hrl.symm, fun e => by cases e⟩
      · exact ⟨by show sb.n = bb.length; exact hW.len.symm, fun e => by have h1 := hW.nil e; have h2 := hW.cap; show sb.n = 0; omega⟩)) (sc.fRest ++ bb) sP (by simp [hrl]; omega) dE s1 hs1 r1 hr1) (fun w h => ⟨SeesP.of (sees_own h mM), (fun j hj => (by
      rcases (show j = 0 ∨ j = 1 by omega) with rfl | rfl
      · exact SeesP.of (by have h9 := sees_subC (sees_own h mM) (secrets.see_fRest hok); exact h9)
      · exact seesP_ext h rfl hW.see))⟩) ?_
  refine Tr.alloc (cs := (bytesV (List.replicate 32 0))) rfl Zr30 rfl ?_
  intro n7 hn7 hf7
  first
    | refine Tr.storeAll rfl rfl rfl rfl cB Sz30 (by first | (simp [fb_length, pb_length, leb_length, h32, hF1l, hK1l, hr1l, hr2l, hSl]; done) | assumption | (rw [bytesV, List.length_map]; assumption)) mM (by first | (simp [fb_length, pb_length, leb_length, h32, hF1l, hK1l, hr1l, hr2l, hSl]; done) | assumption | (rw [bytesV, List.length_map]; assumption)) uU ?_
    | refine Tr.storeN _ rfl rfl rfl rfl rfl cB Sz30 (by first | (simp [fb_length, pb_length, leb_length, h32, hF1l, hK1l, hr1l, hr2l, hSl]; done) | assumption | (rw [bytesV, List.length_map]; assumption)) mM (by first | (simp [fb_length, pb_length, leb_length, h32, hF1l, hK1l, hr1l, hr2l, hSl]; done) | assumption | (rw [bytesV, List.length_map]; assumption)) (by exact rfl) uU ?_
  refine Tr.nil ?_
  refine at_n ?_
  refine Sat.seq ?_
  refine Sat.region ?_
  first
    | refine Tr.loadAll rfl rfl rfl Try.underlying30 rfl Sz30 mM (by first | (simp [fb_length, pb_length, leb_length, h32, hF1l, hK1l, hr1l, hr2l, hSl]; done) | assumption | (rw [bytesV, List.length_map]; assumption)) ?_
    | refine Tr.loadN _ rfl rfl rfl Try.underlying30 rfl Sz30 mM (by exact rfl) (by first | (simp [fb_length, pb_length, leb_length, h32, hF1l, hK1l, hr1l, hr2l, hSl]; done) | assumption | (rw [bytesV, List.length_map]; assumption)) ?_
  refine Tr.callV rfl rfl rfl rfl Body15 (hm2) (fun _ _ => trivial) ?_
  refine Tr.alloc (cs := (bytesV (List.replicate 32 0))) rfl Zr22 rfl ?_
  intro n8 hn8 hf8
  first
    | refine Tr.storeAll rfl rfl rfl rfl cB Sz22 (by first | (simp [fb_length, pb_length, leb_length, h32, hF1l, hK1l, hr1l, hr2l, hSl]; done) | assumption | (rw [bytesV, List.length_map]; assumption)) mM (by first | (simp [fb_length, pb_length, leb_length, h32, hF1l, hK1l, hr1l, hr2l, hSl]; done) | assumption | (rw [bytesV, List.length_map]; assumption)) uU ?_
    | refine Tr.storeN _ rfl rfl rfl rfl rfl cB Sz22 (by first | (simp [fb_length, pb_length, leb_length, h32, hF1l, hK1l, hr1l, hr2l, hSl]; done) | assumption | (rw [bytesV, List.length_map]; assumption)) mM (by first | (simp [fb_length, pb_length, leb_length, h32, hF1l, hK1l, hr1l, hr2l, hSl]; done) | assumption | (rw [bytesV, List.length_map]; assumption)) (by exact rfl) uU ?_
  refine Tr.nil ?_
  refine at_n ?_
  refine Sat.seq ?_
  refine Sat.draw [(0, 0), (0, 1), (0, 2), (0, 5), (1, 6), (1, 7), (2, 3), (3, 4), (3, 8), (2, 9), (4, 10)] Mixed (by kernel_rfl) ?_
  refine Tr.sliceArr rfl rfl rfl Try.underlying22 Sz5 ?_
  refine Tr.sliceArr rfl rfl rfl Try.underlying22 Sz5 ?_
  refine Tr.move rfl rfl rfl ?_
  refine Tr.fld rfl rfl rfl Try.underlying45 rfl Sz30 dE _ rfl ?_
  first
    | refine Tr.loadN (bytesV _) rfl rfl rfl Try.underlying30 rfl Sz30 mM (secrets.row_fNumber (by first | exact hok | (simp [fb_length, pb_length, leb_length, h32, hF1l, hK1l, hr1l, hr2l, hSl]; done) | exact oK | exact Point.zero_ok | exact wide.zero_ok | exact secrets.zero_ok )) (secrets.rl_fNumber (by first | exact hok | (simp [fb_length, pb_length, leb_length, h32, hF1l, hK1l, hr1l, hr2l, hSl]; done) | exact oK | exact Point.zero_ok | exact wide.zero_ok | exact secrets.zero_ok )) ?_
  first
    | refine Tr.loadAll rfl rfl rfl Try.underlying30 rfl Sz30 mM (by first | (simp [fb_length, pb_length, leb_length, h32, hF1l, hK1l, hr1l, hr2l, hSl]; done) | assumption | (rw [bytesV, List.length_map]; assumption)) ?_
    | refine Tr.loadN _ rfl rfl rfl Try.underlying30 rfl Sz30 mM (by exact rfl) (by first | (simp [fb_length, pb_length, leb_length, h32, hF1l, hK1l, hr1l, hr2l, hSl]; done) | assumption | (rw [bytesV, List.length_map]; assumption)) ?_
  refine Tr.mkRow2 (z := .slice none 0 0) [.slice (some ⟨n8, 0, none⟩) 32 32, .slice (some ⟨n6, 0, none⟩) 32 32, sb.v] [.slice (some ⟨n8, 0, none⟩) 32 32, .slice (some ⟨n6, 0, none⟩) 32 32, sb.v] rfl rfl Try.underlying62 Sz23 Zr23 rfl rfl (by intro v hv; simp only [List.mem_cons, List.not_mem_nil, or_false] at hv; rcases hv with rfl | rfl | rfl <;> rfl) dE rfl ?_
  intro q26
  refine Tr.callV rfl rfl rfl rfl Body17 (sign_residueR (some ⟨q26, 0, none⟩) 3 3 [⟨some ⟨n8, 0, none⟩, 32, 32⟩, ⟨some ⟨n6, 0, none⟩, 32, 32⟩, sb] [F1, K1, bb] rfl rfl (fun j hj => (by
      rcases (show j = 0 ∨ j = 1 ∨ j = 2 by omega) with rfl | rfl | rfl
      · exact ⟨by show 32 = List.length _; exact hF1l.symm, fun e => by cases e⟩
      · exact ⟨by show 32 = List.length _; exact hK1l.symm, fun e => by cases e⟩
      · exact ⟨by show sb.n = bb.length; exact hW.len.symm, fun e => by have h1 := hW.nil e; have h2 := hW.cap; show sb.n = 0; omega⟩)) (F1 ++ (K1 ++ bb)) sP (by simp [hF1l, hK1l]; omega) dE s2 hs2 r2 hr2) (fun w h => ⟨SeesP.of (sees_own h mM), (fun j hj => (by
      rcases (show j = 0 ∨ j = 1 ∨ j = 2 by omega) with rfl | rfl | rfl
      · exact SeesP.of (sees_own (cs := bytesV F1) h mM)
      · exact SeesP.of (sees_own (cs := bytesV K1) h mM)
      · exact seesP_ext h rfl hW.see))⟩) ?_
  refine Tr.callV rfl rfl rfl rfl Body18 (hma) (fun _ _ => trivial) ?_
  refine Tr.alloc (cs := (bytesV (List.replicate 32 0))) rfl Zr30 rfl ?_
  intro n9 hn9 hf9
  first
    | refine Tr.storeAll rfl rfl rfl rfl cB Sz30 (by first | (simp [fb_length, pb_length, leb_length, h32, hF1l, hK1l, hr1l, hr2l, hSl]; done) | assumption | (rw [bytesV, List.length_map]; assumption)) mM (by first | (simp [fb_length, pb_length, leb_length, h32, hF1l, hK1l, hr1l, hr2l, hSl]; done) | assumption | (rw [bytesV, List.length_map]; assumption)) uU ?_
    | refine Tr.storeN _ rfl rfl rfl rfl rfl cB Sz30 (by first | (simp [fb_length, pb_length, leb_length, h32, hF1l, hK1l, hr1l, hr2l, hSl]; done) | assumption | (rw [bytesV, List.length_map]; assumption)) mM (by first | (simp [fb_length, pb_length, leb_length, h32, hF1l, hK1l, hr1l, hr2l, hSl]; done) | assumption | (rw [bytesV, List.length_map]; assumption)) (by exact rfl) uU ?_
  refine Tr.nil ?_
  refine at_n ?_
  refine Sat.seq ?_
  refine Sat.region ?_
  refine Tr.alloc (cs := (bytesV (List.replicate 64 0))) rfl Zr28 rfl ?_
  intro n10 hn10 hf10
  refine Tr.nil ?_
  refine at_n ?_
  refine Sat.seq ?_
  refine Sat.draw [(0, 0), (0, 1), (4, 2)] Mixed (by kernel_rfl) ?_
  refine Tr.sliceArrHi 32 rfl rfl rfl rfl rfl dE dE Try.underlying28 Sz5 ?_
  refine Tr.sliceArr rfl rfl rfl Try.underlying22 Sz5 ?_
  refine Tr.copyP (bytesV F1) 32 rfl rfl rfl rfl rfl Try.underlying23 Sz5 (fun w h => SeesP.of (sees_own h mM)) (fun e => by cases e) (by rw [bytesV, List.length_map]; exact hF1l) rfl (by rw [bytesV, ← List.map_take, List.take_of_length_le (Nat.le_of_eq hF1l)]) (bytesV_cell _) mM sO (by exact upd_first hF1l) uU ?_
  refine Tr.nil ?_
  refine at_n ?_
  refine Sat.seq ?_
  refine Sat.draw [(0, 0), (0, 1), (4, 2)] Mixed (by kernel_rfl) ?_
  refine Tr.sliceArrLo 32 rfl rfl rfl rfl rfl dE Try.underlying28 Sz5 ?_
  refine Tr.sliceArr rfl rfl rfl Try.underlying30 Sz5 ?_
  refine Tr.copyP (bytesV S1) 32 rfl rfl rfl rfl rfl Try.underlying23 Sz5 (fun w h => SeesP.of (sees_own h mM)) (fun e => by cases e) (by rw [bytesV, List.length_map]; exact hSl) rfl (by rw [bytesV, ← List.map_take, List.take_of_length_le (Nat.le_of_eq hSl)]) (bytesV_cell _) mM sO (by exact upd_last hF1l hSl) uU ?_
  refine Tr.nil ?_
  refine at_n ?_
  refine Sat.seq ?_
  refine Sat.region ?_
  first
    | refine Tr.loadAll rfl rfl rfl Try.underlying28 rfl Sz28 mM (by first | (simp [fb_length, pb_length, leb_length, h32, hF1l, hK1l, hr1l, hr2l, hSl]; done) | assumption | (rw [bytesV, List.length_map]; assumption)) ?_
    | refine Tr.loadN _ rfl rfl rfl Try.underlying28 rfl Sz28 mM (by exact rfl) (by first | (simp [fb_length, pb_length, leb_length, h32, hF1l, hK1l, hr1l, hr2l, hSl]; done) | assumption | (rw [bytesV, List.length_map]; assumption)) ?_
  first
    | refine Tr.storeAll rfl rfl rfl rfl cB Sz28 (by first | (simp [fb_length, pb_length, leb_length, h32, hF1l, hK1l, hr1l, hr2l, hSl]; done) | assumption | (rw [bytesV, List.length_map]; assumption)) mM (by first | (simp [fb_length, pb_length, leb_length, h32, hF1l, hK1l, hr1l, hr2l, hSl]; done) | assumption | (rw [bytesV, List.length_map]; assumption)) uU ?_
    | refine Tr.storeN _ rfl rfl rfl rfl rfl cB Sz28 (by first | (simp [fb_length, pb_length, leb_length, h32, hF1l, hK1l, hr1l, hr2l, hSl]; done) | assumption | (rw [bytesV, List.length_map]; assumption)) mM (by first | (simp [fb_length, pb_length, leb_length, h32, hF1l, hK1l, hr1l, hr2l, hSl]; done) | assumption | (rw [bytesV, List.length_map]; assumption)) (by exact rfl) uU ?_
  refine Tr.nil ?_
  refine at_n ?_
  refine Sat.ret ?_
  refine en_r ?_
  refine ⟨_, [], res_cell rfl rfl Try.underlying28 rfl Sz28 mM (by simp [fb_length, pb_length, leb_length, h32, hF1l, hK1l, hr1l, hr2l, hSl]), sP, sP, ?_, rfl⟩
  rfl

theorem curve_Read_none (b : List UInt8) (hb : b.length = 32) (h : rdP b = none) : Meets Try.prog 23 [agg (bytesV b)] [] (fun _ => True) (fun v out => v = .tuple #[agg Point.zero.cells, i64 4] ∧ out = []) := by
  have := curve_Read b hb
  rwa [rdV_none h] at this
theorem curve_Read_some (b : List UInt8) (P : Pt Fp) (hb : b.length = 32) (h : rdP b = some P) : Meets Try.prog 23 [agg (bytesV b)] [] (fun _ => True) (fun v out => v = .tuple #[agg (ptc P).cells, i64 0] ∧ out = []) := by
  have := curve_Read b hb
  rwa [rdV_some h] at this
open Classical in
noncomputable def goodB (k bb sg : List UInt8) : Bool := decide (le (sg.drop 32) < L ∧ ∃ A R, rdP k = some A ∧ rdP (sg.take 32) = some R ∧ cv.lin (le (sg.drop 32)) (le (sgR (sha512 (sg.take 32 ++ (k ++ bb))))) bP (neg A) = R)
theorem good_dec {k bb sg : List UInt8} {A R Q : Pt Fp} (h1 : le (sg.drop 32) < L) (h2 : rdP k = some A) (h3 : rdP (sg.take 32) = some R) (h4 : cv.lin (le (sg.drop 32)) (le (sgR (sha512 (sg.take 32 ++ (k ++ bb))))) bP (neg A) = Q) : @decide (ptc Q = ptc R) (Classical.propDecidable _) = goodB k bb sg := by
  rw [goodB, Bool.eq_iff_iff]
  simp only [decide_eq_true_eq, ptc_inj]
  constructor
  · intro h
    exact ⟨h1, A, R, h2, h3, h4.trans h⟩
  · rintro ⟨_, A', R', e1, e2, e3⟩
    rw [h2] at e1; rw [h3] at e2
    cases e1; cases e2
    exact h4.symm.trans e3
theorem good_no {k bb sg : List UInt8} (h : ¬ (le (sg.drop 32) < L ∧ (∃ A, rdP k = some A) ∧ ∃ R, rdP (sg.take 32) = some R)) : goodB k bb sg = false := by
  rw [goodB, decide_eq_false_iff_not]
  intro e
  refine h ?_
  obtain ⟨h1, A, R, h2, h3, _⟩ := e
  exact ⟨h1, ⟨A, h2⟩, ⟨R, h3⟩⟩

set_option maxRecDepth 100000 in
set_option maxHeartbeats 8000000 in
theorem sign_Good_c (k : List UInt8) (hk : k.length = 32) (sb : Sl) (bb : List UInt8) (hbn : bb.length ≤ 80000) (sg : List UInt8) (hsg : sg.length = 64) (hc : ¬ le (sg.drop 32) < L) : Meets Try.prog 10 [agg (bytesV k), sb.v, agg (bytesV sg)] [] (fun W => BytesAt W sb bb) (fun v out => v = .bool false ∧ out = []) := by
  intro W hW
  have hd32 : (sg.drop 32).length = 32 := by rw [List.length_drop, hsg]
  have ht32 : (sg.take 32).length = 32 := by rw [List.length_take, hsg]; rfl
  refine calls_of (hp0 := []) Try.func10 rfl 45 Try.ntmps10 rfl (HRep.nil _) ?_
  refine Sat.seq ?_
  refine Sat.region ?_
  refine Tr.boxA rfl rfl ?_
  intro n3 hn3 hf3
  refine Tr.boxA rfl rfl ?_
  intro n5 hn5 hf5
  refine Tr.assign rfl rfl rfl ?_
  refine Tr.nil ?_
  refine at_n ?_
  refine Sat.seq ?_
  refine Sat.region ?_
  refine Tr.sliceArrLo 32 rfl rfl rfl rfl rfl dE Try.underlying28 Sz5 ?_
  refine Tr.s2a rfl rfl rfl Try.underlying30 oM ?_
  refine Tr.loadN (bytesV (sg.drop 32)) rfl rfl rfl Try.underlying30 rfl Sz30 mM (by show ((sg.map u8).drop 32).take 32 = _; rw [← List.map_drop, ← List.map_take, d64 hsg]) (by rw [List.length_map]; exact hd32) ?_
  refine Tr.alloc (cs := (bytesV (List.replicate 32 0))) rfl Zr30 rfl ?_
  intro n7 hn7 hf7
  first
    | refine Tr.storeAll rfl rfl rfl rfl cB Sz30 (by first | (simp [fb_length, pb_length, leb_length, hk, hsg, hd32, ht32]; done) | assumption | (rw [bytesV, List.length_map]; assumption)) mM (by first | (simp [fb_length, pb_length, leb_length, hk, hsg, hd32, ht32]; done) | assumption | (rw [bytesV, List.length_map]; assumption)) uU ?_
    | refine Tr.storeN _ rfl rfl rfl rfl rfl cB Sz30 (by first | (simp [fb_length, pb_length, leb_length, hk, hsg, hd32, ht32]; done) | assumption | (rw [bytesV, List.length_map]; assumption)) mM (by first | (simp [fb_length, pb_length, leb_length, hk, hsg, hd32, ht32]; done) | assumption | (rw [bytesV, List.length_map]; assumption)) (by exact rfl) uU ?_
  refine Tr.nil ?_
  refine at_n ?_
  refine Sat.seq ?_
  refine Sat.seq ?_
  refine Sat.region ?_
  first
    | refine Tr.loadAll rfl rfl rfl Try.underlying30 rfl Sz30 mM (by first | (simp [fb_length, pb_length, leb_length, hk, hsg, hd32, ht32]; done) | assumption | (rw [bytesV, List.length_map]; assumption)) ?_
    | refine Tr.loadN _ rfl rfl rfl Try.underlying30 rfl Sz30 mM (by exact rfl) (by first | (simp [fb_length, pb_length, leb_length, hk, hsg, hd32, ht32]; done) | assumption | (rw [bytesV, List.length_map]; assumption)) ?_
  refine Tr.callV rfl rfl rfl rfl Body22 (scalar_canon (sg.drop 32) hd32) (fun _ _ => trivial) ?_
  refine Tr.not rfl rfl rfl ?_
  refine Tr.nil ?_
  refine at_n ?_
  refine Sat.cond_t rfl (by rw [decide_eq_false hc]; rfl) ?_
  refine Sat.seq ?_
  refine Sat.region ?_
  refine Tr.assign rfl rfl rfl ?_
  refine Tr.nil ?_
  refine at_n ?_
  refine Sat.ret ?_
  refine at_r ?_
  refine en_r ?_
  refine ⟨_, [], res_tmp rfl rfl, sP, sP, ?_, rfl⟩
  rfl

set_option maxRecDepth 100000 in
set_option maxHeartbeats 8000000 in
theorem sign_Good_k (k : List UInt8) (hk : k.length = 32) (sb : Sl) (bb : List UInt8) (hbn : bb.length ≤ 80000) (sg : List UInt8) (hsg : sg.length = 64) (hc : le (sg.drop 32) < L) (h1 : rdP k = none) : Meets Try.prog 10 [agg (bytesV k), sb.v, agg (bytesV sg)] [] (fun W => BytesAt W sb bb) (fun v out => v = .bool false ∧ out = []) := by
  intro W hW
  have hd32 : (sg.drop 32).length = 32 := by rw [List.length_drop, hsg]
  have ht32 : (sg.take 32).length = 32 := by rw [List.length_take, hsg]; rfl
  refine calls_of (hp0 := []) Try.func10 rfl 45 Try.ntmps10 rfl (HRep.nil _) ?_
  refine Sat.seq ?_
  refine Sat.region ?_
  refine Tr.boxA rfl rfl ?_
  intro n3 hn3 hf3
  refine Tr.boxA rfl rfl ?_
  intro n5 hn5 hf5
  refine Tr.assign rfl rfl rfl ?_
  refine Tr.nil ?_
  refine at_n ?_
  refine Sat.seq ?_
  refine Sat.region ?_
  refine Tr.sliceArrLo 32 rfl rfl rfl rfl rfl dE Try.underlying28 Sz5 ?_
  refine Tr.s2a rfl rfl rfl Try.underlying30 oM ?_
  refine Tr.loadN (bytesV (sg.drop 32)) rfl rfl rfl Try.underlying30 rfl Sz30 mM (by show ((sg.map u8).drop 32).take 32 = _; rw [← List.map_drop, ← List.map_take, d64 hsg]) (by rw [List.length_map]; exact hd32) ?_
  refine Tr.alloc (cs := (bytesV (List.replicate 32 0))) rfl Zr30 rfl ?_
  intro n7 hn7 hf7
  first
    | refine Tr.storeAll rfl rfl rfl rfl cB Sz30 (by first | (simp [fb_length, pb_length, leb_length, hk, hsg, hd32, ht32]; done) | assumption | (rw [bytesV, List.length_map]; assumption)) mM (by first | (simp [fb_length, pb_length, leb_length, hk, hsg, hd32, ht32]; done) | assumption | (rw [bytesV, List.length_map]; assumption)) uU ?_
    | refine Tr.storeN _ rfl rfl rfl rfl rfl cB Sz30 (by first | (simp [fb_length, pb_length, leb_length, hk, hsg, hd32, ht32]; done) | assumption | (rw [bytesV, List.length_map]; assumption)) mM (by first | (simp [fb_length, pb_length, leb_length, hk, hsg, hd32, ht32]; done) | assumption | (rw [bytesV, List.length_map]; assumption)) (by exact rfl) uU ?_
  refine Tr.nil ?_
  refine at_n ?_
  refine Sat.seq ?_
  refine Sat.seq ?_
  refine Sat.region ?_
  first
    | refine Tr.loadAll rfl rfl rfl Try.underlying30 rfl Sz30 mM (by first | (simp [fb_length, pb_length, leb_length, hk, hsg, hd32, ht32]; done) | assumption | (rw [bytesV, List.length_map]; assumption)) ?_
    | refine Tr.loadN _ rfl rfl rfl Try.underlying30 rfl Sz30 mM (by exact rfl) (by first | (simp [fb_length, pb_length, leb_length, hk, hsg, hd32, ht32]; done) | assumption | (rw [bytesV, List.length_map]; assumption)) ?_
  refine Tr.callV rfl rfl rfl rfl Body22 (scalar_canon (sg.drop 32) hd32) (fun _ _ => trivial) ?_
  refine Tr.not rfl rfl rfl ?_
  refine Tr.nil ?_
  refine at_n ?_
  refine Sat.cond_f rfl (by rw [decide_eq_true hc]; rfl) ?_
  refine Sat.skip ?_
  refine at_n ?_
  refine Sat.seq ?_
  refine Sat.region ?_
  first
    | refine Tr.loadAll rfl rfl rfl Try.underlying25 rfl Sz25 mM (by first | (simp [fb_length, pb_length, leb_length, hk, hsg, hd32, ht32]; done) | assumption | (rw [bytesV, List.length_map]; assumption)) ?_
    | refine Tr.loadN _ rfl rfl rfl Try.underlying25 rfl Sz25 mM (by exact rfl) (by first | (simp [fb_length, pb_length, leb_length, hk, hsg, hd32, ht32]; done) | assumption | (rw [bytesV, List.length_map]; assumption)) ?_
  refine Tr.callV rfl rfl rfl rfl Body23 (curve_Read_none k hk h1) (fun _ _ => trivial) ?_
  refine Tr.move rfl rfl rfl ?_
  refine Tr.extract rfl rfl rfl rfl ?_
  refine Tr.extract rfl rfl rfl rfl ?_
  refine Tr.alloc (cs := Point.zero.cells) rfl Point.zr rfl ?_
  intro n8 hn8 hf8
  refine Tr.storeAll rfl rfl rfl rfl (Point.isCell (by first | exact ptc_ok _ | exact wdc_ok _ | exact ⟨fb32 _, fb32 _⟩ | (simp [fb_length, pb_length, leb_length, hk, hsg, hd32, ht32]; done) | exact oK | exact Point.zero_ok | exact wide.zero_ok | exact secrets.zero_ok )) Sz32 (Point.length (by first | exact ptc_ok _ | exact wdc_ok _ | exact ⟨fb32 _, fb32 _⟩ | (simp [fb_length, pb_length, leb_length, hk, hsg, hd32, ht32]; done) | exact oK | exact Point.zero_ok | exact wide.zero_ok | exact secrets.zero_ok )) mM (Point.length (by first | exact ptc_ok _ | exact wdc_ok _ | exact ⟨fb32 _, fb32 _⟩ | (simp [fb_length, pb_length, leb_length, hk, hsg, hd32, ht32]; done) | exact oK | exact Point.zero_ok | exact wide.zero_ok | exact secrets.zero_ok )) uU ?_
  refine Tr.assign rfl rfl rfl ?_
  refine Tr.nil ?_
  refine at_n ?_
  refine Sat.seq ?_
  refine Sat.seq ?_
  refine Sat.region ?_
  refine Tr.move rfl rfl rfl ?_
  refine Tr.nei rfl rfl rfl rfl (show (!decide _) = true from congrArg not (decide_eq_false dE)) ?_
  refine Tr.nil ?_
  refine at_n ?_
  refine Sat.cond_t rfl (rfl) ?_
  refine Sat.seq ?_
  refine Sat.region ?_
  refine Tr.assign rfl rfl rfl ?_
  refine Tr.nil ?_
  refine at_n ?_
  refine Sat.ret ?_
  refine at_r ?_
  refine en_r ?_
  refine ⟨_, [], res_tmp rfl rfl, sP, sP, ?_, rfl⟩
  rfl

set_option maxRecDepth 100000 in
set_option maxHeartbeats 8000000 in
theorem sign_Good_r (k : List UInt8) (hk : k.length = 32) (sb : Sl) (bb : List UInt8) (hbn : bb.length ≤ 80000) (sg : List UInt8) (hsg : sg.length = 64) (hc : le (sg.drop 32) < L) (A : Pt Fp) (h1 : rdP k = some A) (h2 : rdP (sg.take 32) = none) : Meets Try.prog 10 [agg (bytesV k), sb.v, agg (bytesV sg)] [] (fun W => BytesAt W sb bb) (fun v out => v = .bool false ∧ out = []) := by
  intro W hW
  have hd32 : (sg.drop 32).length = 32 := by rw [List.length_drop, hsg]
  have ht32 : (sg.take 32).length = 32 := by rw [List.length_take, hsg]; rfl
  refine calls_of (hp0 := []) Try.func10 rfl 45 Try.ntmps10 rfl (HRep.nil _) ?_
  refine Sat.seq ?_
  refine Sat.region ?_
  refine Tr.boxA rfl rfl ?_
  intro n3 hn3 hf3
  refine Tr.boxA rfl rfl ?_
  intro n5 hn5 hf5
  refine Tr.assign rfl rfl rfl ?_
  refine Tr.nil ?_
  refine at_n ?_
  refine Sat.seq ?_
  refine Sat.region ?_
  refine Tr.sliceArrLo 32 rfl rfl rfl rfl rfl dE Try.underlying28 Sz5 ?_
  refine Tr.s2a rfl rfl rfl Try.underlying30 oM ?_
  refine Tr.loadN (bytesV (sg.drop 32)) rfl rfl rfl Try.underlying30 rfl Sz30 mM (by show ((sg.map u8).drop 32).take 32 = _; rw [← List.map_drop, ← List.map_take, d64 hsg]) (by rw [List.length_map]; exact hd32) ?_
  refine Tr.alloc (cs := (bytesV (List.replicate 32 0))) rfl Zr30 rfl ?_
  intro n7 hn7 hf7
  first
    | refine Tr.storeAll rfl rfl rfl rfl cB Sz30 (by first | (simp [fb_length, pb_length, leb_length, hk, hsg, hd32, ht32]; done) | assumption | (rw [bytesV, List.length_map]; assumption)) mM (by first | (simp [fb_length, pb_length, leb_length, hk, hsg, hd32, ht32]; done) | assumption | (rw [bytesV, List.length_map]; assumption)) uU ?_
    | refine Tr.storeN _ rfl rfl rfl rfl rfl cB Sz30 (by first | (simp [fb_length, pb_length, leb_length, hk, hsg, hd32, ht32]; done) | assumption | (rw [bytesV, List.length_map]; assumption)) mM (by first | (simp [fb_length, pb_length, leb_length, hk, hsg, hd32, ht32]; done) | assumption | (rw [bytesV, List.length_map]; assumption)) (by exact rfl) uU ?_
  refine Tr.nil ?_
  refine at_n ?_
  refine Sat.seq ?_
  refine Sat.seq ?_
  refine Sat.region ?_
  first
    | refine Tr.loadAll rfl rfl rfl Try.underlying30 rfl Sz30 mM (by first | (simp [fb_length, pb_length, leb_length, hk, hsg, hd32, ht32]; done) | assumption | (rw [bytesV, List.length_map]; assumption)) ?_
    | refine Tr.loadN _ rfl rfl rfl Try.underlying30 rfl Sz30 mM (by exact rfl) (by first | (simp [fb_length, pb_length, leb_length, hk, hsg, hd32, ht32]; done) | assumption | (rw [bytesV, List.length_map]; assumption)) ?_
  refine Tr.callV rfl rfl rfl rfl Body22 (scalar_canon (sg.drop 32) hd32) (fun _ _ => trivial) ?_
  refine Tr.not rfl rfl rfl ?_
  refine Tr.nil ?_
  refine at_n ?_
  refine Sat.cond_f rfl (by rw [decide_eq_true hc]; rfl) ?_
  refine Sat.skip ?_
  refine at_n ?_
  refine Sat.seq ?_
  refine Sat.region ?_
  first
    | refine Tr.loadAll rfl rfl rfl Try.underlying25 rfl Sz25 mM (by first | (simp [fb_length, pb_length, leb_length, hk, hsg, hd32, ht32]; done) | assumption | (rw [bytesV, List.length_map]; assumption)) ?_
    | refine Tr.loadN _ rfl rfl rfl Try.underlying25 rfl Sz25 mM (by exact rfl) (by first | (simp [fb_length, pb_length, leb_length, hk, hsg, hd32, ht32]; done) | assumption | (rw [bytesV, List.length_map]; assumption)) ?_
  refine Tr.callV rfl rfl rfl rfl Body23 (curve_Read_some k A hk h1) (fun _ _ => trivial) ?_
  refine Tr.move rfl rfl rfl ?_
  refine Tr.extract rfl rfl rfl rfl ?_
  refine Tr.extract rfl rfl rfl rfl ?_
  refine Tr.alloc (cs := Point.zero.cells) rfl Point.zr rfl ?_
  intro n8 hn8 hf8
  refine Tr.storeAll rfl rfl rfl rfl (Point.isCell (by first | exact ptc_ok _ | exact wdc_ok _ | exact ⟨fb32 _, fb32 _⟩ | (simp [fb_length, pb_length, leb_length, hk, hsg, hd32, ht32]; done) | exact oK | exact Point.zero_ok | exact wide.zero_ok | exact secrets.zero_ok )) Sz32 (Point.length (by first | exact ptc_ok _ | exact wdc_ok _ | exact ⟨fb32 _, fb32 _⟩ | (simp [fb_length, pb_length, leb_length, hk, hsg, hd32, ht32]; done) | exact oK | exact Point.zero_ok | exact wide.zero_ok | exact secrets.zero_ok )) mM (Point.length (by first | exact ptc_ok _ | exact wdc_ok _ | exact ⟨fb32 _, fb32 _⟩ | (simp [fb_length, pb_length, leb_length, hk, hsg, hd32, ht32]; done) | exact oK | exact Point.zero_ok | exact wide.zero_ok | exact secrets.zero_ok )) uU ?_
  refine Tr.assign rfl rfl rfl ?_
  refine Tr.nil ?_
  refine at_n ?_
  refine Sat.seq ?_
  refine Sat.seq ?_
  refine Sat.region ?_
  refine Tr.move rfl rfl rfl ?_
  refine Tr.nei rfl rfl rfl rfl (show (!decide _) = false from congrArg not (decide_eq_true (rfl))) ?_
  refine Tr.nil ?_
  refine at_n ?_
  refine Sat.cond_f rfl (rfl) ?_
  refine Sat.skip ?_
  refine at_n ?_
  refine Sat.seq ?_
  refine Sat.region ?_
  refine Tr.sliceArrHi 32 rfl rfl rfl rfl rfl dE dE Try.underlying28 Sz5 ?_
  refine Tr.s2a rfl rfl rfl Try.underlying22 oM ?_
  refine Tr.loadN (bytesV (sg.take 32)) rfl rfl rfl Try.underlying22 rfl Sz22 mM (by rw [List.drop_zero, ← List.map_take]) (by rw [List.length_map]; exact ht32) ?_
  refine Tr.callV rfl rfl rfl rfl Body23 (curve_Read_none (sg.take 32) ht32 h2) (fun _ _ => trivial) ?_
  refine Tr.move rfl rfl rfl ?_
  refine Tr.extract rfl rfl rfl rfl ?_
  refine Tr.extract rfl rfl rfl rfl ?_
  refine Tr.alloc (cs := Point.zero.cells) rfl Point.zr rfl ?_
  intro n10 hn10 hf10
  refine Tr.storeAll rfl rfl rfl rfl (Point.isCell (by first | exact ptc_ok _ | exact wdc_ok _ | exact ⟨fb32 _, fb32 _⟩ | (simp [fb_length, pb_length, leb_length, hk, hsg, hd32, ht32]; done) | exact oK | exact Point.zero_ok | exact wide.zero_ok | exact secrets.zero_ok )) Sz32 (Point.length (by first | exact ptc_ok _ | exact wdc_ok _ | exact ⟨fb32 _, fb32 _⟩ | (simp [fb_length, pb_length, leb_length, hk, hsg, hd32, ht32]; done) | exact oK | exact Point.zero_ok | exact wide.zero_ok | exact secrets.zero_ok )) mM (Point.length (by first | exact ptc_ok _ | exact wdc_ok _ | exact ⟨fb32 _, fb32 _⟩ | (simp [fb_length, pb_length, leb_length, hk, hsg, hd32, ht32]; done) | exact oK | exact Point.zero_ok | exact wide.zero_ok | exact secrets.zero_ok )) uU ?_
  refine Tr.assign rfl rfl rfl ?_
  refine Tr.nil ?_
  refine at_n ?_
  refine Sat.seq ?_
  refine Sat.seq ?_
  refine Sat.region ?_
  refine Tr.move rfl rfl rfl ?_
  refine Tr.nei rfl rfl rfl rfl (show (!decide _) = true from congrArg not (decide_eq_false dE)) ?_
  refine Tr.nil ?_
  refine at_n ?_
  refine Sat.cond_t rfl (rfl) ?_
  refine Sat.seq ?_
  refine Sat.region ?_
  refine Tr.assign rfl rfl rfl ?_
  refine Tr.nil ?_
  refine at_n ?_
  refine Sat.ret ?_
  refine at_r ?_
  refine en_r ?_
  refine ⟨_, [], res_tmp rfl rfl, sP, sP, ?_, rfl⟩
  rfl

set_option maxRecDepth 100000 in
set_option maxHeartbeats 8000000 in
theorem sign_Good_ok (k : List UInt8) (hk : k.length = 32) (sb : Sl) (bb : List UInt8) (hbn : bb.length ≤ 80000) (sg : List UInt8) (hsg : sg.length = 64) (hc : le (sg.drop 32) < L) (A R : Pt Fp) (h1 : rdP k = some A) (h2 : rdP (sg.take 32) = some R) (s r : List UInt8) (hs : Hid (sha512 (sg.take 32 ++ (k ++ bb)) = s)) (hr : Hid (sgR s = r)) (hrl : r.length = 32) : Meets Try.prog 10 [agg (bytesV k), sb.v, agg (bytesV sg)] [] (fun W => BytesAt W sb bb) (fun v out => v = .bool (goodB k bb sg) ∧ out = []) := by
  intro W hW
  have hd32 : (sg.drop 32).length = 32 := by rw [List.length_drop, hsg]
  have ht32 : (sg.take 32).length = 32 := by rw [List.length_take, hsg]; rfl
  have hA := rdP_on h1
  obtain ⟨Q, hQ⟩ : ∃ Q, cv.lin (le (sg.drop 32)) (le (sgR (sha512 (sg.take 32 ++ (k ++ bb))))) bP (neg A) = Q := ⟨_, rfl⟩
  have hmul := curve_Mul2 (sg.drop 32) r bP (neg A) hd32 hrl bP_on (cv.on_neg hA)
  rw [show cv.lin (le (sg.drop 32)) (le r) bP (neg A) = Q from by rw [← hr.out, ← hs.out]; exact hQ] at hmul
  refine calls_of (hp0 := []) Try.func10 rfl 45 Try.ntmps10 rfl (HRep.nil _) ?_
  refine Sat.seq ?_
  refine Sat.region ?_
  refine Tr.boxA rfl rfl ?_
  intro n3 hn3 hf3
  refine Tr.boxA rfl rfl ?_
  intro n5 hn5 hf5
  refine Tr.assign rfl rfl rfl ?_
  refine Tr.nil ?_
  refine at_n ?_
  refine Sat.seq ?_
  refine Sat.region ?_
  refine Tr.sliceArrLo 32 rfl rfl rfl rfl rfl dE Try.underlying28 Sz5 ?_
  refine Tr.s2a rfl rfl rfl Try.underlying30 oM ?_
  refine Tr.loadN (bytesV (sg.drop 32)) rfl rfl rfl Try.underlying30 rfl Sz30 mM (by show ((sg.map u8).drop 32).take 32 = _; rw [← List.map_drop, ← List.map_take, d64 hsg]) (by rw [List.length_map]; exact hd32) ?_
  refine Tr.alloc (cs := (bytesV (List.replicate 32 0))) rfl Zr30 rfl ?_
  intro n7 hn7 hf7
  first
    | refine Tr.storeAll rfl rfl rfl rfl cB Sz30 (by first | (simp [fb_length, pb_length, leb_length, hk, hsg, hd32, ht32]; done) | assumption | (rw [bytesV, List.length_map]; assumption)) mM (by first | (simp [fb_length, pb_length, leb_length, hk, hsg, hd32, ht32]; done) | assumption | (rw [bytesV, List.length_map]; assumption)) uU ?_
    | refine Tr.storeN _ rfl rfl rfl rfl rfl cB Sz30 (by first | (simp [fb_length, pb_length, leb_length, hk, hsg, hd32, ht32]; done) | assumption | (rw [bytesV, List.length_map]; assumption)) mM (by first | (simp [fb_length, pb_length, leb_length, hk, hsg, hd32, ht32]; done) | assumption | (rw [bytesV, List.length_map]; assumption)) (by exact rfl) uU ?_
  refine Tr.nil ?_
  refine at_n ?_
  refine Sat.seq ?_
  refine Sat.seq ?_
  refine Sat.region ?_
  first
    | refine Tr.loadAll rfl rfl rfl Try.underlying30 rfl Sz30 mM (by first | (simp [fb_length, pb_length, leb_length, hk, hsg, hd32, ht32]; done) | assumption | (rw [bytesV, List.length_map]; assumption)) ?_
    | refine Tr.loadN _ rfl rfl rfl Try.underlying30 rfl Sz30 mM (by exact rfl) (by first | (simp [fb_length, pb_length, leb_length, hk, hsg, hd32, ht32]; done) | assumption | (rw [bytesV, List.length_map]; assumption)) ?_
  refine Tr.callV rfl rfl rfl rfl Body22 (scalar_canon (sg.drop 32) hd32) (fun _ _ => trivial) ?_
  refine Tr.not rfl rfl rfl ?_
  refine Tr.nil ?_
  refine at_n ?_
  refine Sat.cond_f rfl (by rw [decide_eq_true hc]; rfl) ?_
  refine Sat.skip ?_
  refine at_n ?_
  refine Sat.seq ?_
  refine Sat.region ?_
  first
    | refine Tr.loadAll rfl rfl rfl Try.underlying25 rfl Sz25 mM (by first | (simp [fb_length, pb_length, leb_length, hk, hsg, hd32, ht32]; done) | assumption | (rw [bytesV, List.length_map]; assumption)) ?_
    | refine Tr.loadN _ rfl rfl rfl Try.underlying25 rfl Sz25 mM (by exact rfl) (by first | (simp [fb_length, pb_length, leb_length, hk, hsg, hd32, ht32]; done) | assumption | (rw [bytesV, List.length_map]; assumption)) ?_
  refine Tr.callV rfl rfl rfl rfl Body23 (curve_Read_some k A hk h1) (fun _ _ => trivial) ?_
  refine Tr.move rfl rfl rfl ?_
  refine Tr.extract rfl rfl rfl rfl ?_
  refine Tr.extract rfl rfl rfl rfl ?_
  refine Tr.alloc (cs := Point.zero.cells) rfl Point.zr rfl ?_
  intro n8 hn8 hf8
  refine Tr.storeAll rfl rfl rfl rfl (Point.isCell (by first | exact ptc_ok _ | exact wdc_ok _ | exact ⟨fb32 _, fb32 _⟩ | (simp [fb_length, pb_length, leb_length, hk, hsg, hd32, ht32]; done) | exact oK | exact Point.zero_ok | exact wide.zero_ok | exact secrets.zero_ok )) Sz32 (Point.length (by first | exact ptc_ok _ | exact wdc_ok _ | exact ⟨fb32 _, fb32 _⟩ | (simp [fb_length, pb_length, leb_length, hk, hsg, hd32, ht32]; done) | exact oK | exact Point.zero_ok | exact wide.zero_ok | exact secrets.zero_ok )) mM (Point.length (by first | exact ptc_ok _ | exact wdc_ok _ | exact ⟨fb32 _, fb32 _⟩ | (simp [fb_length, pb_length, leb_length, hk, hsg, hd32, ht32]; done) | exact oK | exact Point.zero_ok | exact wide.zero_ok | exact secrets.zero_ok )) uU ?_
  refine Tr.assign rfl rfl rfl ?_
  refine Tr.nil ?_
  refine at_n ?_
  refine Sat.seq ?_
  refine Sat.seq ?_
  refine Sat.region ?_
  refine Tr.move rfl rfl rfl ?_
  refine Tr.nei rfl rfl rfl rfl (show (!decide _) = false from congrArg not (decide_eq_true (rfl))) ?_
  refine Tr.nil ?_
  refine at_n ?_
  refine Sat.cond_f rfl (rfl) ?_
  refine Sat.skip ?_
  refine at_n ?_
  refine Sat.seq ?_
  refine Sat.region ?_
  refine Tr.sliceArrHi 32 rfl rfl rfl rfl rfl dE dE Try.underlying28 Sz5 ?_
  refine Tr.s2a rfl rfl rfl Try.underlying22 oM ?_
  refine Tr.loadN (bytesV (sg.take 32)) rfl rfl rfl Try.underlying22 rfl Sz22 mM (by rw [List.drop_zero, ← List.map_take]) (by rw [List.length_map]; exact ht32) ?_
  refine Tr.callV rfl rfl rfl rfl Body23 (curve_Read_some (sg.take 32) R ht32 h2) (fun _ _ => trivial) ?_
  refine Tr.move rfl rfl rfl ?_
  refine Tr.extract rfl rfl rfl rfl ?_
  refine Tr.extract rfl rfl rfl rfl ?_
  refine Tr.alloc (cs := Point.zero.cells) rfl Point.zr rfl ?_
  intro n10 hn10 hf10
  refine Tr.storeAll rfl rfl rfl rfl (Point.isCell (by first | exact ptc_ok _ | exact wdc_ok _ | exact ⟨fb32 _, fb32 _⟩ | (simp [fb_length, pb_length, leb_length, hk, hsg, hd32, ht32]; done) | exact oK | exact Point.zero_ok | exact wide.zero_ok | exact secrets.zero_ok )) Sz32 (Point.length (by first | exact ptc_ok _ | exact wdc_ok _ | exact ⟨fb32 _, fb32 _⟩ | (simp [fb_length, pb_length, leb_length, hk, hsg, hd32, ht32]; done) | exact oK | exact Point.zero_ok | exact wide.zero_ok | exact secrets.zero_ok )) mM (Point.length (by first | exact ptc_ok _ | exact wdc_ok _ | exact ⟨fb32 _, fb32 _⟩ | (simp [fb_length, pb_length, leb_length, hk, hsg, hd32, ht32]; done) | exact oK | exact Point.zero_ok | exact wide.zero_ok | exact secrets.zero_ok )) uU ?_
  refine Tr.assign rfl rfl rfl ?_
  refine Tr.nil ?_
  refine at_n ?_
  refine Sat.seq ?_
  refine Sat.seq ?_
  refine Sat.region ?_
  refine Tr.move rfl rfl rfl ?_
  refine Tr.nei rfl rfl rfl rfl (show (!decide _) = false from congrArg not (decide_eq_true (rfl))) ?_
  refine Tr.nil ?_
  refine at_n ?_
  refine Sat.cond_f rfl (rfl) ?_
  refine Sat.skip ?_
  refine at_n ?_
  refine Sat.seq ?_
  refine Sat.draw [(1, 0), (0, 2), (0, 3), (0, 4), (1, 7), (1, 10), (3, 1), (2, 5), (3, 6), (3, 8), (3, 9), (0, 11), (0, 12)] Mixed (by kernel_rfl) ?_
  first
    | refine Tr.loadAll rfl rfl rfl Try.underlying30 rfl Sz30 mM (by first | (simp [fb_length, pb_length, leb_length, hk, hsg, hd32, ht32]; done) | assumption | (rw [bytesV, List.length_map]; assumption)) ?_
    | refine Tr.loadN _ rfl rfl rfl Try.underlying30 rfl Sz30 mM (by exact rfl) (by first | (simp [fb_length, pb_length, leb_length, hk, hsg, hd32, ht32]; done) | assumption | (rw [bytesV, List.length_map]; assumption)) ?_
  refine Tr.sliceArrHi 32 rfl rfl rfl rfl rfl dE dE Try.underlying28 Sz5 ?_
  refine Tr.sliceArr rfl rfl rfl Try.underlying25 Sz5 ?_
  refine Tr.move rfl rfl rfl ?_
  refine Tr.loadAll rfl rfl rfl Try.underlying32 rfl Sz32 mM (Point.length (by first | exact ptc_ok _ | exact wdc_ok _ | exact ⟨fb32 _, fb32 _⟩ | (simp [fb_length, pb_length, leb_length, hk, hsg, hd32, ht32]; done) | exact oK | exact Point.zero_ok | exact wide.zero_ok | exact secrets.zero_ok )) ?_
  refine Tr.loadAll rfl rfl rfl Try.underlying32 rfl Sz32 mM (Point.length (by first | exact ptc_ok _ | exact wdc_ok _ | exact ⟨fb32 _, fb32 _⟩ | (simp [fb_length, pb_length, leb_length, hk, hsg, hd32, ht32]; done) | exact oK | exact Point.zero_ok | exact wide.zero_ok | exact secrets.zero_ok )) ?_
  refine Tr.callV rfl rfl rfl rfl Body25 (curve_Base) (fun _ _ => trivial) ?_
  refine Tr.mkRow2 (z := .slice none 0 0) [.slice (some ⟨n5, 0, none⟩) 32 64, .slice (some ⟨n3, 0, none⟩) 32 32, sb.v] [.slice (some ⟨n5, 0, none⟩) 32 64, .slice (some ⟨n3, 0, none⟩) 32 32, sb.v] rfl rfl Try.underlying62 Sz23 Zr23 rfl rfl (by intro v hv; simp only [List.mem_cons, List.not_mem_nil, or_false] at hv; rcases hv with rfl | rfl | rfl <;> rfl) dE rfl ?_
  intro q38
  refine Tr.callV rfl rfl rfl rfl Body17 (sign_residueR (some ⟨q38, 0, none⟩) 3 3 [⟨some ⟨n5, 0, none⟩, 32, 64⟩, ⟨some ⟨n3, 0, none⟩, 32, 32⟩, sb] [sg.take 32, k, bb] rfl rfl (fun j hj => (by
      rcases (show j = 0 ∨ j = 1 ∨ j = 2 by omega) with rfl | rfl | rfl
      · exact ⟨by show 32 = List.length _; exact ht32.symm, fun e => by cases e⟩
      · exact ⟨by show 32 = List.length _; exact hk.symm, fun e => by cases e⟩
      · exact ⟨by show sb.n = bb.length; exact hW.len.symm, fun e => by have h1 := hW.nil e; have h2 := hW.cap; show sb.n = 0; omega⟩)) (sg.take 32 ++ (k ++ bb)) sP (by simp [hsg, hk]; omega) dE s hs r hr) (fun w h => ⟨SeesP.of (sees_own h mM), (fun j hj => (by
      rcases (show j = 0 ∨ j = 1 ∨ j = 2 by omega) with rfl | rfl | rfl
      · exact SeesP.of (by have h9 := sees_own (cs := bytesV sg) h mM; exact fun i v hv => h9 i v (take_sees hv))
      · exact SeesP.of (sees_own (cs := bytesV k) h mM)
      · exact seesP_ext h rfl hW.see))⟩) ?_
  refine Tr.callV rfl rfl rfl rfl Body26 (curve_Neg A hA) (fun _ _ => trivial) ?_
  refine Tr.callV rfl rfl rfl rfl Body24 (hmul) (fun _ _ => trivial) ?_
  refine Tr.eql_rec rfl rfl rfl rfl Point.eg (fun w => Point.eq_runC (ptc_ok _) (ptc_ok _) w) (good_dec hc h1 h2 hQ) ?_
  refine Tr.assign rfl rfl rfl ?_
  refine Tr.nil ?_
  refine at_n ?_
  refine Sat.ret ?_
  refine en_r ?_
  refine ⟨_, [], res_tmp rfl rfl, sP, sP, ?_, rfl⟩
  rfl

theorem sign_Good (k : List UInt8) (hk : k.length = 32) (sb : Sl) (bb : List UInt8) (hbn : bb.length ≤ 80000) (sg : List UInt8) (hsg : sg.length = 64) : Meets Try.prog 10 [agg (bytesV k), sb.v, agg (bytesV sg)] [] (fun W => BytesAt W sb bb) (fun v out => v = .bool (goodB k bb sg) ∧ out = []) := by
  by_cases hc : le (sg.drop 32) < L
  · cases h1 : rdP k with
    | none =>
      rw [good_no (fun e => by obtain ⟨_, ⟨A, h⟩, _⟩ := e; rw [h1] at h; cases h)]
      exact sign_Good_k k hk sb bb hbn sg hsg hc h1
    | some A =>
      cases h2 : rdP (sg.take 32) with
      | none =>
        rw [good_no (fun e => by obtain ⟨_, _, ⟨R, h⟩⟩ := e; rw [h2] at h; cases h)]
        exact sign_Good_r k hk sb bb hbn sg hsg hc A h1 h2
      | some R => exact sign_Good_ok k hk sb bb hbn sg hsg hc A R h1 h2 _ _ ⟨rfl⟩ ⟨rfl⟩ (sgR_length _)
  · rw [good_no (fun e => hc e.1)]
    exact sign_Good_c k hk sb bb hbn sg hsg hc
noncomputable def validB (k : List UInt8) : Bool := match rdP k with
  | some P => !smallB P
  | none => false

set_option maxRecDepth 100000 in
set_option maxHeartbeats 1000000 in
theorem sign_Valid_n (k : List UInt8) (hk : k.length = 32) (h : rdP k = none) : Meets Try.prog 11 [agg (bytesV k)] [] (fun _ => True) (fun v out => v = .bool false ∧ out = []) := by
  intro W hW
  refine calls_of (hp0 := []) Try.func11 rfl 17 Try.ntmps11 rfl (HRep.nil _) ?_
  refine Sat.seq ?_
  refine Sat.region ?_
  refine Tr.boxA rfl rfl ?_
  intro n1 hn1 hf1
  refine Tr.assign rfl rfl rfl ?_
  refine Tr.nil ?_
  refine at_n ?_
  refine Sat.seq ?_
  refine Sat.region ?_
  first
    | refine Tr.loadAll rfl rfl rfl Try.underlying25 rfl Sz25 mM (by first | (simp [fb_length, pb_length, leb_length, hk]; done) | assumption | (rw [bytesV, List.length_map]; assumption)) ?_
    | refine Tr.loadN _ rfl rfl rfl Try.underlying25 rfl Sz25 mM (by exact rfl) (by first | (simp [fb_length, pb_length, leb_length, hk]; done) | assumption | (rw [bytesV, List.length_map]; assumption)) ?_
  refine Tr.callV rfl rfl rfl rfl Body23 (curve_Read_none k hk h) (fun _ _ => trivial) ?_
  refine Tr.move rfl rfl rfl ?_
  refine Tr.extract rfl rfl rfl rfl ?_
  refine Tr.extract rfl rfl rfl rfl ?_
  refine Tr.alloc (cs := Point.zero.cells) rfl Point.zr rfl ?_
  intro n3 hn3 hf3
  refine Tr.storeAll rfl rfl rfl rfl (Point.isCell (by first | exact ptc_ok _ | exact wdc_ok _ | exact ⟨fb32 _, fb32 _⟩ | (simp [fb_length, pb_length, leb_length, hk]; done) | exact oK | exact Point.zero_ok | exact wide.zero_ok | exact secrets.zero_ok )) Sz32 (Point.length (by first | exact ptc_ok _ | exact wdc_ok _ | exact ⟨fb32 _, fb32 _⟩ | (simp [fb_length, pb_length, leb_length, hk]; done) | exact oK | exact Point.zero_ok | exact wide.zero_ok | exact secrets.zero_ok )) mM (Point.length (by first | exact ptc_ok _ | exact wdc_ok _ | exact ⟨fb32 _, fb32 _⟩ | (simp [fb_length, pb_length, leb_length, hk]; done) | exact oK | exact Point.zero_ok | exact wide.zero_ok | exact secrets.zero_ok )) uU ?_
  refine Tr.assign rfl rfl rfl ?_
  refine Tr.nil ?_
  refine at_n ?_
  refine Sat.seq ?_
  refine Sat.region ?_
  refine Tr.move rfl rfl rfl ?_
  refine Tr.eqi rfl rfl rfl rfl (decide_eq_false dE) ?_
  refine Tr.move rfl rfl rfl ?_
  refine Tr.skp rfl rfl ?_
  refine Tr.skp rfl rfl ?_
  refine Tr.skp rfl rfl ?_
  refine Tr.pick rfl rfl rfl rfl rfl rfl ?_
  refine Tr.assign rfl rfl rfl ?_
  refine Tr.nil ?_
  refine at_n ?_
  refine Sat.ret ?_
  refine en_r ?_
  refine ⟨_, [], res_tmp rfl rfl, sP, sP, ?_, rfl⟩
  rfl

set_option maxRecDepth 100000 in
set_option maxHeartbeats 1000000 in
theorem sign_Valid_s (k : List UInt8) (hk : k.length = 32) (P : Pt Fp) (h : rdP k = some P) : Meets Try.prog 11 [agg (bytesV k)] [] (fun _ => True) (fun v out => v = .bool (!smallB P) ∧ out = []) := by
  intro W hW
  refine calls_of (hp0 := []) Try.func11 rfl 17 Try.ntmps11 rfl (HRep.nil _) ?_
  refine Sat.seq ?_
  refine Sat.region ?_
  refine Tr.boxA rfl rfl ?_
  intro n1 hn1 hf1
  refine Tr.assign rfl rfl rfl ?_
  refine Tr.nil ?_
  refine at_n ?_
  refine Sat.seq ?_
  refine Sat.region ?_
  first
    | refine Tr.loadAll rfl rfl rfl Try.underlying25 rfl Sz25 mM (by first | (simp [fb_length, pb_length, leb_length, hk]; done) | assumption | (rw [bytesV, List.length_map]; assumption)) ?_
    | refine Tr.loadN _ rfl rfl rfl Try.underlying25 rfl Sz25 mM (by exact rfl) (by first | (simp [fb_length, pb_length, leb_length, hk]; done) | assumption | (rw [bytesV, List.length_map]; assumption)) ?_
  refine Tr.callV rfl rfl rfl rfl Body23 (curve_Read_some k P hk h) (fun _ _ => trivial) ?_
  refine Tr.move rfl rfl rfl ?_
  refine Tr.extract rfl rfl rfl rfl ?_
  refine Tr.extract rfl rfl rfl rfl ?_
  refine Tr.alloc (cs := Point.zero.cells) rfl Point.zr rfl ?_
  intro n3 hn3 hf3
  refine Tr.storeAll rfl rfl rfl rfl (Point.isCell (by first | exact ptc_ok _ | exact wdc_ok _ | exact ⟨fb32 _, fb32 _⟩ | (simp [fb_length, pb_length, leb_length, hk]; done) | exact oK | exact Point.zero_ok | exact wide.zero_ok | exact secrets.zero_ok )) Sz32 (Point.length (by first | exact ptc_ok _ | exact wdc_ok _ | exact ⟨fb32 _, fb32 _⟩ | (simp [fb_length, pb_length, leb_length, hk]; done) | exact oK | exact Point.zero_ok | exact wide.zero_ok | exact secrets.zero_ok )) mM (Point.length (by first | exact ptc_ok _ | exact wdc_ok _ | exact ⟨fb32 _, fb32 _⟩ | (simp [fb_length, pb_length, leb_length, hk]; done) | exact oK | exact Point.zero_ok | exact wide.zero_ok | exact secrets.zero_ok )) uU ?_
  refine Tr.assign rfl rfl rfl ?_
  refine Tr.nil ?_
  refine at_n ?_
  refine Sat.seq ?_
  refine Sat.region ?_
  refine Tr.move rfl rfl rfl ?_
  refine Tr.eqi rfl rfl rfl rfl (decide_eq_true (rfl)) ?_
  refine Tr.move rfl rfl rfl ?_
  refine Tr.loadAll rfl rfl rfl Try.underlying32 rfl Sz32 mM (Point.length (by first | exact ptc_ok _ | exact wdc_ok _ | exact ⟨fb32 _, fb32 _⟩ | (simp [fb_length, pb_length, leb_length, hk]; done) | exact oK | exact Point.zero_ok | exact wide.zero_ok | exact secrets.zero_ok )) ?_
  refine Tr.callV rfl rfl rfl rfl Body27 (curve_Small P (rdP_on h)) (fun _ _ => trivial) ?_
  refine Tr.not rfl rfl rfl ?_
  refine Tr.pick rfl rfl rfl rfl rfl rfl ?_
  refine Tr.assign rfl rfl rfl ?_
  refine Tr.nil ?_
  refine at_n ?_
  refine Sat.ret ?_
  refine en_r ?_
  refine ⟨_, [], res_tmp rfl rfl, sP, sP, ?_, rfl⟩
  rfl

theorem sign_Valid (k : List UInt8) (hk : k.length = 32) : Meets Try.prog 11 [agg (bytesV k)] [] (fun _ => True) (fun v out => v = .bool (validB k) ∧ out = []) := by
  unfold validB
  cases h : rdP k with
  | none => exact sign_Valid_n k hk h
  | some P => exact sign_Valid_s k hk P h

end Go.Proofs.Ytmddgelpllffoaa
end

section
namespace Hw
open Go
set_option linter.unusedSimpArgs false
set_option linter.unusedVariables false
set_option maxRecDepth 100000

theorem leb_getD (k n i : Nat) (h : i < k) : (leb k n).getD i 0 = UInt8.ofNat (n / 256 ^ i) := by
  rw [List.getD_eq_getElem?_getD, leb_get k n i h]; rfl
end Hw
end

section
namespace Ed
open Hw Go
set_option linter.unusedVariables false

def BB : Nat := 115792089237316195423570985008687907853269984665640564039457584007913129639936
def pk (x y z t : Nat) : Nat := (x + BB * (y + BB * (z + BB * t))) + 1
def ux (s : Nat) : Nat := (s - 1) % BB
def uy (s : Nat) : Nat := (s - 1) / BB % BB
def uz (s : Nat) : Nat := (s - 1) / BB / BB % BB
def ut (s : Nat) : Nat := (s - 1) / BB / BB / BB
def wdN (s : Nat) : Wd Fp := ⟨fe (ux s), fe (uy s), fe (uz s), fe (ut s)⟩
def subN (a b : Nat) : Nat := (a + (PF - b % PF)) % PF
def finN (e f g h : Nat) : Nat := pk (e * f % PF) (g * h % PF) (f * g % PF) (e * h % PF)
def dblN (s : Nat) : Nat :=
  finN (subN (ux s * ux s + uy s * uy s) ((ux s + uy s) * (ux s + uy s))) ((uz s * uz s + uz s * uz s + subN (ux s * ux s) (uy s * uy s)) % PF) (subN (ux s * ux s) (uy s * uy s)) ((ux s * ux s + uy s * uy s) % PF)
def twoDN : Nat := 2 * fD.val
def addN (s p : Nat) : Nat :=
  finN (subN ((uy s + ux s) * (uy p + ux p)) (subN (uy s) (ux s) * subN (uy p) (ux p))) (subN (uz s * uz p + uz s * uz p) (ut s * twoDN % PF * ut p)) ((uz s * uz p + uz s * uz p + ut s * twoDN % PF * ut p) % PF) (((uy s + ux s) * (uy p + ux p) + subN (uy s) (ux s) * subN (uy p) (ux p)) % PF)
theorem fe_neg (n : Nat) : fe (PF - n % PF) = - fe n := by
  have h : fe (PF - n % PF) + fe n = 0 := by
    rw [← fe_add]
    refine Fin.ext ?_
    rw [fe_val]
    show _ = 0
    have h1 : n % PF < PF := Nat.mod_lt _ dE
    have e : (PF - n % PF + n) = PF * (n / PF + 1) := by
      have := Nat.mod_add_div n PF
      rw [Nat.mul_add, Nat.mul_one]
      generalize PF * (n / PF) = q at *
      omega
    rw [e, Nat.mul_mod_right]
  grind
theorem fe_subN (a b : Nat) : fe (subN a b) = fe a - fe b := by
  rw [subN, fe_mod, fe_add, fe_neg]; grind
theorem pk_lt (e : Nat) : e % PF < BB := Nat.lt_trans (Nat.mod_lt _ dE) dE
theorem wd_pk (x y z t : Nat) (hx : x < BB) (hy : y < BB) (hz : z < BB) : wdN (pk x y z t) = ⟨fe x, fe y, fe z, fe t⟩ := by
  have e1 : ux (pk x y z t) = x := by
    rw [ux, pk, Nat.add_sub_cancel, Nat.add_mul_mod_self_left, Nat.mod_eq_of_lt hx]
  have d1 : (pk x y z t - 1) / BB = y + BB * (z + BB * t) := by
    rw [pk, Nat.add_sub_cancel, Nat.add_mul_div_left _ _ dE, Nat.div_eq_of_lt hx, Nat.zero_add]
  have d2 : (pk x y z t - 1) / BB / BB = z + BB * t := by
    rw [d1, Nat.add_mul_div_left _ _ dE, Nat.div_eq_of_lt hy, Nat.zero_add]
  have e2 : uy (pk x y z t) = y := by rw [uy, d1, Nat.add_mul_mod_self_left, Nat.mod_eq_of_lt hy]
  have e3 : uz (pk x y z t) = z := by rw [uz, d2, Nat.add_mul_mod_self_left, Nat.mod_eq_of_lt hz]
  have e4 : ut (pk x y z t) = t := by rw [ut, d2, Nat.add_mul_div_left _ _ dE, Nat.div_eq_of_lt hz, Nat.zero_add]
  rw [wdN, e1, e2, e3, e4]
theorem wd_fin (e f g h : Nat) : wdN (finN e f g h) = Wd.fin (fe e) (fe f) (fe g) (fe h) := by
  rw [finN, wd_pk _ _ _ _ (pk_lt _) (pk_lt _) (pk_lt _)]
  simp only [Wd.fin, fe_mod, fe_mul]
theorem wd_dbl (s : Nat) : wdN (dblN s) = Wd.dbl (wdN s) := by
  rw [dblN, wd_fin]
  simp only [Wd.dbl, wdN, fe_subN, fe_mod, fe_add, fe_mul]
theorem fe_twoD : fe twoDN = fD + fD := by
  rw [twoDN, Nat.two_mul, fe_add, fe_of]
theorem wd_add (s p : Nat) : wdN (addN s p) = Wd.add fD (wdN s) (wdN p) := by
  rw [addN, wd_fin]
  simp only [Wd.add, wdN, fe_subN, fe_mod, fe_add, fe_mul, fe_twoD]
def force (s : Nat) (f : Nat → Nat) : Nat := Nat.casesOn (motive := fun _ => Nat) s (f 0) (fun m => f (m + 1))
theorem force_eq (s : Nat) (f : Nat → Nat) : force s f = f s := by cases s <;> rfl
def stepN (p : Nat) (s : Nat) (b : Bool) : Nat := force s fun s => bif b then addN (dblN s) p else dblN s
def loopN (p : Nat) (bs : List Bool) (s : Nat) : Nat := bs.foldl (stepN p) s
theorem stepN_t (p s : Nat) : stepN p s true = addN (dblN s) p := by rw [stepN, force_eq]; rfl
theorem stepN_f (p s : Nat) : stepN p s false = dblN s := by rw [stepN, force_eq]; rfl
theorem loopN_eq (p : Nat) (bs : List Bool) : ∀ s : Nat, wdN (loopN p bs s) = mulW fD (wdN p) bs (wdN s) := by
  induction bs with
  | nil => intro s; rfl
  | cons b bs ih =>
    intro s
    rw [loopN, List.foldl_cons, ← loopN, ih]
    cases b
    · rw [stepN_f, wd_dbl, mulW_f]
    · rw [stepN_t, wd_add, wd_dbl, mulW_t]
/-- the base point, packed -/
def bN : Nat := pk bP.x.val bP.y.val 1 (bP.x * bP.y).val
theorem bN_wd : wdN bN = Wd.of bP := by
  rw [bN, wd_pk _ _ _ _ (Nat.lt_trans bP.x.isLt dE) (Nat.lt_trans bP.y.isLt dE) dE, fe_of, fe_of, fe_of]
  rfl
def zN : Nat := pk 0 1 1 0
theorem zN_wd : wdN zN = Wd.of zero := by
  rw [zN, wd_pk _ _ _ _ dE dE dE]
  have e : (Wd.of zero : Wd Fp) = ⟨0, 1, 1, 0 * 1⟩ := rfl
  rw [e]
  have h : (0 : Fp) * 1 = 0 := by kernel_rfl
  rw [h]; rfl
/-- n times the base point, packed -/
def fastN (n : Nat) : Nat := loopN bN (toBits 256 n) zN
theorem fastN_rep {n : Nat} (hn : n < 2 ^ 256) : (wdN (fastN n)).rep (cv.mul n bP) := by
  have h0 : (wdN zN).rep (cv.mul 0 bP) := by rw [zN_wd]; exact cv.rep_of zero
  have h := cv.mulW_rep bP_on (cv.rep_of bP) (toBits 256 n) (wdN zN) 0 h0
  rw [toBits_v, Nat.zero_mul, Nat.zero_add, Nat.mod_eq_of_lt hn] at h
  have e : wdN (fastN n) = mulW cv.d (Wd.of bP) (toBits 256 n) (wdN zN) := by
    rw [fastN, loopN_eq, bN_wd]; rfl
  rw [e]; exact h
theorem fastN_pt {n : Nat} (hn : n < 2 ^ 256) {X Y : Fp} (hx : (wdN (fastN n)).x * finv (wdN (fastN n)).z = X) (hy : (wdN (fastN n)).y * finv (wdN (fastN n)).z = Y) : cv.mul n bP = ⟨X, Y⟩ := by
  have h : (⟨(wdN (fastN n)).x * finv (wdN (fastN n)).z, (wdN (fastN n)).y * finv (wdN (fastN n)).z⟩ : Pt Fp) = cv.mul n bP := cv.rep_pt (fastN_rep hn)
  rw [hx, hy] at h
  exact h.symm
theorem order_x : ux (fastN L) % PF = 0 := by kernel_rfl
theorem order_y : uy (fastN L) = uz (fastN L) := by kernel_rfl
theorem bP_order : cv.mul L bP = zero := by
  have h := fastN_rep (n := L) dE
  have h1 : fe (ux (fastN L)) = (cv.mul L bP).x * fe (uz (fastN L)) := h.x
  have h2 : fe (uy (fastN L)) = (cv.mul L bP).y * fe (uz (fastN L)) := h.y
  have h3 : fe (uz (fastN L)) ≠ 0 := h.z
  have hx : fe (ux (fastN L)) = 0 := Fin.ext order_x
  rw [hx] at h1
  rw [order_y] at h2
  generalize fe (uz (fastN L)) = z at *
  generalize cv.mul L bP = Q at *
  obtain ⟨x, y⟩ := Q
  simp only at h1 h2
  have e1 : x = 0 := by
    rcases cv.zero_or h1.symm with e | e
    · exact e
    · exact absurd e h3
  have e2 : y = 1 := by
    refine cv.cancel h3 ?_
    have e3 : z * y = y * z := by grind
    have e4 : z * 1 = z := by grind
    rw [e3, e4]; exact h2.symm
  rw [e1, e2]; rfl
theorem fp_cases {a : Fp} (h : a * a = 1) : a = 1 ∨ a = -1 := by
  have h1 : (a - 1) * (a + 1) = 0 := by grind
  rcases cv.zero_or h1 with e | e
  · exact .inl (by grind)
  · exact .inr (by grind)
theorem sq_cases {a b : Fp} (h : a * a = b * b) : a = b ∨ a = -b := by
  have h1 : (a - b) * (a + b) = 0 := by grind
  rcases cv.zero_or h1 with e | e
  · exact .inl (by grind)
  · exact .inr (by grind)
def unit2 : Fp := fpow (fe 2) ((PF - 1) / 4)
theorem unit2_sq : unit2 * unit2 = -1 := by kernel_rfl
theorem fpow_one' (a : Fp) : fpow a 1 = a := by
  rw [show (1 : Nat) = 0 + 1 from rfl, fpow_succ dE, fpow_zero]; grind
theorem fpow_sq2 (x : Fp) : x * x = fpow x 2 := by
  rw [show (2 : Nat) = 2 * 1 from rfl, fpow_two dE, fpow_one']
theorem root_pow (x : Fp) : fpow (x * x) ((PF + 3) / 8) * fpow (x * x) ((PF + 3) / 8) = x * x * fpow x ((PF - 1) / 2) := by
  rw [← fpow_two dE, fpow_sq2, fpow_mul dE dE dE, ← fpow_add dE]
  rfl
theorem half_cases {x : Fp} (h : x ≠ 0) : fpow x ((PF - 1) / 2) = 1 ∨ fpow x ((PF - 1) / 2) = -1 := by
  refine fp_cases ?_
  rw [← fpow_two dE]
  exact ferm h
theorem fRoot1_sq (x : Fp) : fRoot1 (x * x) * fRoot1 (x * x) = x * x := by
  have h0 := root_pow x
  have hu := unit2_sq
  unfold fRoot1
  change (if fpow (x * x) ((PF + 3) / 8) * fpow (x * x) ((PF + 3) / 8) = x * x then fpow (x * x) ((PF + 3) / 8) else fpow (x * x) ((PF + 3) / 8) * unit2) * (if fpow (x * x) ((PF + 3) / 8) * fpow (x * x) ((PF + 3) / 8) = x * x then fpow (x * x) ((PF + 3) / 8) else fpow (x * x) ((PF + 3) / 8) * unit2) = x * x
  have hc : fpow (x * x) ((PF + 3) / 8) * fpow (x * x) ((PF + 3) / 8) = x * x ∨ fpow (x * x) ((PF + 3) / 8) * fpow (x * x) ((PF + 3) / 8) = -(x * x) := by
    by_cases hx : x = 0
    · left
      rw [h0, hx]; grind
    · rcases half_cases hx with e | e
      · left; rw [h0, e]; grind
      · right; rw [h0, e]; grind
  revert hc
  generalize fpow (x * x) ((PF + 3) / 8) = r
  generalize unit2 = u at *
  intro hc
  clear h0
  by_cases h1 : r * r = x * x
  · rw [if_pos h1]; exact h1
  · rw [if_neg h1]
    rcases hc with e | e
    · exact absurd e h1
    · have : r * u * (r * u) = r * r * (u * u) := by grind
      rw [this, e, hu]; grind
theorem val_neg {x : Fp} (h : x ≠ 0) : (-x).val + x.val = PF := by
  have h1 : fe ((-x).val + x.val) = 0 := by
    rw [fe_add, fe_of, fe_of]; grind
  have h2 : ((-x).val + x.val) % PF = 0 := congrArg Fin.val h1
  have h3 := (-x).isLt
  have h4 := x.isLt
  have h5 : x.val ≠ 0 := fun e => h (Fin.ext e)
  have h6 : PF ∣ (-x).val + x.val := Nat.dvd_of_mod_eq_zero h2
  obtain ⟨k, hk⟩ := h6
  generalize (-x).val = a at *
  generalize x.val = b at *
  clear h h1 h2
  have hP : 0 < PF := by decide
  generalize PF = q at *
  have h7 : k = 1 := by
    rcases Nat.lt_or_ge k 1 with h | h
    · obtain rfl : k = 0 := by omega
      rw [Nat.mul_zero] at hk; omega
    · rcases Nat.lt_or_ge 1 k with h9 | h9
      · have : q * 2 ≤ q * k := Nat.mul_le_mul_left _ h9
        omega
      · omega
  rw [h7, Nat.mul_one] at hk
  exact hk
theorem neg_neg' (x : Fp) : - -x = x := by grind
/-- the even one of x and -x -/
theorem fRoot_eq (x : Fp) : fRoot (x * x) = ((if x.val % 2 = 1 then -x else x), true) := by
  have h1 := fRoot1_sq x
  have h2 := sq_cases h1
  unfold fRoot
  generalize fRoot1 (x * x) = r at *
  rw [if_pos h1]
  congr 1
  by_cases hx : x = 0
  · have : r = 0 := by rcases h2 with e | e <;> rw [e, hx] <;> grind
    rw [this, hx]
  · have hv := val_neg hx
    have hodd : PF % 2 = 1 := by decide
    rcases h2 with e | e
    · rw [e]
    · rw [e]
      have hn : -x ≠ 0 := fun e2 => hx (by grind)
      by_cases h3 : x.val % 2 = 1
      · rw [if_pos h3, if_neg oM]
      · rw [if_neg h3, if_pos oM, neg_neg']
theorem on_xsq {x y : Fp} (h : cv.on ⟨x, y⟩) : (y * y - 1) * finv (fD * (y * y) + 1) = x * x := by
  have h1 := finv_mul (cv.below_ne y)
  have h2 := (cv.on_iff ⟨x, y⟩).1 h
  have h3 : y * y - x * x = 1 + fD * (x * x * (y * y)) := h2
  have h4 : (cv.d * (y * y) + 1) * finv (cv.d * (y * y) + 1) = 1 := h1
  change (fD * (y * y) + 1) * finv (fD * (y * y) + 1) = 1 at h4
  generalize finv (fD * (y * y) + 1) = u at *
  generalize fD = d at *
  have h5 : y * y - 1 = x * x * (d * (y * y) + 1) := by grind
  rw [h5]
  have : x * x * (d * (y * y) + 1) * u = x * x * ((d * (y * y) + 1) * u) := by grind
  rw [this, h4]; grind
theorem xOf_eq {x y : Fp} (h : cv.on ⟨x, y⟩) : xOf y = ((if x.val % 2 = 1 then -x else x), true) := by
  rw [xOf, on_xsq h, fRoot_eq]
theorem fb_top (x : Fp) : ((fb x).getD 31 0).toNat < 128 := by
  have h : (fb x).getD 31 0 = UInt8.ofNat (x.val / 256 ^ 31) := leb_getD 32 x.val 31 dE
  have h1 := x.isLt
  have h2 : x.val / 256 ^ 31 < 128 := by
    rw [Nat.div_lt_iff_lt_mul dE]
    exact Nat.lt_of_lt_of_le h1 dE
  rw [h, UInt8.toNat_ofNat']
  omega
theorem byte_clear : ∀ b : UInt8, b.toNat < 128 → (b &&& 127) = b ∧ ((b ||| 128) &&& 127) = b ∧ (b &&& 128) = 0 ∧ ((b ||| 128) &&& 128) = 128 := by
  intro b hb
  have h : ∀ n, n < 128 → ((UInt8.ofNat n) &&& 127) = UInt8.ofNat n ∧ ((UInt8.ofNat n ||| 128) &&& 127) = UInt8.ofNat n ∧ (UInt8.ofNat n &&& 128) = 0 ∧ ((UInt8.ofNat n ||| 128) &&& 128) = 128 := by decide
  have h2 := h b.toNat hb
  rwa [UInt8.ofNat_toNat] at h2
theorem set_same (l : List UInt8) (i : Nat) (hi : i < l.length) : l.set i (l.getD i 0) = l := by
  apply List.ext_getElem sP
  intro j h1 h2
  rw [List.getElem_set]
  split
  · rename_i e
    subst e
    rw [List.getD_eq_getElem?_getD, List.getElem?_eq_getElem hi]; rfl
  · rfl
theorem getD_set (l : List UInt8) (i : Nat) (v : UInt8) (hi : i < l.length) : (l.set i v).getD i 0 = v := by
  rw [List.getD_eq_getElem?_getD, List.getElem?_set_self hi, Option.getD_some]
theorem lowB_pb (P : Pt Fp) : lowB (pb P) = fb P.y := by
  have h := byte_clear _ (fb_top P.y)
  have hl := fb_length P.y
  unfold lowB pb
  split
  · rw [getD_set _ _ _ oM, h.2.1, List.set_set, set_same _ _ oM]
  · rw [h.1, set_same _ _ oM]
theorem topB_pb (P : Pt Fp) : topB (pb P) = decide (P.x.val % 2 = 1) := by
  have h := byte_clear _ (fb_top P.y)
  have hl := fb_length P.y
  unfold topB pb
  split
  · rename_i e
    rw [getD_set _ _ _ oM, h.2.2.2, decide_eq_true e]; rfl
  · rename_i e
    rw [h.2.2.1, decide_eq_false e]; rfl
theorem rdP_pb {P : Pt Fp} (h : cv.on P) : rdP (pb P) = some P := by
  obtain ⟨x, y⟩ := P
  have hx := xOf_eq h
  unfold rdP
  rw [lowB_pb, topB_pb, fe_fb, if_pos rfl, hx]
  simp only
  by_cases h1 : x.val % 2 = 1
  · have hx0 : x ≠ 0 := fun e => by rw [e] at h1; revert h1; decide
    have hn : -x ≠ 0 := fun e2 => hx0 (by grind)
    rw [if_pos h1, if_pos ⟨trivial, fun e => hn e.2⟩, if_pos (decide_eq_true h1), neg_neg']
  · rw [if_neg h1, if_pos ⟨trivial, fun e => h1 (of_decide_eq_true e.1)⟩, if_neg (fun e => h1 (of_decide_eq_true e))]
end Ed
end

section
namespace Go.Proofs.Ytmddgelpllffoaa
open Go Hw Ed
set_option linter.unusedVariables false
set_option maxRecDepth 100000
theorem clamp_lo (b : UInt8) : (b &&& 248).toNat % 8 = 0 := by
  have h : ∀ n : _root_.Fin 256, ((UInt8.ofNat n.val) &&& 248).toNat % 8 = 0 := by decide
  have h2 := h ⟨b.toNat, b.toNat_lt⟩
  rwa [UInt8.ofNat_toNat] at h2
theorem clamp_hi (b : UInt8) : 64 ≤ ((b &&& 127) ||| 64).toNat ∧ ((b &&& 127) ||| 64).toNat < 128 := by
  have h : ∀ n : _root_.Fin 256, 64 ≤ (((UInt8.ofNat n.val) &&& 127) ||| 64).toNat ∧ (((UInt8.ofNat n.val) &&& 127) ||| 64).toNat < 128 := by decide
  have h2 := h ⟨b.toNat, b.toNat_lt⟩
  rwa [UInt8.ofNat_toNat] at h2
theorem le_last {l : List UInt8} {v : UInt8} (h : l.length = 32) : le (l.set 31 v) = le (l.take 31) + 256 ^ 31 * v.toNat := by
  have e : l.set 31 v = l.take 31 ++ [v] := by
    apply List.ext_getElem (by simp [h])
    intro i h1 h2
    rw [List.getElem_set, List.getElem_append]
    split
    · rename_i e
      subst e
      simp [h]
    · rename_i e
      have h3 : i < 31 := by simp [h] at h1; omega
      simp [h, h3]
  rw [e, le_append, List.length_take, h]
  show le (l.take 31) + 256 ^ 31 * (v.toNat + 256 * 0) = _
  rw [Nat.mul_zero, Nat.add_zero]
theorem le_first {l : List UInt8} {v : UInt8} (h : 0 < l.length) : le (l.set 0 v) = v.toNat + 256 * le (l.drop 1) := by
  cases l with
  | nil => cases h
  | cons a l => rfl
theorem take_set0 (l : List UInt8) (v : UInt8) : (l.set 0 v).take 31 = (l.take 31).set 0 v := by rw [List.take_set]
theorem clamp_num {l : List UInt8} (h : l.length = 32) : ∃ j, le (clampB l) = 8 * j ∧ 2 ^ 251 ≤ j ∧ j < 2 ^ 252 := by
  have h1 := clamp_lo (l.getD 0 0)
  have h2 := clamp_hi (l.getD 31 0)
  have h3 : (l.take 31).length = 31 := by rw [List.length_take, h]; rfl
  have h4 := le_lt ((l.take 31).drop 1)
  have h6 := ((l.getD 0 0) &&& 248).toNat_lt
  have h5 : ((l.take 31).drop 1).length = 30 := by rw [List.length_drop, h3]
  rw [h5] at h4
  unfold clampB
  rw [le_last (by rw [List.length_set, h]), take_set0, le_first oM]
  generalize le ((l.take 31).drop 1) = x at *
  generalize ((l.getD 0 0) &&& 248).toNat = y at *
  generalize (((l.getD 31 0) &&& 127) ||| 64).toNat = z at *
  clear h3 h5
  have e1 : (256 : Nat) ^ 31 = 452312848583266388373324160190187140051835877600158453279131187530910662656 := by decide
  have e2 : (256 : Nat) ^ 30 = 1766847064778384329583297500742918515827483896875618958121606201292619776 := by decide
  have e3 : (2 : Nat) ^ 251 = 3618502788666131106986593281521497120414687020801267626233049500247285301248 := by decide
  have e4 : (2 : Nat) ^ 252 = 7237005577332262213973186563042994240829374041602535252466099000494570602496 := by decide
  rw [e1, e3, e4]
  rw [e2] at h4
  exact ⟨y / 8 + 32 * x + 56539106072908298546665520023773392506479484700019806659891398441363832832 * z, by omega, by omega, by omega⟩
theorem L_prm : Prm L := prm_order
theorem bP_y1 : Nat.beq bP.y.val 1 = false := by kernel_rfl
theorem bP_ne : bP ≠ zero := fun e => by
  have h : bP.y.val = 1 := by rw [e]; rfl
  have h2 := bP_y1
  rw [h] at h2
  cases h2
theorem order_gen {P : Pt Fp} (hP : cv.on P) {q : Nat} (hL : Prm q) (ho : cv.mul q P = zero) (hne : P ≠ zero) {m : Nat} (h : cv.mul m P = zero) : q ∣ m := by
  refine Classical.byContradiction fun hn => hne ?_
  have h1 := hL.fermat hn
  have h2 : cv.mul (m ^ (q - 1) % q) P = cv.mul (m ^ (q - 1)) P := cv.mul_order hP ho _
  rw [h1, cv.mul_one] at h2
  rw [h2]
  have e : m ^ (q - 1) = m ^ (q - 2) * m := by
    rw [← Nat.pow_succ]
    congr 1
    have := hL.1
    omega
  rw [e, cv.mul_mul hP, h, cv.mul_zero]
theorem order_dvd {m : Nat} (h : cv.mul m bP = zero) : L ∣ m := order_gen bP_on L_prm bP_order bP_ne h
theorem L_odd1 : Nat.gcd 64 L = 1 := by kernel_rfl
theorem L_odd : Nat.Coprime 64 L := L_odd1
theorem L_big : Nat.ble (2 ^ 252) L = true := by kernel_rfl
theorem order_abs {M a b q j : Nat} (hc : Nat.Coprime 64 M) (hb : b ≤ M) (ha : 0 < a) (h2 : a ≤ j) (h3 : j < b) (hq : 8 * (8 * j) = M * q) : False := by
  have h : 64 ∣ M * q := ⟨j, by omega⟩
  obtain ⟨c, hc⟩ := Nat.Coprime.dvd_of_dvd_mul_left hc h
  have e : M * q = 64 * (M * c) := by rw [hc, Nat.mul_left_comm]
  have e2 : j = M * c := by omega
  cases c with
  | zero => rw [Nat.mul_zero] at e2; omega
  | succ c =>
    rw [Nat.mul_succ] at e2
    generalize M * c = x at *
    omega
theorem order_no {q j : Nat} (h2 : 2 ^ 251 ≤ j) (h3 : j < 2 ^ 252) (hq : 8 * (8 * j) = L * q) : False :=
  order_abs L_odd (Nat.le_of_ble_eq_true L_big) (Nat.pow_pos dE) h2 h3 hq
theorem clamp_big {n j : Nat} (h1 : n = 8 * j) (h2 : 2 ^ 251 ≤ j) (h3 : j < 2 ^ 252) : cv.mul 8 (cv.mul n bP) ≠ zero := by
  intro e
  have e2 := (cv.mul_mul bP_on 8 n).trans e
  obtain ⟨q, hq⟩ := order_dvd e2
  rw [h1] at hq
  exact order_no h2 h3 hq
theorem clamp_small {l : List UInt8} (h : l.length = 32) : smallB (cv.mul (le (clampB l)) bP) = false := by
  obtain ⟨j, h1, h2, h3⟩ := clamp_num h
  unfold smallB
  simp only [decide_eq_false_iff_not]
  exact clamp_big h1 h2 h3
theorem sgK_read (s : List UInt8) : rdP (sgK s) = some (cv.mul (le (clampB (s.take 32))) bP) := rdP_pb (cv.on_mul bP_on _)
theorem sgF_read (s : List UInt8) : rdP (sgF s) = some (cv.mul (le (sgR s)) bP) := rdP_pb (cv.on_mul bP_on _)
theorem valid_self {s : List UInt8} (h : 32 ≤ s.length) : validB (sgK s) = true := by
  rw [validB, sgK_read]
  show (!smallB _) = true
  rw [clamp_small (by rw [List.length_take]; omega)]; rfl
theorem sgS_lt (s s1 s2 : List UInt8) : le (sgS s s1 s2) < L := by
  have h := Nat.mod_lt (le (sgR s2) * le (clampB (s.take 32)) + le (sgR s1)) L_pos
  rw [sgS, le_leb32 (Nat.lt_trans h L_lt)]; exact h
theorem sgS_eq (s s1 s2 : List UInt8) : le (sgS s s1 s2) = (le (sgR s2) * le (clampB (s.take 32)) + le (sgR s1)) % L := by
  have h := Nat.mod_lt (le (sgR s2) * le (clampB (s.take 32)) + le (sgR s1)) L_pos
  rw [sgS, le_leb32 (Nat.lt_trans h L_lt)]
theorem lin_self (k n r : Nat) : cv.lin ((k * n + r) % L) k bP (neg (cv.mul n bP)) = cv.mul r bP := by
  have hn := cv.on_mul bP_on n
  have hk := cv.on_mul hn k
  have hr := cv.on_mul bP_on r
  rw [Cv.lin, cv.mul_order bP_on bP_order, Nat.add_comm, cv.mul_add bP_on, cv.mul_mul bP_on, cv.mul_neg hn, cv.add_assoc hr hk (cv.on_neg hk), cv.add_neg hk, cv.add_zero]
theorem sg_take (s s1 s2 : List UInt8) : (sgF s1 ++ sgS s s1 s2).take 32 = sgF s1 := by
  rw [List.take_left' (sgF_length s1)]
theorem sg_drop (s s1 s2 : List UInt8) : (sgF s1 ++ sgS s s1 s2).drop 32 = sgS s s1 s2 := by
  rw [List.drop_left' (sgF_length s1)]
theorem good_self (s s1 bb : List UInt8) {s2 : List UInt8} (h : sha512 (sgF s1 ++ (sgK s ++ bb)) = s2) : goodB (sgK s) bb (sgF s1 ++ sgS s s1 s2) = true := by
  unfold goodB
  simp only [decide_eq_true_eq]
  rw [sg_take, sg_drop, h]
  refine ⟨sgS_lt s s1 s2, _, _, sgK_read s, sgF_read s1, ?_⟩
  rw [sgS_eq]
  exact lin_self _ _ _
end Go.Proofs.Ytmddgelpllffoaa
end

section
namespace Go.Proofs.Ytmddgelpllffoaa
open Go Hw Ed
set_option linter.unusedVariables false
def affX (n : Nat) : Nat := force (fastN n) fun s => ux s * pwm PF 256 (uz s % PF) (PF - 2) % PF
def affY (n : Nat) : Nat := force (fastN n) fun s => uy s * pwm PF 256 (uz s % PF) (PF - 2) % PF
theorem fast_at {n X Y : Nat} (hn : n < 2 ^ 256) (hx : affX n = X) (hy : affY n = Y) : cv.mul n bP = ⟨fe X, fe Y⟩ := by
  refine fastN_pt hn ?_ ?_
  · rw [← hx, affX, force_eq, fe_mod, fe_mul]; rfl
  · rw [← hy, affY, force_eq, fe_mod, fe_mul]; rfl
theorem same_mul {a b : Nat} (h : cv.mul a bP = cv.mul b bP) : L ∣ a + (L - b % L) := by
  refine order_dvd ?_
  have hb : cv.mul (b % L) bP = cv.mul b bP := cv.mul_order bP_on bP_order b
  have hL := Nat.mod_lt b L_pos
  rw [cv.mul_add bP_on, h, ← hb, ← cv.mul_add bP_on, Nat.add_sub_cancel' (Nat.le_of_lt hL)]
  exact bP_order
theorem lin_same {S c n r : Nat} (h : cv.lin S c bP (neg (cv.mul n bP)) = cv.mul r bP) : L ∣ S + (L - (c * n + r) % L) := by
  refine same_mul ?_
  have hn := cv.on_mul bP_on n
  have hk := cv.on_mul hn c
  have hS := cv.on_mul bP_on S
  have h2 := congrArg (cv.add (cv.mul c (cv.mul n bP))) h
  rw [Cv.lin, cv.mul_neg hn, cv.add_comm, cv.add_assoc hS (cv.on_neg hk) hk, cv.add_comm (neg _), cv.add_neg hk, cv.add_zero, ← cv.mul_mul bP_on, ← cv.mul_add bP_on] at h2
  exact h2
theorem good_other {s s1 sg bb : List UInt8} {n r S c : Nat} (h1 : sg.take 32 = sgF s1) (h2 : le (clampB (s.take 32)) = n) (h3 : le (sgR s1) = r) (h4 : le (sg.drop 32) = S) (h5 : le (sgR (sha512 (sg.take 32 ++ (sgK s ++ bb)))) = c) (h : ¬ L ∣ S + (L - (c * n + r) % L)) : goodB (sgK s) bb sg = false := by
  unfold goodB
  simp only [decide_eq_false_iff_not]
  rintro ⟨_, A, R, e1, e2, e3⟩
  rw [sgK_read] at e1
  rw [h1, sgF_read] at e2
  rw [h5, h4] at e3
  rw [← Option.some.inj e1, ← Option.some.inj e2, h2, h3] at e3
  exact h (lin_same e3)

def rfcB : List UInt8 := [157, 97, 177, 157, 239, 253, 90, 96, 186, 132, 74, 244, 146, 236, 44, 196, 68, 73, 197, 105, 123, 50, 105, 25, 112, 59, 172, 3, 28, 174, 127, 96]
def rfcH : List UInt8 := [53, 124, 131, 134, 79, 40, 51, 203, 66, 122, 46, 241, 192, 10, 1, 60, 253, 255, 39, 104, 217, 128, 192, 163, 165, 32, 240, 6, 144, 77, 233, 15, 155, 79, 10, 254, 40, 11, 116, 106, 119, 134, 132, 231, 84, 66, 80, 32, 87, 183, 71, 58, 3, 240, 143, 150, 245, 163, 142, 146, 135, 224, 31, 143]
def rfcN : List UInt8 := [48, 124, 131, 134, 79, 40, 51, 203, 66, 122, 46, 241, 192, 10, 1, 60, 253, 255, 39, 104, 217, 128, 192, 163, 165, 32, 240, 6, 144, 77, 233, 79]
def rfcH1 : List UInt8 := [182, 177, 156, 216, 224, 66, 111, 89, 131, 250, 17, 45, 137, 161, 67, 170, 151, 218, 184, 188, 93, 235, 141, 91, 98, 83, 201, 40, 182, 82, 114, 244, 4, 64, 152, 194, 169, 144, 3, 156, 222, 91, 106, 72, 24, 223, 11, 251, 110, 64, 220, 93, 238, 84, 36, 128, 50, 150, 35, 35, 231, 1, 53, 45]
def rfcH2 : List UInt8 := [39, 113, 6, 43, 107, 83, 111, 231, 255, 189, 218, 3, 32, 195, 130, 123, 3, 93, 241, 13, 40, 77, 243, 240, 130, 34, 240, 77, 188, 167, 164, 194, 14, 241, 91, 220, 152, 138, 34, 199, 32, 116, 17, 55, 124, 51, 242, 172, 9, 177, 232, 106, 4, 98, 52, 40, 55, 104, 238, 123, 160, 60, 14, 159]
def rfcH3 : List UInt8 := [158, 160, 243, 89, 203, 235, 244, 70, 47, 55, 100, 199, 166, 28, 120, 236, 128, 179, 96, 149, 52, 157, 175, 64, 13, 11, 68, 36, 167, 86, 226, 5, 67, 166, 203, 185, 175, 137, 57, 45, 198, 26, 103, 8, 15, 128, 113, 203, 241, 130, 59, 214, 99, 117, 76, 29, 169, 195, 188, 198, 22, 5, 86, 177]
def rfcK : List UInt8 := [215, 90, 152, 1, 130, 177, 10, 183, 213, 75, 254, 211, 201, 100, 7, 58, 14, 225, 114, 243, 218, 166, 35, 37, 175, 2, 26, 104, 247, 7, 81, 26]
def rfcF : List UInt8 := [229, 86, 67, 0, 195, 96, 172, 114, 144, 134, 226, 204, 128, 110, 130, 138, 132, 135, 127, 30, 184, 229, 217, 116, 216, 115, 224, 101, 34, 73, 1, 85]
def rfcS : List UInt8 := [229, 86, 67, 0, 195, 96, 172, 114, 144, 134, 226, 204, 128, 110, 130, 138, 132, 135, 127, 30, 184, 229, 217, 116, 216, 115, 224, 101, 34, 73, 1, 85, 95, 184, 130, 21, 144, 163, 59, 172, 198, 30, 57, 112, 28, 249, 180, 107, 210, 91, 245, 240, 89, 91, 190, 36, 101, 81, 65, 67, 142, 122, 16, 11]
theorem rfc_h : sha512 rfcB = rfcH := by kernel_rfl
theorem rfc_n : clampB (rfcH.take 32) = rfcN := by kernel_rfl
theorem rfc_n1 : le rfcN = 36144925721603087658594284515452164870581325872720374094707712194495455132720 := by kernel_rfl
theorem rfc_h1 : sha512 (rfcH.drop 32 ++ []) = rfcH1 := by kernel_rfl
theorem rfc_r1 : le (sgR rfcH1) = 2015312323900227545039973048451112962192803170366412514267238242679089760755 := by kernel_rfl
theorem rfc_kp : cv.mul 36144925721603087658594284515452164870581325872720374094707712194495455132720 bP = ⟨fe 38815646466658113194383306759739515082307681141926459231621296960732224964046, fe 11903303657706407974989296177215005343713679411332034699907763981919547054807⟩ := fast_at dE (by kernel_rfl) (by kernel_rfl)
theorem rfc_fp : cv.mul 2015312323900227545039973048451112962192803170366412514267238242679089760755 bP = ⟨fe 44370630452101398467924320556439323233869374150616132215183787387252341590058, fe 38448863731492799660668882834560725606410712239157980760146247592118262650597⟩ := fast_at dE (by kernel_rfl) (by kernel_rfl)
theorem rfc_kb : pb ⟨fe 38815646466658113194383306759739515082307681141926459231621296960732224964046, fe 11903303657706407974989296177215005343713679411332034699907763981919547054807⟩ = rfcK := by kernel_rfl
theorem rfc_fb : pb ⟨fe 44370630452101398467924320556439323233869374150616132215183787387252341590058, fe 38448863731492799660668882834560725606410712239157980760146247592118262650597⟩ = rfcF := by kernel_rfl
theorem rfc_k : sgK rfcH = rfcK := by rw [sgK, rfc_n, rfc_n1, rfc_kp, rfc_kb]
theorem rfc_f : sgF rfcH1 = rfcF := by rw [sgF, rfc_r1, rfc_fp, rfc_fb]
theorem rfc_h2 : sha512 (rfcF ++ (rfcK ++ [])) = rfcH2 := by kernel_rfl
theorem rfc_h3 : sha512 (rfcF ++ (rfcK ++ [1])) = rfcH3 := by kernel_rfl
theorem rfc_s1 : rfcF ++ sgS rfcH rfcH1 rfcH2 = rfcS := by kernel_rfl
theorem rfc_s : sgF rfcH1 ++ sgS rfcH rfcH1 rfcH2 = rfcS := by rw [rfc_f, rfc_s1]
theorem rfc_h2' : sha512 (sgF rfcH1 ++ (sgK rfcH ++ [])) = rfcH2 := by rw [rfc_f, rfc_k, rfc_h2]
theorem rfc_good : goodB rfcK [] rfcS = true := by
  have h := good_self rfcH rfcH1 [] rfc_h2'
  rwa [rfc_s, rfc_k] at h
theorem rfc_valid : validB rfcK = true := by
  have h := valid_self (s := rfcH) dE
  rwa [rfc_k] at h
theorem rfc_one : pb zero = 1 :: List.replicate 31 0 := by kernel_rfl
theorem one_valid : validB (1 :: List.replicate 31 0) = false := by
  rw [← rfc_one, validB, rdP_pb cv.on_zero]
  show (!smallB zero) = false
  have : smallB zero = true := by
    unfold smallB
    simp only [decide_eq_true_eq]
    exact cv.mul_zero 8
  rw [this]; rfl
theorem p_off : Nat.beq ((fb (fe (le (lowB (onesB 237 127))))).getD 0 0).toNat ((lowB (onesB 237 127)).getD 0 0).toNat = false := by kernel_rfl
theorem p_read : rdP (onesB 237 127) = none := by
  have h : ¬ fb (fe (le (lowB (onesB 237 127)))) = lowB (onesB 237 127) := fun e => by
    have h2 := p_off
    rw [e, Nat.beq_refl] at h2
    cases h2
  unfold rdP
  rw [if_neg h]
theorem p_valid : validB (onesB 237 127) = false := by rw [validB, p_read]
theorem p_good (bb sg : List UInt8) : goodB (onesB 237 127) bb sg = false := good_no fun e => by
  obtain ⟨_, ⟨A, h⟩, _⟩ := e
  rw [p_read] at h; cases h
theorem rfc_take : rfcS.take 32 = sgF rfcH1 := by rw [rfc_f]; kernel_rfl
theorem rfc_s4 : le (rfcS.drop 32) = 5004556735901913393272427758925840403246877222315506387332009764265656498271 := by kernel_rfl
theorem rfc_c3 : le (sgR rfcH3) = 3522795203402148482764146148954277926717685080406457998596202582178711798453 := by kernel_rfl
theorem rfc_no : (5004556735901913393272427758925840403246877222315506387332009764265656498271 + (L - (3522795203402148482764146148954277926717685080406457998596202582178711798453 * 36144925721603087658594284515452164870581325872720374094707712194495455132720 + 2015312323900227545039973048451112962192803170366412514267238242679089760755) % L)) % L = 2174112931342876720340301545548162980093555616259148919758174131320860189847 := by kernel_rfl
theorem rfc_bad : goodB rfcK [1] rfcS = false := by
  have h := good_other (s := rfcH) (bb := [1]) rfc_take (by rw [rfc_n, rfc_n1]) rfc_r1 rfc_s4 (by rw [rfc_take, rfc_f, rfc_k, rfc_h3, rfc_c3]) (fun e => by have h2 := Nat.mod_eq_zero_of_dvd e; rw [rfc_no] at h2; cases h2)
  rwa [rfc_k] at h
end Go.Proofs.Ytmddgelpllffoaa
end

section
namespace Hw
open Go Go.RowKit
set_option linter.unusedSimpArgs false
set_option linter.unusedVariables false
section
variable {C : Cx} {ops : Array Oper} {rest : List (Nat × Oper)} {sl : List (Nat × Value)} {hp : List Blk} {Q : St → Prop} {c d : Nat} {ty : TypeId} {pos : String} {af : Array Edge} {g : Option (Nat × Bool)}
/-- a list in memory of its own, under a guard -/
theorem Tr.mkRowG {T E : TypeId} {len size : Nat} {ps : List (Nat × Operand)} {vs : List (Nat × Value)} {z : Value} (vals : List Value) (cs : List Value) (hg : guardOk ops sl g = true) (hk : okG c d C.N = true) (hv : evp sl ps = some vs)
    (hu : C.P.underlying T = some (.slice E)) (hs : Sz C.P E size) (hz : Zr C.P E z) (hvs : vs = (vals.zipIdx 0).map fun p => (p.2, p.1)) (hlen : vals.length = len) (hsz : ∀ v ∈ vals, v.cells.size = size) (hbig : len * size ≤ 16777216) (hcs : (vals.map fun v => v.cells.toList).flatten = cs)
    (k : ∀ q, Tr C ops rest ⟨(d, .slice (some ⟨q, 0, none⟩) len len) :: sl, blk q cs E :: hp⟩ Q) : Tr C ops ((c, ⟨some d, .buildSlice T len ps.toArray, ty, pos, af, g⟩) :: rest) ⟨sl, hp⟩ Q :=
  Tr.growB (fun m => .slice (some ⟨m, 0, none⟩) len len) hg hk (fun x hx => by
    simp [Op.operands] at hx
    obtain ⟨i, hm⟩ := hx
    exact evp_known hv _ hm) (fun ρ hf w => by
    have h2 := evp_map hv fun p hp => hf p.2 (by simp [Op.operands]; exact ⟨p.1, hp⟩)
    have e : (ps.toArray.map fun (i, x) => (i, ρ x)) = vs.toArray := by
      rw [← h2]; simp
    have rs := run_sz hs
    unfold Zr at hz
    unfold Sz at hs
    cases hi : C.P.info? E with
    | none => rw [hi] at hs; simp at hs
    | some i =>
      rw [hi] at hz
      simp only [Option.bind_some] at hz
      have hfl := flat_length vals hsz
      have hnb : ¬ (16777216 < len * size) := by omega
      have hrun : (Instr.buildSlice T len vs.toArray).run C.P w = .ok (.slice (some ⟨w.heap.size, 0, none⟩) len len) { w with heap := w.heap.push (.cells cs.toArray E) } := by
        subst hcs
        subst hlen
        by_cases h0 : vals.length * size = 0
        · simp only [Instr.buildSlice, Sem.run_bind, run_underlying hu, Result.andThen_ok, rs]
          rw [hvs]
          have := fill_seq size vals 0 #[] hsz (by simp [h0])
          have hnil : (vals.map fun v => v.cells.toList).flatten = [] := List.eq_nil_of_length_eq_zero (by rw [hfl]; exact h0)
          rw [hnil] at this ⊢
          have e0 : Array.map (fun _ => (default : Value)) (Array.range 0) = #[] := Array.eq_empty_of_size_eq_zero sP
          simp [h0, newRow, newObj, e0, this, putAll]
          simp [Sem.run]
        · simp only [Instr.buildSlice, Sem.run_bind, run_underlying hu, Result.andThen_ok, rs]
          rw [hvs]
          have := fill_seq size vals 0 ((Array.range (vals.length * size)).map (z.cells[· % z.cells.size]!)) hsz sP
          rw [Nat.zero_mul, putAll_all _ _ (by simp [hfl])] at this
          simp [h0, hnb, typeInfo, zeroValue, hi, hz, this, newRow, newObj]
          simp [Sem.run]
      simp only [execOp, Sem.run_bind, e, hrun, Result.andThen]
      rfl) k

end
end Hw
end

section
namespace Go.Proofs.Ytmddgelpllffoaa
open Go Hw
set_option linter.unusedVariables false
set_option linter.unusedSimpArgs false

open Ed

def rfcP : List UInt8 := onesB 237 127
theorem rfcB_l : rfcB.length = 32 := rfl
theorem rfcK_l : rfcK.length = 32 := rfl
theorem rfcS_l : rfcS.length = 64 := rfl
theorem rfcN_l : rfcN.length = 32 := rfl
theorem rfcP_l : rfcP.length = 32 := onesB_length _ _
theorem bytes_nil6 {W : World} : BytesAt W Sl.nil [] := ⟨rfl, Nat.le_refl _, SeesP.nil, by decide, fun _ => rfl⟩
theorem rfc_Key : Meets Try.prog 6 [agg (bytesV rfcB)] [] (fun _ => True) (fun v out => v = agg (bytesV rfcK) ∧ out = []) := by
  have h := sign_Key rfcB rfcB_l rfcH ⟨rfc_h⟩
  rwa [show pb (cv.mul (le (clampB (rfcH.take 32))) bP) = rfcK from rfc_k] at h
theorem rfc_Secret : Meets Try.prog 14 [agg (bytesV rfcB)] [] (fun _ => True) (fun v out => v = agg (bytesV rfcN) ∧ out = []) := by
  have h := sign_Secret rfcB rfcB_l rfcH ⟨rfc_h⟩
  rwa [rfc_n] at h
theorem rfc_Sign : Meets Try.prog 7 [agg (bytesV rfcB), .slice none 0 0] [] (fun _ => True) (fun v out => v = agg (bytesV rfcS) ∧ out = []) := by
  have h := sign_Sign rfcB rfcB_l Sl.nil [] dE rfcH rfcH1 rfcH2 ⟨rfc_h⟩ ⟨rfc_h1⟩ ⟨rfc_h2'⟩
  rw [rfc_s] at h
  exact h.imp (fun w _ => bytes_nil6) (fun _ _ e => e)
theorem rfc_Good : Meets Try.prog 10 [agg (bytesV rfcK), .slice none 0 0, agg (bytesV rfcS)] [] (fun _ => True) (fun v out => v = .bool true ∧ out = []) := by
  have h := sign_Good rfcK rfcK_l Sl.nil [] dE rfcS rfcS_l
  rw [rfc_good] at h
  exact h.imp (fun w _ => bytes_nil6) (fun _ _ e => e)
theorem rfc_GoodP : Meets Try.prog 10 [agg (bytesV rfcP), .slice none 0 0, agg (bytesV rfcS)] [] (fun _ => True) (fun v out => v = .bool false ∧ out = []) := by
  have h := sign_Good rfcP rfcP_l Sl.nil [] dE rfcS rfcS_l
  rw [rfcP, p_good] at h
  exact h.imp (fun w _ => bytes_nil6) (fun _ _ e => e)
theorem rfc_Good1 (q : Nat) : Meets Try.prog 10 [agg (bytesV rfcK), .slice (some ⟨q, 0, none⟩) 1 1, agg (bytesV rfcS)] [] (fun w => SeesP w (some ⟨q, 0, none⟩) (bytesV [1])) (fun v out => v = .bool false ∧ out = []) := by
  have h := sign_Good rfcK rfcK_l ⟨some ⟨q, 0, none⟩, 1, 1⟩ [1] dE rfcS rfcS_l
  rw [rfc_bad] at h
  exact h.imp (fun w hw => ⟨rfl, Nat.le_refl _, hw, by show 1 ≤ maxLen; decide, fun e => by cases e⟩) (fun _ _ e => e)
theorem rfc_Valid : Meets Try.prog 11 [agg (bytesV rfcK)] [] (fun _ => True) (fun v out => v = .bool true ∧ out = []) := by
  have h := sign_Valid rfcK rfcK_l
  rwa [rfc_valid] at h
theorem rfc_ValidP : Meets Try.prog 11 [agg (bytesV rfcP)] [] (fun _ => True) (fun v out => v = .bool false ∧ out = []) := by
  have h := sign_Valid rfcP rfcP_l
  rw [rfcP, p_valid] at h
  exact h
theorem rfc_Valid1 : Meets Try.prog 11 [agg (bytesV (1 :: List.replicate 31 0))] [] (fun _ => True) (fun v out => v = .bool false ∧ out = []) := by
  have h := sign_Valid (1 :: List.replicate 31 0) rfl
  rwa [one_valid] at h
theorem rfc_k8 : rfcK.take 8 = [215, 90, 152, 1, 130, 177, 10, 183] := rfl
theorem rfc_s8 : rfcS.take 8 = [229, 86, 67, 0, 195, 96, 172, 114] := rfl

set_option maxRecDepth 100000 in
set_option maxHeartbeats 1000000 in
theorem law06_rfc  : Meets Try.prog 13 [] [] (fun _ => True) (fun v out => v = agg (bytesV rfcB) ∧ out = []) := by
  intro W hW
  refine calls_of (hp0 := []) Try.func13 rfl 2 Try.ntmps13 rfl (HRep.nil _) ?_
  refine Sat.seq ?_
  refine Sat.region ?_
  refine Tr.alloc (cs := (bytesV (List.replicate 32 0))) rfl Zr22 rfl ?_
  intro n0 hn0 hf0
  refine Tr.nil ?_
  refine at_n ?_
  refine Sat.seq ?_
  refine Sat.region ?_
  refine Tr.build (cs := bytesV rfcB) rfl rfl rfl (fun w => by kernel_rfl) ?_
  first
    | refine Tr.storeAll rfl rfl rfl rfl cB Sz22 (by first | (simp [rfcB_l, rfcK_l, rfcS_l, rfcN_l, rfcP_l]; done) | assumption | (rw [bytesV, List.length_map]; assumption)) mM (by first | (simp [rfcB_l, rfcK_l, rfcS_l, rfcN_l, rfcP_l]; done) | assumption | (rw [bytesV, List.length_map]; assumption)) uU ?_
    | refine Tr.storeN _ rfl rfl rfl rfl rfl cB Sz22 (by first | (simp [rfcB_l, rfcK_l, rfcS_l, rfcN_l, rfcP_l]; done) | assumption | (rw [bytesV, List.length_map]; assumption)) mM (by first | (simp [rfcB_l, rfcK_l, rfcS_l, rfcN_l, rfcP_l]; done) | assumption | (rw [bytesV, List.length_map]; assumption)) (by exact rfl) uU ?_
  refine Tr.nil ?_
  refine at_n ?_
  refine Sat.ret ?_
  refine en_r ?_
  refine ⟨_, [], res_cell rfl rfl Try.underlying22 rfl Sz22 mM (by simp [rfcB_l, rfcK_l, rfcS_l, rfcN_l, rfcP_l]), sP, sP, ?_, rfl⟩
  rfl

set_option maxRecDepth 100000 in
set_option maxHeartbeats 4000000 in
theorem law06_lives  : Meets Try.prog 5 [] [] (fun _ => True) (fun v out => v = .bool true ∧ out = []) := by
  intro W hW
  refine calls_of (hp0 := []) Try.func5 rfl 20 Try.ntmps5 rfl (HRep.nil _) ?_
  refine Sat.seq ?_
  refine Sat.region ?_
  refine Tr.assign rfl rfl rfl ?_
  refine Tr.nil ?_
  refine at_n ?_
  refine Sat.seq ?_
  refine Sat.region ?_
  refine Tr.callV rfl rfl rfl rfl Body13 (law06_rfc) (fun _ _ => trivial) ?_
  refine Tr.callV rfl rfl rfl rfl Body6 (rfc_Key) (fun _ _ => trivial) ?_
  refine Tr.alloc (cs := (bytesV (List.replicate 32 0))) rfl Zr25 rfl ?_
  intro n1 hn1 hf1
  first
    | refine Tr.storeAll rfl rfl rfl rfl cB Sz25 (by first | (simp [rfcB_l, rfcK_l, rfcS_l, rfcN_l, rfcP_l]; done) | assumption | (rw [bytesV, List.length_map]; assumption)) mM (by first | (simp [rfcB_l, rfcK_l, rfcS_l, rfcN_l, rfcP_l]; done) | assumption | (rw [bytesV, List.length_map]; assumption)) uU ?_
    | refine Tr.storeN _ rfl rfl rfl rfl rfl cB Sz25 (by first | (simp [rfcB_l, rfcK_l, rfcS_l, rfcN_l, rfcP_l]; done) | assumption | (rw [bytesV, List.length_map]; assumption)) mM (by first | (simp [rfcB_l, rfcK_l, rfcS_l, rfcN_l, rfcP_l]; done) | assumption | (rw [bytesV, List.length_map]; assumption)) (by exact rfl) uU ?_
  refine Tr.nil ?_
  refine at_n ?_
  refine Sat.seq ?_
  refine Sat.region ?_
  refine Tr.callV rfl rfl rfl rfl Body13 (law06_rfc) (fun _ _ => trivial) ?_
  refine Tr.callV rfl rfl rfl rfl Body7 (rfc_Sign) (fun _ _ => trivial) ?_
  refine Tr.alloc (cs := (bytesV (List.replicate 64 0))) rfl Zr28 rfl ?_
  intro n2 hn2 hf2
  first
    | refine Tr.storeAll rfl rfl rfl rfl cB Sz28 (by first | (simp [rfcB_l, rfcK_l, rfcS_l, rfcN_l, rfcP_l]; done) | assumption | (rw [bytesV, List.length_map]; assumption)) mM (by first | (simp [rfcB_l, rfcK_l, rfcS_l, rfcN_l, rfcP_l]; done) | assumption | (rw [bytesV, List.length_map]; assumption)) uU ?_
    | refine Tr.storeN _ rfl rfl rfl rfl rfl cB Sz28 (by first | (simp [rfcB_l, rfcK_l, rfcS_l, rfcN_l, rfcP_l]; done) | assumption | (rw [bytesV, List.length_map]; assumption)) mM (by first | (simp [rfcB_l, rfcK_l, rfcS_l, rfcN_l, rfcP_l]; done) | assumption | (rw [bytesV, List.length_map]; assumption)) (by exact rfl) uU ?_
  refine Tr.nil ?_
  refine at_n ?_
  refine Sat.seq ?_
  refine Sat.region ?_
  refine Tr.sliceArrHi 8 rfl rfl rfl rfl rfl dE dE Try.underlying25 Sz5 ?_
  refine Tr.toStr rfl rfl rfl Try.underlying23 Try.underlying5 Try.underlying9 (l := rfcK.take 8) (fun w h => SeesP.of (by have h9 := sees_own (cs := bytesV rfcK) h mM; exact fun i v hv => h9 i v (take_sees hv))) (by rfl) ?_
  refine Tr.eql_str rfl rfl rfl rfl (decide_eq_true (rfc_k8)) ?_
  refine Tr.move rfl rfl rfl ?_
  refine Tr.sliceArrHi 8 rfl rfl rfl rfl rfl dE dE Try.underlying28 Sz5 ?_
  refine Tr.toStr rfl rfl rfl Try.underlying23 Try.underlying5 Try.underlying9 (l := rfcS.take 8) (fun w h => SeesP.of (by have h9 := sees_own (cs := bytesV rfcS) h mM; exact fun i v hv => h9 i v (take_sees hv))) (by rfl) ?_
  refine Tr.eql_str rfl rfl rfl rfl (decide_eq_true (rfc_s8)) ?_
  refine Tr.pick rfl rfl rfl rfl rfl rfl ?_
  refine Tr.move rfl rfl rfl ?_
  first
    | refine Tr.loadAll rfl rfl rfl Try.underlying25 rfl Sz25 mM (by first | (simp [rfcB_l, rfcK_l, rfcS_l, rfcN_l, rfcP_l]; done) | assumption | (rw [bytesV, List.length_map]; assumption)) ?_
    | refine Tr.loadN _ rfl rfl rfl Try.underlying25 rfl Sz25 mM (by exact rfl) (by first | (simp [rfcB_l, rfcK_l, rfcS_l, rfcN_l, rfcP_l]; done) | assumption | (rw [bytesV, List.length_map]; assumption)) ?_
  first
    | refine Tr.loadAll rfl rfl rfl Try.underlying28 rfl Sz28 mM (by first | (simp [rfcB_l, rfcK_l, rfcS_l, rfcN_l, rfcP_l]; done) | assumption | (rw [bytesV, List.length_map]; assumption)) ?_
    | refine Tr.loadN _ rfl rfl rfl Try.underlying28 rfl Sz28 mM (by exact rfl) (by first | (simp [rfcB_l, rfcK_l, rfcS_l, rfcN_l, rfcP_l]; done) | assumption | (rw [bytesV, List.length_map]; assumption)) ?_
  refine Tr.callV rfl rfl rfl rfl Body10 (rfc_Good) (fun _ _ => trivial) ?_
  refine Tr.pick rfl rfl rfl rfl rfl rfl ?_
  refine Tr.assign rfl rfl rfl ?_
  refine Tr.nil ?_
  refine at_n ?_
  refine Sat.ret ?_
  refine en_r ?_
  refine ⟨_, [], res_tmp rfl rfl, sP, sP, ?_, rfl⟩
  rfl

def pAt (k : Nat) : List UInt8 := (((List.replicate k (255 : UInt8) ++ List.replicate (32 - k) 0).set 0 237).set 31 127)
theorem pAt_l (k : Nat) (h : k ≤ 31) : (pAt k).length = 32 := by simp [pAt]; omega
theorem pAt_l1 : (pAt 1).length = 32 := by rfl
theorem pAt_all : ∀ k : _root_.Fin 31, 1 ≤ k.val → (pAt k.val).set k.val 255 = pAt (k.val + 1) := by decide
theorem pAt_step {k : Nat} (h1 : 1 ≤ k) (h2 : k < 31) : (pAt k).set k 255 = pAt (k + 1) := pAt_all ⟨k, h2⟩ h1
theorem pAt_last : pAt 31 = rfcP := by rfl

set_option maxRecDepth 100000 in
set_option maxHeartbeats 8000000 in
theorem law06_names  : Meets Try.prog 4 [] [] (fun _ => True) (fun v out => v = .bool true ∧ out = []) := by
  intro W hW
  refine calls_of (hp0 := []) Try.func4 rfl 73 Try.ntmps4 rfl (HRep.nil _) ?_
  refine Sat.seq ?_
  refine Sat.region ?_
  refine Tr.assign rfl rfl rfl ?_
  refine Tr.nil ?_
  refine at_n ?_
  refine Sat.seq ?_
  refine Sat.region ?_
  refine Tr.callV rfl rfl rfl rfl Body13 (law06_rfc) (fun _ _ => trivial) ?_
  refine Tr.callV rfl rfl rfl rfl Body6 (rfc_Key) (fun _ _ => trivial) ?_
  refine Tr.alloc (cs := (bytesV (List.replicate 32 0))) rfl Zr25 rfl ?_
  intro n1 hn1 hf1
  first
    | refine Tr.storeAll rfl rfl rfl rfl cB Sz25 (by first | (simp [rfcB_l, rfcK_l, rfcS_l, rfcN_l, rfcP_l, pAt_l1]; done) | assumption | (rw [bytesV, List.length_map]; assumption)) mM (by first | (simp [rfcB_l, rfcK_l, rfcS_l, rfcN_l, rfcP_l, pAt_l1]; done) | assumption | (rw [bytesV, List.length_map]; assumption)) uU ?_
    | refine Tr.storeN _ rfl rfl rfl rfl rfl cB Sz25 (by first | (simp [rfcB_l, rfcK_l, rfcS_l, rfcN_l, rfcP_l, pAt_l1]; done) | assumption | (rw [bytesV, List.length_map]; assumption)) mM (by first | (simp [rfcB_l, rfcK_l, rfcS_l, rfcN_l, rfcP_l, pAt_l1]; done) | assumption | (rw [bytesV, List.length_map]; assumption)) (by exact rfl) uU ?_
  refine Tr.nil ?_
  refine at_n ?_
  refine Sat.seq ?_
  refine Sat.region ?_
  refine Tr.callV rfl rfl rfl rfl Body13 (law06_rfc) (fun _ _ => trivial) ?_
  refine Tr.callV rfl rfl rfl rfl Body7 (rfc_Sign) (fun _ _ => trivial) ?_
  refine Tr.alloc (cs := (bytesV (List.replicate 64 0))) rfl Zr28 rfl ?_
  intro n2 hn2 hf2
  first
    | refine Tr.storeAll rfl rfl rfl rfl cB Sz28 (by first | (simp [rfcB_l, rfcK_l, rfcS_l, rfcN_l, rfcP_l, pAt_l1]; done) | assumption | (rw [bytesV, List.length_map]; assumption)) mM (by first | (simp [rfcB_l, rfcK_l, rfcS_l, rfcN_l, rfcP_l, pAt_l1]; done) | assumption | (rw [bytesV, List.length_map]; assumption)) uU ?_
    | refine Tr.storeN _ rfl rfl rfl rfl rfl cB Sz28 (by first | (simp [rfcB_l, rfcK_l, rfcS_l, rfcN_l, rfcP_l, pAt_l1]; done) | assumption | (rw [bytesV, List.length_map]; assumption)) mM (by first | (simp [rfcB_l, rfcK_l, rfcS_l, rfcN_l, rfcP_l, pAt_l1]; done) | assumption | (rw [bytesV, List.length_map]; assumption)) (by exact rfl) uU ?_
  refine Tr.nil ?_
  refine at_n ?_
  refine Sat.seq ?_
  refine Sat.region ?_
  refine Tr.callV rfl rfl rfl rfl Body13 (law06_rfc) (fun _ _ => trivial) ?_
  refine Tr.callV rfl rfl rfl rfl Body14 (rfc_Secret) (fun _ _ => trivial) ?_
  refine Tr.alloc (cs := (bytesV (List.replicate 32 0))) rfl Zr30 rfl ?_
  intro n3 hn3 hf3
  first
    | refine Tr.storeAll rfl rfl rfl rfl cB Sz30 (by first | (simp [rfcB_l, rfcK_l, rfcS_l, rfcN_l, rfcP_l, pAt_l1]; done) | assumption | (rw [bytesV, List.length_map]; assumption)) mM (by first | (simp [rfcB_l, rfcK_l, rfcS_l, rfcN_l, rfcP_l, pAt_l1]; done) | assumption | (rw [bytesV, List.length_map]; assumption)) uU ?_
    | refine Tr.storeN _ rfl rfl rfl rfl rfl cB Sz30 (by first | (simp [rfcB_l, rfcK_l, rfcS_l, rfcN_l, rfcP_l, pAt_l1]; done) | assumption | (rw [bytesV, List.length_map]; assumption)) mM (by first | (simp [rfcB_l, rfcK_l, rfcS_l, rfcN_l, rfcP_l, pAt_l1]; done) | assumption | (rw [bytesV, List.length_map]; assumption)) (by exact rfl) uU ?_
  refine Tr.nil ?_
  refine at_n ?_
  refine Sat.seq ?_
  refine Sat.region ?_
  refine Tr.build (cs := bytesV (pAt 1)) rfl rfl rfl (fun w => by kernel_rfl) ?_
  refine Tr.alloc (cs := (bytesV (List.replicate 32 0))) rfl Zr25 rfl ?_
  intro n4 hn4 hf4
  first
    | refine Tr.storeAll rfl rfl rfl rfl cB Sz25 (by first | (simp [rfcB_l, rfcK_l, rfcS_l, rfcN_l, rfcP_l, pAt_l1]; done) | assumption | (rw [bytesV, List.length_map]; assumption)) mM (by first | (simp [rfcB_l, rfcK_l, rfcS_l, rfcN_l, rfcP_l, pAt_l1]; done) | assumption | (rw [bytesV, List.length_map]; assumption)) uU ?_
    | refine Tr.storeN _ rfl rfl rfl rfl rfl cB Sz25 (by first | (simp [rfcB_l, rfcK_l, rfcS_l, rfcN_l, rfcP_l, pAt_l1]; done) | assumption | (rw [bytesV, List.length_map]; assumption)) mM (by first | (simp [rfcB_l, rfcK_l, rfcS_l, rfcN_l, rfcP_l, pAt_l1]; done) | assumption | (rw [bytesV, List.length_map]; assumption)) (by exact rfl) uU ?_
  refine Tr.nil ?_
  refine at_n ?_
  refine Sat.seq ?_
  refine Sat.seq ?_
  refine Sat.region ?_
  refine Tr.assign rfl rfl rfl ?_
  refine Tr.nil ?_
  refine at_n ?_
  refine Sat.block ?_
  refine Sat.loop (ι := Nat) (fun k => ⟨[(0, .bool false), (1, ptr n1 0), (2, ptr n2 0), (3, ptr n3 0), (4, ptr n4 0), (5, i64 (k : Int))], [⟨n4, bytesV (pAt k), 25, 32⟩, ⟨n3, bytesV rfcN, 30, 32⟩, ⟨n2, bytesV rfcS, 28, 64⟩, ⟨n1, bytesV rfcK, 25, 32⟩]⟩) (fun k => 1 ≤ k ∧ k ≤ 31) (fun k => 31 - k) (1) ?_ ?_ ?_
  · exact ⟨by omega, by omega⟩
  · exact weak_of (wk1 rfl (wk1 rfl (wk1 rfl (wk1 rfl (wk1 rfl (wk1 rfl wk0)))))) (wh1 mM (wh1 mM (wh1 mM (wh1 mM wh0)))) nD
  ·
    rintro k ⟨hk1, hk⟩
    have hpl := pAt_l k oM
    refine Sat.seq ?_
    refine Sat.seq ?_
    refine Sat.region ?_
    refine Tr.move rfl rfl rfl ?_
    refine Tr.lss rfl rfl rfl rfl rfl ?_
    refine Tr.nil ?_
    refine at_n ?_
    first
      | refine Sat.condP rfl (fun hc0 => ?_) (fun hc0 => ?_)
      | refine Sat.condNP rfl (fun hc0 => ?_) (fun hc0 => ?_)
      | refine Sat.cond rfl (fun hc0 => ?_) (fun hc0 => ?_)
    ·
      have hk2 : k < 31 := by omega
      refine Sat.skip ?_
      refine at_n ?_
      refine Sat.seq ?_
      refine Sat.block ?_
      refine Sat.region ?_
      refine Tr.move rfl rfl rfl ?_
      first
        | refine Tr.idxArr1 rfl rfl rfl rfl Try.underlying25 Sz5 _ rfl oM ?_
        | refine Tr.idxArrO rfl rfl rfl rfl Try.underlying25 Sz5 _ rfl oM ?_
        | refine Tr.idxArr1 rfl rfl rfl rfl Try.underlying25 Sz5 _ (toNat_back oM) oM ?_
        | refine Tr.idxArrO rfl rfl rfl rfl Try.underlying25 Sz5 _ (toNat_back oM) oM ?_
      refine Tr.store1 rfl rfl rfl (show evIn _ _ = some (u8 255) from rfl) rfl Sz5 mM (by first | (simp [rfcB_l, rfcK_l, rfcS_l, rfcN_l, rfcP_l, pAt_l1]; done) | (simp [rfcB_l, rfcK_l, rfcS_l, rfcN_l, rfcP_l, pAt_l1]; omega)) sT uU ?_
      refine Tr.nil ?_
      refine bl_n ?_
      refine at_n ?_
      refine Sat.region ?_
      refine Tr.move rfl rfl rfl ?_
      refine Tr.add_i64 rfl rfl rfl rfl oM ?_
      refine Tr.assign rfl rfl rfl ?_
      refine Tr.nil ?_
      refine at_n ?_
      exact ⟨k + 1, by omega, by omega, weak_of (wk1 rfl (wk1 rfl (wk1 rfl (wk1 rfl (wk1 rfl (wk1 rfl wk0)))))) (wh1 (by rw [← pAt_step hk1 hk2]; exact mem0) (wh1 mM (wh1 mM (wh1 mM wh0)))) nD⟩
    ·
      obtain rfl : k = 31 := by omega
      rw [pAt_last]
      refine Sat.exit ?_
      refine at_x ?_
      refine at_x ?_
      refine bl_h ?_
      refine at_n ?_
      refine Sat.seq ?_
      refine Sat.region ?_
      refine Tr.callV rfl rfl rfl rfl Body5 (law06_lives) (fun _ _ => trivial) ?_
      refine Tr.move rfl rfl rfl ?_
      first
        | refine Tr.idxArr1 rfl rfl rfl rfl Try.underlying25 Sz5 31 rfl dE ?_
        | refine Tr.idxArrO rfl rfl rfl rfl Try.underlying25 Sz5 31 rfl dE ?_
      refine Tr.load1 rfl rfl rfl Try.underlying5 rfl mM (by first | rfl | exact get_words (by first | omega | (simp [rfcB_l, rfcK_l, rfcS_l, rfcN_l, rfcP_l, pAt_l1]; done) | (simp [rfcB_l, rfcK_l, rfcS_l, rfcN_l, rfcP_l, pAt_l1]; omega)) | exact get_bytes (by first | omega | (simp [rfcB_l, rfcK_l, rfcS_l, rfcN_l, rfcP_l, pAt_l1]; done) | (simp [rfcB_l, rfcK_l, rfcS_l, rfcN_l, rfcP_l, pAt_l1]; omega)) | exact get_ints (by first | omega | (simp [rfcB_l, rfcK_l, rfcS_l, rfcN_l, rfcP_l, pAt_l1]; done) | (simp [rfcB_l, rfcK_l, rfcS_l, rfcN_l, rfcP_l, pAt_l1]; omega))) ?_
      refine Tr.eqi rfl rfl rfl rfl (decide_eq_true (by rfl)) ?_
      refine Tr.pick rfl rfl rfl rfl rfl rfl ?_
      refine Tr.move rfl rfl rfl ?_
      first
        | refine Tr.idxArr1 rfl rfl rfl rfl Try.underlying28 Sz5 63 rfl dE ?_
        | refine Tr.idxArrO rfl rfl rfl rfl Try.underlying28 Sz5 63 rfl dE ?_
      refine Tr.load1 rfl rfl rfl Try.underlying5 rfl mM (by first | rfl | exact get_words (by first | omega | (simp [rfcB_l, rfcK_l, rfcS_l, rfcN_l, rfcP_l, pAt_l1]; done) | (simp [rfcB_l, rfcK_l, rfcS_l, rfcN_l, rfcP_l, pAt_l1]; omega)) | exact get_bytes (by first | omega | (simp [rfcB_l, rfcK_l, rfcS_l, rfcN_l, rfcP_l, pAt_l1]; done) | (simp [rfcB_l, rfcK_l, rfcS_l, rfcN_l, rfcP_l, pAt_l1]; omega)) | exact get_ints (by first | omega | (simp [rfcB_l, rfcK_l, rfcS_l, rfcN_l, rfcP_l, pAt_l1]; done) | (simp [rfcB_l, rfcK_l, rfcS_l, rfcN_l, rfcP_l, pAt_l1]; omega))) ?_
      refine Tr.eqi rfl rfl rfl rfl (decide_eq_true (by rfl)) ?_
      refine Tr.pick rfl rfl rfl rfl rfl rfl ?_
      refine Tr.move rfl rfl rfl ?_
      first
        | refine Tr.idxArr1 rfl rfl rfl rfl Try.underlying30 Sz5 0 rfl dE ?_
        | refine Tr.idxArrO rfl rfl rfl rfl Try.underlying30 Sz5 0 rfl dE ?_
      refine Tr.load1 rfl rfl rfl Try.underlying5 rfl mM (by first | rfl | exact get_words (by first | omega | (simp [rfcB_l, rfcK_l, rfcS_l, rfcN_l, rfcP_l, pAt_l1]; done) | (simp [rfcB_l, rfcK_l, rfcS_l, rfcN_l, rfcP_l, pAt_l1]; omega)) | exact get_bytes (by first | omega | (simp [rfcB_l, rfcK_l, rfcS_l, rfcN_l, rfcP_l, pAt_l1]; done) | (simp [rfcB_l, rfcK_l, rfcS_l, rfcN_l, rfcP_l, pAt_l1]; omega)) | exact get_ints (by first | omega | (simp [rfcB_l, rfcK_l, rfcS_l, rfcN_l, rfcP_l, pAt_l1]; done) | (simp [rfcB_l, rfcK_l, rfcS_l, rfcN_l, rfcP_l, pAt_l1]; omega))) ?_
      refine Tr.rem_u8 rfl rfl rfl rfl 8 rfl dE ?_
      refine Tr.eqi rfl rfl rfl rfl (decide_eq_true (by rfl)) ?_
      refine Tr.pick rfl rfl rfl rfl rfl rfl ?_
      refine Tr.move rfl rfl rfl ?_
      first
        | refine Tr.idxArr1 rfl rfl rfl rfl Try.underlying30 Sz5 31 rfl dE ?_
        | refine Tr.idxArrO rfl rfl rfl rfl Try.underlying30 Sz5 31 rfl dE ?_
      refine Tr.load1 rfl rfl rfl Try.underlying5 rfl mM (by first | rfl | exact get_words (by first | omega | (simp [rfcB_l, rfcK_l, rfcS_l, rfcN_l, rfcP_l, pAt_l1]; done) | (simp [rfcB_l, rfcK_l, rfcS_l, rfcN_l, rfcP_l, pAt_l1]; omega)) | exact get_bytes (by first | omega | (simp [rfcB_l, rfcK_l, rfcS_l, rfcN_l, rfcP_l, pAt_l1]; done) | (simp [rfcB_l, rfcK_l, rfcS_l, rfcN_l, rfcP_l, pAt_l1]; omega)) | exact get_ints (by first | omega | (simp [rfcB_l, rfcK_l, rfcS_l, rfcN_l, rfcP_l, pAt_l1]; done) | (simp [rfcB_l, rfcK_l, rfcS_l, rfcN_l, rfcP_l, pAt_l1]; omega))) ?_
      refine Tr.geq rfl rfl rfl rfl (decide_eq_true dE) ?_
      refine Tr.pick rfl rfl rfl rfl rfl rfl ?_
      refine Tr.move rfl rfl rfl ?_
      first
        | refine Tr.idxArr1 rfl rfl rfl rfl Try.underlying30 Sz5 31 rfl dE ?_
        | refine Tr.idxArrO rfl rfl rfl rfl Try.underlying30 Sz5 31 rfl dE ?_
      refine Tr.load1 rfl rfl rfl Try.underlying5 rfl mM (by first | rfl | exact get_words (by first | omega | (simp [rfcB_l, rfcK_l, rfcS_l, rfcN_l, rfcP_l, pAt_l1]; done) | (simp [rfcB_l, rfcK_l, rfcS_l, rfcN_l, rfcP_l, pAt_l1]; omega)) | exact get_bytes (by first | omega | (simp [rfcB_l, rfcK_l, rfcS_l, rfcN_l, rfcP_l, pAt_l1]; done) | (simp [rfcB_l, rfcK_l, rfcS_l, rfcN_l, rfcP_l, pAt_l1]; omega)) | exact get_ints (by first | omega | (simp [rfcB_l, rfcK_l, rfcS_l, rfcN_l, rfcP_l, pAt_l1]; done) | (simp [rfcB_l, rfcK_l, rfcS_l, rfcN_l, rfcP_l, pAt_l1]; omega))) ?_
      refine Tr.lss rfl rfl rfl rfl (decide_eq_true dE) ?_
      refine Tr.pick rfl rfl rfl rfl rfl rfl ?_
      refine Tr.move rfl rfl rfl ?_
      first
        | refine Tr.loadAll rfl rfl rfl Try.underlying25 rfl Sz25 mM (by first | (simp [rfcB_l, rfcK_l, rfcS_l, rfcN_l, rfcP_l, pAt_l1]; done) | assumption | (rw [bytesV, List.length_map]; assumption)) ?_
        | refine Tr.loadN _ rfl rfl rfl Try.underlying25 rfl Sz25 mM (by exact rfl) (by first | (simp [rfcB_l, rfcK_l, rfcS_l, rfcN_l, rfcP_l, pAt_l1]; done) | assumption | (rw [bytesV, List.length_map]; assumption)) ?_
      refine Tr.callV rfl rfl rfl rfl Body11 (rfc_Valid) (fun _ _ => trivial) ?_
      refine Tr.pick rfl rfl rfl rfl rfl rfl ?_
      refine Tr.move rfl rfl rfl ?_
      refine Tr.build (cs := bytesV (1 :: List.replicate 31 0)) rfl rfl rfl (fun w => by kernel_rfl) ?_
      refine Tr.callV rfl rfl rfl rfl Body11 (rfc_Valid1) (fun _ _ => trivial) ?_
      refine Tr.not rfl rfl rfl ?_
      refine Tr.pick rfl rfl rfl rfl rfl rfl ?_
      refine Tr.move rfl rfl rfl ?_
      first
        | refine Tr.loadAll rfl rfl rfl Try.underlying25 rfl Sz25 mM (by first | (simp [rfcB_l, rfcK_l, rfcS_l, rfcN_l, rfcP_l, pAt_l1]; done) | assumption | (rw [bytesV, List.length_map]; assumption)) ?_
        | refine Tr.loadN _ rfl rfl rfl Try.underlying25 rfl Sz25 mM (by exact rfl) (by first | (simp [rfcB_l, rfcK_l, rfcS_l, rfcN_l, rfcP_l, pAt_l1]; done) | assumption | (rw [bytesV, List.length_map]; assumption)) ?_
      refine Tr.callV rfl rfl rfl rfl Body11 (rfc_ValidP) (fun _ _ => trivial) ?_
      refine Tr.not rfl rfl rfl ?_
      refine Tr.pick rfl rfl rfl rfl rfl rfl ?_
      refine Tr.move rfl rfl rfl ?_
      first
        | refine Tr.loadAll rfl rfl rfl Try.underlying25 rfl Sz25 mM (by first | (simp [rfcB_l, rfcK_l, rfcS_l, rfcN_l, rfcP_l, pAt_l1]; done) | assumption | (rw [bytesV, List.length_map]; assumption)) ?_
        | refine Tr.loadN _ rfl rfl rfl Try.underlying25 rfl Sz25 mM (by exact rfl) (by first | (simp [rfcB_l, rfcK_l, rfcS_l, rfcN_l, rfcP_l, pAt_l1]; done) | assumption | (rw [bytesV, List.length_map]; assumption)) ?_
      refine Tr.mkRowG (z := u8 0) [u8 1] (bytesV [1]) rfl rfl rfl Try.underlying23 Sz5 Zr5 rfl rfl (by intro v hv; rw [List.mem_singleton.1 hv]; rfl) dE rfl ?_
      intro q62
      first
        | refine Tr.loadAll rfl rfl rfl Try.underlying28 rfl Sz28 mM (by first | (simp [rfcB_l, rfcK_l, rfcS_l, rfcN_l, rfcP_l, pAt_l1]; done) | assumption | (rw [bytesV, List.length_map]; assumption)) ?_
        | refine Tr.loadN _ rfl rfl rfl Try.underlying28 rfl Sz28 mM (by exact rfl) (by first | (simp [rfcB_l, rfcK_l, rfcS_l, rfcN_l, rfcP_l, pAt_l1]; done) | assumption | (rw [bytesV, List.length_map]; assumption)) ?_
      refine Tr.callV rfl rfl rfl rfl Body10 (rfc_Good1 q62) (fun w h => SeesP.of (sees_own (cs := bytesV [1]) h mM)) ?_
      refine Tr.not rfl rfl rfl ?_
      refine Tr.pick rfl rfl rfl rfl rfl rfl ?_
      refine Tr.move rfl rfl rfl ?_
      first
        | refine Tr.loadAll rfl rfl rfl Try.underlying25 rfl Sz25 mM (by first | (simp [rfcB_l, rfcK_l, rfcS_l, rfcN_l, rfcP_l, pAt_l1]; done) | assumption | (rw [bytesV, List.length_map]; assumption)) ?_
        | refine Tr.loadN _ rfl rfl rfl Try.underlying25 rfl Sz25 mM (by exact rfl) (by first | (simp [rfcB_l, rfcK_l, rfcS_l, rfcN_l, rfcP_l, pAt_l1]; done) | assumption | (rw [bytesV, List.length_map]; assumption)) ?_
      first
        | refine Tr.loadAll rfl rfl rfl Try.underlying28 rfl Sz28 mM (by first | (simp [rfcB_l, rfcK_l, rfcS_l, rfcN_l, rfcP_l, pAt_l1]; done) | assumption | (rw [bytesV, List.length_map]; assumption)) ?_
        | refine Tr.loadN _ rfl rfl rfl Try.underlying28 rfl Sz28 mM (by exact rfl) (by first | (simp [rfcB_l, rfcK_l, rfcS_l, rfcN_l, rfcP_l, pAt_l1]; done) | assumption | (rw [bytesV, List.length_map]; assumption)) ?_
      refine Tr.callV rfl rfl rfl rfl Body10 (rfc_GoodP) (fun _ _ => trivial) ?_
      refine Tr.not rfl rfl rfl ?_
      refine Tr.pick rfl rfl rfl rfl rfl rfl ?_
      refine Tr.assign rfl rfl rfl ?_
      refine Tr.nil ?_
      refine at_n ?_
      refine Sat.ret ?_
      refine en_r ?_
      refine ⟨_, [], res_tmp rfl rfl, sP, sP, ?_, rfl⟩
      rfl

end Go.Proofs.Ytmddgelpllffoaa
end

section
namespace Go.Proofs.Ytmddgelpllffoaa
open Go Go.ChangeShapes Go.WideShapes Go.ChangeAt Go.RowKit
set_option linter.unusedVariables false

theorem ownSgns : ownKnob Try.prog.godebug = none := by kernel_rfl
theorem walkSgn (w : World) : Calls Try.prog 4 #[] w fun e w' => e = .returned (.bool true) ∧ Below w.heap.size w w' :=
  (law06_names w trivial).mono fun e w' ⟨v, out, he, ⟨hv, ho⟩, hr⟩ => ⟨by rw [he, hv], Hw.Keeps.below hr.keeps⟩

set_option maxRecDepth 100000 in
theorem liftedSgn (os : Os) (started : os.Started) (H : Type) (enc : TypeId × Value → H) :
    ReturnsInHanded {} Try.checked os 4 .any (Rows.signNamesSpec.pre6 enc Try.prog Try.f4 Rows.signNamesRow.domain false) (Rows.signNamesSpec.post enc Try.prog Try.f4 false true false false) := by
  refine returnsInHanded_of_change (C := Try.checked) ownSgns started (by kernel_rfl) Try.func4
    (ChangeSpec.witness6 (enc := enc) (C := Try.checked) false ⟨#[], #[], []⟩ 8 (by kernel_rfl) (by kernel_rfl) (by kernel_rfl) (by kernel_rfl)) ?_
  intro W base args ds gs before hval0 hW hcnd _
  have hW' := hW
  obtain ⟨p, q, hA0, hV, rfl, hfz, hnd⟩ := hW
  have hA : DataW.TrodAll enc Try.prog W 0 (fun _ => true) true Try.f4.params.toList args.toList ds p := hA0
  rw [Try.params4] at hA
  obtain ⟨hargs, rfl, rfl⟩ := trodAll_nil hA
  obtain rfl : args = #[] := by cases args; simp_all
  obtain ⟨rfl, rfl⟩ := trodVars_none hV
  clear hA0 hval0
  refine (walkSgn W).mono fun e W' ⟨he, bel⟩ => ?_
  subst he
  exact ⟨_, rfl, _, _, _, [], _, [], hW', trodAll_mk1 (shut_bool Try.underlying4 _), trodAll_mk0, rfl, bel.frame _, fun h => by cases h⟩

theorem signNames_holds : Rows.SignNamesSaid :=
  OpenClaim.holds_of_wide 4 Try.f4 rfl rfl rfl rfl rfl rfl rfl ⟨rfl, rfl, rfl, rfl, rfl⟩ rfl rfl rfl rfl rfl (by kernel_rfl) Try.func4 (by kernel_rfl)
    (of_decide_eq_true (by kernel_rfl)) (by unfold Func.isWrapper; first | (rw [if_pos (by decide +kernel)]; kernel_rfl) | (rw [if_neg (by decide +kernel)]; exact ⟨rfl, rfl⟩))
    (fun os started H enc _ => liftedSgn os started H enc)

end Go.Proofs.Ytmddgelpllffoaa
end
