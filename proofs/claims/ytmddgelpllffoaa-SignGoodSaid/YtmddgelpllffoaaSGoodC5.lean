/- Contracts of functions of the loaded program, and the lemmas that they need (part 5). It proves no statement by itself; it has no conditions. -/
import Derived.WalkKit
import Derived.Orders
import Derived.Deep.LoopGhost
import Derived.IntWalk
import Derived.Laws.StructEq
import Derived.Test.YtmddgelpllffoaaRows
import Derived.KernelRfl
import Derived.Laws.MathBits
import Derived.ArgAppend
import Derived.Deep.AppendSrc
import Derived.Lib.Bytealg
import Derived.Lib.BytesEntry
import Derived.Laws.IdiomStrings
import Derived.WideKeyArr2
import Derived.ProofKit
import Derived.OpenShut
import Derived.Deep.Slices
import Derived.Laws.Pointers
import Derived.Laws.Cover3
import Derived.LaidEqlPtr
import Derived.LoopN
import Derived.Laws.Externs
import Derived.RangeFuncLeaves
import Derived.RangeFuncSeq
import Derived.OrdersIn
import Derived.ChangeOld
import Derived.Below
import Derived.Test.YtmddgelpllffoaaSGoodC4
section
namespace Go.Proofs.Ytmddgelpllffoaa
open Go Hw
set_option linter.unusedVariables false
set_option linter.unusedSimpArgs false

open Ed

/-- SHA-512 -/
def sha512 (l : List UInt8) : List UInt8 := sumUp (allW kW startW l) 64
theorem sha512_length (l : List UInt8) : (sha512 l).length = 64 := sumUp_length _ _
theorem sha_StartS (s : List UInt64) (h : Hid (startW = s)) : Meets Try.prog 65 [] [] (fun _ => True) (fun v out => v = agg (wordsV s) ∧ out = []) := by
  rw [← h.out]; exact sha_Start

set_option maxRecDepth 100000 in
set_option maxHeartbeats 4000000 in
theorem sha_Sum512 (p : Option Addr) (n c : Nat) (ss : List Sl) (ls : List (List UInt8)) (hss : ss.length = n) (hls : ls.length = n) (hsl : ∀ j, j < n → (ss.getD j Sl.nil).n = (ls.getD j []).length ∧ ((ss.getD j Sl.nil).p = none → (ss.getD j Sl.nil).n = 0)) (F : List UInt8) (hF : ls.flatten = F) (htot : F.length ≤ 90000) (hn : n ≤ 1000000) (s : List UInt8) (hs : Hid (sha512 F = s))  : Meets Try.prog 32 [.slice p n c] [] (fun W => SeesP W p (ss.map Sl.v) ∧ ∀ j, j < n → SeesP W (ss.getD j Sl.nil).p (bytesV (ls.getD j []))) (fun v out => v = agg (bytesV s) ∧ out = []) := by
  intro W hW
  have hs64 : s.length = 64 := by rw [← hs.out]; exact sha512_length F
  obtain ⟨k, hk⟩ : ∃ k, Hid (kW = k) := ⟨_, ⟨rfl⟩⟩
  obtain ⟨st, hst⟩ : ∃ k, Hid (startW = k) := ⟨_, ⟨rfl⟩⟩
  obtain ⟨r, hr⟩ : ∃ r, Hid (allW k st F = r) := ⟨_, ⟨rfl⟩⟩
  have hk80 : k.length = 80 := by rw [← hk.out]; rfl
  have hst8 : st.length = 8 := by rw [← hst.out]; rfl
  have hr8 : r.length = 8 := by rw [← hr.out, allW_length]; exact hst8
  have hs2 : Hid (sumUp r 64 = s) := ⟨by rw [← hs.out, sha512, hk.out, hst.out, hr.out]⟩
  refine calls_of (hp0 := []) Try.func32 rfl 7 Try.ntmps32 rfl (HRep.nil _) ?_
  refine Sat.seq ?_
  refine Sat.region ?_
  refine Tr.alloc (cs := (bytesV (List.replicate 64 0))) rfl Zr27 rfl ?_
  intro n2 hn2 hf2
  refine Tr.nil ?_
  refine at_n ?_
  refine Sat.seq ?_
  refine Sat.region ?_
  refine Tr.callV rfl rfl rfl rfl Body65 (sha_StartS st hst) (fun _ _ => trivial) ?_
  refine Tr.move rfl rfl rfl ?_
  refine Tr.callV rfl rfl rfl rfl Body64 (sha_whole st hst8 k hk hk80 p n c ss ls hss hls hsl F hF htot hn) (fun w h => ⟨seesP_ext h rfl hW.1, fun j hj => seesP_ext h rfl (hW.2 j hj)⟩) ?_
  rw [hr.out]
  refine Tr.callV rfl rfl rfl rfl Body63 (sha_sum r hr8 s hs2) (fun _ _ => trivial) ?_
  first
    | refine Tr.storeAll rfl rfl rfl rfl cB Sz27 (by first | (simp [fb_length, pb_length, hs64]; done) | assumption | (rw [bytesV, List.length_map]; assumption)) mM (by first | (simp [fb_length, pb_length, hs64]; done) | assumption | (rw [bytesV, List.length_map]; assumption)) uU ?_
    | refine Tr.storeN _ rfl rfl rfl rfl rfl cB Sz27 (by first | (simp [fb_length, pb_length, hs64]; done) | assumption | (rw [bytesV, List.length_map]; assumption)) mM (by first | (simp [fb_length, pb_length, hs64]; done) | assumption | (rw [bytesV, List.length_map]; assumption)) (by exact rfl) uU ?_
  refine Tr.nil ?_
  refine at_n ?_
  refine Sat.ret ?_
  refine en_r ?_
  refine ⟨_, [], res_cell rfl rfl Try.underlying27 rfl Sz27 mM (by simp [fb_length, pb_length, hs64]), sP, sP, ?_, rfl⟩
  rfl

set_option maxRecDepth 100000 in
set_option maxHeartbeats 4000000 in
theorem sign_residue (p : Option Addr) (n c : Nat) (ss : List Sl) (ls : List (List UInt8)) (hss : ss.length = n) (hls : ls.length = n) (hsl : ∀ j, j < n → (ss.getD j Sl.nil).n = (ls.getD j []).length ∧ ((ss.getD j Sl.nil).p = none → (ss.getD j Sl.nil).n = 0)) (F : List UInt8) (hF : ls.flatten = F) (htot : F.length ≤ 90000) (hn : n ≤ 1000000) (s : List UInt8) (hs : Hid (sha512 F = s))  : Meets Try.prog 17 [.slice p n c] [] (fun W => SeesP W p (ss.map Sl.v) ∧ ∀ j, j < n → SeesP W (ss.getD j Sl.nil).p (bytesV (ls.getD j []))) (fun v out => v = agg (bytesV (leb 32 (le s % L))) ∧ out = []) := by
  intro W hW
  have hs64 : s.length = 64 := by rw [← hs.out]; exact sha512_length F
  refine calls_of (hp0 := []) Try.func17 rfl 14 Try.ntmps17 rfl (HRep.nil _) ?_
  refine Sat.seq ?_
  refine Sat.region ?_
  refine Tr.alloc (cs := (bytesV (List.replicate 32 0))) rfl Zr30 rfl ?_
  intro n2 hn2 hf2
  refine Tr.nil ?_
  refine at_n ?_
  refine Sat.seq ?_
  refine Sat.region ?_
  refine Tr.move rfl rfl rfl ?_
  refine Tr.callV rfl rfl rfl rfl Body32 (sha_Sum512 p n c ss ls hss hls hsl F hF htot hn s hs) (fun w h => ⟨seesP_ext h rfl hW.1, fun j hj => seesP_ext h rfl (hW.2 j hj)⟩) ?_
  refine Tr.alloc (cs := (bytesV (List.replicate 64 0))) rfl Zr27 rfl ?_
  intro n3 hn3 hf3
  first
    | refine Tr.storeAll rfl rfl rfl rfl cB Sz27 (by first | (simp [fb_length, pb_length, hs64, leb_length]; done) | assumption | (rw [bytesV, List.length_map]; assumption)) mM (by first | (simp [fb_length, pb_length, hs64, leb_length]; done) | assumption | (rw [bytesV, List.length_map]; assumption)) uU ?_
    | refine Tr.storeN _ rfl rfl rfl rfl rfl cB Sz27 (by first | (simp [fb_length, pb_length, hs64, leb_length]; done) | assumption | (rw [bytesV, List.length_map]; assumption)) mM (by first | (simp [fb_length, pb_length, hs64, leb_length]; done) | assumption | (rw [bytesV, List.length_map]; assumption)) (by exact rfl) uU ?_
  refine Tr.nil ?_
  refine at_n ?_
  refine Sat.seq ?_
  refine Sat.region ?_
  refine Tr.sliceArr rfl rfl rfl Try.underlying27 Sz5 ?_
  refine Tr.callV rfl rfl rfl rfl Body33 (scalar_rest n3 0 64 64 s hs64 dE) (fun w h => sees_own h mM) ?_
  refine Tr.move rfl rfl rfl ?_
  refine Tr.extract rfl rfl rfl rfl ?_
  refine Tr.extract rfl rfl rfl rfl ?_
  refine Tr.alloc (cs := (bytesV (List.replicate 32 0))) rfl Zr30 rfl ?_
  intro n4 hn4 hf4
  first
    | refine Tr.storeAll rfl rfl rfl rfl cB Sz30 (by first | (simp [fb_length, pb_length, hs64, leb_length]; done) | assumption | (rw [bytesV, List.length_map]; assumption)) mM (by first | (simp [fb_length, pb_length, hs64, leb_length]; done) | assumption | (rw [bytesV, List.length_map]; assumption)) uU ?_
    | refine Tr.storeN _ rfl rfl rfl rfl rfl cB Sz30 (by first | (simp [fb_length, pb_length, hs64, leb_length]; done) | assumption | (rw [bytesV, List.length_map]; assumption)) mM (by first | (simp [fb_length, pb_length, hs64, leb_length]; done) | assumption | (rw [bytesV, List.length_map]; assumption)) (by exact rfl) uU ?_
  refine Tr.assign rfl rfl rfl ?_
  refine Tr.nil ?_
  refine at_n ?_
  refine Sat.seq ?_
  refine Sat.region ?_
  first
    | refine Tr.loadAll rfl rfl rfl Try.underlying30 rfl Sz30 mM (by first | (simp [fb_length, pb_length, hs64, leb_length]; done) | assumption | (rw [bytesV, List.length_map]; assumption)) ?_
    | refine Tr.loadN _ rfl rfl rfl Try.underlying30 rfl Sz30 mM (by exact rfl) (by first | (simp [fb_length, pb_length, hs64, leb_length]; done) | assumption | (rw [bytesV, List.length_map]; assumption)) ?_
  first
    | refine Tr.storeAll rfl rfl rfl rfl cB Sz30 (by first | (simp [fb_length, pb_length, hs64, leb_length]; done) | assumption | (rw [bytesV, List.length_map]; assumption)) mM (by first | (simp [fb_length, pb_length, hs64, leb_length]; done) | assumption | (rw [bytesV, List.length_map]; assumption)) uU ?_
    | refine Tr.storeN _ rfl rfl rfl rfl rfl cB Sz30 (by first | (simp [fb_length, pb_length, hs64, leb_length]; done) | assumption | (rw [bytesV, List.length_map]; assumption)) mM (by first | (simp [fb_length, pb_length, hs64, leb_length]; done) | assumption | (rw [bytesV, List.length_map]; assumption)) (by exact rfl) uU ?_
  refine Tr.nil ?_
  refine at_n ?_
  refine Sat.ret ?_
  refine en_r ?_
  refine ⟨_, [], res_cell rfl rfl Try.underlying30 rfl Sz30 mM (by simp [fb_length, pb_length, hs64, leb_length]), sP, sP, ?_, rfl⟩
  rfl

set_option maxRecDepth 100000 in
set_option maxHeartbeats 4000000 in
theorem sign_multiple (a : List UInt8) (ha : a.length = 32) : Meets Try.prog 15 [agg (bytesV a)] [] (fun _ => True) (fun v out => v = agg (bytesV (pb (cv.mul (le a) bP))) ∧ out = []) := by
  intro W hW
  obtain ⟨Q, hQ⟩ : ∃ Q, cv.mul (le a) bP = Q := ⟨_, rfl⟩
  have hQo : cv.on Q := by rw [← hQ]; exact cv.on_mul bP_on _
  have hmul := curve_Mul a bP ha bP_on
  rw [hQ] at hmul ⊢
  refine calls_of (hp0 := []) Try.func15 rfl 13 Try.ntmps15 rfl (HRep.nil _) ?_
  refine Sat.seq ?_
  refine Sat.region ?_
  refine Tr.boxA rfl rfl ?_
  intro n1 hn1 hf1
  refine Tr.alloc (cs := (bytesV (List.replicate 32 0))) rfl Zr22 rfl ?_
  intro n2 hn2 hf2
  refine Tr.nil ?_
  refine at_n ?_
  refine Sat.seq ?_
  refine Sat.draw [(1, 0), (3, 1), (3, 2), (3, 3), (0, 4), (0, 5), (0, 6), (2, 7), (4, 8), (0, 9)] Mixed (by kernel_rfl) ?_
  first
    | refine Tr.loadAll rfl rfl rfl Try.underlying30 rfl Sz30 mM (by first | (simp [fb_length, pb_length, ha]; done) | assumption | (rw [bytesV, List.length_map]; assumption)) ?_
    | refine Tr.loadN _ rfl rfl rfl Try.underlying30 rfl Sz30 mM (by exact rfl) (by first | (simp [fb_length, pb_length, ha]; done) | assumption | (rw [bytesV, List.length_map]; assumption)) ?_
  refine Tr.callV rfl rfl rfl rfl Body25 (curve_Base) (fun _ _ => trivial) ?_
  refine Tr.callV rfl rfl rfl rfl Body31 (hmul) (fun _ _ => trivial) ?_
  refine Tr.callV rfl rfl rfl rfl Body30 (curve_Bytes Q hQo) (fun _ _ => trivial) ?_
  refine Tr.move rfl rfl rfl ?_
  refine Tr.extract rfl rfl rfl rfl ?_
  refine Tr.extract rfl rfl rfl rfl ?_
  refine Tr.alloc (cs := (bytesV (List.replicate 32 0))) rfl Zr22 rfl ?_
  intro n3 hn3 hf3
  first
    | refine Tr.storeAll rfl rfl rfl rfl cB Sz22 (by first | (simp [fb_length, pb_length, ha]; done) | assumption | (rw [bytesV, List.length_map]; assumption)) mM (by first | (simp [fb_length, pb_length, ha]; done) | assumption | (rw [bytesV, List.length_map]; assumption)) uU ?_
    | refine Tr.storeN _ rfl rfl rfl rfl rfl cB Sz22 (by first | (simp [fb_length, pb_length, ha]; done) | assumption | (rw [bytesV, List.length_map]; assumption)) mM (by first | (simp [fb_length, pb_length, ha]; done) | assumption | (rw [bytesV, List.length_map]; assumption)) (by exact rfl) uU ?_
  refine Tr.assign rfl rfl rfl ?_
  refine Tr.nil ?_
  refine at_n ?_
  refine Sat.seq ?_
  refine Sat.region ?_
  first
    | refine Tr.loadAll rfl rfl rfl Try.underlying22 rfl Sz22 mM (by first | (simp [fb_length, pb_length, ha]; done) | assumption | (rw [bytesV, List.length_map]; assumption)) ?_
    | refine Tr.loadN _ rfl rfl rfl Try.underlying22 rfl Sz22 mM (by exact rfl) (by first | (simp [fb_length, pb_length, ha]; done) | assumption | (rw [bytesV, List.length_map]; assumption)) ?_
  first
    | refine Tr.storeAll rfl rfl rfl rfl cB Sz22 (by first | (simp [fb_length, pb_length, ha]; done) | assumption | (rw [bytesV, List.length_map]; assumption)) mM (by first | (simp [fb_length, pb_length, ha]; done) | assumption | (rw [bytesV, List.length_map]; assumption)) uU ?_
    | refine Tr.storeN _ rfl rfl rfl rfl rfl cB Sz22 (by first | (simp [fb_length, pb_length, ha]; done) | assumption | (rw [bytesV, List.length_map]; assumption)) mM (by first | (simp [fb_length, pb_length, ha]; done) | assumption | (rw [bytesV, List.length_map]; assumption)) (by exact rfl) uU ?_
  refine Tr.nil ?_
  refine at_n ?_
  refine Sat.ret ?_
  refine en_r ?_
  refine ⟨_, [], res_cell rfl rfl Try.underlying22 rfl Sz22 mM (by simp [fb_length, pb_length, ha]), sP, sP, ?_, rfl⟩
  rfl

/-- the secret number of 32 bytes -/
def clampB (l : List UInt8) : List UInt8 := (l.set 0 (l.getD 0 0 &&& 248)).set 31 (((l.getD 31 0) &&& 127) ||| 64)
theorem clampB_length {l : List UInt8} (h : l.length = 32) : (clampB l).length = 32 := by simp [clampB, h]
theorem clamp_all (l z : List UInt8) (h : l.length = 32) : ((l ++ z).set 0 ((l ++ z).getD 0 0 &&& 248)).set 31 (((((l ++ z).set 0 ((l ++ z).getD 0 0 &&& 248)).getD 31 0) &&& 127) ||| 64) = clampB l ++ z := by
  have g : ∀ i, i < 32 → (l ++ z).getD i 0 = l.getD i 0 := fun i hi => by
    rw [List.getD_eq_getElem?_getD, List.getElem?_append_left oM, ← List.getD_eq_getElem?_getD]
  have g2 : ((l ++ z).set 0 ((l ++ z).getD 0 0 &&& 248)).getD 31 0 = l.getD 31 0 := by
    rw [List.getD_eq_getElem?_getD, List.getElem?_set_ne dE, ← List.getD_eq_getElem?_getD, g 31 dE]
  rw [g2, g 0 dE, List.set_append_left _ _ oM, List.set_append_left _ _ (by simp; omega)]
  rfl
def secB (h : List UInt8) : secrets := ⟨clampB (h.take 32), h.drop 32⟩
theorem secB_ok {h : List UInt8} (hl : h.length = 64) : (secB h).ok := ⟨clampB_length (by rw [List.length_take, hl]; rfl), by show (h.drop 32).length = 32; rw [List.length_drop, hl]⟩
theorem sec_first (l : List UInt8) : ({ secrets.zero with fNumber := l } : secrets).cells = bytesV (l ++ List.replicate 32 0) := by
  show bytesV l ++ bytesV (List.replicate 32 0) = _
  simp [bytesV]
theorem sec_last (l : List UInt8) : bytesV (clampB l ++ List.replicate 32 0) = (⟨clampB l, List.replicate 32 0⟩ : secrets).cells := by
  show _ = bytesV (clampB l) ++ bytesV (List.replicate 32 0)
  simp [bytesV]
theorem d64 {s : List UInt8} (h : s.length = 64) : (s.drop 32).take 32 = s.drop 32 := List.take_of_length_le (by rw [List.length_drop, h]; decide)

set_option maxRecDepth 100000 in
set_option maxHeartbeats 4000000 in
theorem sign_expand (seed : List UInt8) (h32 : seed.length = 32) (s : List UInt8) (hs : Hid (sha512 seed = s)) : Meets Try.prog 16 [agg (bytesV seed)] [] (fun _ => True) (fun v out => v = agg (secB s).cells ∧ out = []) := by
  intro W hW
  have hs64 : s.length = 64 := by rw [← hs.out]; exact sha512_length seed
  have ht32 : (s.take 32).length = 32 := by rw [List.length_take, hs64]; rfl
  have hd32 : (s.drop 32).length = 32 := by rw [List.length_drop, hs64]
  refine calls_of (hp0 := []) Try.func16 rfl 29 Try.ntmps16 rfl (HRep.nil _) ?_
  refine Sat.seq ?_
  refine Sat.region ?_
  refine Tr.boxA rfl rfl ?_
  intro n1 hn1 hf1
  refine Tr.alloc (cs := secrets.zero.cells) rfl secrets.zr rfl ?_
  intro n2 hn2 hf2
  refine Tr.nil ?_
  refine at_n ?_
  refine Sat.seq ?_
  refine Sat.region ?_
  refine Tr.sliceArr rfl rfl rfl Try.underlying22 Sz5 ?_
  refine Tr.mkRow2 (z := .slice none 0 0) [.slice (some ⟨n1, 0, none⟩) 32 32] [.slice (some ⟨n1, 0, none⟩) 32 32] rfl rfl Try.underlying62 Sz23 Zr23 rfl rfl (by intro v hv; rw [List.mem_singleton.1 hv]; rfl) dE rfl ?_
  intro q5
  refine Tr.callV rfl rfl rfl rfl Body32 (sha_Sum512 (some ⟨q5, 0, none⟩) 1 1 [⟨some ⟨n1, 0, none⟩, 32, 32⟩] [seed] rfl rfl (fun j hj => (by obtain rfl : j = 0 := oM; exact ⟨by simp [h32], fun e => by cases e⟩)) seed sP oM dE s hs) (fun w h => ⟨SeesP.of (sees_own h mM), fun j hj => (by obtain rfl : j = 0 := oM; exact SeesP.of (sees_own h mM))⟩) ?_
  refine Tr.alloc (cs := (bytesV (List.replicate 64 0))) rfl Zr27 rfl ?_
  intro n3 hn3 hf3
  first
    | refine Tr.storeAll rfl rfl rfl rfl cB Sz27 (by first | (simp [fb_length, pb_length, h32, hs64, ht32, hd32]; done) | assumption | (rw [bytesV, List.length_map]; assumption)) mM (by first | (simp [fb_length, pb_length, h32, hs64, ht32, hd32]; done) | assumption | (rw [bytesV, List.length_map]; assumption)) uU ?_
    | refine Tr.storeN _ rfl rfl rfl rfl rfl cB Sz27 (by first | (simp [fb_length, pb_length, h32, hs64, ht32, hd32]; done) | assumption | (rw [bytesV, List.length_map]; assumption)) mM (by first | (simp [fb_length, pb_length, h32, hs64, ht32, hd32]; done) | assumption | (rw [bytesV, List.length_map]; assumption)) (by exact rfl) uU ?_
  refine Tr.nil ?_
  refine at_n ?_
  refine Sat.seq ?_
  refine Sat.region ?_
  refine Tr.sliceArrHi 32 rfl rfl rfl rfl rfl dE dE Try.underlying27 Sz5 ?_
  refine Tr.s2a rfl rfl rfl Try.underlying30 oM ?_
  refine Tr.loadN (bytesV (s.take 32)) rfl rfl rfl Try.underlying30 rfl Sz30 mM (by rw [List.drop_zero, ← List.map_take]) (by rw [List.length_map]; exact ht32) ?_
  refine Tr.fld rfl rfl rfl Try.underlying45 rfl Sz30 dE _ rfl ?_
  refine Tr.storeN (bytesV _) rfl rfl rfl rfl rfl cB Sz30 (by simp [fb_length, pb_length, h32, hs64, ht32, hd32]) mM (by rw [secrets.length (by first | exact secB_ok hs64 | exact ⟨ht32, rfl⟩ | exact ⟨clampB_length ht32, rfl⟩ | exact ⟨clampB_length ht32, hd32⟩ | (simp [fb_length, pb_length, h32, hs64, ht32, hd32]; done) | exact oK | exact Point.zero_ok | exact wide.zero_ok | exact secrets.zero_ok )]; simp [fb_length, pb_length, h32, hs64, ht32, hd32]) (secrets.upd_fNumber (by first | exact secB_ok hs64 | exact ⟨ht32, rfl⟩ | exact ⟨clampB_length ht32, rfl⟩ | exact ⟨clampB_length ht32, hd32⟩ | (simp [fb_length, pb_length, h32, hs64, ht32, hd32]; done) | exact oK | exact Point.zero_ok | exact wide.zero_ok | exact secrets.zero_ok ) _ (by simp [fb_length, pb_length, h32, hs64, ht32, hd32])) uU ?_
  refine Tr.nil ?_
  refine at_n ?_
  refine Sat.seq ?_
  refine Sat.region ?_
  rw [sec_first]
  refine Tr.fld rfl rfl rfl Try.underlying45 rfl Sz30 dE _ rfl ?_
  first
    | refine Tr.idxArr1 rfl rfl rfl rfl Try.underlying30 Sz5 0 rfl dE ?_
    | refine Tr.idxArrO rfl rfl rfl rfl Try.underlying30 Sz5 0 rfl dE ?_
  refine Tr.load1 rfl rfl rfl Try.underlying5 rfl mM (get_bytes (by simp [ht32])) ?_
  refine Tr.and_u8 rfl rfl rfl (show evIn _ _ = some (u8 248) from rfl) ?_
  refine Tr.fld rfl rfl rfl Try.underlying45 rfl Sz30 dE _ rfl ?_
  first
    | refine Tr.idxArr1 rfl rfl rfl rfl Try.underlying30 Sz5 0 rfl dE ?_
    | refine Tr.idxArrO rfl rfl rfl rfl Try.underlying30 Sz5 0 rfl dE ?_
  refine Tr.store1 rfl rfl rfl rfl rfl Sz5 mM (by rw [bytesV, List.length_map]; simp [ht32]) (by exact set_bytes _ 0 _) uU ?_
  refine Tr.nil ?_
  refine at_n ?_
  refine Sat.seq ?_
  refine Sat.region ?_
  refine Tr.fld rfl rfl rfl Try.underlying45 rfl Sz30 dE _ rfl ?_
  first
    | refine Tr.idxArr1 rfl rfl rfl rfl Try.underlying30 Sz5 31 rfl dE ?_
    | refine Tr.idxArrO rfl rfl rfl rfl Try.underlying30 Sz5 31 rfl dE ?_
  refine Tr.load1 rfl rfl rfl Try.underlying5 rfl mM (get_bytes (by simp [ht32])) ?_
  refine Tr.and_u8 rfl rfl rfl (show evIn _ _ = some (u8 127) from rfl) ?_
  refine Tr.or_u8 rfl rfl rfl (show evIn _ _ = some (u8 64) from rfl) ?_
  refine Tr.fld rfl rfl rfl Try.underlying45 rfl Sz30 dE _ rfl ?_
  first
    | refine Tr.idxArr1 rfl rfl rfl rfl Try.underlying30 Sz5 31 rfl dE ?_
    | refine Tr.idxArrO rfl rfl rfl rfl Try.underlying30 Sz5 31 rfl dE ?_
  refine Tr.store1 rfl rfl rfl rfl rfl Sz5 mM (by rw [bytesV, List.length_map]; simp [ht32]) (by exact set_bytes _ 31 _) uU ?_
  refine Tr.nil ?_
  refine at_n ?_
  refine Sat.seq ?_
  refine Sat.region ?_
  rw [clamp_all _ _ ht32, sec_last]
  refine Tr.sliceArrLo 32 rfl rfl rfl rfl rfl dE Try.underlying27 Sz5 ?_
  refine Tr.s2a rfl rfl rfl Try.underlying22 oM ?_
  refine Tr.loadN (bytesV (s.drop 32)) rfl rfl rfl Try.underlying22 rfl Sz22 mM (by show ((s.map u8).drop 32).take 32 = _; rw [← List.map_drop, ← List.map_take, d64 hs64]) (by rw [List.length_map]; exact hd32) ?_
  refine Tr.fld rfl rfl rfl Try.underlying45 rfl Sz22 dE _ rfl ?_
  refine Tr.storeN (bytesV _) rfl rfl rfl rfl rfl cB Sz22 (by simp [fb_length, pb_length, h32, hs64, ht32, hd32]) mM (by rw [secrets.length (by first | exact secB_ok hs64 | exact ⟨ht32, rfl⟩ | exact ⟨clampB_length ht32, rfl⟩ | exact ⟨clampB_length ht32, hd32⟩ | (simp [fb_length, pb_length, h32, hs64, ht32, hd32]; done) | exact oK | exact Point.zero_ok | exact wide.zero_ok | exact secrets.zero_ok )]; simp [fb_length, pb_length, h32, hs64, ht32, hd32]) (secrets.upd_fRest (by first | exact secB_ok hs64 | exact ⟨ht32, rfl⟩ | exact ⟨clampB_length ht32, rfl⟩ | exact ⟨clampB_length ht32, hd32⟩ | (simp [fb_length, pb_length, h32, hs64, ht32, hd32]; done) | exact oK | exact Point.zero_ok | exact wide.zero_ok | exact secrets.zero_ok ) _ (by simp [fb_length, pb_length, h32, hs64, ht32, hd32])) uU ?_
  refine Tr.nil ?_
  refine at_n ?_
  refine Sat.seq ?_
  refine Sat.region ?_
  refine Tr.loadAll rfl rfl rfl Try.underlying45 rfl Sz45 mM (secrets.length (by first | exact secB_ok hs64 | exact ⟨ht32, rfl⟩ | exact ⟨clampB_length ht32, rfl⟩ | exact ⟨clampB_length ht32, hd32⟩ | (simp [fb_length, pb_length, h32, hs64, ht32, hd32]; done) | exact oK | exact Point.zero_ok | exact wide.zero_ok | exact secrets.zero_ok )) ?_
  refine Tr.storeAll rfl rfl rfl rfl (secrets.isCell (by first | exact secB_ok hs64 | exact ⟨ht32, rfl⟩ | exact ⟨clampB_length ht32, rfl⟩ | exact ⟨clampB_length ht32, hd32⟩ | (simp [fb_length, pb_length, h32, hs64, ht32, hd32]; done) | exact oK | exact Point.zero_ok | exact wide.zero_ok | exact secrets.zero_ok )) Sz45 (secrets.length (by first | exact secB_ok hs64 | exact ⟨ht32, rfl⟩ | exact ⟨clampB_length ht32, rfl⟩ | exact ⟨clampB_length ht32, hd32⟩ | (simp [fb_length, pb_length, h32, hs64, ht32, hd32]; done) | exact oK | exact Point.zero_ok | exact wide.zero_ok | exact secrets.zero_ok )) mM (secrets.length (by first | exact secB_ok hs64 | exact ⟨ht32, rfl⟩ | exact ⟨clampB_length ht32, rfl⟩ | exact ⟨clampB_length ht32, hd32⟩ | (simp [fb_length, pb_length, h32, hs64, ht32, hd32]; done) | exact oK | exact Point.zero_ok | exact wide.zero_ok | exact secrets.zero_ok )) uU ?_
  refine Tr.nil ?_
  refine at_n ?_
  refine Sat.ret ?_
  refine en_r ?_
  refine ⟨_, [], res_cell rfl rfl Try.underlying45 rfl Sz45 mM (by first | (simp [fb_length, pb_length, h32, hs64, ht32, hd32]; done) | exact secrets.length (by first | exact secB_ok hs64 | exact ⟨ht32, rfl⟩ | exact ⟨clampB_length ht32, rfl⟩ | exact ⟨clampB_length ht32, hd32⟩ | (simp [fb_length, pb_length, h32, hs64, ht32, hd32]; done) | exact oK | exact Point.zero_ok | exact wide.zero_ok | exact secrets.zero_ok )), sP, sP, ?_, rfl⟩
  rfl

set_option maxRecDepth 100000 in
set_option maxHeartbeats 4000000 in
theorem sign_Key (seed : List UInt8) (h32 : seed.length = 32) (s : List UInt8) (hs : Hid (sha512 seed = s)) : Meets Try.prog 6 [agg (bytesV seed)] [] (fun _ => True) (fun v out => v = agg (bytesV (pb (cv.mul (le (clampB (s.take 32))) bP))) ∧ out = []) := by
  intro W hW
  have hs64 : s.length = 64 := by rw [← hs.out]; exact sha512_length seed
  have hc32 : (clampB (s.take 32)).length = 32 := clampB_length (by rw [List.length_take, hs64]; rfl)
  have hm := sign_multiple (clampB (s.take 32)) hc32
  refine calls_of (hp0 := []) Try.func6 rfl 7 Try.ntmps6 rfl (HRep.nil _) ?_
  refine Sat.seq ?_
  refine Sat.region ?_
  refine Tr.boxA rfl rfl ?_
  intro n1 hn1 hf1
  refine Tr.alloc (cs := (bytesV (List.replicate 32 0))) rfl Zr25 rfl ?_
  intro n2 hn2 hf2
  refine Tr.nil ?_
  refine at_n ?_
  refine Sat.seq ?_
  refine Sat.region ?_
  first
    | refine Tr.loadAll rfl rfl rfl Try.underlying22 rfl Sz22 mM (by first | (simp [fb_length, pb_length, h32, hc32]; done) | assumption | (rw [bytesV, List.length_map]; assumption)) ?_
    | refine Tr.loadN _ rfl rfl rfl Try.underlying22 rfl Sz22 mM (by exact rfl) (by first | (simp [fb_length, pb_length, h32, hc32]; done) | assumption | (rw [bytesV, List.length_map]; assumption)) ?_
  refine Tr.callV rfl rfl rfl rfl Body16 (sign_expand seed h32 s hs) (fun _ _ => trivial) ?_
  refine Tr.fieldN (bytesV (clampB (s.take 32))) rfl rfl rfl Try.underlying45 rfl Try.underlying30 rfl Sz30 (secrets.row_fNumber (secB_ok hs64)) ?_
  refine Tr.callV rfl rfl rfl rfl Body15 (hm) (fun _ _ => trivial) ?_
  first
    | refine Tr.storeAll rfl rfl rfl rfl cB Sz25 (by first | (simp [fb_length, pb_length, h32, hc32]; done) | assumption | (rw [bytesV, List.length_map]; assumption)) mM (by first | (simp [fb_length, pb_length, h32, hc32]; done) | assumption | (rw [bytesV, List.length_map]; assumption)) uU ?_
    | refine Tr.storeN _ rfl rfl rfl rfl rfl cB Sz25 (by first | (simp [fb_length, pb_length, h32, hc32]; done) | assumption | (rw [bytesV, List.length_map]; assumption)) mM (by first | (simp [fb_length, pb_length, h32, hc32]; done) | assumption | (rw [bytesV, List.length_map]; assumption)) (by exact rfl) uU ?_
  refine Tr.nil ?_
  refine at_n ?_
  refine Sat.ret ?_
  refine en_r ?_
  refine ⟨_, [], res_cell rfl rfl Try.underlying25 rfl Sz25 mM (by simp [fb_length, pb_length, h32, hc32]), sP, sP, ?_, rfl⟩
  rfl

end Go.Proofs.Ytmddgelpllffoaa
end

section
namespace Go.Proofs.Ytmddgelpllffoaa
open Go Hw
set_option linter.unusedVariables false
set_option linter.unusedSimpArgs false

open Ed

/-- the residue of a hash -/
def sgR (s : List UInt8) : List UInt8 := leb 32 (le s % L)
theorem sgR_length (s : List UInt8) : (sgR s).length = 32 := leb_length _ _
def sgF (s1 : List UInt8) : List UInt8 := pb (cv.mul (le (sgR s1)) bP)
def sgK (s : List UInt8) : List UInt8 := pb (cv.mul (le (clampB (s.take 32))) bP)
theorem sgF_length (s : List UInt8) : (sgF s).length = 32 := pb_length _
theorem sgK_length (s : List UInt8) : (sgK s).length = 32 := pb_length _
def sgS (s s1 s2 : List UInt8) : List UInt8 := leb 32 ((le (sgR s2) * le (clampB (s.take 32)) + le (sgR s1)) % L)
theorem sgS_length (s s1 s2 : List UInt8) : (sgS s s1 s2).length = 32 := leb_length _ _
theorem upd_first {f : List UInt8} (h : f.length = 32) : upd (bytesV (List.replicate 64 0)) 0 (bytesV f) = bytesV (f ++ List.replicate 32 0) := by
  simp [upd, bytesV, h]
theorem upd_last {f g : List UInt8} (h : f.length = 32) (hg : g.length = 32) : upd (bytesV (f ++ List.replicate 32 0)) 32 (bytesV g) = bytesV (f ++ g) := by
  simp [upd, bytesV, h, hg]

theorem sign_residueR (p : Option Addr) (n c : Nat) (ss : List Sl) (ls : List (List UInt8)) (hss : ss.length = n) (hls : ls.length = n) (hsl : ∀ j, j < n → (ss.getD j Sl.nil).n = (ls.getD j []).length ∧ ((ss.getD j Sl.nil).p = none → (ss.getD j Sl.nil).n = 0)) (F : List UInt8) (hF : ls.flatten = F) (htot : F.length ≤ 90000) (hn : n ≤ 1000000) (s : List UInt8) (hs : Hid (sha512 F = s)) (r : List UInt8) (hr : Hid (sgR s = r))  : Meets Try.prog 17 [.slice p n c] [] (fun W => SeesP W p (ss.map Sl.v) ∧ ∀ j, j < n → SeesP W (ss.getD j Sl.nil).p (bytesV (ls.getD j []))) (fun v out => v = agg (bytesV r) ∧ out = []) := by
  have h := sign_residue p n c ss ls hss hls hsl F hF htot hn s hs
  rwa [show leb 32 (le s % L) = r from hr.out] at h

theorem take_sees {l : List UInt8} {n i : Nat} {v : Value} (h : (bytesV (l.take n))[i]? = some v) : (bytesV l)[i]? = some v := by
  rw [bytesV, List.map_take, List.getElem?_take] at h
  split at h
  · exact h
  · cases h

set_option maxRecDepth 100000 in
set_option maxHeartbeats 8000000 in
theorem sign_Sign (seed : List UInt8) (h32 : seed.length = 32) (sb : Sl) (bb : List UInt8) (hbn : bb.length ≤ 80000) (s s1 s2 : List UInt8) (hs : Hid (sha512 seed = s)) (hs1 : Hid (sha512 (s.drop 32 ++ bb) = s1)) (hs2 : Hid (sha512 (sgF s1 ++ (sgK s ++ bb)) = s2)) : Meets Try.prog 7 [agg (bytesV seed), sb.v] [] (fun W => BytesAt W sb bb) (fun v out => v = agg (bytesV (sgF s1 ++ sgS s s1 s2)) ∧ out = []) := by
  intro W hW
  have hs64 : s.length = 64 := by rw [← hs.out]; exact sha512_length seed
  have hexp := sign_expand seed h32 s hs
  obtain ⟨sc, hsc⟩ : ∃ sc, secB s = sc := ⟨_, rfl⟩
  rw [hsc] at hexp
  have hok : sc.ok := by rw [← hsc]; exact secB_ok hs64
  have hnum : clampB (s.take 32) = sc.fNumber := by rw [← hsc]; rfl
  have hrst : s.drop 32 = sc.fRest := by rw [← hsc]; rfl
  have hnl := hok.l_fNumber
  have hrl := hok.l_fRest
  obtain ⟨r1, hr1⟩ : ∃ r, Hid (sgR s1 = r) := ⟨_, ⟨rfl⟩⟩
  obtain ⟨r2, hr2⟩ : ∃ r, Hid (sgR s2 = r) := ⟨_, ⟨rfl⟩⟩
  have hr1l : r1.length = 32 := by rw [← hr1.out]; exact sgR_length s1
  have hr2l : r2.length = 32 := by rw [← hr2.out]; exact sgR_length s2
  have hm1 := sign_multiple sc.fNumber hnl
  have hm2 := sign_multiple r1 hr1l
  obtain ⟨K1, hK1⟩ : ∃ l, Hid (sgK s = l) := ⟨_, ⟨rfl⟩⟩
  obtain ⟨F1, hF1⟩ : ∃ l, Hid (sgF s1 = l) := ⟨_, ⟨rfl⟩⟩
  obtain ⟨S1, hS1⟩ : ∃ l, Hid (sgS s s1 s2 = l) := ⟨_, ⟨rfl⟩⟩
  have hF1l : F1.length = 32 := by rw [← hF1.out]; exact sgF_length s1
  have hK1l : K1.length = 32 := by rw [← hK1.out]; exact sgK_length s
  have hSl : S1.length = 32 := by rw [← hS1.out]; exact sgS_length s s1 s2
  rw [show pb (cv.mul (le sc.fNumber) bP) = K1 from by rw [← hK1.out, sgK, hnum]] at hm1
  rw [show pb (cv.mul (le r1) bP) = F1 from by rw [← hF1.out, sgF, hr1.out]] at hm2
  have hma := scalar_muladd r2 sc.fNumber r1 hr2l hnl hr1l
  rw [show leb 32 ((le r2 * le sc.fNumber + le r1) % L) = S1 from by rw [← hS1.out, sgS, hr1.out, hr2.out, hnum]] at hma
  rw [hF1.out, hS1.out]
  rw [hF1.out, hK1.out] at hs2
  rw [hrst] at hs1
  clear hsc hnum hrst
  refine calls_of (hp0 := []) Try.func7 rfl 39 Try.ntmps7 rfl (HRep.nil _) ?_
  refine Sat.seq ?_
  refine Sat.region ?_
  refine Tr.boxA rfl rfl ?_
  intro n2 hn2 hf2
  refine Tr.alloc (cs := (bytesV (List.replicate 64 0))) rfl Zr28 rfl ?_
  intro n4 hn4 hf4
  refine Tr.nil ?_
  refine at_n ?_
  refine Sat.seq ?_
  refine Sat.region ?_
  first
    | refine Tr.loadAll rfl rfl rfl Try.underlying22 rfl Sz22 mM (by first | (simp [fb_length, pb_length, leb_length, h32, hF1l, hK1l, hr1l, hr2l, hSl]; done) | assumption | (rw [bytesV, List.length_map]; assumption)) ?_
    | refine Tr.loadN _ rfl rfl rfl Try.underlying22 rfl Sz22 mM (by exact rfl) (by first | (simp [fb_length, pb_length, leb_length, h32, hF1l, hK1l, hr1l, hr2l, hSl]; done) | assumption | (rw [bytesV, List.length_map]; assumption)) ?_
  refine Tr.callV rfl rfl rfl rfl Body16 (hexp) (fun _ _ => trivial) ?_
  refine Tr.alloc (cs := secrets.zero.cells) rfl secrets.zr rfl ?_
  intro n5 hn5 hf5
  refine Tr.storeAll rfl rfl rfl rfl (secrets.isCell (by first | exact hok | (simp [fb_length, pb_length, leb_length, h32, hF1l, hK1l, hr1l, hr2l, hSl]; done) | exact oK | exact Point.zero_ok | exact wide.zero_ok | exact secrets.zero_ok )) Sz45 (secrets.length (by first | exact hok | (simp [fb_length, pb_length, leb_length, h32, hF1l, hK1l, hr1l, hr2l, hSl]; done) | exact oK | exact Point.zero_ok | exact wide.zero_ok | exact secrets.zero_ok )) mM (secrets.length (by first | exact hok | (simp [fb_length, pb_length, leb_length, h32, hF1l, hK1l, hr1l, hr2l, hSl]; done) | exact oK | exact Point.zero_ok | exact wide.zero_ok | exact secrets.zero_ok )) uU ?_
  refine Tr.nil ?_
  refine at_n ?_
  refine Sat.seq ?_
  refine Sat.region ?_
  refine Tr.fld rfl rfl rfl Try.underlying45 rfl Sz30 dE _ rfl ?_
  first
    | refine Tr.loadN (bytesV _) rfl rfl rfl Try.underlying30 rfl Sz30 mM (secrets.row_fNumber (by first | exact hok | (simp [fb_length, pb_length, leb_length, h32, hF1l, hK1l, hr1l, hr2l, hSl]; done) | exact oK | exact Point.zero_ok | exact wide.zero_ok | exact secrets.zero_ok )) (secrets.rl_fNumber (by first | exact hok | (simp [fb_length, pb_length, leb_length, h32, hF1l, hK1l, hr1l, hr2l, hSl]; done) | exact oK | exact Point.zero_ok | exact wide.zero_ok | exact secrets.zero_ok )) ?_
  refine Tr.callV rfl rfl rfl rfl Body15 (hm1) (fun _ _ => trivial) ?_
  refine Tr.alloc (cs := (bytesV (List.replicate 32 0))) rfl Zr22 rfl ?_
  intro n6 hn6 hf6
  first
    | refine Tr.storeAll rfl rfl rfl rfl cB Sz22 (by first | (simp [fb_length, pb_length, leb_length, h32, hF1l, hK1l, hr1l, hr2l, hSl]; done) | assumption | (rw [bytesV, List.length_map]; assumption)) mM (by first | (simp [fb_length, pb_length, leb_length, h32, hF1l, hK1l, hr1l, hr2l, hSl]; done) | assumption | (rw [bytesV, List.length_map]; assumption)) uU ?_
    | refine Tr.storeN _ rfl rfl rfl rfl rfl cB Sz22 (by first | (simp [fb_length, pb_length, leb_length, h32, hF1l, hK1l, hr1l, hr2l, hSl]; done) | assumption | (rw [bytesV, List.length_map]; assumption)) mM (by first | (simp [fb_length, pb_length, leb_length, h32, hF1l, hK1l, hr1l, hr2l, hSl]; done) | assumption | (rw [bytesV, List.length_map]; assumption)) (by exact rfl) uU ?_
  refine Tr.nil ?_
  refine at_n ?_
  refine Sat.seq ?_
  refine Sat.region ?_
  refine Tr.fld rfl rfl rfl Try.underlying45 rfl Sz22 dE _ rfl ?_
  refine Tr.sliceArr rfl rfl rfl Try.underlying22 Sz5 ?_
  refine Tr.move rfl rfl rfl ?_
  refine Tr.mkRow2 (z := .slice none 0 0) [.slice (some ⟨n5, 32, none⟩) 32 32, sb.v] [.slice (some ⟨n5, 32, none⟩) 32 32, sb.v] rfl rfl Try.underlying62 Sz23 Zr23 rfl rfl (by intro v hv; simp only [List.mem_cons, List.not_mem_nil, or_false] at hv; rcases hv with rfl | rfl <;> rfl) dE rfl ?_
  intro q19
  refine Tr.callV rfl rfl rfl rfl Body17 (sign_residueR (some ⟨q19, 0, none⟩) 2 2 [⟨some ⟨n5, 32, none⟩, 32, 32⟩, sb] [sc.fRest, bb] rfl rfl (fun j hj => (by
      rcases (show j = 0 ∨ j = 1 by omega) with rfl | rfl
      · exact ⟨by show 32 = List.length _; exact hrl.symm, fun e => by cases e⟩
      · exact ⟨by show sb.n = bb.length; exact hW.len.symm, fun e => by have h1 := hW.nil e; have h2 := hW.cap; show sb.n = 0; omega⟩)) (sc.fRest ++ bb) sP (by simp [hrl]; omega) dE s1 hs1 r1 hr1) (fun w h => ⟨SeesP.of (sees_own h mM), (fun j hj => (by
      rcases (show j = 0 ∨ j = 1 by omega) with rfl | rfl
      · exact SeesP.of (by have h9 := sees_subC (sees_own h mM) (secrets.see_fRest hok); exact h9)
      · exact seesP_ext h rfl hW.see))⟩) ?_
  refine Tr.alloc (cs := (bytesV (List.replicate 32 0))) rfl Zr30 rfl ?_
  intro n7 hn7 hf7
  first
    | refine Tr.storeAll rfl rfl rfl rfl cB Sz30 (by first | (simp [fb_length, pb_length, leb_length, h32, hF1l, hK1l, hr1l, hr2l, hSl]; done) | assumption | (rw [bytesV, List.length_map]; assumption)) mM (by first | (simp [fb_length, pb_length, leb_length, h32, hF1l, hK1l, hr1l, hr2l, hSl]; done) | assumption | (rw [bytesV, List.length_map]; assumption)) uU ?_
    | refine Tr.storeN _ rfl rfl rfl rfl rfl cB Sz30 (by first | (simp [fb_length, pb_length, leb_length, h32, hF1l, hK1l, hr1l, hr2l, hSl]; done) | assumption | (rw [bytesV, List.length_map]; assumption)) mM (by first | (simp [fb_length, pb_length, leb_length, h32, hF1l, hK1l, hr1l, hr2l, hSl]; done) | assumption | (rw [bytesV, List.length_map]; assumption)) (by exact rfl) uU ?_
  refine Tr.nil ?_
  refine at_n ?_
  refine Sat.seq ?_
  refine Sat.region ?_
  first
    | refine Tr.loadAll rfl rfl rfl Try.underlying30 rfl Sz30 mM (by first | (simp [fb_length, pb_length, leb_length, h32, hF1l, hK1l, hr1l, hr2l, hSl]; done) | assumption | (rw [bytesV, List.length_map]; assumption)) ?_
    | refine Tr.loadN _ rfl rfl rfl Try.underlying30 rfl Sz30 mM (by exact rfl) (by first | (simp [fb_length, pb_length, leb_length, h32, hF1l, hK1l, hr1l, hr2l, hSl]; done) | assumption | (rw [bytesV, List.length_map]; assumption)) ?_
  refine Tr.callV rfl rfl rfl rfl Body15 (hm2) (fun _ _ => trivial) ?_
  refine Tr.alloc (cs := (bytesV (List.replicate 32 0))) rfl Zr22 rfl ?_
  intro n8 hn8 hf8
  first
    | refine Tr.storeAll rfl rfl rfl rfl cB Sz22 (by first | (simp [fb_length, pb_length, leb_length, h32, hF1l, hK1l, hr1l, hr2l, hSl]; done) | assumption | (rw [bytesV, List.length_map]; assumption)) mM (by first | (simp [fb_length, pb_length, leb_length, h32, hF1l, hK1l, hr1l, hr2l, hSl]; done) | assumption | (rw [bytesV, List.length_map]; assumption)) uU ?_
    | refine Tr.storeN _ rfl rfl rfl rfl rfl cB Sz22 (by first | (simp [fb_length, pb_length, leb_length, h32, hF1l, hK1l, hr1l, hr2l, hSl]; done) | assumption | (rw [bytesV, List.length_map]; assumption)) mM (by first | (simp [fb_length, pb_length, leb_length, h32, hF1l, hK1l, hr1l, hr2l, hSl]; done) | assumption | (rw [bytesV, List.length_map]; assumption)) (by exact rfl) uU ?_
  refine Tr.nil ?_
  refine at_n ?_
  refine Sat.seq ?_
  refine Sat.draw [(0, 0), (0, 1), (0, 2), (0, 5), (1, 6), (1, 7), (2, 3), (3, 4), (3, 8), (2, 9), (4, 10)] Mixed (by kernel_rfl) ?_
  refine Tr.sliceArr rfl rfl rfl Try.underlying22 Sz5 ?_
  refine Tr.sliceArr rfl rfl rfl Try.underlying22 Sz5 ?_
  refine Tr.move rfl rfl rfl ?_
  refine Tr.fld rfl rfl rfl Try.underlying45 rfl Sz30 dE _ rfl ?_
  first
    | refine Tr.loadN (bytesV _) rfl rfl rfl Try.underlying30 rfl Sz30 mM (secrets.row_fNumber (by first | exact hok | (simp [fb_length, pb_length, leb_length, h32, hF1l, hK1l, hr1l, hr2l, hSl]; done) | exact oK | exact Point.zero_ok | exact wide.zero_ok | exact secrets.zero_ok )) (secrets.rl_fNumber (by first | exact hok | (simp [fb_length, pb_length, leb_length, h32, hF1l, hK1l, hr1l, hr2l, hSl]; done) | exact oK | exact Point.zero_ok | exact wide.zero_ok | exact secrets.zero_ok )) ?_
  first
    | refine Tr.loadAll rfl rfl rfl Try.underlying30 rfl Sz30 mM (by first | (simp [fb_length, pb_length, leb_length, h32, hF1l, hK1l, hr1l, hr2l, hSl]; done) | assumption | (rw [bytesV, List.length_map]; assumption)) ?_
    | refine Tr.loadN _ rfl rfl rfl Try.underlying30 rfl Sz30 mM (by exact rfl) (by first | (simp [fb_length, pb_length, leb_length, h32, hF1l, hK1l, hr1l, hr2l, hSl]; done) | assumption | (rw [bytesV, List.length_map]; assumption)) ?_
  refine Tr.mkRow2 (z := .slice none 0 0) [.slice (some ⟨n8, 0, none⟩) 32 32, .slice (some ⟨n6, 0, none⟩) 32 32, sb.v] [.slice (some ⟨n8, 0, none⟩) 32 32, .slice (some ⟨n6, 0, none⟩) 32 32, sb.v] rfl rfl Try.underlying62 Sz23 Zr23 rfl rfl (by intro v hv; simp only [List.mem_cons, List.not_mem_nil, or_false] at hv; rcases hv with rfl | rfl | rfl <;> rfl) dE rfl ?_
  intro q26
  refine Tr.callV rfl rfl rfl rfl Body17 (sign_residueR (some ⟨q26, 0, none⟩) 3 3 [⟨some ⟨n8, 0, none⟩, 32, 32⟩, ⟨some ⟨n6, 0, none⟩, 32, 32⟩, sb] [F1, K1, bb] rfl rfl (fun j hj => (by
      rcases (show j = 0 ∨ j = 1 ∨ j = 2 by omega) with rfl | rfl | rfl
      · exact ⟨by show 32 = List.length _; exact hF1l.symm, fun e => by cases e⟩
      · exact ⟨by show 32 = List.length _; exact hK1l.symm, fun e => by cases e⟩
      · exact ⟨by show sb.n = bb.length; exact hW.len.symm, fun e => by have h1 := hW.nil e; have h2 := hW.cap; show sb.n = 0; omega⟩)) (F1 ++ (K1 ++ bb)) sP (by simp [hF1l, hK1l]; omega) dE s2 hs2 r2 hr2) (fun w h => ⟨SeesP.of (sees_own h mM), (fun j hj => (by
      rcases (show j = 0 ∨ j = 1 ∨ j = 2 by omega) with rfl | rfl | rfl
      · exact SeesP.of (sees_own (cs := bytesV F1) h mM)
      · exact SeesP.of (sees_own (cs := bytesV K1) h mM)
      · exact seesP_ext h rfl hW.see))⟩) ?_
  refine Tr.callV rfl rfl rfl rfl Body18 (hma) (fun _ _ => trivial) ?_
  refine Tr.alloc (cs := (bytesV (List.replicate 32 0))) rfl Zr30 rfl ?_
  intro n9 hn9 hf9
  first
    | refine Tr.storeAll rfl rfl rfl rfl cB Sz30 (by first | (simp [fb_length, pb_length, leb_length, h32, hF1l, hK1l, hr1l, hr2l, hSl]; done) | assumption | (rw [bytesV, List.length_map]; assumption)) mM (by first | (simp [fb_length, pb_length, leb_length, h32, hF1l, hK1l, hr1l, hr2l, hSl]; done) | assumption | (rw [bytesV, List.length_map]; assumption)) uU ?_
    | refine Tr.storeN _ rfl rfl rfl rfl rfl cB Sz30 (by first | (simp [fb_length, pb_length, leb_length, h32, hF1l, hK1l, hr1l, hr2l, hSl]; done) | assumption | (rw [bytesV, List.length_map]; assumption)) mM (by first | (simp [fb_length, pb_length, leb_length, h32, hF1l, hK1l, hr1l, hr2l, hSl]; done) | assumption | (rw [bytesV, List.length_map]; assumption)) (by exact rfl) uU ?_
  refine Tr.nil ?_
  refine at_n ?_
  refine Sat.seq ?_
  refine Sat.region ?_
  refine Tr.alloc (cs := (bytesV (List.replicate 64 0))) rfl Zr28 rfl ?_
  intro n10 hn10 hf10
  refine Tr.nil ?_
  refine at_n ?_
  refine Sat.seq ?_
  refine Sat.draw [(0, 0), (0, 1), (4, 2)] Mixed (by kernel_rfl) ?_
  refine Tr.sliceArrHi 32 rfl rfl rfl rfl rfl dE dE Try.underlying28 Sz5 ?_
  refine Tr.sliceArr rfl rfl rfl Try.underlying22 Sz5 ?_
  refine Tr.copyP (bytesV F1) 32 rfl rfl rfl rfl rfl Try.underlying23 Sz5 (fun w h => SeesP.of (sees_own h mM)) (fun e => by cases e) (by rw [bytesV, List.length_map]; exact hF1l) rfl (by rw [bytesV, ← List.map_take, List.take_of_length_le (Nat.le_of_eq hF1l)]) (bytesV_cell _) mM sO (by exact upd_first hF1l) uU ?_
  refine Tr.nil ?_
  refine at_n ?_
  refine Sat.seq ?_
  refine Sat.draw [(0, 0), (0, 1), (4, 2)] Mixed (by kernel_rfl) ?_
  refine Tr.sliceArrLo 32 rfl rfl rfl rfl rfl dE Try.underlying28 Sz5 ?_
  refine Tr.sliceArr rfl rfl rfl Try.underlying30 Sz5 ?_
  refine Tr.copyP (bytesV S1) 32 rfl rfl rfl rfl rfl Try.underlying23 Sz5 (fun w h => SeesP.of (sees_own h mM)) (fun e => by cases e) (by rw [bytesV, List.length_map]; exact hSl) rfl (by rw [bytesV, ← List.map_take, List.take_of_length_le (Nat.le_of_eq hSl)]) (bytesV_cell _) mM sO (by exact upd_last hF1l hSl) uU ?_
  refine Tr.nil ?_
  refine at_n ?_
  refine Sat.seq ?_
  refine Sat.region ?_
  first
    | refine Tr.loadAll rfl rfl rfl Try.underlying28 rfl Sz28 mM (by first | (simp [fb_length, pb_length, leb_length, h32, hF1l, hK1l, hr1l, hr2l, hSl]; done) | assumption | (rw [bytesV, List.length_map]; assumption)) ?_
    | refine Tr.loadN _ rfl rfl rfl Try.underlying28 rfl Sz28 mM (by exact rfl) (by first | (simp [fb_length, pb_length, leb_length, h32, hF1l, hK1l, hr1l, hr2l, hSl]; done) | assumption | (rw [bytesV, List.length_map]; assumption)) ?_
  first
    | refine Tr.storeAll rfl rfl rfl rfl cB Sz28 (by first | (simp [fb_length, pb_length, leb_length, h32, hF1l, hK1l, hr1l, hr2l, hSl]; done) | assumption | (rw [bytesV, List.length_map]; assumption)) mM (by first | (simp [fb_length, pb_length, leb_length, h32, hF1l, hK1l, hr1l, hr2l, hSl]; done) | assumption | (rw [bytesV, List.length_map]; assumption)) uU ?_
    | refine Tr.storeN _ rfl rfl rfl rfl rfl cB Sz28 (by first | (simp [fb_length, pb_length, leb_length, h32, hF1l, hK1l, hr1l, hr2l, hSl]; done) | assumption | (rw [bytesV, List.length_map]; assumption)) mM (by first | (simp [fb_length, pb_length, leb_length, h32, hF1l, hK1l, hr1l, hr2l, hSl]; done) | assumption | (rw [bytesV, List.length_map]; assumption)) (by exact rfl) uU ?_
  refine Tr.nil ?_
  refine at_n ?_
  refine Sat.ret ?_
  refine en_r ?_
  refine ⟨_, [], res_cell rfl rfl Try.underlying28 rfl Sz28 mM (by simp [fb_length, pb_length, leb_length, h32, hF1l, hK1l, hr1l, hr2l, hSl]), sP, sP, ?_, rfl⟩
  rfl

theorem curve_Read_none (b : List UInt8) (hb : b.length = 32) (h : rdP b = none) : Meets Try.prog 23 [agg (bytesV b)] [] (fun _ => True) (fun v out => v = .tuple #[agg Point.zero.cells, i64 4] ∧ out = []) := by
  have := curve_Read b hb
  rwa [rdV_none h] at this
theorem curve_Read_some (b : List UInt8) (P : Pt Fp) (hb : b.length = 32) (h : rdP b = some P) : Meets Try.prog 23 [agg (bytesV b)] [] (fun _ => True) (fun v out => v = .tuple #[agg (ptc P).cells, i64 0] ∧ out = []) := by
  have := curve_Read b hb
  rwa [rdV_some h] at this
open Classical in
noncomputable def goodB (k bb sg : List UInt8) : Bool := decide (le (sg.drop 32) < L ∧ ∃ A R, rdP k = some A ∧ rdP (sg.take 32) = some R ∧ cv.lin (le (sg.drop 32)) (le (sgR (sha512 (sg.take 32 ++ (k ++ bb))))) bP (neg A) = R)
theorem good_dec {k bb sg : List UInt8} {A R Q : Pt Fp} (h1 : le (sg.drop 32) < L) (h2 : rdP k = some A) (h3 : rdP (sg.take 32) = some R) (h4 : cv.lin (le (sg.drop 32)) (le (sgR (sha512 (sg.take 32 ++ (k ++ bb))))) bP (neg A) = Q) : @decide (ptc Q = ptc R) (Classical.propDecidable _) = goodB k bb sg := by
  rw [goodB, Bool.eq_iff_iff]
  simp only [decide_eq_true_eq, ptc_inj]
  constructor
  · intro h
    exact ⟨h1, A, R, h2, h3, h4.trans h⟩
  · rintro ⟨_, A', R', e1, e2, e3⟩
    rw [h2] at e1; rw [h3] at e2
    cases e1; cases e2
    exact h4.symm.trans e3
theorem good_no {k bb sg : List UInt8} (h : ¬ (le (sg.drop 32) < L ∧ (∃ A, rdP k = some A) ∧ ∃ R, rdP (sg.take 32) = some R)) : goodB k bb sg = false := by
  rw [goodB, decide_eq_false_iff_not]
  intro e
  refine h ?_
  obtain ⟨h1, A, R, h2, h3, _⟩ := e
  exact ⟨h1, ⟨A, h2⟩, ⟨R, h3⟩⟩

set_option maxRecDepth 100000 in
set_option maxHeartbeats 8000000 in
theorem sign_Good_c (k : List UInt8) (hk : k.length = 32) (sb : Sl) (bb : List UInt8) (hbn : bb.length ≤ 80000) (sg : List UInt8) (hsg : sg.length = 64) (hc : ¬ le (sg.drop 32) < L) : Meets Try.prog 10 [agg (bytesV k), sb.v, agg (bytesV sg)] [] (fun W => BytesAt W sb bb) (fun v out => v = .bool false ∧ out = []) := by
  intro W hW
  have hd32 : (sg.drop 32).length = 32 := by rw [List.length_drop, hsg]
  have ht32 : (sg.take 32).length = 32 := by rw [List.length_take, hsg]; rfl
  refine calls_of (hp0 := []) Try.func10 rfl 45 Try.ntmps10 rfl (HRep.nil _) ?_
  refine Sat.seq ?_
  refine Sat.region ?_
  refine Tr.boxA rfl rfl ?_
  intro n3 hn3 hf3
  refine Tr.boxA rfl rfl ?_
  intro n5 hn5 hf5
  refine Tr.assign rfl rfl rfl ?_
  refine Tr.nil ?_
  refine at_n ?_
  refine Sat.seq ?_
  refine Sat.region ?_
  refine Tr.sliceArrLo 32 rfl rfl rfl rfl rfl dE Try.underlying28 Sz5 ?_
  refine Tr.s2a rfl rfl rfl Try.underlying30 oM ?_
  refine Tr.loadN (bytesV (sg.drop 32)) rfl rfl rfl Try.underlying30 rfl Sz30 mM (by show ((sg.map u8).drop 32).take 32 = _; rw [← List.map_drop, ← List.map_take, d64 hsg]) (by rw [List.length_map]; exact hd32) ?_
  refine Tr.alloc (cs := (bytesV (List.replicate 32 0))) rfl Zr30 rfl ?_
  intro n7 hn7 hf7
  first
    | refine Tr.storeAll rfl rfl rfl rfl cB Sz30 (by first | (simp [fb_length, pb_length, leb_length, hk, hsg, hd32, ht32]; done) | assumption | (rw [bytesV, List.length_map]; assumption)) mM (by first | (simp [fb_length, pb_length, leb_length, hk, hsg, hd32, ht32]; done) | assumption | (rw [bytesV, List.length_map]; assumption)) uU ?_
    | refine Tr.storeN _ rfl rfl rfl rfl rfl cB Sz30 (by first | (simp [fb_length, pb_length, leb_length, hk, hsg, hd32, ht32]; done) | assumption | (rw [bytesV, List.length_map]; assumption)) mM (by first | (simp [fb_length, pb_length, leb_length, hk, hsg, hd32, ht32]; done) | assumption | (rw [bytesV, List.length_map]; assumption)) (by exact rfl) uU ?_
  refine Tr.nil ?_
  refine at_n ?_
  refine Sat.seq ?_
  refine Sat.seq ?_
  refine Sat.region ?_
  first
    | refine Tr.loadAll rfl rfl rfl Try.underlying30 rfl Sz30 mM (by first | (simp [fb_length, pb_length, leb_length, hk, hsg, hd32, ht32]; done) | assumption | (rw [bytesV, List.length_map]; assumption)) ?_
    | refine Tr.loadN _ rfl rfl rfl Try.underlying30 rfl Sz30 mM (by exact rfl) (by first | (simp [fb_length, pb_length, leb_length, hk, hsg, hd32, ht32]; done) | assumption | (rw [bytesV, List.length_map]; assumption)) ?_
  refine Tr.callV rfl rfl rfl rfl Body22 (scalar_canon (sg.drop 32) hd32) (fun _ _ => trivial) ?_
  refine Tr.not rfl rfl rfl ?_
  refine Tr.nil ?_
  refine at_n ?_
  refine Sat.cond_t rfl (by rw [decide_eq_false hc]; rfl) ?_
  refine Sat.seq ?_
  refine Sat.region ?_
  refine Tr.assign rfl rfl rfl ?_
  refine Tr.nil ?_
  refine at_n ?_
  refine Sat.ret ?_
  refine at_r ?_
  refine en_r ?_
  refine ⟨_, [], res_tmp rfl rfl, sP, sP, ?_, rfl⟩
  rfl

set_option maxRecDepth 100000 in
set_option maxHeartbeats 8000000 in
theorem sign_Good_k (k : List UInt8) (hk : k.length = 32) (sb : Sl) (bb : List UInt8) (hbn : bb.length ≤ 80000) (sg : List UInt8) (hsg : sg.length = 64) (hc : le (sg.drop 32) < L) (h1 : rdP k = none) : Meets Try.prog 10 [agg (bytesV k), sb.v, agg (bytesV sg)] [] (fun W => BytesAt W sb bb) (fun v out => v = .bool false ∧ out = []) := by
  intro W hW
  have hd32 : (sg.drop 32).length = 32 := by rw [List.length_drop, hsg]
  have ht32 : (sg.take 32).length = 32 := by rw [List.length_take, hsg]; rfl
  refine calls_of (hp0 := []) Try.func10 rfl 45 Try.ntmps10 rfl (HRep.nil _) ?_
  refine Sat.seq ?_
  refine Sat.region ?_
  refine Tr.boxA rfl rfl ?_
  intro n3 hn3 hf3
  refine Tr.boxA rfl rfl ?_
  intro n5 hn5 hf5
  refine Tr.assign rfl rfl rfl ?_
  refine Tr.nil ?_
  refine at_n ?_
  refine Sat.seq ?_
  refine Sat.region ?_
  refine Tr.sliceArrLo 32 rfl rfl rfl rfl rfl dE Try.underlying28 Sz5 ?_
  refine Tr.s2a rfl rfl rfl Try.underlying30 oM ?_
  refine Tr.loadN (bytesV (sg.drop 32)) rfl rfl rfl Try.underlying30 rfl Sz30 mM (by show ((sg.map u8).drop 32).take 32 = _; rw [← List.map_drop, ← List.map_take, d64 hsg]) (by rw [List.length_map]; exact hd32) ?_
  refine Tr.alloc (cs := (bytesV (List.replicate 32 0))) rfl Zr30 rfl ?_
  intro n7 hn7 hf7
  first
    | refine Tr.storeAll rfl rfl rfl rfl cB Sz30 (by first | (simp [fb_length, pb_length, leb_length, hk, hsg, hd32, ht32]; done) | assumption | (rw [bytesV, List.length_map]; assumption)) mM (by first | (simp [fb_length, pb_length, leb_length, hk, hsg, hd32, ht32]; done) | assumption | (rw [bytesV, List.length_map]; assumption)) uU ?_
    | refine Tr.storeN _ rfl rfl rfl rfl rfl cB Sz30 (by first | (simp [fb_length, pb_length, leb_length, hk, hsg, hd32, ht32]; done) | assumption | (rw [bytesV, List.length_map]; assumption)) mM (by first | (simp [fb_length, pb_length, leb_length, hk, hsg, hd32, ht32]; done) | assumption | (rw [bytesV, List.length_map]; assumption)) (by exact rfl) uU ?_
  refine Tr.nil ?_
  refine at_n ?_
  refine Sat.seq ?_
  refine Sat.seq ?_
  refine Sat.region ?_
  first
    | refine Tr.loadAll rfl rfl rfl Try.underlying30 rfl Sz30 mM (by first | (simp [fb_length, pb_length, leb_length, hk, hsg, hd32, ht32]; done) | assumption | (rw [bytesV, List.length_map]; assumption)) ?_
    | refine Tr.loadN _ rfl rfl rfl Try.underlying30 rfl Sz30 mM (by exact rfl) (by first | (simp [fb_length, pb_length, leb_length, hk, hsg, hd32, ht32]; done) | assumption | (rw [bytesV, List.length_map]; assumption)) ?_
  refine Tr.callV rfl rfl rfl rfl Body22 (scalar_canon (sg.drop 32) hd32) (fun _ _ => trivial) ?_
  refine Tr.not rfl rfl rfl ?_
  refine Tr.nil ?_
  refine at_n ?_
  refine Sat.cond_f rfl (by rw [decide_eq_true hc]; rfl) ?_
  refine Sat.skip ?_
  refine at_n ?_
  refine Sat.seq ?_
  refine Sat.region ?_
  first
    | refine Tr.loadAll rfl rfl rfl Try.underlying25 rfl Sz25 mM (by first | (simp [fb_length, pb_length, leb_length, hk, hsg, hd32, ht32]; done) | assumption | (rw [bytesV, List.length_map]; assumption)) ?_
    | refine Tr.loadN _ rfl rfl rfl Try.underlying25 rfl Sz25 mM (by exact rfl) (by first | (simp [fb_length, pb_length, leb_length, hk, hsg, hd32, ht32]; done) | assumption | (rw [bytesV, List.length_map]; assumption)) ?_
  refine Tr.callV rfl rfl rfl rfl Body23 (curve_Read_none k hk h1) (fun _ _ => trivial) ?_
  refine Tr.move rfl rfl rfl ?_
  refine Tr.extract rfl rfl rfl rfl ?_
  refine Tr.extract rfl rfl rfl rfl ?_
  refine Tr.alloc (cs := Point.zero.cells) rfl Point.zr rfl ?_
  intro n8 hn8 hf8
  refine Tr.storeAll rfl rfl rfl rfl (Point.isCell (by first | exact ptc_ok _ | exact wdc_ok _ | exact ⟨fb32 _, fb32 _⟩ | (simp [fb_length, pb_length, leb_length, hk, hsg, hd32, ht32]; done) | exact oK | exact Point.zero_ok | exact wide.zero_ok | exact secrets.zero_ok )) Sz32 (Point.length (by first | exact ptc_ok _ | exact wdc_ok _ | exact ⟨fb32 _, fb32 _⟩ | (simp [fb_length, pb_length, leb_length, hk, hsg, hd32, ht32]; done) | exact oK | exact Point.zero_ok | exact wide.zero_ok | exact secrets.zero_ok )) mM (Point.length (by first | exact ptc_ok _ | exact wdc_ok _ | exact ⟨fb32 _, fb32 _⟩ | (simp [fb_length, pb_length, leb_length, hk, hsg, hd32, ht32]; done) | exact oK | exact Point.zero_ok | exact wide.zero_ok | exact secrets.zero_ok )) uU ?_
  refine Tr.assign rfl rfl rfl ?_
  refine Tr.nil ?_
  refine at_n ?_
  refine Sat.seq ?_
  refine Sat.seq ?_
  refine Sat.region ?_
  refine Tr.move rfl rfl rfl ?_
  refine Tr.nei rfl rfl rfl rfl (show (!decide _) = true from congrArg not (decide_eq_false dE)) ?_
  refine Tr.nil ?_
  refine at_n ?_
  refine Sat.cond_t rfl (rfl) ?_
  refine Sat.seq ?_
  refine Sat.region ?_
  refine Tr.assign rfl rfl rfl ?_
  refine Tr.nil ?_
  refine at_n ?_
  refine Sat.ret ?_
  refine at_r ?_
  refine en_r ?_
  refine ⟨_, [], res_tmp rfl rfl, sP, sP, ?_, rfl⟩
  rfl

set_option maxRecDepth 100000 in
set_option maxHeartbeats 8000000 in
theorem sign_Good_r (k : List UInt8) (hk : k.length = 32) (sb : Sl) (bb : List UInt8) (hbn : bb.length ≤ 80000) (sg : List UInt8) (hsg : sg.length = 64) (hc : le (sg.drop 32) < L) (A : Pt Fp) (h1 : rdP k = some A) (h2 : rdP (sg.take 32) = none) : Meets Try.prog 10 [agg (bytesV k), sb.v, agg (bytesV sg)] [] (fun W => BytesAt W sb bb) (fun v out => v = .bool false ∧ out = []) := by
  intro W hW
  have hd32 : (sg.drop 32).length = 32 := by rw [List.length_drop, hsg]
  have ht32 : (sg.take 32).length = 32 := by rw [List.length_take, hsg]; rfl
  refine calls_of (hp0 := []) Try.func10 rfl 45 Try.ntmps10 rfl (HRep.nil _) ?_
  refine Sat.seq ?_
  refine Sat.region ?_
  refine Tr.boxA rfl rfl ?_
  intro n3 hn3 hf3
  refine Tr.boxA rfl rfl ?_
  intro n5 hn5 hf5
  refine Tr.assign rfl rfl rfl ?_
  refine Tr.nil ?_
  refine at_n ?_
  refine Sat.seq ?_
  refine Sat.region ?_
  refine Tr.sliceArrLo 32 rfl rfl rfl rfl rfl dE Try.underlying28 Sz5 ?_
  refine Tr.s2a rfl rfl rfl Try.underlying30 oM ?_
  refine Tr.loadN (bytesV (sg.drop 32)) rfl rfl rfl Try.underlying30 rfl Sz30 mM (by show ((sg.map u8).drop 32).take 32 = _; rw [← List.map_drop, ← List.map_take, d64 hsg]) (by rw [List.length_map]; exact hd32) ?_
  refine Tr.alloc (cs := (bytesV (List.replicate 32 0))) rfl Zr30 rfl ?_
  intro n7 hn7 hf7
  first
    | refine Tr.storeAll rfl rfl rfl rfl cB Sz30 (by first | (simp [fb_length, pb_length, leb_length, hk, hsg, hd32, ht32]; done) | assumption | (rw [bytesV, List.length_map]; assumption)) mM (by first | (simp [fb_length, pb_length, leb_length, hk, hsg, hd32, ht32]; done) | assumption | (rw [bytesV, List.length_map]; assumption)) uU ?_
    | refine Tr.storeN _ rfl rfl rfl rfl rfl cB Sz30 (by first | (simp [fb_length, pb_length, leb_length, hk, hsg, hd32, ht32]; done) | assumption | (rw [bytesV, List.length_map]; assumption)) mM (by first | (simp [fb_length, pb_length, leb_length, hk, hsg, hd32, ht32]; done) | assumption | (rw [bytesV, List.length_map]; assumption)) (by exact rfl) uU ?_
  refine Tr.nil ?_
  refine at_n ?_
  refine Sat.seq ?_
  refine Sat.seq ?_
  refine Sat.region ?_
  first
    | refine Tr.loadAll rfl rfl rfl Try.underlying30 rfl Sz30 mM (by first | (simp [fb_length, pb_length, leb_length, hk, hsg, hd32, ht32]; done) | assumption | (rw [bytesV, List.length_map]; assumption)) ?_
    | refine Tr.loadN _ rfl rfl rfl Try.underlying30 rfl Sz30 mM (by exact rfl) (by first | (simp [fb_length, pb_length, leb_length, hk, hsg, hd32, ht32]; done) | assumption | (rw [bytesV, List.length_map]; assumption)) ?_
  refine Tr.callV rfl rfl rfl rfl Body22 (scalar_canon (sg.drop 32) hd32) (fun _ _ => trivial) ?_
  refine Tr.not rfl rfl rfl ?_
  refine Tr.nil ?_
  refine at_n ?_
  refine Sat.cond_f rfl (by rw [decide_eq_true hc]; rfl) ?_
  refine Sat.skip ?_
  refine at_n ?_
  refine Sat.seq ?_
  refine Sat.region ?_
  first
    | refine Tr.loadAll rfl rfl rfl Try.underlying25 rfl Sz25 mM (by first | (simp [fb_length, pb_length, leb_length, hk, hsg, hd32, ht32]; done) | assumption | (rw [bytesV, List.length_map]; assumption)) ?_
    | refine Tr.loadN _ rfl rfl rfl Try.underlying25 rfl Sz25 mM (by exact rfl) (by first | (simp [fb_length, pb_length, leb_length, hk, hsg, hd32, ht32]; done) | assumption | (rw [bytesV, List.length_map]; assumption)) ?_
  refine Tr.callV rfl rfl rfl rfl Body23 (curve_Read_some k A hk h1) (fun _ _ => trivial) ?_
  refine Tr.move rfl rfl rfl ?_
  refine Tr.extract rfl rfl rfl rfl ?_
  refine Tr.extract rfl rfl rfl rfl ?_
  refine Tr.alloc (cs := Point.zero.cells) rfl Point.zr rfl ?_
  intro n8 hn8 hf8
  refine Tr.storeAll rfl rfl rfl rfl (Point.isCell (by first | exact ptc_ok _ | exact wdc_ok _ | exact ⟨fb32 _, fb32 _⟩ | (simp [fb_length, pb_length, leb_length, hk, hsg, hd32, ht32]; done) | exact oK | exact Point.zero_ok | exact wide.zero_ok | exact secrets.zero_ok )) Sz32 (Point.length (by first | exact ptc_ok _ | exact wdc_ok _ | exact ⟨fb32 _, fb32 _⟩ | (simp [fb_length, pb_length, leb_length, hk, hsg, hd32, ht32]; done) | exact oK | exact Point.zero_ok | exact wide.zero_ok | exact secrets.zero_ok )) mM (Point.length (by first | exact ptc_ok _ | exact wdc_ok _ | exact ⟨fb32 _, fb32 _⟩ | (simp [fb_length, pb_length, leb_length, hk, hsg, hd32, ht32]; done) | exact oK | exact Point.zero_ok | exact wide.zero_ok | exact secrets.zero_ok )) uU ?_
  refine Tr.assign rfl rfl rfl ?_
  refine Tr.nil ?_
  refine at_n ?_
  refine Sat.seq ?_
  refine Sat.seq ?_
  refine Sat.region ?_
  refine Tr.move rfl rfl rfl ?_
  refine Tr.nei rfl rfl rfl rfl (show (!decide _) = false from congrArg not (decide_eq_true (rfl))) ?_
  refine Tr.nil ?_
  refine at_n ?_
  refine Sat.cond_f rfl (rfl) ?_
  refine Sat.skip ?_
  refine at_n ?_
  refine Sat.seq ?_
  refine Sat.region ?_
  refine Tr.sliceArrHi 32 rfl rfl rfl rfl rfl dE dE Try.underlying28 Sz5 ?_
  refine Tr.s2a rfl rfl rfl Try.underlying22 oM ?_
  refine Tr.loadN (bytesV (sg.take 32)) rfl rfl rfl Try.underlying22 rfl Sz22 mM (by rw [List.drop_zero, ← List.map_take]) (by rw [List.length_map]; exact ht32) ?_
  refine Tr.callV rfl rfl rfl rfl Body23 (curve_Read_none (sg.take 32) ht32 h2) (fun _ _ => trivial) ?_
  refine Tr.move rfl rfl rfl ?_
  refine Tr.extract rfl rfl rfl rfl ?_
  refine Tr.extract rfl rfl rfl rfl ?_
  refine Tr.alloc (cs := Point.zero.cells) rfl Point.zr rfl ?_
  intro n10 hn10 hf10
  refine Tr.storeAll rfl rfl rfl rfl (Point.isCell (by first | exact ptc_ok _ | exact wdc_ok _ | exact ⟨fb32 _, fb32 _⟩ | (simp [fb_length, pb_length, leb_length, hk, hsg, hd32, ht32]; done) | exact oK | exact Point.zero_ok | exact wide.zero_ok | exact secrets.zero_ok )) Sz32 (Point.length (by first | exact ptc_ok _ | exact wdc_ok _ | exact ⟨fb32 _, fb32 _⟩ | (simp [fb_length, pb_length, leb_length, hk, hsg, hd32, ht32]; done) | exact oK | exact Point.zero_ok | exact wide.zero_ok | exact secrets.zero_ok )) mM (Point.length (by first | exact ptc_ok _ | exact wdc_ok _ | exact ⟨fb32 _, fb32 _⟩ | (simp [fb_length, pb_length, leb_length, hk, hsg, hd32, ht32]; done) | exact oK | exact Point.zero_ok | exact wide.zero_ok | exact secrets.zero_ok )) uU ?_
  refine Tr.assign rfl rfl rfl ?_
  refine Tr.nil ?_
  refine at_n ?_
  refine Sat.seq ?_
  refine Sat.seq ?_
  refine Sat.region ?_
  refine Tr.move rfl rfl rfl ?_
  refine Tr.nei rfl rfl rfl rfl (show (!decide _) = true from congrArg not (decide_eq_false dE)) ?_
  refine Tr.nil ?_
  refine at_n ?_
  refine Sat.cond_t rfl (rfl) ?_
  refine Sat.seq ?_
  refine Sat.region ?_
  refine Tr.assign rfl rfl rfl ?_
  refine Tr.nil ?_
  refine at_n ?_
  refine Sat.ret ?_
  refine at_r ?_
  refine en_r ?_
  refine ⟨_, [], res_tmp rfl rfl, sP, sP, ?_, rfl⟩
  rfl

set_option maxRecDepth 100000 in
set_option maxHeartbeats 8000000 in
theorem sign_Good_ok (k : List UInt8) (hk : k.length = 32) (sb : Sl) (bb : List UInt8) (hbn : bb.length ≤ 80000) (sg : List UInt8) (hsg : sg.length = 64) (hc : le (sg.drop 32) < L) (A R : Pt Fp) (h1 : rdP k = some A) (h2 : rdP (sg.take 32) = some R) (s r : List UInt8) (hs : Hid (sha512 (sg.take 32 ++ (k ++ bb)) = s)) (hr : Hid (sgR s = r)) (hrl : r.length = 32) : Meets Try.prog 10 [agg (bytesV k), sb.v, agg (bytesV sg)] [] (fun W => BytesAt W sb bb) (fun v out => v = .bool (goodB k bb sg) ∧ out = []) := by
  intro W hW
  have hd32 : (sg.drop 32).length = 32 := by rw [List.length_drop, hsg]
  have ht32 : (sg.take 32).length = 32 := by rw [List.length_take, hsg]; rfl
  have hA := rdP_on h1
  obtain ⟨Q, hQ⟩ : ∃ Q, cv.lin (le (sg.drop 32)) (le (sgR (sha512 (sg.take 32 ++ (k ++ bb))))) bP (neg A) = Q := ⟨_, rfl⟩
  have hmul := curve_Mul2 (sg.drop 32) r bP (neg A) hd32 hrl bP_on (cv.on_neg hA)
  rw [show cv.lin (le (sg.drop 32)) (le r) bP (neg A) = Q from by rw [← hr.out, ← hs.out]; exact hQ] at hmul
  refine calls_of (hp0 := []) Try.func10 rfl 45 Try.ntmps10 rfl (HRep.nil _) ?_
  refine Sat.seq ?_
  refine Sat.region ?_
  refine Tr.boxA rfl rfl ?_
  intro n3 hn3 hf3
  refine Tr.boxA rfl rfl ?_
  intro n5 hn5 hf5
  refine Tr.assign rfl rfl rfl ?_
  refine Tr.nil ?_
  refine at_n ?_
  refine Sat.seq ?_
  refine Sat.region ?_
  refine Tr.sliceArrLo 32 rfl rfl rfl rfl rfl dE Try.underlying28 Sz5 ?_
  refine Tr.s2a rfl rfl rfl Try.underlying30 oM ?_
  refine Tr.loadN (bytesV (sg.drop 32)) rfl rfl rfl Try.underlying30 rfl Sz30 mM (by show ((sg.map u8).drop 32).take 32 = _; rw [← List.map_drop, ← List.map_take, d64 hsg]) (by rw [List.length_map]; exact hd32) ?_
  refine Tr.alloc (cs := (bytesV (List.replicate 32 0))) rfl Zr30 rfl ?_
  intro n7 hn7 hf7
  first
    | refine Tr.storeAll rfl rfl rfl rfl cB Sz30 (by first | (simp [fb_length, pb_length, leb_length, hk, hsg, hd32, ht32]; done) | assumption | (rw [bytesV, List.length_map]; assumption)) mM (by first | (simp [fb_length, pb_length, leb_length, hk, hsg, hd32, ht32]; done) | assumption | (rw [bytesV, List.length_map]; assumption)) uU ?_
    | refine Tr.storeN _ rfl rfl rfl rfl rfl cB Sz30 (by first | (simp [fb_length, pb_length, leb_length, hk, hsg, hd32, ht32]; done) | assumption | (rw [bytesV, List.length_map]; assumption)) mM (by first | (simp [fb_length, pb_length, leb_length, hk, hsg, hd32, ht32]; done) | assumption | (rw [bytesV, List.length_map]; assumption)) (by exact rfl) uU ?_
  refine Tr.nil ?_
  refine at_n ?_
  refine Sat.seq ?_
  refine Sat.seq ?_
  refine Sat.region ?_
  first
    | refine Tr.loadAll rfl rfl rfl Try.underlying30 rfl Sz30 mM (by first | (simp [fb_length, pb_length, leb_length, hk, hsg, hd32, ht32]; done) | assumption | (rw [bytesV, List.length_map]; assumption)) ?_
    | refine Tr.loadN _ rfl rfl rfl Try.underlying30 rfl Sz30 mM (by exact rfl) (by first | (simp [fb_length, pb_length, leb_length, hk, hsg, hd32, ht32]; done) | assumption | (rw [bytesV, List.length_map]; assumption)) ?_
  refine Tr.callV rfl rfl rfl rfl Body22 (scalar_canon (sg.drop 32) hd32) (fun _ _ => trivial) ?_
  refine Tr.not rfl rfl rfl ?_
  refine Tr.nil ?_
  refine at_n ?_
  refine Sat.cond_f rfl (by rw [decide_eq_true hc]; rfl) ?_
  refine Sat.skip ?_
  refine at_n ?_
  refine Sat.seq ?_
  refine Sat.region ?_
  first
    | refine Tr.loadAll rfl rfl rfl Try.underlying25 rfl Sz25 mM (by first | (simp [fb_length, pb_length, leb_length, hk, hsg, hd32, ht32]; done) | assumption | (rw [bytesV, List.length_map]; assumption)) ?_
    | refine Tr.loadN _ rfl rfl rfl Try.underlying25 rfl Sz25 mM (by exact rfl) (by first | (simp [fb_length, pb_length, leb_length, hk, hsg, hd32, ht32]; done) | assumption | (rw [bytesV, List.length_map]; assumption)) ?_
  refine Tr.callV rfl rfl rfl rfl Body23 (curve_Read_some k A hk h1) (fun _ _ => trivial) ?_
  refine Tr.move rfl rfl rfl ?_
  refine Tr.extract rfl rfl rfl rfl ?_
  refine Tr.extract rfl rfl rfl rfl ?_
  refine Tr.alloc (cs := Point.zero.cells) rfl Point.zr rfl ?_
  intro n8 hn8 hf8
  refine Tr.storeAll rfl rfl rfl rfl (Point.isCell (by first | exact ptc_ok _ | exact wdc_ok _ | exact ⟨fb32 _, fb32 _⟩ | (simp [fb_length, pb_length, leb_length, hk, hsg, hd32, ht32]; done) | exact oK | exact Point.zero_ok | exact wide.zero_ok | exact secrets.zero_ok )) Sz32 (Point.length (by first | exact ptc_ok _ | exact wdc_ok _ | exact ⟨fb32 _, fb32 _⟩ | (simp [fb_length, pb_length, leb_length, hk, hsg, hd32, ht32]; done) | exact oK | exact Point.zero_ok | exact wide.zero_ok | exact secrets.zero_ok )) mM (Point.length (by first | exact ptc_ok _ | exact wdc_ok _ | exact ⟨fb32 _, fb32 _⟩ | (simp [fb_length, pb_length, leb_length, hk, hsg, hd32, ht32]; done) | exact oK | exact Point.zero_ok | exact wide.zero_ok | exact secrets.zero_ok )) uU ?_
  refine Tr.assign rfl rfl rfl ?_
  refine Tr.nil ?_
  refine at_n ?_
  refine Sat.seq ?_
  refine Sat.seq ?_
  refine Sat.region ?_
  refine Tr.move rfl rfl rfl ?_
  refine Tr.nei rfl rfl rfl rfl (show (!decide _) = false from congrArg not (decide_eq_true (rfl))) ?_
  refine Tr.nil ?_
  refine at_n ?_
  refine Sat.cond_f rfl (rfl) ?_
  refine Sat.skip ?_
  refine at_n ?_
  refine Sat.seq ?_
  refine Sat.region ?_
  refine Tr.sliceArrHi 32 rfl rfl rfl rfl rfl dE dE Try.underlying28 Sz5 ?_
  refine Tr.s2a rfl rfl rfl Try.underlying22 oM ?_
  refine Tr.loadN (bytesV (sg.take 32)) rfl rfl rfl Try.underlying22 rfl Sz22 mM (by rw [List.drop_zero, ← List.map_take]) (by rw [List.length_map]; exact ht32) ?_
  refine Tr.callV rfl rfl rfl rfl Body23 (curve_Read_some (sg.take 32) R ht32 h2) (fun _ _ => trivial) ?_
  refine Tr.move rfl rfl rfl ?_
  refine Tr.extract rfl rfl rfl rfl ?_
  refine Tr.extract rfl rfl rfl rfl ?_
  refine Tr.alloc (cs := Point.zero.cells) rfl Point.zr rfl ?_
  intro n10 hn10 hf10
  refine Tr.storeAll rfl rfl rfl rfl (Point.isCell (by first | exact ptc_ok _ | exact wdc_ok _ | exact ⟨fb32 _, fb32 _⟩ | (simp [fb_length, pb_length, leb_length, hk, hsg, hd32, ht32]; done) | exact oK | exact Point.zero_ok | exact wide.zero_ok | exact secrets.zero_ok )) Sz32 (Point.length (by first | exact ptc_ok _ | exact wdc_ok _ | exact ⟨fb32 _, fb32 _⟩ | (simp [fb_length, pb_length, leb_length, hk, hsg, hd32, ht32]; done) | exact oK | exact Point.zero_ok | exact wide.zero_ok | exact secrets.zero_ok )) mM (Point.length (by first | exact ptc_ok _ | exact wdc_ok _ | exact ⟨fb32 _, fb32 _⟩ | (simp [fb_length, pb_length, leb_length, hk, hsg, hd32, ht32]; done) | exact oK | exact Point.zero_ok | exact wide.zero_ok | exact secrets.zero_ok )) uU ?_
  refine Tr.assign rfl rfl rfl ?_
  refine Tr.nil ?_
  refine at_n ?_
  refine Sat.seq ?_
  refine Sat.seq ?_
  refine Sat.region ?_
  refine Tr.move rfl rfl rfl ?_
  refine Tr.nei rfl rfl rfl rfl (show (!decide _) = false from congrArg not (decide_eq_true (rfl))) ?_
  refine Tr.nil ?_
  refine at_n ?_
  refine Sat.cond_f rfl (rfl) ?_
  refine Sat.skip ?_
  refine at_n ?_
  refine Sat.seq ?_
  refine Sat.draw [(1, 0), (0, 2), (0, 3), (0, 4), (1, 7), (1, 10), (3, 1), (2, 5), (3, 6), (3, 8), (3, 9), (0, 11), (0, 12)] Mixed (by kernel_rfl) ?_
  first
    | refine Tr.loadAll rfl rfl rfl Try.underlying30 rfl Sz30 mM (by first | (simp [fb_length, pb_length, leb_length, hk, hsg, hd32, ht32]; done) | assumption | (rw [bytesV, List.length_map]; assumption)) ?_
    | refine Tr.loadN _ rfl rfl rfl Try.underlying30 rfl Sz30 mM (by exact rfl) (by first | (simp [fb_length, pb_length, leb_length, hk, hsg, hd32, ht32]; done) | assumption | (rw [bytesV, List.length_map]; assumption)) ?_
  refine Tr.sliceArrHi 32 rfl rfl rfl rfl rfl dE dE Try.underlying28 Sz5 ?_
  refine Tr.sliceArr rfl rfl rfl Try.underlying25 Sz5 ?_
  refine Tr.move rfl rfl rfl ?_
  refine Tr.loadAll rfl rfl rfl Try.underlying32 rfl Sz32 mM (Point.length (by first | exact ptc_ok _ | exact wdc_ok _ | exact ⟨fb32 _, fb32 _⟩ | (simp [fb_length, pb_length, leb_length, hk, hsg, hd32, ht32]; done) | exact oK | exact Point.zero_ok | exact wide.zero_ok | exact secrets.zero_ok )) ?_
  refine Tr.loadAll rfl rfl rfl Try.underlying32 rfl Sz32 mM (Point.length (by first | exact ptc_ok _ | exact wdc_ok _ | exact ⟨fb32 _, fb32 _⟩ | (simp [fb_length, pb_length, leb_length, hk, hsg, hd32, ht32]; done) | exact oK | exact Point.zero_ok | exact wide.zero_ok | exact secrets.zero_ok )) ?_
  refine Tr.callV rfl rfl rfl rfl Body25 (curve_Base) (fun _ _ => trivial) ?_
  refine Tr.mkRow2 (z := .slice none 0 0) [.slice (some ⟨n5, 0, none⟩) 32 64, .slice (some ⟨n3, 0, none⟩) 32 32, sb.v] [.slice (some ⟨n5, 0, none⟩) 32 64, .slice (some ⟨n3, 0, none⟩) 32 32, sb.v] rfl rfl Try.underlying62 Sz23 Zr23 rfl rfl (by intro v hv; simp only [List.mem_cons, List.not_mem_nil, or_false] at hv; rcases hv with rfl | rfl | rfl <;> rfl) dE rfl ?_
  intro q38
  refine Tr.callV rfl rfl rfl rfl Body17 (sign_residueR (some ⟨q38, 0, none⟩) 3 3 [⟨some ⟨n5, 0, none⟩, 32, 64⟩, ⟨some ⟨n3, 0, none⟩, 32, 32⟩, sb] [sg.take 32, k, bb] rfl rfl (fun j hj => (by
      rcases (show j = 0 ∨ j = 1 ∨ j = 2 by omega) with rfl | rfl | rfl
      · exact ⟨by show 32 = List.length _; exact ht32.symm, fun e => by cases e⟩
      · exact ⟨by show 32 = List.length _; exact hk.symm, fun e => by cases e⟩
      · exact ⟨by show sb.n = bb.length; exact hW.len.symm, fun e => by have h1 := hW.nil e; have h2 := hW.cap; show sb.n = 0; omega⟩)) (sg.take 32 ++ (k ++ bb)) sP (by simp [hsg, hk]; omega) dE s hs r hr) (fun w h => ⟨SeesP.of (sees_own h mM), (fun j hj => (by
      rcases (show j = 0 ∨ j = 1 ∨ j = 2 by omega) with rfl | rfl | rfl
      · exact SeesP.of (by have h9 := sees_own (cs := bytesV sg) h mM; exact fun i v hv => h9 i v (take_sees hv))
      · exact SeesP.of (sees_own (cs := bytesV k) h mM)
      · exact seesP_ext h rfl hW.see))⟩) ?_
  refine Tr.callV rfl rfl rfl rfl Body26 (curve_Neg A hA) (fun _ _ => trivial) ?_
  refine Tr.callV rfl rfl rfl rfl Body24 (hmul) (fun _ _ => trivial) ?_
  refine Tr.eql_rec rfl rfl rfl rfl Point.eg (fun w => Point.eq_runC (ptc_ok _) (ptc_ok _) w) (good_dec hc h1 h2 hQ) ?_
  refine Tr.assign rfl rfl rfl ?_
  refine Tr.nil ?_
  refine at_n ?_
  refine Sat.ret ?_
  refine en_r ?_
  refine ⟨_, [], res_tmp rfl rfl, sP, sP, ?_, rfl⟩
  rfl

theorem sign_Good (k : List UInt8) (hk : k.length = 32) (sb : Sl) (bb : List UInt8) (hbn : bb.length ≤ 80000) (sg : List UInt8) (hsg : sg.length = 64) : Meets Try.prog 10 [agg (bytesV k), sb.v, agg (bytesV sg)] [] (fun W => BytesAt W sb bb) (fun v out => v = .bool (goodB k bb sg) ∧ out = []) := by
  by_cases hc : le (sg.drop 32) < L
  · cases h1 : rdP k with
    | none =>
      rw [good_no (fun e => by obtain ⟨_, ⟨A, h⟩, _⟩ := e; rw [h1] at h; cases h)]
      exact sign_Good_k k hk sb bb hbn sg hsg hc h1
    | some A =>
      cases h2 : rdP (sg.take 32) with
      | none =>
        rw [good_no (fun e => by obtain ⟨_, _, ⟨R, h⟩⟩ := e; rw [h2] at h; cases h)]
        exact sign_Good_r k hk sb bb hbn sg hsg hc A h1 h2
      | some R => exact sign_Good_ok k hk sb bb hbn sg hsg hc A R h1 h2 _ _ ⟨rfl⟩ ⟨rfl⟩ (sgR_length _)
  · rw [good_no (fun e => hc e.1)]
    exact sign_Good_c k hk sb bb hbn sg hsg hc
noncomputable def validB (k : List UInt8) : Bool := match rdP k with
  | some P => !smallB P
  | none => false

set_option maxRecDepth 100000 in
set_option maxHeartbeats 1000000 in
theorem sign_Valid_n (k : List UInt8) (hk : k.length = 32) (h : rdP k = none) : Meets Try.prog 11 [agg (bytesV k)] [] (fun _ => True) (fun v out => v = .bool false ∧ out = []) := by
  intro W hW
  refine calls_of (hp0 := []) Try.func11 rfl 17 Try.ntmps11 rfl (HRep.nil _) ?_
  refine Sat.seq ?_
  refine Sat.region ?_
  refine Tr.boxA rfl rfl ?_
  intro n1 hn1 hf1
  refine Tr.assign rfl rfl rfl ?_
  refine Tr.nil ?_
  refine at_n ?_
  refine Sat.seq ?_
  refine Sat.region ?_
  first
    | refine Tr.loadAll rfl rfl rfl Try.underlying25 rfl Sz25 mM (by first | (simp [fb_length, pb_length, leb_length, hk]; done) | assumption | (rw [bytesV, List.length_map]; assumption)) ?_
    | refine Tr.loadN _ rfl rfl rfl Try.underlying25 rfl Sz25 mM (by exact rfl) (by first | (simp [fb_length, pb_length, leb_length, hk]; done) | assumption | (rw [bytesV, List.length_map]; assumption)) ?_
  refine Tr.callV rfl rfl rfl rfl Body23 (curve_Read_none k hk h) (fun _ _ => trivial) ?_
  refine Tr.move rfl rfl rfl ?_
  refine Tr.extract rfl rfl rfl rfl ?_
  refine Tr.extract rfl rfl rfl rfl ?_
  refine Tr.alloc (cs := Point.zero.cells) rfl Point.zr rfl ?_
  intro n3 hn3 hf3
  refine Tr.storeAll rfl rfl rfl rfl (Point.isCell (by first | exact ptc_ok _ | exact wdc_ok _ | exact ⟨fb32 _, fb32 _⟩ | (simp [fb_length, pb_length, leb_length, hk]; done) | exact oK | exact Point.zero_ok | exact wide.zero_ok | exact secrets.zero_ok )) Sz32 (Point.length (by first | exact ptc_ok _ | exact wdc_ok _ | exact ⟨fb32 _, fb32 _⟩ | (simp [fb_length, pb_length, leb_length, hk]; done) | exact oK | exact Point.zero_ok | exact wide.zero_ok | exact secrets.zero_ok )) mM (Point.length (by first | exact ptc_ok _ | exact wdc_ok _ | exact ⟨fb32 _, fb32 _⟩ | (simp [fb_length, pb_length, leb_length, hk]; done) | exact oK | exact Point.zero_ok | exact wide.zero_ok | exact secrets.zero_ok )) uU ?_
  refine Tr.assign rfl rfl rfl ?_
  refine Tr.nil ?_
  refine at_n ?_
  refine Sat.seq ?_
  refine Sat.region ?_
  refine Tr.move rfl rfl rfl ?_
  refine Tr.eqi rfl rfl rfl rfl (decide_eq_false dE) ?_
  refine Tr.move rfl rfl rfl ?_
  refine Tr.skp rfl rfl ?_
  refine Tr.skp rfl rfl ?_
  refine Tr.skp rfl rfl ?_
  refine Tr.pick rfl rfl rfl rfl rfl rfl ?_
  refine Tr.assign rfl rfl rfl ?_
  refine Tr.nil ?_
  refine at_n ?_
  refine Sat.ret ?_
  refine en_r ?_
  refine ⟨_, [], res_tmp rfl rfl, sP, sP, ?_, rfl⟩
  rfl

set_option maxRecDepth 100000 in
set_option maxHeartbeats 1000000 in
theorem sign_Valid_s (k : List UInt8) (hk : k.length = 32) (P : Pt Fp) (h : rdP k = some P) : Meets Try.prog 11 [agg (bytesV k)] [] (fun _ => True) (fun v out => v = .bool (!smallB P) ∧ out = []) := by
  intro W hW
  refine calls_of (hp0 := []) Try.func11 rfl 17 Try.ntmps11 rfl (HRep.nil _) ?_
  refine Sat.seq ?_
  refine Sat.region ?_
  refine Tr.boxA rfl rfl ?_
  intro n1 hn1 hf1
  refine Tr.assign rfl rfl rfl ?_
  refine Tr.nil ?_
  refine at_n ?_
  refine Sat.seq ?_
  refine Sat.region ?_
  first
    | refine Tr.loadAll rfl rfl rfl Try.underlying25 rfl Sz25 mM (by first | (simp [fb_length, pb_length, leb_length, hk]; done) | assumption | (rw [bytesV, List.length_map]; assumption)) ?_
    | refine Tr.loadN _ rfl rfl rfl Try.underlying25 rfl Sz25 mM (by exact rfl) (by first | (simp [fb_length, pb_length, leb_length, hk]; done) | assumption | (rw [bytesV, List.length_map]; assumption)) ?_
  refine Tr.callV rfl rfl rfl rfl Body23 (curve_Read_some k P hk h) (fun _ _ => trivial) ?_
  refine Tr.move rfl rfl rfl ?_
  refine Tr.extract rfl rfl rfl rfl ?_
  refine Tr.extract rfl rfl rfl rfl ?_
  refine Tr.alloc (cs := Point.zero.cells) rfl Point.zr rfl ?_
  intro n3 hn3 hf3
  refine Tr.storeAll rfl rfl rfl rfl (Point.isCell (by first | exact ptc_ok _ | exact wdc_ok _ | exact ⟨fb32 _, fb32 _⟩ | (simp [fb_length, pb_length, leb_length, hk]; done) | exact oK | exact Point.zero_ok | exact wide.zero_ok | exact secrets.zero_ok )) Sz32 (Point.length (by first | exact ptc_ok _ | exact wdc_ok _ | exact ⟨fb32 _, fb32 _⟩ | (simp [fb_length, pb_length, leb_length, hk]; done) | exact oK | exact Point.zero_ok | exact wide.zero_ok | exact secrets.zero_ok )) mM (Point.length (by first | exact ptc_ok _ | exact wdc_ok _ | exact ⟨fb32 _, fb32 _⟩ | (simp [fb_length, pb_length, leb_length, hk]; done) | exact oK | exact Point.zero_ok | exact wide.zero_ok | exact secrets.zero_ok )) uU ?_
  refine Tr.assign rfl rfl rfl ?_
  refine Tr.nil ?_
  refine at_n ?_
  refine Sat.seq ?_
  refine Sat.region ?_
  refine Tr.move rfl rfl rfl ?_
  refine Tr.eqi rfl rfl rfl rfl (decide_eq_true (rfl)) ?_
  refine Tr.move rfl rfl rfl ?_
  refine Tr.loadAll rfl rfl rfl Try.underlying32 rfl Sz32 mM (Point.length (by first | exact ptc_ok _ | exact wdc_ok _ | exact ⟨fb32 _, fb32 _⟩ | (simp [fb_length, pb_length, leb_length, hk]; done) | exact oK | exact Point.zero_ok | exact wide.zero_ok | exact secrets.zero_ok )) ?_
  refine Tr.callV rfl rfl rfl rfl Body27 (curve_Small P (rdP_on h)) (fun _ _ => trivial) ?_
  refine Tr.not rfl rfl rfl ?_
  refine Tr.pick rfl rfl rfl rfl rfl rfl ?_
  refine Tr.assign rfl rfl rfl ?_
  refine Tr.nil ?_
  refine at_n ?_
  refine Sat.ret ?_
  refine en_r ?_
  refine ⟨_, [], res_tmp rfl rfl, sP, sP, ?_, rfl⟩
  rfl

theorem sign_Valid (k : List UInt8) (hk : k.length = 32) : Meets Try.prog 11 [agg (bytesV k)] [] (fun _ => True) (fun v out => v = .bool (validB k) ∧ out = []) := by
  unfold validB
  cases h : rdP k with
  | none => exact sign_Valid_n k hk h
  | some P => exact sign_Valid_s k hk P h

end Go.Proofs.Ytmddgelpllffoaa
end

section
namespace Hw
open Go
set_option linter.unusedSimpArgs false
set_option linter.unusedVariables false
set_option maxRecDepth 100000

/-- the low k bytes of a number, and zeros up to N -/
def padW (N n k : Nat) : List UInt8 := leb k n ++ List.replicate (N - k) 0
theorem padW_length (N n k : Nat) (h : k ≤ N) : (padW N n k).length = N := by simp [padW, leb_length]; omega
theorem padW_zero (N n : Nat) : padW N n 0 = List.replicate N 0 := by simp [padW, leb]
theorem padW_all (N n : Nat) : padW N n N = leb N n := by simp [padW]
theorem leb_getD (k n i : Nat) (h : i < k) : (leb k n).getD i 0 = UInt8.ofNat (n / 256 ^ i) := by
  rw [List.getD_eq_getElem?_getD, leb_get k n i h]; rfl
theorem ofNat8 {m n : Nat} (h : m % 256 = n % 256) : UInt8.ofNat m = UInt8.ofNat n := by
  apply UInt8.toNat_inj.1
  rw [UInt8.toNat_ofNat', UInt8.toNat_ofNat']; exact h
theorem byte_low (A m k i : Nat) (h : i < k) : (A + 256 ^ k * m) / 256 ^ i % 256 = A / 256 ^ i % 256 := by
  have e : 256 ^ k * m = 256 ^ i * (256 * (256 ^ (k - i - 1) * m)) := by
    rw [← Nat.mul_assoc, ← Nat.mul_assoc, ← Nat.pow_succ, ← Nat.pow_add]
    congr 2; omega
  rw [e, Nat.add_mul_div_left _ _ (Nat.pow_pos dE), Nat.add_mul_mod_self_left]
theorem leb_succ' (k n : Nat) : leb (k + 1) n = leb k n ++ [UInt8.ofNat (n / 256 ^ k)] := by
  apply List.ext_getElem?
  intro i
  rcases Nat.lt_trichotomy i k with h | h | h
  · rw [leb_get _ _ i oM, List.getElem?_append_left (by rw [leb_length]; exact h), leb_get _ _ i h]
  · subst h
    rw [leb_get _ _ i oM, List.getElem?_append_right (by rw [leb_length]; omega), leb_length, Nat.sub_self]; rfl
  · rw [List.getElem?_eq_none (by rw [leb_length]; omega), List.getElem?_eq_none (by simp [leb_length]; omega)]
theorem byteOf_nat (n : Nat) : byteOf (n : Int) = UInt8.ofNat n := by
  apply ofNat8
  omega
theorem set_end {α : Type} (l : List α) (x y : α) (r : List α) (k : Nat) (h : l.length = k) : (l ++ x :: r).set k y = l ++ [y] ++ r := by
  subst h; simp
/-- the order of numbers is that of their highest differing bytes -/
theorem le_lt_at {a b : List UInt8} {i : Nat} (ha : a.length = 32) (hb : b.length = 32) (hi : i < 32) (hd : a.drop (i + 1) = b.drop (i + 1)) (hne : (a.getD i 0).toNat ≠ (b.getD i 0).toNat) :
    ((a.getD i 0).toNat < (b.getD i 0).toNat) ↔ le a < le b := by
  have h1 := le_take_drop a (i + 1) oM
  have h2 := le_take_drop b (i + 1) oM
  rw [le_take_succ a i oM] at h1
  rw [le_take_succ b i oM, ← hd] at h2
  have l1 := le_take_lt a i
  have l2 := le_take_lt b i
  generalize 256 ^ (i + 1) * le (a.drop (i + 1)) = X at h1 h2
  generalize hP : 256 ^ i = P at h1 h2 l1 l2
  generalize (a.getD i 0).toNat = x at *
  generalize (b.getD i 0).toNat = y at *
  rw [h1, h2]
  constructor
  · intro h
    have : P * (x + 1) ≤ P * y := Nat.mul_le_mul_left _ h
    rw [Nat.mul_add, Nat.mul_one] at this
    omega
  · intro h
    apply Nat.lt_of_not_le
    intro h'
    have : P * (y + 1) ≤ P * x := Nat.mul_le_mul_left _ oM
    rw [Nat.mul_add, Nat.mul_one] at this
    omega
theorem drop_step {a b : List UInt8} {i : Nat} (ha : a.length = 32) (hb : b.length = 32) (hi : i < 32) (hd : a.drop (i + 1) = b.drop (i + 1)) (he : (a.getD i 0).toNat = (b.getD i 0).toNat) : a.drop i = b.drop i := by
  rw [List.drop_eq_getElem_cons oM, List.drop_eq_getElem_cons (l := b) oM, hd]
  congr 1
  have := UInt8.toNat_inj.1 he
  rw [List.getD_eq_getElem?_getD, List.getD_eq_getElem?_getD, List.getElem?_eq_getElem oM, List.getElem?_eq_getElem oM] at this
  exact this

/-- a difference, its low k bytes done -/
def subB (D m k : Nat) : List UInt8 := leb k D ++ (leb 32 (D + m)).drop k
theorem subB_all (D m : Nat) : subB D m 32 = leb 32 D := by simp [subB, leb_length]
theorem wordOf_id (n : Int) (h : 0 ≤ n ∧ n < 18446744073709551616) : ((wordOf n).toNat : Int) = n := by
  rw [wordOf, UInt64.toNat_ofNat']; omega
theorem zero_set (n : UInt64) (k : Nat) (hk : k < 8) : (padW 32 n.toNat k).set k (shr64 n (8 * k)).toUInt8 = padW 32 n.toNat (k + 1) := by
  have e : List.replicate (32 - k) (0 : UInt8) = 0 :: List.replicate (32 - (k + 1)) 0 := by
    rw [show 32 - k = (32 - (k + 1)) + 1 by omega]; rfl
  rw [padW, e, set_end _ _ _ _ _ (leb_length k _), padW, leb_succ']
  congr 3
  apply UInt8.toNat_inj.1
  rw [UInt64.toNat_toUInt8, shr64_toNat, UInt8.toNat_ofNat', pow256]
theorem pad_small (n : UInt64) : padW 32 n.toNat 8 = leb 32 n.toNat := by
  have h := n.toNat_lt
  apply List.ext_getElem?
  intro i
  rw [padW]
  rcases Nat.lt_or_ge i 8 with hi | hi
  · rw [List.getElem?_append_left (by rw [leb_length]; exact hi), leb_get _ _ _ hi, leb_get _ _ _ oM]
  · rw [List.getElem?_append_right (by rw [leb_length]; exact hi), leb_length]
    rcases Nat.lt_or_ge i 32 with h2 | h2
    · rw [leb_get _ _ _ h2, List.getElem?_replicate, if_pos oM, Nat.div_eq_of_lt]; rfl
      refine Nat.lt_of_lt_of_le h ?_
      rw [pow256]; exact Nat.pow_le_pow_right dE oM
    · rw [List.getElem?_replicate, if_neg oM, List.getElem?_eq_none (by rw [leb_length]; exact h2)]
theorem leb_zero32 : leb 32 0 = List.replicate 32 0 := by decide
theorem mod_bit (n k : Nat) : n % 2 ^ (k + 1) = n % 2 ^ k + (if n.testBit k then 2 ^ k else 0) := by
  rw [Nat.pow_succ, Nat.mod_mul, Nat.testBit_eq_decide_div_mod_eq]
  by_cases h : n / 2 ^ k % 2 = 1
  · rw [if_pos (decide_eq_true h), h, Nat.mul_one]
  · rw [if_neg (by simpa using h), show n / 2 ^ k % 2 = 0 by omega, Nat.mul_zero]
end Hw
end

section
namespace Ed
open Hw Go
set_option linter.unusedVariables false

def BB : Nat := 115792089237316195423570985008687907853269984665640564039457584007913129639936
def pk (x y z t : Nat) : Nat := (x + BB * (y + BB * (z + BB * t))) + 1
def ux (s : Nat) : Nat := (s - 1) % BB
def uy (s : Nat) : Nat := (s - 1) / BB % BB
def uz (s : Nat) : Nat := (s - 1) / BB / BB % BB
def ut (s : Nat) : Nat := (s - 1) / BB / BB / BB
def wdN (s : Nat) : Wd Fp := ⟨fe (ux s), fe (uy s), fe (uz s), fe (ut s)⟩
def subN (a b : Nat) : Nat := (a + (PF - b % PF)) % PF
def finN (e f g h : Nat) : Nat := pk (e * f % PF) (g * h % PF) (f * g % PF) (e * h % PF)
def dblN (s : Nat) : Nat :=
  finN (subN (ux s * ux s + uy s * uy s) ((ux s + uy s) * (ux s + uy s))) ((uz s * uz s + uz s * uz s + subN (ux s * ux s) (uy s * uy s)) % PF) (subN (ux s * ux s) (uy s * uy s)) ((ux s * ux s + uy s * uy s) % PF)
def twoDN : Nat := 2 * fD.val
def addN (s p : Nat) : Nat :=
  finN (subN ((uy s + ux s) * (uy p + ux p)) (subN (uy s) (ux s) * subN (uy p) (ux p))) (subN (uz s * uz p + uz s * uz p) (ut s * twoDN % PF * ut p)) ((uz s * uz p + uz s * uz p + ut s * twoDN % PF * ut p) % PF) (((uy s + ux s) * (uy p + ux p) + subN (uy s) (ux s) * subN (uy p) (ux p)) % PF)
theorem fe_neg (n : Nat) : fe (PF - n % PF) = - fe n := by
  have h : fe (PF - n % PF) + fe n = 0 := by
    rw [← fe_add]
    refine Fin.ext ?_
    rw [fe_val]
    show _ = 0
    have h1 : n % PF < PF := Nat.mod_lt _ dE
    have e : (PF - n % PF + n) = PF * (n / PF + 1) := by
      have := Nat.mod_add_div n PF
      rw [Nat.mul_add, Nat.mul_one]
      generalize PF * (n / PF) = q at *
      omega
    rw [e, Nat.mul_mod_right]
  grind
theorem fe_subN (a b : Nat) : fe (subN a b) = fe a - fe b := by
  rw [subN, fe_mod, fe_add, fe_neg]; grind
theorem pk_lt (e : Nat) : e % PF < BB := Nat.lt_trans (Nat.mod_lt _ dE) dE
theorem wd_pk (x y z t : Nat) (hx : x < BB) (hy : y < BB) (hz : z < BB) : wdN (pk x y z t) = ⟨fe x, fe y, fe z, fe t⟩ := by
  have e1 : ux (pk x y z t) = x := by
    rw [ux, pk, Nat.add_sub_cancel, Nat.add_mul_mod_self_left, Nat.mod_eq_of_lt hx]
  have d1 : (pk x y z t - 1) / BB = y + BB * (z + BB * t) := by
    rw [pk, Nat.add_sub_cancel, Nat.add_mul_div_left _ _ dE, Nat.div_eq_of_lt hx, Nat.zero_add]
  have d2 : (pk x y z t - 1) / BB / BB = z + BB * t := by
    rw [d1, Nat.add_mul_div_left _ _ dE, Nat.div_eq_of_lt hy, Nat.zero_add]
  have e2 : uy (pk x y z t) = y := by rw [uy, d1, Nat.add_mul_mod_self_left, Nat.mod_eq_of_lt hy]
  have e3 : uz (pk x y z t) = z := by rw [uz, d2, Nat.add_mul_mod_self_left, Nat.mod_eq_of_lt hz]
  have e4 : ut (pk x y z t) = t := by rw [ut, d2, Nat.add_mul_div_left _ _ dE, Nat.div_eq_of_lt hz, Nat.zero_add]
  rw [wdN, e1, e2, e3, e4]
theorem wd_fin (e f g h : Nat) : wdN (finN e f g h) = Wd.fin (fe e) (fe f) (fe g) (fe h) := by
  rw [finN, wd_pk _ _ _ _ (pk_lt _) (pk_lt _) (pk_lt _)]
  simp only [Wd.fin, fe_mod, fe_mul]
theorem wd_dbl (s : Nat) : wdN (dblN s) = Wd.dbl (wdN s) := by
  rw [dblN, wd_fin]
  simp only [Wd.dbl, wdN, fe_subN, fe_mod, fe_add, fe_mul]
theorem fe_twoD : fe twoDN = fD + fD := by
  rw [twoDN, Nat.two_mul, fe_add, fe_of]
theorem wd_add (s p : Nat) : wdN (addN s p) = Wd.add fD (wdN s) (wdN p) := by
  rw [addN, wd_fin]
  simp only [Wd.add, wdN, fe_subN, fe_mod, fe_add, fe_mul, fe_twoD]
def force (s : Nat) (f : Nat → Nat) : Nat := Nat.casesOn (motive := fun _ => Nat) s (f 0) (fun m => f (m + 1))
theorem force_eq (s : Nat) (f : Nat → Nat) : force s f = f s := by cases s <;> rfl
def stepN (p : Nat) (s : Nat) (b : Bool) : Nat := force s fun s => bif b then addN (dblN s) p else dblN s
def loopN (p : Nat) (bs : List Bool) (s : Nat) : Nat := bs.foldl (stepN p) s
theorem stepN_t (p s : Nat) : stepN p s true = addN (dblN s) p := by rw [stepN, force_eq]; rfl
theorem stepN_f (p s : Nat) : stepN p s false = dblN s := by rw [stepN, force_eq]; rfl
theorem loopN_eq (p : Nat) (bs : List Bool) : ∀ s : Nat, wdN (loopN p bs s) = mulW fD (wdN p) bs (wdN s) := by
  induction bs with
  | nil => intro s; rfl
  | cons b bs ih =>
    intro s
    rw [loopN, List.foldl_cons, ← loopN, ih]
    cases b
    · rw [stepN_f, wd_dbl, mulW_f]
    · rw [stepN_t, wd_add, wd_dbl, mulW_t]
/-- the base point, packed -/
def bN : Nat := pk bP.x.val bP.y.val 1 (bP.x * bP.y).val
theorem bN_wd : wdN bN = Wd.of bP := by
  rw [bN, wd_pk _ _ _ _ (Nat.lt_trans bP.x.isLt dE) (Nat.lt_trans bP.y.isLt dE) dE, fe_of, fe_of, fe_of]
  rfl
def zN : Nat := pk 0 1 1 0
theorem zN_wd : wdN zN = Wd.of zero := by
  rw [zN, wd_pk _ _ _ _ dE dE dE]
  have e : (Wd.of zero : Wd Fp) = ⟨0, 1, 1, 0 * 1⟩ := rfl
  rw [e]
  have h : (0 : Fp) * 1 = 0 := by kernel_rfl
  rw [h]; rfl
/-- n times the base point, packed -/
def fastN (n : Nat) : Nat := loopN bN (toBits 256 n) zN
theorem fastN_rep {n : Nat} (hn : n < 2 ^ 256) : (wdN (fastN n)).rep (cv.mul n bP) := by
  have h0 : (wdN zN).rep (cv.mul 0 bP) := by rw [zN_wd]; exact cv.rep_of zero
  have h := cv.mulW_rep bP_on (cv.rep_of bP) (toBits 256 n) (wdN zN) 0 h0
  rw [toBits_v, Nat.zero_mul, Nat.zero_add, Nat.mod_eq_of_lt hn] at h
  have e : wdN (fastN n) = mulW cv.d (Wd.of bP) (toBits 256 n) (wdN zN) := by
    rw [fastN, loopN_eq, bN_wd]; rfl
  rw [e]; exact h
theorem fastN_pt {n : Nat} (hn : n < 2 ^ 256) {X Y : Fp} (hx : (wdN (fastN n)).x * finv (wdN (fastN n)).z = X) (hy : (wdN (fastN n)).y * finv (wdN (fastN n)).z = Y) : cv.mul n bP = ⟨X, Y⟩ := by
  have h : (⟨(wdN (fastN n)).x * finv (wdN (fastN n)).z, (wdN (fastN n)).y * finv (wdN (fastN n)).z⟩ : Pt Fp) = cv.mul n bP := cv.rep_pt (fastN_rep hn)
  rw [hx, hy] at h
  exact h.symm
theorem order_x : ux (fastN L) % PF = 0 := by kernel_rfl
theorem order_y : uy (fastN L) = uz (fastN L) := by kernel_rfl
theorem bP_order : cv.mul L bP = zero := by
  have h := fastN_rep (n := L) dE
  have h1 : fe (ux (fastN L)) = (cv.mul L bP).x * fe (uz (fastN L)) := h.x
  have h2 : fe (uy (fastN L)) = (cv.mul L bP).y * fe (uz (fastN L)) := h.y
  have h3 : fe (uz (fastN L)) ≠ 0 := h.z
  have hx : fe (ux (fastN L)) = 0 := Fin.ext order_x
  rw [hx] at h1
  rw [order_y] at h2
  generalize fe (uz (fastN L)) = z at *
  generalize cv.mul L bP = Q at *
  obtain ⟨x, y⟩ := Q
  simp only at h1 h2
  have e1 : x = 0 := by
    rcases cv.zero_or h1.symm with e | e
    · exact e
    · exact absurd e h3
  have e2 : y = 1 := by
    refine cv.cancel h3 ?_
    have e3 : z * y = y * z := by grind
    have e4 : z * 1 = z := by grind
    rw [e3, e4]; exact h2.symm
  rw [e1, e2]; rfl
theorem fp_cases {a : Fp} (h : a * a = 1) : a = 1 ∨ a = -1 := by
  have h1 : (a - 1) * (a + 1) = 0 := by grind
  rcases cv.zero_or h1 with e | e
  · exact .inl (by grind)
  · exact .inr (by grind)
theorem sq_cases {a b : Fp} (h : a * a = b * b) : a = b ∨ a = -b := by
  have h1 : (a - b) * (a + b) = 0 := by grind
  rcases cv.zero_or h1 with e | e
  · exact .inl (by grind)
  · exact .inr (by grind)
def unit2 : Fp := fpow (fe 2) ((PF - 1) / 4)
theorem unit2_sq : unit2 * unit2 = -1 := by kernel_rfl
theorem fpow_one' (a : Fp) : fpow a 1 = a := by
  rw [show (1 : Nat) = 0 + 1 from rfl, fpow_succ dE, fpow_zero]; grind
theorem fpow_sq2 (x : Fp) : x * x = fpow x 2 := by
  rw [show (2 : Nat) = 2 * 1 from rfl, fpow_two dE, fpow_one']
theorem root_pow (x : Fp) : fpow (x * x) ((PF + 3) / 8) * fpow (x * x) ((PF + 3) / 8) = x * x * fpow x ((PF - 1) / 2) := by
  rw [← fpow_two dE, fpow_sq2, fpow_mul dE dE dE, ← fpow_add dE]
  rfl
theorem half_cases {x : Fp} (h : x ≠ 0) : fpow x ((PF - 1) / 2) = 1 ∨ fpow x ((PF - 1) / 2) = -1 := by
  refine fp_cases ?_
  rw [← fpow_two dE]
  exact ferm h
theorem fRoot1_sq (x : Fp) : fRoot1 (x * x) * fRoot1 (x * x) = x * x := by
  have h0 := root_pow x
  have hu := unit2_sq
  unfold fRoot1
  change (if fpow (x * x) ((PF + 3) / 8) * fpow (x * x) ((PF + 3) / 8) = x * x then fpow (x * x) ((PF + 3) / 8) else fpow (x * x) ((PF + 3) / 8) * unit2) * (if fpow (x * x) ((PF + 3) / 8) * fpow (x * x) ((PF + 3) / 8) = x * x then fpow (x * x) ((PF + 3) / 8) else fpow (x * x) ((PF + 3) / 8) * unit2) = x * x
  have hc : fpow (x * x) ((PF + 3) / 8) * fpow (x * x) ((PF + 3) / 8) = x * x ∨ fpow (x * x) ((PF + 3) / 8) * fpow (x * x) ((PF + 3) / 8) = -(x * x) := by
    by_cases hx : x = 0
    · left
      rw [h0, hx]; grind
    · rcases half_cases hx with e | e
      · left; rw [h0, e]; grind
      · right; rw [h0, e]; grind
  revert hc
  generalize fpow (x * x) ((PF + 3) / 8) = r
  generalize unit2 = u at *
  intro hc
  clear h0
  by_cases h1 : r * r = x * x
  · rw [if_pos h1]; exact h1
  · rw [if_neg h1]
    rcases hc with e | e
    · exact absurd e h1
    · have : r * u * (r * u) = r * r * (u * u) := by grind
      rw [this, e, hu]; grind
theorem val_neg {x : Fp} (h : x ≠ 0) : (-x).val + x.val = PF := by
  have h1 : fe ((-x).val + x.val) = 0 := by
    rw [fe_add, fe_of, fe_of]; grind
  have h2 : ((-x).val + x.val) % PF = 0 := congrArg Fin.val h1
  have h3 := (-x).isLt
  have h4 := x.isLt
  have h5 : x.val ≠ 0 := fun e => h (Fin.ext e)
  have h6 : PF ∣ (-x).val + x.val := Nat.dvd_of_mod_eq_zero h2
  obtain ⟨k, hk⟩ := h6
  generalize (-x).val = a at *
  generalize x.val = b at *
  clear h h1 h2
  have hP : 0 < PF := by decide
  generalize PF = q at *
  have h7 : k = 1 := by
    rcases Nat.lt_or_ge k 1 with h | h
    · obtain rfl : k = 0 := by omega
      rw [Nat.mul_zero] at hk; omega
    · rcases Nat.lt_or_ge 1 k with h9 | h9
      · have : q * 2 ≤ q * k := Nat.mul_le_mul_left _ h9
        omega
      · omega
  rw [h7, Nat.mul_one] at hk
  exact hk
theorem neg_neg' (x : Fp) : - -x = x := by grind
/-- the even one of x and -x -/
theorem fRoot_eq (x : Fp) : fRoot (x * x) = ((if x.val % 2 = 1 then -x else x), true) := by
  have h1 := fRoot1_sq x
  have h2 := sq_cases h1
  unfold fRoot
  generalize fRoot1 (x * x) = r at *
  rw [if_pos h1]
  congr 1
  by_cases hx : x = 0
  · have : r = 0 := by rcases h2 with e | e <;> rw [e, hx] <;> grind
    rw [this, hx]
  · have hv := val_neg hx
    have hodd : PF % 2 = 1 := by decide
    rcases h2 with e | e
    · rw [e]
    · rw [e]
      have hn : -x ≠ 0 := fun e2 => hx (by grind)
      by_cases h3 : x.val % 2 = 1
      · rw [if_pos h3, if_neg oM]
      · rw [if_neg h3, if_pos oM, neg_neg']
theorem on_xsq {x y : Fp} (h : cv.on ⟨x, y⟩) : (y * y - 1) * finv (fD * (y * y) + 1) = x * x := by
  have h1 := finv_mul (cv.below_ne y)
  have h2 := (cv.on_iff ⟨x, y⟩).1 h
  have h3 : y * y - x * x = 1 + fD * (x * x * (y * y)) := h2
  have h4 : (cv.d * (y * y) + 1) * finv (cv.d * (y * y) + 1) = 1 := h1
  change (fD * (y * y) + 1) * finv (fD * (y * y) + 1) = 1 at h4
  generalize finv (fD * (y * y) + 1) = u at *
  generalize fD = d at *
  have h5 : y * y - 1 = x * x * (d * (y * y) + 1) := by grind
  rw [h5]
  have : x * x * (d * (y * y) + 1) * u = x * x * ((d * (y * y) + 1) * u) := by grind
  rw [this, h4]; grind
theorem xOf_eq {x y : Fp} (h : cv.on ⟨x, y⟩) : xOf y = ((if x.val % 2 = 1 then -x else x), true) := by
  rw [xOf, on_xsq h, fRoot_eq]
theorem fb_top (x : Fp) : ((fb x).getD 31 0).toNat < 128 := by
  have h : (fb x).getD 31 0 = UInt8.ofNat (x.val / 256 ^ 31) := leb_getD 32 x.val 31 dE
  have h1 := x.isLt
  have h2 : x.val / 256 ^ 31 < 128 := by
    rw [Nat.div_lt_iff_lt_mul dE]
    exact Nat.lt_of_lt_of_le h1 dE
  rw [h, UInt8.toNat_ofNat']
  omega
theorem byte_clear : ∀ b : UInt8, b.toNat < 128 → (b &&& 127) = b ∧ ((b ||| 128) &&& 127) = b ∧ (b &&& 128) = 0 ∧ ((b ||| 128) &&& 128) = 128 := by
  intro b hb
  have h : ∀ n, n < 128 → ((UInt8.ofNat n) &&& 127) = UInt8.ofNat n ∧ ((UInt8.ofNat n ||| 128) &&& 127) = UInt8.ofNat n ∧ (UInt8.ofNat n &&& 128) = 0 ∧ ((UInt8.ofNat n ||| 128) &&& 128) = 128 := by decide
  have h2 := h b.toNat hb
  rwa [UInt8.ofNat_toNat] at h2
theorem set_same (l : List UInt8) (i : Nat) (hi : i < l.length) : l.set i (l.getD i 0) = l := by
  apply List.ext_getElem sP
  intro j h1 h2
  rw [List.getElem_set]
  split
  · rename_i e
    subst e
    rw [List.getD_eq_getElem?_getD, List.getElem?_eq_getElem hi]; rfl
  · rfl
theorem getD_set (l : List UInt8) (i : Nat) (v : UInt8) (hi : i < l.length) : (l.set i v).getD i 0 = v := by
  rw [List.getD_eq_getElem?_getD, List.getElem?_set_self hi, Option.getD_some]
theorem lowB_pb (P : Pt Fp) : lowB (pb P) = fb P.y := by
  have h := byte_clear _ (fb_top P.y)
  have hl := fb_length P.y
  unfold lowB pb
  split
  · rw [getD_set _ _ _ oM, h.2.1, List.set_set, set_same _ _ oM]
  · rw [h.1, set_same _ _ oM]
theorem topB_pb (P : Pt Fp) : topB (pb P) = decide (P.x.val % 2 = 1) := by
  have h := byte_clear _ (fb_top P.y)
  have hl := fb_length P.y
  unfold topB pb
  split
  · rename_i e
    rw [getD_set _ _ _ oM, h.2.2.2, decide_eq_true e]; rfl
  · rename_i e
    rw [h.2.2.1, decide_eq_false e]; rfl
theorem rdP_pb {P : Pt Fp} (h : cv.on P) : rdP (pb P) = some P := by
  obtain ⟨x, y⟩ := P
  have hx := xOf_eq h
  unfold rdP
  rw [lowB_pb, topB_pb, fe_fb, if_pos rfl, hx]
  simp only
  by_cases h1 : x.val % 2 = 1
  · have hx0 : x ≠ 0 := fun e => by rw [e] at h1; revert h1; decide
    have hn : -x ≠ 0 := fun e2 => hx0 (by grind)
    rw [if_pos h1, if_pos ⟨trivial, fun e => hn e.2⟩, if_pos (decide_eq_true h1), neg_neg']
  · rw [if_neg h1, if_pos ⟨trivial, fun e => h1 (of_decide_eq_true e.1)⟩, if_neg (fun e => h1 (of_decide_eq_true e))]
end Ed
end

section
namespace Go.Proofs.Ytmddgelpllffoaa
open Go Hw Ed
set_option linter.unusedVariables false
set_option maxRecDepth 100000
theorem clamp_lo (b : UInt8) : (b &&& 248).toNat % 8 = 0 := by
  have h : ∀ n : _root_.Fin 256, ((UInt8.ofNat n.val) &&& 248).toNat % 8 = 0 := by decide
  have h2 := h ⟨b.toNat, b.toNat_lt⟩
  rwa [UInt8.ofNat_toNat] at h2
theorem clamp_hi (b : UInt8) : 64 ≤ ((b &&& 127) ||| 64).toNat ∧ ((b &&& 127) ||| 64).toNat < 128 := by
  have h : ∀ n : _root_.Fin 256, 64 ≤ (((UInt8.ofNat n.val) &&& 127) ||| 64).toNat ∧ (((UInt8.ofNat n.val) &&& 127) ||| 64).toNat < 128 := by decide
  have h2 := h ⟨b.toNat, b.toNat_lt⟩
  rwa [UInt8.ofNat_toNat] at h2
theorem le_last {l : List UInt8} {v : UInt8} (h : l.length = 32) : le (l.set 31 v) = le (l.take 31) + 256 ^ 31 * v.toNat := by
  have e : l.set 31 v = l.take 31 ++ [v] := by
    apply List.ext_getElem (by simp [h])
    intro i h1 h2
    rw [List.getElem_set, List.getElem_append]
    split
    · rename_i e
      subst e
      simp [h]
    · rename_i e
      have h3 : i < 31 := by simp [h] at h1; omega
      simp [h, h3]
  rw [e, le_append, List.length_take, h]
  show le (l.take 31) + 256 ^ 31 * (v.toNat + 256 * 0) = _
  rw [Nat.mul_zero, Nat.add_zero]
theorem le_first {l : List UInt8} {v : UInt8} (h : 0 < l.length) : le (l.set 0 v) = v.toNat + 256 * le (l.drop 1) := by
  cases l with
  | nil => cases h
  | cons a l => rfl
theorem take_set0 (l : List UInt8) (v : UInt8) : (l.set 0 v).take 31 = (l.take 31).set 0 v := by rw [List.take_set]
theorem clamp_num {l : List UInt8} (h : l.length = 32) : ∃ j, le (clampB l) = 8 * j ∧ 2 ^ 251 ≤ j ∧ j < 2 ^ 252 := by
  have h1 := clamp_lo (l.getD 0 0)
  have h2 := clamp_hi (l.getD 31 0)
  have h3 : (l.take 31).length = 31 := by rw [List.length_take, h]; rfl
  have h4 := le_lt ((l.take 31).drop 1)
  have h6 := ((l.getD 0 0) &&& 248).toNat_lt
  have h5 : ((l.take 31).drop 1).length = 30 := by rw [List.length_drop, h3]
  rw [h5] at h4
  unfold clampB
  rw [le_last (by rw [List.length_set, h]), take_set0, le_first oM]
  generalize le ((l.take 31).drop 1) = x at *
  generalize ((l.getD 0 0) &&& 248).toNat = y at *
  generalize (((l.getD 31 0) &&& 127) ||| 64).toNat = z at *
  clear h3 h5
  have e1 : (256 : Nat) ^ 31 = 452312848583266388373324160190187140051835877600158453279131187530910662656 := by decide
  have e2 : (256 : Nat) ^ 30 = 1766847064778384329583297500742918515827483896875618958121606201292619776 := by decide
  have e3 : (2 : Nat) ^ 251 = 3618502788666131106986593281521497120414687020801267626233049500247285301248 := by decide
  have e4 : (2 : Nat) ^ 252 = 7237005577332262213973186563042994240829374041602535252466099000494570602496 := by decide
  rw [e1, e3, e4]
  rw [e2] at h4
  exact ⟨y / 8 + 32 * x + 56539106072908298546665520023773392506479484700019806659891398441363832832 * z, by omega, by omega, by omega⟩
theorem L_prm : Prm L := prm_order
theorem bP_y1 : Nat.beq bP.y.val 1 = false := by kernel_rfl
theorem bP_ne : bP ≠ zero := fun e => by
  have h : bP.y.val = 1 := by rw [e]; rfl
  have h2 := bP_y1
  rw [h] at h2
  cases h2
theorem order_gen {P : Pt Fp} (hP : cv.on P) {q : Nat} (hL : Prm q) (ho : cv.mul q P = zero) (hne : P ≠ zero) {m : Nat} (h : cv.mul m P = zero) : q ∣ m := by
  refine Classical.byContradiction fun hn => hne ?_
  have h1 := hL.fermat hn
  have h2 : cv.mul (m ^ (q - 1) % q) P = cv.mul (m ^ (q - 1)) P := cv.mul_order hP ho _
  rw [h1, cv.mul_one] at h2
  rw [h2]
  have e : m ^ (q - 1) = m ^ (q - 2) * m := by
    rw [← Nat.pow_succ]
    congr 1
    have := hL.1
    omega
  rw [e, cv.mul_mul hP, h, cv.mul_zero]
theorem order_dvd {m : Nat} (h : cv.mul m bP = zero) : L ∣ m := order_gen bP_on L_prm bP_order bP_ne h
theorem L_odd1 : Nat.gcd 64 L = 1 := by kernel_rfl
theorem L_odd : Nat.Coprime 64 L := L_odd1
theorem L_big : Nat.ble (2 ^ 252) L = true := by kernel_rfl
theorem order_abs {M a b q j : Nat} (hc : Nat.Coprime 64 M) (hb : b ≤ M) (ha : 0 < a) (h2 : a ≤ j) (h3 : j < b) (hq : 8 * (8 * j) = M * q) : False := by
  have h : 64 ∣ M * q := ⟨j, by omega⟩
  obtain ⟨c, hc⟩ := Nat.Coprime.dvd_of_dvd_mul_left hc h
  have e : M * q = 64 * (M * c) := by rw [hc, Nat.mul_left_comm]
  have e2 : j = M * c := by omega
  cases c with
  | zero => rw [Nat.mul_zero] at e2; omega
  | succ c =>
    rw [Nat.mul_succ] at e2
    generalize M * c = x at *
    omega
theorem order_no {q j : Nat} (h2 : 2 ^ 251 ≤ j) (h3 : j < 2 ^ 252) (hq : 8 * (8 * j) = L * q) : False :=
  order_abs L_odd (Nat.le_of_ble_eq_true L_big) (Nat.pow_pos dE) h2 h3 hq
theorem clamp_big {n j : Nat} (h1 : n = 8 * j) (h2 : 2 ^ 251 ≤ j) (h3 : j < 2 ^ 252) : cv.mul 8 (cv.mul n bP) ≠ zero := by
  intro e
  have e2 := (cv.mul_mul bP_on 8 n).trans e
  obtain ⟨q, hq⟩ := order_dvd e2
  rw [h1] at hq
  exact order_no h2 h3 hq
theorem clamp_small {l : List UInt8} (h : l.length = 32) : smallB (cv.mul (le (clampB l)) bP) = false := by
  obtain ⟨j, h1, h2, h3⟩ := clamp_num h
  unfold smallB
  simp only [decide_eq_false_iff_not]
  exact clamp_big h1 h2 h3
theorem sgK_read (s : List UInt8) : rdP (sgK s) = some (cv.mul (le (clampB (s.take 32))) bP) := rdP_pb (cv.on_mul bP_on _)
theorem sgF_read (s : List UInt8) : rdP (sgF s) = some (cv.mul (le (sgR s)) bP) := rdP_pb (cv.on_mul bP_on _)
theorem valid_self {s : List UInt8} (h : 32 ≤ s.length) : validB (sgK s) = true := by
  rw [validB, sgK_read]
  show (!smallB _) = true
  rw [clamp_small (by rw [List.length_take]; omega)]; rfl
theorem sgS_lt (s s1 s2 : List UInt8) : le (sgS s s1 s2) < L := by
  have h := Nat.mod_lt (le (sgR s2) * le (clampB (s.take 32)) + le (sgR s1)) L_pos
  rw [sgS, le_leb32 (Nat.lt_trans h L_lt)]; exact h
theorem sgS_eq (s s1 s2 : List UInt8) : le (sgS s s1 s2) = (le (sgR s2) * le (clampB (s.take 32)) + le (sgR s1)) % L := by
  have h := Nat.mod_lt (le (sgR s2) * le (clampB (s.take 32)) + le (sgR s1)) L_pos
  rw [sgS, le_leb32 (Nat.lt_trans h L_lt)]
theorem lin_self (k n r : Nat) : cv.lin ((k * n + r) % L) k bP (neg (cv.mul n bP)) = cv.mul r bP := by
  have hn := cv.on_mul bP_on n
  have hk := cv.on_mul hn k
  have hr := cv.on_mul bP_on r
  rw [Cv.lin, cv.mul_order bP_on bP_order, Nat.add_comm, cv.mul_add bP_on, cv.mul_mul bP_on, cv.mul_neg hn, cv.add_assoc hr hk (cv.on_neg hk), cv.add_neg hk, cv.add_zero]
theorem sg_take (s s1 s2 : List UInt8) : (sgF s1 ++ sgS s s1 s2).take 32 = sgF s1 := by
  rw [List.take_left' (sgF_length s1)]
theorem sg_drop (s s1 s2 : List UInt8) : (sgF s1 ++ sgS s s1 s2).drop 32 = sgS s s1 s2 := by
  rw [List.drop_left' (sgF_length s1)]
theorem good_self (s s1 bb : List UInt8) {s2 : List UInt8} (h : sha512 (sgF s1 ++ (sgK s ++ bb)) = s2) : goodB (sgK s) bb (sgF s1 ++ sgS s s1 s2) = true := by
  unfold goodB
  simp only [decide_eq_true_eq]
  rw [sg_take, sg_drop, h]
  refine ⟨sgS_lt s s1 s2, _, _, sgK_read s, sgF_read s1, ?_⟩
  rw [sgS_eq]
  exact lin_self _ _ _
end Go.Proofs.Ytmddgelpllffoaa
end

section
namespace Go.Proofs.Ytmddgelpllffoaa
open Go Hw Ed
set_option linter.unusedVariables false
def affX (n : Nat) : Nat := force (fastN n) fun s => ux s * pwm PF 256 (uz s % PF) (PF - 2) % PF
def affY (n : Nat) : Nat := force (fastN n) fun s => uy s * pwm PF 256 (uz s % PF) (PF - 2) % PF
theorem fast_at {n X Y : Nat} (hn : n < 2 ^ 256) (hx : affX n = X) (hy : affY n = Y) : cv.mul n bP = ⟨fe X, fe Y⟩ := by
  refine fastN_pt hn ?_ ?_
  · rw [← hx, affX, force_eq, fe_mod, fe_mul]; rfl
  · rw [← hy, affY, force_eq, fe_mod, fe_mul]; rfl
def rfcB : List UInt8 := [157, 97, 177, 157, 239, 253, 90, 96, 186, 132, 74, 244, 146, 236, 44, 196, 68, 73, 197, 105, 123, 50, 105, 25, 112, 59, 172, 3, 28, 174, 127, 96]
def rfcH : List UInt8 := [53, 124, 131, 134, 79, 40, 51, 203, 66, 122, 46, 241, 192, 10, 1, 60, 253, 255, 39, 104, 217, 128, 192, 163, 165, 32, 240, 6, 144, 77, 233, 15, 155, 79, 10, 254, 40, 11, 116, 106, 119, 134, 132, 231, 84, 66, 80, 32, 87, 183, 71, 58, 3, 240, 143, 150, 245, 163, 142, 146, 135, 224, 31, 143]
def rfcN : List UInt8 := [48, 124, 131, 134, 79, 40, 51, 203, 66, 122, 46, 241, 192, 10, 1, 60, 253, 255, 39, 104, 217, 128, 192, 163, 165, 32, 240, 6, 144, 77, 233, 79]
def rfcH1 : List UInt8 := [182, 177, 156, 216, 224, 66, 111, 89, 131, 250, 17, 45, 137, 161, 67, 170, 151, 218, 184, 188, 93, 235, 141, 91, 98, 83, 201, 40, 182, 82, 114, 244, 4, 64, 152, 194, 169, 144, 3, 156, 222, 91, 106, 72, 24, 223, 11, 251, 110, 64, 220, 93, 238, 84, 36, 128, 50, 150, 35, 35, 231, 1, 53, 45]
def rfcH2 : List UInt8 := [39, 113, 6, 43, 107, 83, 111, 231, 255, 189, 218, 3, 32, 195, 130, 123, 3, 93, 241, 13, 40, 77, 243, 240, 130, 34, 240, 77, 188, 167, 164, 194, 14, 241, 91, 220, 152, 138, 34, 199, 32, 116, 17, 55, 124, 51, 242, 172, 9, 177, 232, 106, 4, 98, 52, 40, 55, 104, 238, 123, 160, 60, 14, 159]
def rfcK : List UInt8 := [215, 90, 152, 1, 130, 177, 10, 183, 213, 75, 254, 211, 201, 100, 7, 58, 14, 225, 114, 243, 218, 166, 35, 37, 175, 2, 26, 104, 247, 7, 81, 26]
def rfcF : List UInt8 := [229, 86, 67, 0, 195, 96, 172, 114, 144, 134, 226, 204, 128, 110, 130, 138, 132, 135, 127, 30, 184, 229, 217, 116, 216, 115, 224, 101, 34, 73, 1, 85]
def rfcS : List UInt8 := [229, 86, 67, 0, 195, 96, 172, 114, 144, 134, 226, 204, 128, 110, 130, 138, 132, 135, 127, 30, 184, 229, 217, 116, 216, 115, 224, 101, 34, 73, 1, 85, 95, 184, 130, 21, 144, 163, 59, 172, 198, 30, 57, 112, 28, 249, 180, 107, 210, 91, 245, 240, 89, 91, 190, 36, 101, 81, 65, 67, 142, 122, 16, 11]
theorem rfc_h : sha512 rfcB = rfcH := by kernel_rfl
theorem rfc_n : clampB (rfcH.take 32) = rfcN := by kernel_rfl
theorem rfc_n1 : le rfcN = 36144925721603087658594284515452164870581325872720374094707712194495455132720 := by kernel_rfl
theorem rfc_h1 : sha512 (rfcH.drop 32 ++ []) = rfcH1 := by kernel_rfl
theorem rfc_r1 : le (sgR rfcH1) = 2015312323900227545039973048451112962192803170366412514267238242679089760755 := by kernel_rfl
theorem rfc_kp : cv.mul 36144925721603087658594284515452164870581325872720374094707712194495455132720 bP = ⟨fe 38815646466658113194383306759739515082307681141926459231621296960732224964046, fe 11903303657706407974989296177215005343713679411332034699907763981919547054807⟩ := fast_at dE (by kernel_rfl) (by kernel_rfl)
theorem rfc_fp : cv.mul 2015312323900227545039973048451112962192803170366412514267238242679089760755 bP = ⟨fe 44370630452101398467924320556439323233869374150616132215183787387252341590058, fe 38448863731492799660668882834560725606410712239157980760146247592118262650597⟩ := fast_at dE (by kernel_rfl) (by kernel_rfl)
theorem rfc_kb : pb ⟨fe 38815646466658113194383306759739515082307681141926459231621296960732224964046, fe 11903303657706407974989296177215005343713679411332034699907763981919547054807⟩ = rfcK := by kernel_rfl
theorem rfc_fb : pb ⟨fe 44370630452101398467924320556439323233869374150616132215183787387252341590058, fe 38448863731492799660668882834560725606410712239157980760146247592118262650597⟩ = rfcF := by kernel_rfl
theorem rfc_k : sgK rfcH = rfcK := by rw [sgK, rfc_n, rfc_n1, rfc_kp, rfc_kb]
theorem rfc_f : sgF rfcH1 = rfcF := by rw [sgF, rfc_r1, rfc_fp, rfc_fb]
theorem rfc_h2 : sha512 (rfcF ++ (rfcK ++ [])) = rfcH2 := by kernel_rfl
theorem rfc_s1 : rfcF ++ sgS rfcH rfcH1 rfcH2 = rfcS := by kernel_rfl
theorem rfc_s : sgF rfcH1 ++ sgS rfcH rfcH1 rfcH2 = rfcS := by rw [rfc_f, rfc_s1]
theorem rfc_h2' : sha512 (sgF rfcH1 ++ (sgK rfcH ++ [])) = rfcH2 := by rw [rfc_f, rfc_k, rfc_h2]
theorem rfc_good : goodB rfcK [] rfcS = true := by
  have h := good_self rfcH rfcH1 [] rfc_h2'
  rwa [rfc_s, rfc_k] at h
end Go.Proofs.Ytmddgelpllffoaa
end

section
namespace Go.Proofs.Ytmddgelpllffoaa
open Go Hw
set_option linter.unusedVariables false
set_option linter.unusedSimpArgs false

open Ed

def rfcP : List UInt8 := onesB 237 127
theorem rfcB_l : rfcB.length = 32 := rfl
theorem rfcK_l : rfcK.length = 32 := rfl
theorem rfcS_l : rfcS.length = 64 := rfl
theorem rfcN_l : rfcN.length = 32 := rfl
theorem rfcP_l : rfcP.length = 32 := onesB_length _ _
theorem bytes_nil6 {W : World} : BytesAt W Sl.nil [] := ⟨rfl, Nat.le_refl _, SeesP.nil, by decide, fun _ => rfl⟩
theorem rfc_Key : Meets Try.prog 6 [agg (bytesV rfcB)] [] (fun _ => True) (fun v out => v = agg (bytesV rfcK) ∧ out = []) := by
  have h := sign_Key rfcB rfcB_l rfcH ⟨rfc_h⟩
  rwa [show pb (cv.mul (le (clampB (rfcH.take 32))) bP) = rfcK from rfc_k] at h
theorem rfc_Sign : Meets Try.prog 7 [agg (bytesV rfcB), .slice none 0 0] [] (fun _ => True) (fun v out => v = agg (bytesV rfcS) ∧ out = []) := by
  have h := sign_Sign rfcB rfcB_l Sl.nil [] dE rfcH rfcH1 rfcH2 ⟨rfc_h⟩ ⟨rfc_h1⟩ ⟨rfc_h2'⟩
  rw [rfc_s] at h
  exact h.imp (fun w _ => bytes_nil6) (fun _ _ e => e)
theorem rfc_Good : Meets Try.prog 10 [agg (bytesV rfcK), .slice none 0 0, agg (bytesV rfcS)] [] (fun _ => True) (fun v out => v = .bool true ∧ out = []) := by
  have h := sign_Good rfcK rfcK_l Sl.nil [] dE rfcS rfcS_l
  rw [rfc_good] at h
  exact h.imp (fun w _ => bytes_nil6) (fun _ _ e => e)
theorem rfc_k8 : rfcK.take 8 = [215, 90, 152, 1, 130, 177, 10, 183] := rfl
theorem rfc_s8 : rfcS.take 8 = [229, 86, 67, 0, 195, 96, 172, 114] := rfl

set_option maxRecDepth 100000 in
set_option maxHeartbeats 1000000 in
theorem law06_rfc  : Meets Try.prog 13 [] [] (fun _ => True) (fun v out => v = agg (bytesV rfcB) ∧ out = []) := by
  intro W hW
  refine calls_of (hp0 := []) Try.func13 rfl 2 Try.ntmps13 rfl (HRep.nil _) ?_
  refine Sat.seq ?_
  refine Sat.region ?_
  refine Tr.alloc (cs := (bytesV (List.replicate 32 0))) rfl Zr22 rfl ?_
  intro n0 hn0 hf0
  refine Tr.nil ?_
  refine at_n ?_
  refine Sat.seq ?_
  refine Sat.region ?_
  refine Tr.build (cs := bytesV rfcB) rfl rfl rfl (fun w => by kernel_rfl) ?_
  first
    | refine Tr.storeAll rfl rfl rfl rfl cB Sz22 (by first | (simp [rfcB_l, rfcK_l, rfcS_l, rfcN_l, rfcP_l]; done) | assumption | (rw [bytesV, List.length_map]; assumption)) mM (by first | (simp [rfcB_l, rfcK_l, rfcS_l, rfcN_l, rfcP_l]; done) | assumption | (rw [bytesV, List.length_map]; assumption)) uU ?_
    | refine Tr.storeN _ rfl rfl rfl rfl rfl cB Sz22 (by first | (simp [rfcB_l, rfcK_l, rfcS_l, rfcN_l, rfcP_l]; done) | assumption | (rw [bytesV, List.length_map]; assumption)) mM (by first | (simp [rfcB_l, rfcK_l, rfcS_l, rfcN_l, rfcP_l]; done) | assumption | (rw [bytesV, List.length_map]; assumption)) (by exact rfl) uU ?_
  refine Tr.nil ?_
  refine at_n ?_
  refine Sat.ret ?_
  refine en_r ?_
  refine ⟨_, [], res_cell rfl rfl Try.underlying22 rfl Sz22 mM (by simp [rfcB_l, rfcK_l, rfcS_l, rfcN_l, rfcP_l]), sP, sP, ?_, rfl⟩
  rfl

set_option maxRecDepth 100000 in
set_option maxHeartbeats 4000000 in
theorem law06_lives  : Meets Try.prog 5 [] [] (fun _ => True) (fun v out => v = .bool true ∧ out = []) := by
  intro W hW
  refine calls_of (hp0 := []) Try.func5 rfl 20 Try.ntmps5 rfl (HRep.nil _) ?_
  refine Sat.seq ?_
  refine Sat.region ?_
  refine Tr.assign rfl rfl rfl ?_
  refine Tr.nil ?_
  refine at_n ?_
  refine Sat.seq ?_
  refine Sat.region ?_
  refine Tr.callV rfl rfl rfl rfl Body13 (law06_rfc) (fun _ _ => trivial) ?_
  refine Tr.callV rfl rfl rfl rfl Body6 (rfc_Key) (fun _ _ => trivial) ?_
  refine Tr.alloc (cs := (bytesV (List.replicate 32 0))) rfl Zr25 rfl ?_
  intro n1 hn1 hf1
  first
    | refine Tr.storeAll rfl rfl rfl rfl cB Sz25 (by first | (simp [rfcB_l, rfcK_l, rfcS_l, rfcN_l, rfcP_l]; done) | assumption | (rw [bytesV, List.length_map]; assumption)) mM (by first | (simp [rfcB_l, rfcK_l, rfcS_l, rfcN_l, rfcP_l]; done) | assumption | (rw [bytesV, List.length_map]; assumption)) uU ?_
    | refine Tr.storeN _ rfl rfl rfl rfl rfl cB Sz25 (by first | (simp [rfcB_l, rfcK_l, rfcS_l, rfcN_l, rfcP_l]; done) | assumption | (rw [bytesV, List.length_map]; assumption)) mM (by first | (simp [rfcB_l, rfcK_l, rfcS_l, rfcN_l, rfcP_l]; done) | assumption | (rw [bytesV, List.length_map]; assumption)) (by exact rfl) uU ?_
  refine Tr.nil ?_
  refine at_n ?_
  refine Sat.seq ?_
  refine Sat.region ?_
  refine Tr.callV rfl rfl rfl rfl Body13 (law06_rfc) (fun _ _ => trivial) ?_
  refine Tr.callV rfl rfl rfl rfl Body7 (rfc_Sign) (fun _ _ => trivial) ?_
  refine Tr.alloc (cs := (bytesV (List.replicate 64 0))) rfl Zr28 rfl ?_
  intro n2 hn2 hf2
  first
    | refine Tr.storeAll rfl rfl rfl rfl cB Sz28 (by first | (simp [rfcB_l, rfcK_l, rfcS_l, rfcN_l, rfcP_l]; done) | assumption | (rw [bytesV, List.length_map]; assumption)) mM (by first | (simp [rfcB_l, rfcK_l, rfcS_l, rfcN_l, rfcP_l]; done) | assumption | (rw [bytesV, List.length_map]; assumption)) uU ?_
    | refine Tr.storeN _ rfl rfl rfl rfl rfl cB Sz28 (by first | (simp [rfcB_l, rfcK_l, rfcS_l, rfcN_l, rfcP_l]; done) | assumption | (rw [bytesV, List.length_map]; assumption)) mM (by first | (simp [rfcB_l, rfcK_l, rfcS_l, rfcN_l, rfcP_l]; done) | assumption | (rw [bytesV, List.length_map]; assumption)) (by exact rfl) uU ?_
  refine Tr.nil ?_
  refine at_n ?_
  refine Sat.seq ?_
  refine Sat.region ?_
  refine Tr.sliceArrHi 8 rfl rfl rfl rfl rfl dE dE Try.underlying25 Sz5 ?_
  refine Tr.toStr rfl rfl rfl Try.underlying23 Try.underlying5 Try.underlying9 (l := rfcK.take 8) (fun w h => SeesP.of (by have h9 := sees_own (cs := bytesV rfcK) h mM; exact fun i v hv => h9 i v (take_sees hv))) (by rfl) ?_
  refine Tr.eql_str rfl rfl rfl rfl (decide_eq_true (rfc_k8)) ?_
  refine Tr.move rfl rfl rfl ?_
  refine Tr.sliceArrHi 8 rfl rfl rfl rfl rfl dE dE Try.underlying28 Sz5 ?_
  refine Tr.toStr rfl rfl rfl Try.underlying23 Try.underlying5 Try.underlying9 (l := rfcS.take 8) (fun w h => SeesP.of (by have h9 := sees_own (cs := bytesV rfcS) h mM; exact fun i v hv => h9 i v (take_sees hv))) (by rfl) ?_
  refine Tr.eql_str rfl rfl rfl rfl (decide_eq_true (rfc_s8)) ?_
  refine Tr.pick rfl rfl rfl rfl rfl rfl ?_
  refine Tr.move rfl rfl rfl ?_
  first
    | refine Tr.loadAll rfl rfl rfl Try.underlying25 rfl Sz25 mM (by first | (simp [rfcB_l, rfcK_l, rfcS_l, rfcN_l, rfcP_l]; done) | assumption | (rw [bytesV, List.length_map]; assumption)) ?_
    | refine Tr.loadN _ rfl rfl rfl Try.underlying25 rfl Sz25 mM (by exact rfl) (by first | (simp [rfcB_l, rfcK_l, rfcS_l, rfcN_l, rfcP_l]; done) | assumption | (rw [bytesV, List.length_map]; assumption)) ?_
  first
    | refine Tr.loadAll rfl rfl rfl Try.underlying28 rfl Sz28 mM (by first | (simp [rfcB_l, rfcK_l, rfcS_l, rfcN_l, rfcP_l]; done) | assumption | (rw [bytesV, List.length_map]; assumption)) ?_
    | refine Tr.loadN _ rfl rfl rfl Try.underlying28 rfl Sz28 mM (by exact rfl) (by first | (simp [rfcB_l, rfcK_l, rfcS_l, rfcN_l, rfcP_l]; done) | assumption | (rw [bytesV, List.length_map]; assumption)) ?_
  refine Tr.callV rfl rfl rfl rfl Body10 (rfc_Good) (fun _ _ => trivial) ?_
  refine Tr.pick rfl rfl rfl rfl rfl rfl ?_
  refine Tr.assign rfl rfl rfl ?_
  refine Tr.nil ?_
  refine at_n ?_
  refine Sat.ret ?_
  refine en_r ?_
  refine ⟨_, [], res_tmp rfl rfl, sP, sP, ?_, rfl⟩
  rfl

end Go.Proofs.Ytmddgelpllffoaa
end

section
namespace Ed
open Hw Go
set_option linter.unusedVariables false

def mr : List Nat → List Nat → Nat
  | w :: ws, b :: bs => w + 2 ^ b * mr ws bs
  | _, _ => 0
def dg (n : Nat) : List Nat → List Nat
  | b :: bs => n % 2 ^ b :: dg (n / 2 ^ b) bs
  | [] => []
def carL (c : Nat) : List Nat → List Nat → List Nat
  | w :: ws, b :: bs => (w + c) % 2 ^ b :: carL ((w + c) / 2 ^ b) ws bs
  | _, _ => []
theorem dg_length : ∀ (bs : List Nat) (n : Nat), (dg n bs).length = bs.length
  | [], _ => rfl
  | b :: bs, n => by simp [dg, dg_length bs]
theorem carL_dg : ∀ (bs ws : List Nat) (c : Nat), ws.length = bs.length → carL c ws bs = dg (mr ws bs + c) bs
  | [], ws, c, h => by cases ws <;> simp_all [carL, dg]
  | b :: bs, [], c, h => by simp at h
  | b :: bs, w :: ws, c, h => by
    have hp : 0 < 2 ^ b := Nat.pow_pos dE
    have h1 : mr (w :: ws) (b :: bs) + c = (w + c) + 2 ^ b * mr ws bs := by rw [mr]; omega
    rw [carL, dg, h1, Nat.add_mul_mod_self_left, Nat.add_mul_div_left _ _ hp, carL_dg bs ws _ (by simpa using h), Nat.add_comm (mr ws bs)]
theorem mr_dg : ∀ (bs : List Nat) (n : Nat), mr (dg n bs) bs = n % 2 ^ bs.sum
  | [], n => by simp [mr, dg, Nat.mod_one]
  | b :: bs, n => by
    rw [dg, mr, mr_dg bs, List.sum_cons, Nat.pow_add, Nat.mod_mul]
def b10 : List Nat := [26, 25, 26, 25, 26, 25, 26, 25, 26, 25]
theorem b10_sum : b10.sum = 255 := rfl
def bitsAt (i : Nat) : Nat := if i % 2 = 0 then 26 else 25
def v10 (w : List Nat) : Nat := mr w b10
/-- one step of a carry -/
def stepC (w : List Nat) (i : Nat) : List Nat :=
  if i = 9 then (w.set i (w.getD i 0 % 2 ^ bitsAt i)).set 0 ((w.set i (w.getD i 0 % 2 ^ bitsAt i)).getD 0 0 + 19 * (w.getD i 0 / 2 ^ bitsAt i))
  else (w.set i (w.getD i 0 % 2 ^ bitsAt i)).set (i + 1) ((w.set i (w.getD i 0 % 2 ^ bitsAt i)).getD (i + 1) 0 + w.getD i 0 / 2 ^ bitsAt i)
def carAt (w : List Nat) : Nat → List Nat
  | 0 => w
  | i + 1 => stepC (carAt w i) i
def car10 (w : List Nat) : List Nat := (dg (v10 w) b10).set 0 (v10 w % 2 ^ 26 + 19 * (v10 w / 2 ^ 255))
theorem len10 {w : List Nat} (h : w.length = 10) : ∃ a b c d e f g i j k, w = [a, b, c, d, e, f, g, i, j, k] := by
  match w, h with
  | [a, b, c, d, e, f, g, i, j, k], _ => exact ⟨a, b, c, d, e, f, g, i, j, k, rfl⟩
def cout (c : Nat) : List Nat → List Nat → Nat
  | w :: ws, b :: bs => cout ((w + c) / 2 ^ b) ws bs
  | _, _ => c
theorem cout_eq : ∀ (bs ws : List Nat) (c : Nat), ws.length = bs.length → cout c ws bs = (mr ws bs + c) / 2 ^ bs.sum
  | [], ws, c, h => by cases ws <;> simp_all [cout, mr]
  | b :: bs, [], c, h => by simp at h
  | b :: bs, w :: ws, c, h => by
    have hp : 0 < 2 ^ b := Nat.pow_pos dE
    have h1 : mr (w :: ws) (b :: bs) + c = (w + c) + 2 ^ b * mr ws bs := by rw [mr]; omega
    rw [cout, h1, List.sum_cons, Nat.pow_add, ← Nat.div_div_eq_div_mul, Nat.add_mul_div_left _ _ hp, cout_eq bs ws _ (by simpa using h), Nat.add_comm (mr ws bs)]
theorem stepC_0 (a b c d e f g i j k : Nat) : stepC [a, b, c, d, e, f, g, i, j, k] 0 = [a % 2 ^ 26, b + a / 2 ^ 26, c, d, e, f, g, i, j, k] := rfl
theorem stepC_1 (a b c d e f g i j k : Nat) : stepC [a, b, c, d, e, f, g, i, j, k] 1 = [a, b % 2 ^ 25, c + b / 2 ^ 25, d, e, f, g, i, j, k] := rfl
theorem stepC_2 (a b c d e f g i j k : Nat) : stepC [a, b, c, d, e, f, g, i, j, k] 2 = [a, b, c % 2 ^ 26, d + c / 2 ^ 26, e, f, g, i, j, k] := rfl
theorem stepC_3 (a b c d e f g i j k : Nat) : stepC [a, b, c, d, e, f, g, i, j, k] 3 = [a, b, c, d % 2 ^ 25, e + d / 2 ^ 25, f, g, i, j, k] := rfl
theorem stepC_4 (a b c d e f g i j k : Nat) : stepC [a, b, c, d, e, f, g, i, j, k] 4 = [a, b, c, d, e % 2 ^ 26, f + e / 2 ^ 26, g, i, j, k] := rfl
theorem stepC_5 (a b c d e f g i j k : Nat) : stepC [a, b, c, d, e, f, g, i, j, k] 5 = [a, b, c, d, e, f % 2 ^ 25, g + f / 2 ^ 25, i, j, k] := rfl
theorem stepC_6 (a b c d e f g i j k : Nat) : stepC [a, b, c, d, e, f, g, i, j, k] 6 = [a, b, c, d, e, f, g % 2 ^ 26, i + g / 2 ^ 26, j, k] := rfl
theorem stepC_7 (a b c d e f g i j k : Nat) : stepC [a, b, c, d, e, f, g, i, j, k] 7 = [a, b, c, d, e, f, g, i % 2 ^ 25, j + i / 2 ^ 25, k] := rfl
theorem stepC_8 (a b c d e f g i j k : Nat) : stepC [a, b, c, d, e, f, g, i, j, k] 8 = [a, b, c, d, e, f, g, i, j % 2 ^ 26, k + j / 2 ^ 26] := rfl
theorem stepC_9 (a b c d e f g i j k : Nat) : stepC [a, b, c, d, e, f, g, i, j, k] 9 = [a + 19 * (k / 2 ^ 25), b, c, d, e, f, g, i, j, k % 2 ^ 25] := rfl
theorem carAt_car {w : List Nat} (h : w.length = 10) : carAt w 10 = (carL 0 w b10).set 0 ((carL 0 w b10).getD 0 0 + 19 * cout 0 w b10) := by
  obtain ⟨a, b, c, d, e, f, g, i, j, k, rfl⟩ := len10 h
  simp only [carAt, stepC_0, stepC_1, stepC_2, stepC_3, stepC_4, stepC_5, stepC_6, stepC_7, stepC_8, stepC_9, b10, carL, cout, Nat.add_zero, List.set_cons_zero, List.getD_cons_zero]
theorem carAt_eq {w : List Nat} (h : w.length = 10) : carAt w 10 = car10 w := by
  rw [carAt_car h, carL_dg b10 w 0 h, cout_eq b10 w 0 h, b10_sum]
  rfl
theorem car10_length (w : List Nat) : (car10 w).length = 10 := by simp [car10, dg_length, b10]
/-- words within their bits; the lowest may have a little more -/
structure Fit10 (w : List Nat) : Prop where
  len : w.length = 10
  lo : w.getD 0 0 < 2 ^ 26 + 128
  hi : ∀ i, 0 < i → i < 10 → w.getD i 0 < 2 ^ bitsAt i
theorem dg_lt : ∀ (bs : List Nat) (n i : Nat), i < bs.length → (dg n bs).getD i 0 < 2 ^ bs.getD i 0
  | b :: bs, n, 0, _ => Nat.mod_lt _ (Nat.pow_pos dE)
  | b :: bs, n, i + 1, h => dg_lt bs (n / 2 ^ b) i (by simpa using h)
theorem b10_at : ∀ i : _root_.Fin 10, b10.getD i.val 0 = bitsAt i.val := by decide
theorem car10_fit {w : List Nat} (h : v10 w < 6 * 2 ^ 255) : Fit10 (car10 w) := by
  refine ⟨car10_length w, ?_, fun i h1 h2 => ?_⟩
  · show v10 w % 2 ^ 26 + 19 * (v10 w / 2 ^ 255) < _
    have : v10 w / 2 ^ 255 < 6 := Nat.div_lt_of_lt_mul oM
    have := Nat.mod_lt (v10 w) (show 0 < 2 ^ 26 by decide)
    omega
  · have h3 := dg_lt b10 (v10 w) i h2
    rw [b10_at ⟨i, h2⟩] at h3
    rwa [car10, List.getD_eq_getElem?_getD, List.getElem?_set_ne oM, ← List.getD_eq_getElem?_getD]
theorem car10_val (w : List Nat) : v10 (car10 w) = v10 w % 2 ^ 255 + 19 * (v10 w / 2 ^ 255) := by
  have h1 : dg (v10 w) b10 = v10 w % 2 ^ 26 :: dg (v10 w / 2 ^ 26) [25, 26, 25, 26, 25, 26, 25, 26, 25] := rfl
  have h2 : mr (dg (v10 w) b10) b10 = v10 w % 2 ^ 255 := mr_dg b10 (v10 w)
  rw [← h2, v10, car10, h1]
  show (v10 w % 2 ^ 26 + 19 * (v10 w / 2 ^ 255)) + 2 ^ 26 * _ = (v10 w % 2 ^ 26 + 2 ^ 26 * _) + _
  generalize mr _ _ = x
  omega
theorem car10_v (w : List Nat) : fe (v10 (car10 w)) = fe (v10 w) := by
  rw [car10_val]
  have h4 : v10 w = v10 w % 2 ^ 255 + 2 ^ 255 * (v10 w / 2 ^ 255) := (Nat.mod_add_div _ _).symm
  generalize v10 w / 2 ^ 255 = q at *
  generalize v10 w % 2 ^ 255 = r at *
  rw [h4, fe_eq]
  have e : r + 2 ^ 255 * q = (r + 19 * q) + PF * q := by
    have : (2 : Nat) ^ 255 = 19 + PF := by decide
    rw [this, Nat.add_mul]; omega
  rw [e, Nat.add_mul_mod_self_left]
def atOf (i : Nat) : Nat := (51 * i + 1) / 2
def coef (i k : Nat) : Nat := (if i + k > 9 then 19 else 1) * (if i % 2 = 1 ∧ k % 2 = 1 then 2 else 1)
theorem coef_le (i k : Nat) : coef i k ≤ 38 := by
  unfold coef
  split <;> split <;> omega
def coefOk (i k : Nat) : Bool := Nat.beq (2 ^ atOf ((i + k) % 10) * coef i k % PF) (2 ^ atOf i * 2 ^ atOf k % PF)
def coefAll : Bool := (List.range 10).all fun i => (List.range 10).all fun k => coefOk i k
theorem coef_all : coefAll = true := by kernel_rfl
theorem coef_fe {i k : Nat} (hi : i < 10) (hk : k < 10) : fe (2 ^ atOf ((i + k) % 10) * coef i k) = fe (2 ^ atOf i) * fe (2 ^ atOf k) := by
  have h := coef_all
  unfold coefAll at h
  rw [List.all_eq_true] at h
  have h1 := h i (List.mem_range.2 hi)
  rw [List.all_eq_true] at h1
  have h2 := h1 k (List.mem_range.2 hk)
  rw [← fe_mul]
  exact fe_eq.2 (Nat.eq_of_beq_eq_true h2)
theorem mr_set (p : Nat) : ∀ (bs w : List Nat) (m : Nat), w.length = bs.length → m < w.length → mr (w.set m (w.getD m 0 + p)) bs = mr w bs + 2 ^ (bs.take m).sum * p
  | [], [], m, _, h => by simp at h
  | b :: bs, x :: w, 0, _, _ => by
    show (x + p) + 2 ^ b * mr w bs = (x + 2 ^ b * mr w bs) + 2 ^ 0 * p
    omega
  | b :: bs, x :: w, m + 1, h1, h2 => by
    have ih := mr_set p bs w m (by simpa using h1) (by simpa using h2)
    show x + 2 ^ b * mr (w.set m (w.getD m 0 + p)) bs = (x + 2 ^ b * mr w bs) + 2 ^ (b + (bs.take m).sum) * p
    rw [ih, Nat.mul_add, Nat.pow_add, Nat.mul_assoc, Nat.add_assoc]
theorem at_sum : ∀ m : _root_.Fin 10, (b10.take m.val).sum = atOf m.val := by decide
theorem v10_set {w : List Nat} (h : w.length = 10) (p : Nat) {m : Nat} (hm : m < 10) : v10 (w.set m (w.getD m 0 + p)) = v10 w + 2 ^ atOf m * p := by
  rw [v10, mr_set p b10 w m h oM, at_sum ⟨m, hm⟩]; rfl
def tCell (x y : List Nat) (i k : Nat) (o : List Nat) : List Nat := o.set ((i + k) % 10) (o.getD ((i + k) % 10) 0 + coef i k * (x.getD i 0 * y.getD k 0))
def tRow (x y : List Nat) (i : Nat) (o : List Nat) : Nat → List Nat
  | 0 => o
  | k + 1 => tCell x y i k (tRow x y i o k)
def tAll (x y : List Nat) : Nat → List Nat
  | 0 => List.replicate 10 0
  | i + 1 => tRow x y i (tAll x y i) 10
theorem tRow_length (x y : List Nat) (i : Nat) {o : List Nat} (h : o.length = 10) : ∀ k, (tRow x y i o k).length = 10
  | 0 => h
  | k + 1 => by rw [tRow, tCell, List.length_set, tRow_length x y i h k]
theorem tAll_length (x y : List Nat) : ∀ i, (tAll x y i).length = 10
  | 0 => rfl
  | i + 1 => tRow_length x y i (tAll_length x y i) 10
/-- the value of the first words -/
def pv (w : List Nat) : Nat → Fp
  | 0 => 0
  | k + 1 => pv w k + fe (2 ^ atOf k) * fe (w.getD k 0)
theorem pv_all {w : List Nat} (h : w.length = 10) : pv w 10 = fe (v10 w) := by
  obtain ⟨a, b, c, d, e, f, g, i, j, k, rfl⟩ := len10 h
  have e1 : v10 [a, b, c, d, e, f, g, i, j, k] = 2 ^ atOf 0 * a + 2 ^ atOf 1 * b + 2 ^ atOf 2 * c + 2 ^ atOf 3 * d + 2 ^ atOf 4 * e + 2 ^ atOf 5 * f + 2 ^ atOf 6 * g + 2 ^ atOf 7 * i + 2 ^ atOf 8 * j + 2 ^ atOf 9 * k := by
    simp only [v10, mr, b10, atOf, Nat.mul_add, ← Nat.mul_assoc, ← Nat.pow_add, Nat.mul_zero, Nat.add_zero, ← Nat.add_assoc]
    simp
  rw [e1]
  simp only [fe_add, fe_mul, pv, List.getD_cons_zero, List.getD_cons_succ]
  grind
theorem tRow_v (x y : List Nat) (i : Nat) (hi : i < 10) {o : List Nat} (h : o.length = 10) : ∀ k, k ≤ 10 → fe (v10 (tRow x y i o k)) = fe (v10 o) + fe (2 ^ atOf i) * fe (x.getD i 0) * pv y k
  | 0, _ => by simp only [tRow, pv]; grind
  | k + 1, hk => by
    have ih := tRow_v x y i hi h k oM
    have hc := coef_fe hi (show k < 10 by omega)
    rw [tRow, tCell, v10_set (tRow_length x y i h k) _ (Nat.mod_lt _ dE), fe_add, ih, ← Nat.mul_assoc, fe_mul, hc, fe_mul, pv]
    generalize fe (2 ^ atOf i) = A
    generalize fe (2 ^ atOf k) = B
    grind
theorem tAll_v {x y : List Nat} (hy : y.length = 10) : ∀ i, i ≤ 10 → fe (v10 (tAll x y i)) = pv x i * fe (v10 y)
  | 0, _ => by
    have e : fe (v10 (List.replicate 10 0)) = 0 := by kernel_rfl
    rw [tAll, e, pv]; grind
  | i + 1, hi => by
    rw [tAll, tRow_v x y i oM (tAll_length x y i) 10 (Nat.le_refl _), tAll_v hy i oM, pv_all hy, pv]
    grind
def ones : List Nat → Nat
  | b :: bs => 1 + 2 ^ b * ones bs
  | [] => 0
theorem mr_le (B : Nat) : ∀ bs w : List Nat, w.length = bs.length → (∀ m, m < w.length → w.getD m 0 ≤ B) → mr w bs ≤ B * ones bs
  | [], [], _, _ => Nat.zero_le _
  | b :: bs, x :: w, h1, h2 => by
    have ih := mr_le B bs w (by simpa using h1) (fun m hm => h2 (m + 1) (by simpa using hm))
    have hx : x ≤ B := h2 0 sP
    have h3 : 2 ^ b * mr w bs ≤ 2 ^ b * (B * ones bs) := Nat.mul_le_mul_left _ ih
    show x + 2 ^ b * mr w bs ≤ B * (1 + 2 ^ b * ones bs)
    rw [Nat.mul_add, Nat.mul_one, Nat.mul_left_comm B]
    omega
theorem ones_lt : Nat.ble (ones b10 + 1) (2 ^ 231) = true := by kernel_rfl
theorem v10_le {w : List Nat} (h : w.length = 10) (B : Nat) (h2 : ∀ m, m < 10 → w.getD m 0 ≤ B) : v10 w ≤ B * 2 ^ 231 :=
  Nat.le_trans (mr_le B b10 w h (by rw [h]; exact h2)) (Nat.mul_le_mul_left _ (Nat.le_of_succ_le (Nat.le_of_ble_eq_true ones_lt)))
theorem getD_set' {l : List Nat} {i j v : Nat} (hi : i < l.length) : (l.set i v).getD j 0 = if j = i then v else l.getD j 0 := by
  rw [List.getD_eq_getElem?_getD, List.getElem?_set]
  split
  · rename_i e; subst e; rw [if_pos rfl]; simp
  · rename_i e; rw [if_neg (fun h => e h.symm), List.getD_eq_getElem?_getD]
theorem tRow_le {x y : List Nat} {B i : Nat} (hi : i < 10) (hb : ∀ k, k < 10 → coef i k * (x.getD i 0 * y.getD k 0) ≤ B) {o : List Nat} (h : o.length = 10) : ∀ k, k ≤ 10 → ∀ m, m < 10 → (tRow x y i o k).getD m 0 ≤ o.getD m 0 + (if (m + 10 - i) % 10 < k then B else 0)
  | 0, _, m, hm => by rw [if_neg oM]; exact Nat.le_refl _
  | k + 1, hk, m, hm => by
    have ih := tRow_le hi hb h k oM
    have hl := tRow_length x y i h k
    rw [tRow, tCell, getD_set' (by rw [hl]; exact Nat.mod_lt _ dE)]
    split
    · rename_i e
      have h1 := ih m hm
      have h2 := hb k oM
      rw [if_neg oM] at h1
      rw [if_pos oM, ← e]
      omega
    · rename_i e
      have h1 := ih m hm
      refine Nat.le_trans h1 (Nat.add_le_add_left ?_ _)
      split
      · rw [if_pos oM]; exact Nat.le_refl _
      · exact Nat.zero_le _
theorem tAll_le {x y : List Nat} {B : Nat} (hb : ∀ i k, i < 10 → k < 10 → coef i k * (x.getD i 0 * y.getD k 0) ≤ B) : ∀ i, i ≤ 10 → ∀ m, m < 10 → (tAll x y i).getD m 0 ≤ i * B
  | 0, _, m, hm => by
    show (List.replicate 10 0).getD m 0 ≤ _
    rw [List.getD_eq_getElem?_getD, List.getElem?_replicate_of_lt hm, Nat.zero_mul]; exact Nat.le_refl _
  | i + 1, hi, m, hm => by
    have h1 := tRow_le oM (fun k hk => hb i k oM hk) (tAll_length x y i) 10 (Nat.le_refl _) m hm
    have h2 := tAll_le hb i oM m hm
    rw [if_pos (Nat.mod_lt _ dE)] at h1
    rw [tAll, Nat.succ_mul]
    omega
theorem Fit10.all {w : List Nat} (h : Fit10 w) {m : Nat} (hm : m < 10) : w.getD m 0 < 2 ^ 27 := by
  by_cases h0 : m = 0
  · subst h0; have := h.lo; omega
  · have h1 := h.hi m oM hm
    refine Nat.lt_of_lt_of_le h1 ?_
    unfold bitsAt; split <;> decide
theorem term_le {x y : List Nat} (hx : Fit10 x) (hy : Fit10 y) (i k : Nat) (hi : i < 10) (hk : k < 10) : coef i k * (x.getD i 0 * y.getD k 0) ≤ 38 * (2 ^ 27 * 2 ^ 27) :=
  Nat.mul_le_mul (coef_le i k) (Nat.mul_le_mul (Nat.le_of_lt (hx.all hi)) (Nat.le_of_lt (hy.all hk)))
def mulT (x y : List Nat) : List Nat := car10 (car10 (tAll x y 10))
theorem mulT_v {x y : List Nat} (hx : x.length = 10) (hy : y.length = 10) : fe (v10 (mulT x y)) = fe (v10 x) * fe (v10 y) := by
  rw [mulT, car10_v, car10_v, tAll_v hy 10 (Nat.le_refl _), pv_all hx]
theorem mr_lt : ∀ bs w : List Nat, w.length = bs.length → (∀ m, m < w.length → w.getD m 0 < 2 ^ bs.getD m 0) → mr w bs + 1 ≤ 2 ^ bs.sum
  | [], [], _, _ => Nat.le_refl _
  | b :: bs, x :: w, h1, h2 => by
    have ih := mr_lt bs w (by simpa using h1) (fun m hm => h2 (m + 1) (by simpa using hm))
    have hx : x < 2 ^ b := h2 0 sP
    have h3 : 2 ^ b * (mr w bs + 1) ≤ 2 ^ b * 2 ^ bs.sum := Nat.mul_le_mul_left _ ih
    rw [mr, List.sum_cons, Nat.pow_add]
    rw [Nat.mul_add, Nat.mul_one] at h3
    omega
theorem Fit10.v {w : List Nat} (h : Fit10 w) : v10 w < 2 ^ 255 + 128 := by
  have hl := h.len
  have h0 := h.lo
  have h1 := h.hi
  cases w with
  | nil => simp at hl
  | cons a t =>
    have h2 := mr_lt [25, 26, 25, 26, 25, 26, 25, 26, 25] t (by simpa using hl) (fun m hm => by
      have h3 := h1 (m + 1) oM (by simp at hl; omega)
      have h4 := b10_at ⟨m + 1, by simp at hl; omega⟩
      rw [← h4] at h3
      exact h3)
    have h5 : [25, 26, 25, 26, 25, 26, 25, 26, 25].sum = 229 := rfl
    rw [h5] at h2
    have h6 : a < 2 ^ 26 + 128 := h0
    show a + 2 ^ 26 * mr t _ < _
    omega
theorem mulT_fit {x y : List Nat} (hx : Fit10 x) (hy : Fit10 y) : Fit10 (mulT x y) := by
  have h1 := tAll_le (term_le hx hy) 10 (Nat.le_refl _)
  have h2 := v10_le (tAll_length x y 10) _ h1
  refine car10_fit ?_
  have h4 : v10 (tAll x y 10) / 2 ^ 255 < 2 ^ 40 := Nat.div_lt_of_lt_mul oM
  have h5 := Nat.mod_lt (v10 (tAll x y 10)) (show 0 < 2 ^ 255 by decide)
  rw [car10_val]
  omega
theorem mulT_length (x y : List Nat) : (mulT x y).length = 10 := car10_length _
def npv (w : List Nat) : Nat → Nat
  | 0 => 0
  | k + 1 => npv w k + 2 ^ atOf k * w.getD k 0
theorem npv_all {w : List Nat} (h : w.length = 10) : npv w 10 = v10 w := by
  obtain ⟨a, b, c, d, e, f, g, i, j, k, rfl⟩ := len10 h
  simp only [v10, mr, b10, atOf, Nat.mul_add, ← Nat.mul_assoc, ← Nat.pow_add, Nat.mul_zero, Nat.add_zero, ← Nat.add_assoc, npv, List.getD_cons_zero, List.getD_cons_succ]
  simp
/-- four times the prime, in words -/
def p4 (i : Nat) : Nat := 4 * (2 ^ bitsAt i - 1 - (if i = 0 then 18 else 0))
def subAt (x y : List Nat) : Nat → List Nat
  | 0 => x
  | i + 1 => (subAt x y i).set i ((subAt x y i).getD i 0 + (p4 i - y.getD i 0))
theorem subAt_length {x : List Nat} (y : List Nat) (h : x.length = 10) : ∀ i, (subAt x y i).length = 10
  | 0 => h
  | i + 1 => by rw [subAt, List.length_set, subAt_length y h i]
def p4v : Nat → Nat
  | 0 => 0
  | k + 1 => p4v k + 2 ^ atOf k * p4 k
theorem p4v_all : p4v 10 = 4 * PF := by kernel_rfl
theorem p4_ge {y : List Nat} (hy : Fit10 y) {i : Nat} (hi : i < 10) : y.getD i 0 ≤ p4 i := by
  unfold p4
  by_cases h0 : i = 0
  · subst h0
    have := hy.lo
    rw [if_pos rfl]
    show _ ≤ 4 * (2 ^ 26 - 1 - 18)
    omega
  · have h1 := hy.hi i oM hi
    rw [if_neg h0]
    have : 1 ≤ 2 ^ bitsAt i := Nat.pow_pos dE
    omega
theorem subAt_v {x y : List Nat} (h : x.length = 10) (hy : Fit10 y) : ∀ i, i ≤ 10 → v10 (subAt x y i) + npv y i = v10 x + p4v i
  | 0, _ => rfl
  | i + 1, hi => by
    have ih := subAt_v h hy i oM
    have h1 := p4_ge hy (show i < 10 by omega)
    have h2 : 2 ^ atOf i * (p4 i - y.getD i 0) + 2 ^ atOf i * y.getD i 0 = 2 ^ atOf i * p4 i := by
      rw [← Nat.mul_add, Nat.sub_add_cancel h1]
    rw [subAt, v10_set (subAt_length y h i) _ oM, npv, p4v]
    omega
def minusT (x y : List Nat) : List Nat := car10 (subAt x y 10)
theorem minusT_v {x y : List Nat} (hx : x.length = 10) (hy : Fit10 y) : fe (v10 (minusT x y)) = fe (v10 x) - fe (v10 y) := by
  have h := congrArg fe (subAt_v hx hy 10 (Nat.le_refl _))
  rw [npv_all hy.len, p4v_all, fe_add, fe_add, fe_four] at h
  rw [minusT, car10_v]
  generalize fe (v10 (subAt x y 10)) = u at *
  generalize fe (v10 x) = a at *
  generalize fe (v10 y) = b at *
  grind
theorem minusT_fit {x y : List Nat} (hx : Fit10 x) (hy : Fit10 y) : Fit10 (minusT x y) := by
  refine car10_fit ?_
  have h := subAt_v hx.len hy 10 (Nat.le_refl _)
  rw [p4v_all] at h
  have h1 := hx.v
  have h2 : PF < 2 ^ 255 := by decide
  omega
theorem car10_low {w : List Nat} (h : v10 w < 2 ^ 255) : car10 w = dg (v10 w) b10 := by
  rw [car10, Nat.div_eq_of_lt h, Nat.mul_zero, Nat.add_zero]; rfl
theorem v10_dg {n : Nat} (h : n < 2 ^ 255) : v10 (dg n b10) = n := by rw [v10, mr_dg, b10_sum, Nat.mod_eq_of_lt h]
/-- the number below 2^255 that four carries leave -/
def low10 (w : List Nat) : Nat := v10 w % 2 ^ 255 + 19 * (v10 w / 2 ^ 255)
theorem low10_fe (w : List Nat) : fe (low10 w) = fe (v10 w) := by rw [low10, ← car10_val, car10_v]
theorem low10_lt {w : List Nat} (h : Fit10 w) : low10 w < 2 ^ 255 := by
  have h1 := h.v
  rw [low10]
  omega
theorem car10_four {w : List Nat} (h : Fit10 w) : car10 (car10 (car10 (car10 w))) = dg (low10 w) b10 := by
  have h1 := low10_lt h
  have h2 : v10 (car10 w) = low10 w := car10_val w
  have h3 : car10 (car10 w) = dg (low10 w) b10 := by rw [car10_low (by rw [h2]; exact h1), h2]
  have h4 : car10 (dg (low10 w) b10) = dg (low10 w) b10 := by rw [car10_low (by rw [v10_dg h1]; exact h1), v10_dg h1]
  rw [h3, h4, h4]
end Ed
end

section
namespace Ed
open Hw Go
set_option linter.unusedVariables false

structure Mid10 (w : List Nat) : Prop where
  len : w.length = 10
  le : ∀ m, m < 10 → w.getD m 0 ≤ 7205759403792793600
theorem bits_ge (i : Nat) : 33554432 ≤ 2 ^ bitsAt i := by unfold bitsAt; split <;> decide
theorem bits_le (i : Nat) : 2 ^ bitsAt i ≤ 67108864 := by unfold bitsAt; split <;> decide
theorem bits_26 (i : Nat) : bitsAt i ≤ 26 := by unfold bitsAt; split <;> decide
theorem carAt_length {w : List Nat} (h : w.length = 10) : ∀ i, (carAt w i).length = 10
  | 0 => h
  | i + 1 => by rw [carAt, stepC]; split <;> simp [carAt_length h i]
theorem div_bits (x i : Nat) (h : x ≤ 7205759403792793600 + 274877906944) : x / 2 ^ bitsAt i ≤ 274877906944 := by
  have h1 : x / 2 ^ bitsAt i ≤ x / 33554432 := Nat.div_le_div_left (bits_ge i) dE
  omega
theorem carAt_le {w : List Nat} (h : Mid10 w) : ∀ i, i < 10 → ∀ m, m < 10 → (carAt w i).getD m 0 ≤ (if m = i then 7205759403792793600 + 274877906944 else 7205759403792793600)
  | 0, _, m, hm => by
    have := h.le m hm
    rw [carAt]
    split <;> omega
  | i + 1, hi, m, hm => by
    have ih := carAt_le h i oM
    have hl := carAt_length h.len i
    have h2 := ih i oM
    rw [if_pos rfl] at h2
    rw [carAt, stepC, if_neg oM, getD_set' (by rw [List.length_set, hl]; omega)]
    split
    · rename_i e
      rw [getD_set' (by rw [hl]; omega), if_neg oM]
      have h1 := ih (i + 1) oM
      rw [if_neg oM] at h1
      have h3 := div_bits _ i h2
      omega
    · rename_i e
      rw [getD_set' (by rw [hl]; omega)]
      split
      · have h3 : (carAt w i).getD i 0 % 2 ^ bitsAt i < 2 ^ bitsAt i := Nat.mod_lt _ (Nat.pow_pos dE)
        have h4 := bits_le i
        omega
      · rename_i e2
        have h1 := ih m hm
        rw [if_neg e2] at h1
        exact h1
/-- what one round of a carry needs -/
structure CarK (w : List Nat) (k : Nat) : Prop where
  len : (carAt w k).length = 10
  x : (carAt w k).getD k 0 ≤ 7480637310737687 * 1000
  q : (carAt w k).getD k 0 / 2 ^ bitsAt k ≤ 274877906944
  nx : k < 9 → ((carAt w k).set k ((carAt w k).getD k 0 % 2 ^ bitsAt k)).getD (k + 1) 0 ≤ 7205759403792793600
  fs : k = 9 → ((carAt w k).set k ((carAt w k).getD k 0 % 2 ^ bitsAt k)).getD 0 0 ≤ 7205759403792793600
theorem carK {w : List Nat} (h : Mid10 w) {k : Nat} (hk : k < 10) : CarK w k := by
  have hl := carAt_length h.len k
  have h0 := carAt_le h k hk
  have h1 := h0 k hk
  rw [if_pos rfl] at h1
  refine ⟨hl, by omega, div_bits _ k h1, fun h9 => ?_, fun h9 => ?_⟩
  · rw [getD_set' (by rw [hl]; omega), if_neg oM]
    have := h0 (k + 1) oM
    rwa [if_neg oM] at this
  · rw [getD_set' (by rw [hl]; omega), if_neg oM]
    have := h0 0 oM
    rwa [if_neg oM] at this
theorem car_cut (x n : Nat) : x / 2 ^ n * 2 ^ n ≤ x ∧ x - x / 2 ^ n * 2 ^ n = x % 2 ^ n := by
  have := Nat.mod_add_div x (2 ^ n)
  rw [Nat.mul_comm] at this
  omega
theorem stepC_nine {w : List Nat} {k : Nat} (h : k = 9) : stepC w k = (w.set k (w.getD k 0 % 2 ^ bitsAt k)).set 0 ((w.set k (w.getD k 0 % 2 ^ bitsAt k)).getD 0 0 + 19 * (w.getD k 0 / 2 ^ bitsAt k)) := if_pos h
theorem stepC_low {w : List Nat} {k : Nat} (h : ¬ k = 9) : stepC w k = (w.set k (w.getD k 0 % 2 ^ bitsAt k)).set (k + 1) ((w.set k (w.getD k 0 % 2 ^ bitsAt k)).getD (k + 1) 0 + w.getD k 0 / 2 ^ bitsAt k) := if_neg h
theorem Fit10.mid {w : List Nat} (h : Fit10 w) : Mid10 w := ⟨h.len, fun m hm => by have := h.all hm; omega⟩
theorem car10_mid {w : List Nat} (h : v10 w < 2 ^ 300) : Mid10 (car10 w) := by
  refine ⟨car10_length w, fun m hm => ?_⟩
  have hl : (dg (v10 w) b10).length = 10 := by rw [dg_length]; rfl
  rw [car10, getD_set' (by rw [hl]; decide)]
  split
  · have h1 : v10 w / 2 ^ 255 < 2 ^ 45 := Nat.div_lt_of_lt_mul oM
    have h2 := Nat.mod_lt (v10 w) (show 0 < 2 ^ 26 by decide)
    omega
  · have h3 := dg_lt b10 (v10 w) m hm
    rw [b10_at ⟨m, hm⟩] at h3
    have := bits_le m
    simp only at h3
    omega
theorem tAll_mid {x y : List Nat} (hx : Fit10 x) (hy : Fit10 y) : Mid10 (tAll x y 10) :=
  ⟨tAll_length x y 10, fun m hm => by have := tAll_le (term_le hx hy) 10 (Nat.le_refl _) m hm; omega⟩
theorem tAll_v10 {x y : List Nat} (hx : Fit10 x) (hy : Fit10 y) : v10 (tAll x y 10) < 2 ^ 300 := by
  have h1 := tAll_le (term_le hx hy) 10 (Nat.le_refl _)
  have h2 := v10_le (tAll_length x y 10) _ h1
  omega
theorem subAt_get {x y : List Nat} (h : x.length = 10) : ∀ i, i ≤ 10 → ∀ m, m < 10 → (subAt x y i).getD m 0 = x.getD m 0 + (if m < i then p4 m - y.getD m 0 else 0)
  | 0, _, m, hm => by rw [subAt, if_neg oM]; rfl
  | i + 1, hi, m, hm => by
    have ih := subAt_get (y := y) h i oM
    have hl := subAt_length y h i
    rw [subAt, getD_set' (by rw [hl]; omega)]
    split
    · rename_i e
      subst e
      rw [ih m hm, if_neg oM, if_pos oM]; rfl
    · rename_i e
      rw [ih m hm]
      by_cases h1 : m < i
      · rw [if_pos h1, if_pos oM]
      · rw [if_neg h1, if_neg oM]
theorem p4_le (m : Nat) : p4 m ≤ 268435456 := by
  have := bits_le m
  unfold p4
  omega
theorem subAt_mid {x y : List Nat} (hx : Fit10 x) : Mid10 (subAt x y 10) :=
  ⟨subAt_length y hx.len 10, fun m hm => by
    rw [subAt_get hx.len 10 (Nat.le_refl _) m hm, if_pos hm]
    have := hx.all hm
    have := p4_le m
    omega⟩
def o10 : List Nat := [26, 25, 26, 25, 26, 25, 26, 25, 26, 26]
def opB (i : Nat) : Nat := if i = 9 then 26 else bitsAt i
def opD (N : Nat) : List Nat := dg N o10
def opAt (N i : Nat) : List Nat := (opD N).take i ++ List.replicate (10 - i) 0
theorem opD_length (N : Nat) : (opD N).length = 10 := by rw [opD, dg_length]; rfl
theorem opAt_length (N i : Nat) (h : i ≤ 10) : (opAt N i).length = 10 := by
  rw [opAt, List.length_append, List.length_take, opD_length, List.length_replicate]; omega
theorem dg_get : ∀ (bs : List Nat) (n i : Nat), i < bs.length → (dg n bs).getD i 0 = n / 2 ^ (bs.take i).sum % 2 ^ bs.getD i 0
  | b :: bs, n, 0, _ => by
    show n % 2 ^ b = n / 2 ^ 0 % 2 ^ b
    rw [Nat.pow_zero, Nat.div_one]
  | b :: bs, n, i + 1, h => by
    have ih := dg_get bs (n / 2 ^ b) i (by simpa using h)
    show (dg (n / 2 ^ b) bs).getD i 0 = n / 2 ^ (b + (bs.take i).sum) % 2 ^ bs.getD i 0
    rw [ih, Nat.div_div_eq_div_mul, ← Nat.pow_add]
theorem o10_at : ∀ i : _root_.Fin 10, o10.getD i.val 0 = opB i.val ∧ (o10.take i.val).sum = atOf i.val := by decide
theorem opD_get (N : Nat) {i : Nat} (h : i < 10) : (opD N).getD i 0 = N / 2 ^ atOf i % 2 ^ opB i := by
  have h1 := o10_at ⟨i, h⟩
  rw [opD, dg_get o10 N i h, h1.1, h1.2]
theorem opAt_set (N : Nat) {i : Nat} (h : i < 10) : (opAt N i).set i (N / 2 ^ atOf i % 2 ^ opB i) = opAt N (i + 1) := by
  rw [← opD_get N h]
  have hl := opD_length N
  have e : (opD N).take (i + 1) = (opD N).take i ++ [(opD N).getD i 0] := by
    rw [List.getD_eq_getElem?_getD, List.getElem?_eq_getElem oM, Option.getD_some]
    exact List.take_succ_eq_append_getElem oM
  rw [opAt, opAt, show 10 - i = (10 - (i + 1)) + 1 by omega, List.replicate_succ, List.set_append_right _ _ (by rw [List.length_take, hl]; omega), List.length_take, hl, show i - min i 10 = 0 by omega, List.set_cons_zero, e, List.append_assoc]
  rfl
theorem opAt_first (N : Nat) {i : Nat} (h : i < 10) : (opAt N i).set i (N / 2 ^ atOf i % 2 ^ 0) = opAt N i := by
  have hl := opD_length N
  rw [Nat.pow_zero, Nat.mod_one, opAt, show 10 - i = (10 - (i + 1)) + 1 by omega, List.replicate_succ, List.set_append_right _ _ (by rw [List.length_take, hl]; omega), List.length_take, hl, show i - min i 10 = 0 by omega, List.set_cons_zero]
theorem opAt_ten (N : Nat) : opAt N 10 = opD N := by
  rw [opAt, Nat.sub_self, List.replicate_zero, List.append_nil, List.take_of_length_le (by rw [opD_length]; exact Nat.le_refl _)]
theorem opD_v {N : Nat} (h : N < 2 ^ 256) : v10 (opD N) = N := by
  have h1 : v10 (opD N) = mr (dg N o10) o10 := by simp [v10, opD, o10, b10, dg, mr]
  rw [h1, mr_dg]
  exact Nat.mod_eq_of_lt h
theorem opD_mid (N : Nat) : Mid10 (opD N) := ⟨opD_length N, fun m hm => by
  rw [opD_get N hm]
  have h1 : N / 2 ^ atOf m % 2 ^ opB m < 2 ^ opB m := Nat.mod_lt _ (Nat.pow_pos dE)
  have h2 : 2 ^ opB m ≤ 67108864 := by
    unfold opB
    split
    · decide
    · exact bits_le m
  omega⟩
def openT (N : Nat) : List Nat := car10 (opD N)
theorem openT_fit {N : Nat} (h : N < 2 ^ 256) : Fit10 (openT N) := car10_fit (by rw [opD_v h]; omega)
theorem openT_v {N : Nat} (h : N < 2 ^ 256) : fe (v10 (openT N)) = fe N := by rw [openT, car10_v, opD_v h]
theorem openT_length (N : Nat) : (openT N).length = 10 := car10_length _
theorem op_bit (N i k : Nat) : N / 2 ^ atOf i % 2 ^ (k + 1) = N / 2 ^ atOf i % 2 ^ k + (if N.testBit (atOf i + k) then 2 ^ k else 0) := by
  rw [mod_bit, Nat.testBit_div_two_pow, Nat.add_comm k]
theorem at_succ {i : Nat} (h : i < 10) : atOf i + bitsAt i = atOf (i + 1) := by
  have : ∀ i : _root_.Fin 10, atOf i.val + bitsAt i.val = atOf (i.val + 1) := by decide
  exact this ⟨i, h⟩
theorem at_le {i : Nat} (h : i < 10) : atOf i ≤ 230 := by unfold atOf; omega
theorem at_op {i : Nat} (h : i < 10) : atOf i + opB i ≤ 256 := by
  have : ∀ i : _root_.Fin 10, atOf i.val + opB i.val ≤ 256 := by decide
  exact this ⟨i, h⟩
theorem op_le (i : Nat) : opB i ≤ 26 := by
  unfold opB
  split
  · exact Nat.le_refl _
  · exact bits_26 i
theorem byte_hi {n i : Nat} (h : n < 256 ^ i) : n / 256 ^ i = 0 := Nat.div_eq_of_lt h
theorem bit_set (X : Nat) {m : Nat} (hm : m < 256) (hb : X.testBit m = true) : (leb 32 (X % 2 ^ m)).set (m / 8) ((leb 32 (X % 2 ^ m)).getD (m / 8) 0 + shl8 1 (m % 8)) = leb 32 (X % 2 ^ (m + 1)) := by
  have e1 : X % 2 ^ (m + 1) = X % 2 ^ m + 2 ^ m := by rw [mod_bit, if_pos hb]
  have e2 : (2 : Nat) ^ m = 256 ^ (m / 8) * 2 ^ (m % 8) := by rw [pow256, ← Nat.pow_add]; congr 1; omega
  have hlt : X % 2 ^ m < 2 ^ m := Nat.mod_lt _ (Nat.pow_pos dE)
  rw [e1]
  generalize X % 2 ^ m = A at *
  have hc : 2 ^ (m % 8) < 256 := Nat.pow_lt_pow_of_lt (a := 2) (n := m % 8) (m := 8) dE oM
  have hj : m / 8 < 32 := by omega
  generalize m / 8 = j at *
  apply List.ext_getElem?
  intro i
  rcases Nat.lt_or_ge i 32 with hi | hi
  · rw [List.getElem?_set, leb_length, leb_get 32 (A + 2 ^ m) i hi]
    split
    · rename_i e
      subst e
      rw [leb_getD 32 A _ hj]
      congr 1
      rw [shl8, show (1 : UInt8).toNat = 1 from rfl, Nat.one_mul, e2, Nat.add_mul_div_left _ _ (Nat.pow_pos dE), ← UInt8.ofNat_add]
    · rename_i e
      rw [leb_get 32 A i hi]
      congr 1
      apply ofNat8
      rcases Nat.lt_or_ge i j with h | h
      · rw [e2, byte_low A _ j i h]
      · have h2 : j + 1 ≤ i := by omega
        have h3 : A + 2 ^ m < 256 ^ i := by
          have h4 : (256 : Nat) ^ (j + 1) ≤ 256 ^ i := Nat.pow_le_pow_right dE h2
          have h5 : (2 : Nat) ^ m + 2 ^ m ≤ 256 ^ (j + 1) := by
            rw [e2, Nat.pow_succ, ← Nat.mul_add]
            refine Nat.mul_le_mul_left _ ?_
            have h6 : 2 ^ (m % 8) ≤ 2 ^ 7 := Nat.pow_le_pow_right dE oM
            omega
          omega
        rw [byte_hi h3, byte_hi oM]
  · rw [List.getElem?_eq_none (by rw [List.length_set, leb_length]; exact hi), List.getElem?_eq_none (by rw [leb_length]; exact hi)]
theorem bit_off (X m : Nat) (hb : X.testBit m = false) : leb 32 (X % 2 ^ m) = leb 32 (X % 2 ^ (m + 1)) := by
  rw [mod_bit, if_neg (by rw [hb]; decide), Nat.add_zero]
/-- bit k of word i -/
theorem dg_bit (X : Nat) {i k : Nat} (hi : i < 10) (hk : k < bitsAt i) : ((dg X b10).getD i 0).testBit k = X.testBit (atOf i + k) := by
  have h1 := b10_at ⟨i, hi⟩
  have h2 := at_sum ⟨i, hi⟩
  rw [dg_get b10 X i hi, h1, h2, Nat.testBit_mod_two_pow, Nat.testBit_div_two_pow, decide_eq_true hk, Bool.true_and, Nat.add_comm k]
theorem dg_bit_dec (X : Nat) {i k : Nat} (hi : i < 10) (hk : k < bitsAt i) : ((((dg X b10).getD i 0 / 2 ^ k : Nat) : Int) % 2 = 1) ↔ X.testBit (atOf i + k) = true := by
  rw [← dg_bit X hi hk, Nat.testBit_eq_decide_div_mod_eq, decide_eq_true_eq]
  omega
def topL (d : Nat) : List UInt8 := UInt8.ofNat (237 + d) :: (List.replicate 30 255 ++ [127])
theorem top_all : ((List.range 19).all fun d => leb 32 (PF + d) == topL d && leb 32 d == UInt8.ofNat d :: List.replicate 31 0) = true := by kernel_rfl
theorem top_at {d : Nat} (h : d < 19) : leb 32 (PF + d) = topL d ∧ leb 32 d = UInt8.ofNat d :: List.replicate 31 0 := by
  have := List.all_eq_true.1 top_all d (List.mem_range.2 h)
  rw [Bool.and_eq_true] at this
  exact ⟨eq_of_beq this.1, eq_of_beq this.2⟩
theorem pf_19 : PF + 19 = 2 ^ 255 := by decide
theorem fb_low {X : Nat} (h : X < PF) : leb 32 X = fb (fe X) := by rw [fb_fe, Nat.mod_eq_of_lt h]
theorem not_top {X : Nat} (hX : X < 2 ^ 255) (h : ¬ (237 ≤ ((leb 32 X).getD 0 0).toNat ∧ ((leb 32 X).getD 31 0).toNat = 127)) : leb 32 X = fb (fe X) := by
  rcases Nat.lt_or_ge X PF with h1 | h1
  · exact fb_low h1
  · exfalso
    have h2 := pf_19
    obtain ⟨d, rfl⟩ : ∃ d, X = PF + d := ⟨X - PF, by omega⟩
    have hd : d < 19 := by omega
    rw [(top_at hd).1] at h
    refine h ⟨?_, rfl⟩
    show 237 ≤ (UInt8.ofNat (237 + d)).toNat
    rw [UInt8.toNat_ofNat']
    omega
theorem not_mid {X i : Nat} (hX : X < 2 ^ 255) (hi : 0 < i) (hi2 : i < 31) (h : ¬ ((leb 32 X).getD i 0).toNat = 255) : leb 32 X = fb (fe X) := by
  rcases Nat.lt_or_ge X PF with h1 | h1
  · exact fb_low h1
  · exfalso
    have h2 := pf_19
    obtain ⟨d, rfl⟩ : ∃ d, X = PF + d := ⟨X - PF, by omega⟩
    have hd : d < 19 := by omega
    rw [(top_at hd).1] at h
    refine h ?_
    obtain ⟨j, rfl⟩ : ∃ j, i = j + 1 := ⟨i - 1, by omega⟩
    show ((List.replicate 30 (255 : UInt8) ++ [127]).getD j 0).toNat = 255
    rw [List.getD_eq_getElem?_getD, List.getElem?_append_left (by rw [List.length_replicate]; omega), List.getElem?_replicate_of_lt oM]
    rfl
theorem u8_eq (x y : UInt8) (h : x.toNat = y.toNat) : x = y := UInt8.toNat_inj.1 h
theorem top_list {l : List UInt8} {d : Nat} (hl : l.length = 32) (hd19 : d < 19) (hd : (l.getD 0 0).toNat = 237 + d) (h31 : (l.getD 31 0).toNat = 127) (hm : ∀ i, 0 < i → i < 31 → (l.getD i 0).toNat = 255) : l = topL d := by
  apply List.ext_getElem?
  intro i
  rcases Nat.lt_or_ge i 32 with hi | hi
  · have g : l[i]? = some (l.getD i 0) := by
      rw [List.getD_eq_getElem?_getD, List.getElem?_eq_getElem oM]; rfl
    rw [g]
    by_cases h1 : i = 0
    · rw [h1]
      show _ = some (UInt8.ofNat (237 + d))
      refine congrArg some (u8_eq _ _ ?_)
      rw [hd, UInt8.toNat_ofNat']
      exact (Nat.mod_eq_of_lt oM).symm
    · obtain ⟨j, rfl⟩ : ∃ j, i = j + 1 := ⟨i - 1, by omega⟩
      show _ = (List.replicate 30 (255 : UInt8) ++ [127])[j]?
      by_cases h2 : j = 30
      · rw [h2]
        exact congrArg some (u8_eq _ _ h31)
      · rw [List.getElem?_append_left (by rw [List.length_replicate]; omega), List.getElem?_replicate_of_lt oM]
        exact congrArg some (u8_eq _ _ (hm (j + 1) oM oM))
  · rw [List.getElem?_eq_none oM, List.getElem?_eq_none (by simp only [topL, List.length_cons, List.length_append, List.length_replicate, List.length_nil]; omega)]
theorem top_sub : ∀ d : _root_.Fin 19, UInt8.ofNat (237 + d.val) - 237 = UInt8.ofNat d.val := by decide
theorem top_val {X d : Nat} (hX : X < 2 ^ 255) (hd : d < 19) (h : leb 32 X = topL d) : X = PF + d := by
  have h5 := (top_at hd).1
  rw [← h] at h5
  have h6 := congrArg le h5
  have h7 := pf_19
  rw [le_leb, le_leb] at h6
  generalize PF = p at *
  rw [Nat.mod_eq_of_lt (Nat.lt_of_lt_of_le (show p + d < 2 ^ 255 by omega) (Nat.le_of_lt dE)), Nat.mod_eq_of_lt (Nat.lt_trans hX dE)] at h6
  exact h6.symm
theorem is_top {X : Nat} (hX : X < 2 ^ 255) (h0 : 237 ≤ ((leb 32 X).getD 0 0).toNat) (h31 : ((leb 32 X).getD 31 0).toNat = 127) (hm : ∀ i, 0 < i → i < 31 → ((leb 32 X).getD i 0).toNat = 255) : ((leb 32 X).getD 0 0 - 237) :: List.replicate 31 0 = fb (fe X) := by
  have h3 := ((leb 32 X).getD 0 0).toNat_lt
  obtain ⟨d, hd⟩ : ∃ d, ((leb 32 X).getD 0 0).toNat = 237 + d := ⟨((leb 32 X).getD 0 0).toNat - 237, by omega⟩
  have hd19 : d < 19 := by omega
  have e := top_list (leb_length 32 X) hd19 hd h31 hm
  have e2 := top_val hX hd19 e
  have e3 : (leb 32 X).getD 0 0 = UInt8.ofNat (237 + d) := by rw [e]; rfl
  have h7 : fe X = fe d := by rw [e2, fe_eq, Nat.add_mod_left]
  rw [h7, fb_fe, Nat.mod_eq_of_lt (Nat.lt_trans hd19 dE), (top_at hd19).2, e3, top_sub ⟨d, hd19⟩]
theorem finv_mulF (a b : Fp) : finv (a * b) = finv a * finv b := mulpow dE
def cA : Fp := fe 121666
def cB : Fp := fe 121665
theorem cA_ne : cA ≠ 0 := by
  intro h
  have := congrArg Fin.val h
  revert this
  decide
theorem fD_cA : fD * cA = -cB := by kernel_rfl
theorem ref_quot (Y : Fp) : cA * (Y * Y - 1) * finv (cA - cB * (Y * Y)) = (Y * Y - 1) * finv (fD * (Y * Y) + 1) := by
  have h1 : cA - cB * (Y * Y) = cA * (fD * (Y * Y) + 1) := by
    have := fD_cA
    generalize Y * Y = q at *
    generalize cA = a at *
    generalize cB = b at *
    generalize fD = d at *
    grind
  have h2 := finv_mul cA_ne
  rw [h1, finv_mulF]
  generalize finv (fD * (Y * Y) + 1) = u at *
  generalize finv cA = v at *
  generalize cA = a at *
  grind
end Ed
end

section
namespace Hw
open Go Go.RowKit
set_option linter.unusedSimpArgs false
set_option linter.unusedVariables false

/-- words as the program holds them -/
def natsV (w : List Nat) : List Value := intsV (w.map Int.ofNat)
theorem natsV_length (w : List Nat) : (natsV w).length = w.length := by simp [natsV, intsV]
theorem get_nats {w : List Nat} {o : Nat} (h : o < w.length) : (natsV w)[o]? = some (i64 ((w.getD o 0 : Nat) : Int)) := by
  rw [natsV, get_ints (by simpa using h)]
  congr 2
  rw [List.getD_eq_getElem?_getD, List.getD_eq_getElem?_getD, List.getElem?_map, List.getElem?_eq_getElem h]
  rfl
theorem set_nats (w : List Nat) (o v : Nat) : (natsV w).set o (i64 (v : Int)) = natsV (w.set o v) := by
  simp [natsV, intsV, List.map_set]
theorem natsV_cell (w : List Nat) : ∀ u ∈ natsV w, isCell u = true := by
  intro u hu
  simp only [natsV, intsV, List.mem_map] at hu
  obtain ⟨x, _, rfl⟩ := hu
  rfl
section
variable {C : Cx} {ops : Array Oper} {rest : List (Nat × Oper)} {sl : List (Nat × Value)} {hp : List Blk} {Q : St → Prop} {c d : Nat} {ty : TypeId} {pos : String} {af : Array Edge} {g : Option (Nat × Bool)}
variable {xT yT : TypeId} {x y : Operand}
theorem Tr.addN (a b : Nat) (hg : guardOk ops sl g = true) (hk : okD c d C.N = true) (hx : evIn sl x = some (i64 (a : Int))) (hy : evIn sl y = some (i64 (b : Int))) (hr : a + b ≤ 9223372036854775807)
    (k : Tr C ops rest ⟨(d, i64 ((a + b : Nat) : Int)) :: sl, hp⟩ Q) : Tr C ops ((c, ⟨some d, .binOp .add xT x y yT, ty, pos, af, g⟩) :: rest) ⟨sl, hp⟩ Q := by
  refine .add_i64 hg hk hx hy oM ?_
  rwa [show ((a : Int) + b) = ((a + b : Nat) : Int) by omega]
theorem Tr.subN (a b : Nat) (hg : guardOk ops sl g = true) (hk : okD c d C.N = true) (hx : evIn sl x = some (i64 (a : Int))) (hy : evIn sl y = some (i64 (b : Int))) (hr : b ≤ a ∧ a ≤ 9223372036854775807)
    (k : Tr C ops rest ⟨(d, i64 ((a - b : Nat) : Int)) :: sl, hp⟩ Q) : Tr C ops ((c, ⟨some d, .binOp .sub xT x y yT, ty, pos, af, g⟩) :: rest) ⟨sl, hp⟩ Q := by
  refine .sub_i64 hg hk hx hy oM ?_
  rwa [show ((a : Int) - b) = ((a - b : Nat) : Int) by omega]
theorem Tr.mulN (a b : Nat) (hg : guardOk ops sl g = true) (hk : okD c d C.N = true) (hx : evIn sl x = some (i64 (a : Int))) (hy : evIn sl y = some (i64 (b : Int))) (hr : a * b ≤ 9223372036854775807)
    (k : Tr C ops rest ⟨(d, i64 ((a * b : Nat) : Int)) :: sl, hp⟩ Q) : Tr C ops ((c, ⟨some d, .binOp .mul xT x y yT, ty, pos, af, g⟩) :: rest) ⟨sl, hp⟩ Q := by
  have e : ((a : Int) * b) = ((a * b : Nat) : Int) := (Int.natCast_mul a b).symm
  refine .mul_i64 hg hk hx hy (by rw [e]; omega) ?_
  rwa [e]
theorem Tr.remN (a b : Nat) (hg : guardOk ops sl g = true) (hk : okD c d C.N = true) (hx : evIn sl x = some (i64 (a : Int))) (hy : evIn sl y = some (i64 (b : Int))) (hr : 1 ≤ b)
    (k : Tr C ops rest ⟨(d, i64 ((a % b : Nat) : Int)) :: sl, hp⟩ Q) : Tr C ops ((c, ⟨some d, .binOp .rem xT x y yT, ty, pos, af, g⟩) :: rest) ⟨sl, hp⟩ Q := by
  refine .rem_i64 hg hk hx hy oM ?_
  rwa [show ((a : Int) % b) = ((a % b : Nat) : Int) from rfl]
theorem Tr.quoN (a b : Nat) (hg : guardOk ops sl g = true) (hk : okD c d C.N = true) (hx : evIn sl x = some (i64 (a : Int))) (hy : evIn sl y = some (i64 (b : Int))) (hr : 1 ≤ b ∧ a ≤ 9223372036854775807)
    (k : Tr C ops rest ⟨(d, i64 ((a / b : Nat) : Int)) :: sl, hp⟩ Q) : Tr C ops ((c, ⟨some d, .binOp .quo xT x y yT, ty, pos, af, g⟩) :: rest) ⟨sl, hp⟩ Q := by
  refine .quo_i64 hg hk hx hy oM ?_
  rwa [show ((a : Int) / b) = ((a / b : Nat) : Int) from rfl]
theorem Tr.shrN (a n : Nat) {ky : IntKind} {b : Int} (hg : guardOk ops sl g = true) (hk : okD c d C.N = true) (hx : evIn sl x = some (i64 (a : Int))) (hy : evIn sl y = some (.int ky b)) (hn : b = n) (hr : n ≤ 64)
    (k : Tr C ops rest ⟨(d, i64 ((a / 2 ^ n : Nat) : Int)) :: sl, hp⟩ Q) : Tr C ops ((c, ⟨some d, .binOp .shr xT x y yT, ty, pos, af, g⟩) :: rest) ⟨sl, hp⟩ Q :=
  .bin hg hk hx hy (fun w => by
    subst hn
    simp only [binOp, Op.shift, IntKind.bits]
    rw [if_neg oM, Int.toNat_natCast, Nat.min_eq_left hr]
    have e : ((2 : Int) ^ n) = ((2 ^ n : Nat) : Int) := by simp
    rw [e, Int.fdiv_eq_ediv_of_nonneg _ (Int.natCast_nonneg _)]
    rfl) k
theorem Tr.shlN (a n : Nat) {ky : IntKind} {b : Int} (hg : guardOk ops sl g = true) (hk : okD c d C.N = true) (hx : evIn sl x = some (i64 (a : Int))) (hy : evIn sl y = some (.int ky b)) (hn : b = n) (hn2 : n ≤ 64) (hr : a * 2 ^ n ≤ 9223372036854775807)
    (k : Tr C ops rest ⟨(d, i64 ((a * 2 ^ n : Nat) : Int)) :: sl, hp⟩ Q) : Tr C ops ((c, ⟨some d, .binOp .shl xT x y yT, ty, pos, af, g⟩) :: rest) ⟨sl, hp⟩ Q :=
  .bin hg hk hx hy (fun w => by
    subst hn
    simp only [binOp, Op.shift, IntKind.bits]
    rw [if_neg oM, Int.toNat_natCast, Nat.min_eq_left hn2]
    have e : ((a : Int) * 2 ^ n) = ((a * 2 ^ n : Nat) : Int) := by simp
    rw [e, i64_wrap oM]; rfl) k
theorem Tr.quo_u8 {p : UInt8} {b : Int} (hg : guardOk ops sl g = true) (hk : okD c d C.N = true) (hx : evIn sl x = some (u8 p)) (hy : evIn sl y = some (.int .u8 b)) (n : Nat) (hn : b = n) (h0 : 0 < n)
    (k : Tr C ops rest ⟨(d, u8 (UInt8.ofNat (p.toNat / n))) :: sl, hp⟩ Q) : Tr C ops ((c, ⟨some d, .binOp .quo xT x y yT, ty, pos, af, g⟩) :: rest) ⟨sl, hp⟩ Q :=
  .bin hg hk hx hy (fun w => by
    subst hn
    simp [binOp, Op.intDiv, show ¬ n = 0 by omega]
    exact IntKind.wrap_u8 _) k
end
end Hw
end

section
namespace Go.Proofs.Ytmddgelpllffoaa
open Go Hw
set_option linter.unusedVariables false
set_option linter.unusedSimpArgs false

open Ed

theorem bits_even {i : Nat} (h : (i : Int).tmod 2 = 0) : bitsAt i = 26 := by 
  unfold bitsAt
  have e : (i : Int).tmod 2 = ((i % 2 : Nat) : Int) := rfl
  rw [if_pos oM]
theorem bits_odd {i : Nat} (h : ¬ (i : Int).tmod 2 = 0) : bitsAt i = 25 := by 
  unfold bitsAt
  have e : (i : Int).tmod 2 = ((i % 2 : Nat) : Int) := rfl
  rw [if_neg oM]
theorem bits_w (i : Nat) : ((UInt64.ofNat (bitsAt i)).toNat : Int) = ((bitsAt i : Nat) : Int) := by
  have := bits_26 i
  rw [UInt64.toNat_ofNat', Nat.mod_eq_of_lt oM]
theorem bits_wn (i : Nat) : (UInt64.ofNat (bitsAt i)).toNat = bitsAt i := by
  have := bits_26 i
  rw [UInt64.toNat_ofNat', Nat.mod_eq_of_lt oM]
theorem carAt_nine {w : List Nat} {k : Nat} (h : (k : Int) = 9) : carAt w (k + 1) = ((carAt w k).set k ((carAt w k).getD k 0 % 2 ^ bitsAt k)).set 0 (((carAt w k).set k ((carAt w k).getD k 0 % 2 ^ bitsAt k)).getD 0 0 + 19 * ((carAt w k).getD k 0 / 2 ^ bitsAt k)) := stepC_nine oM
theorem carAt_low {w : List Nat} {k : Nat} (h : ¬ (k : Int) = 9) : carAt w (k + 1) = ((carAt w k).set k ((carAt w k).getD k 0 % 2 ^ bitsAt k)).set (k + 1) (((carAt w k).set k ((carAt w k).getD k 0 % 2 ^ bitsAt k)).getD (k + 1) 0 + (carAt w k).getD k 0 / 2 ^ bitsAt k) := stepC_low oM
theorem opB_nine {i : Nat} (h : (i : Int) = 9) : opB i = 26 := if_pos oM
theorem opB_low {i : Nat} (h : ¬ (i : Int) = 9) : opB i = bitsAt i := if_neg oM
theorem natc {a b : Nat} (h : a = b) : some (i64 (a : Int)) = some (i64 (b : Int)) := by rw [h]

set_option maxRecDepth 100000 in
set_option maxHeartbeats 1000000 in
theorem r3_bits (i : Nat) (hi : i < 10) : Meets Try.prog 93 [i64 (i : Int)] [] (fun _ => True) (fun v out => v = u64 (UInt64.ofNat (bitsAt i)) ∧ out = []) := by
  intro W hW
  refine calls_of (hp0 := []) Try.func93 rfl 6 Try.ntmps93 rfl (HRep.nil _) ?_
  refine Sat.seq ?_
  refine Sat.region ?_
  refine Tr.assign rfl rfl (show evIn _ _ = some (u64 0) from rfl) ?_
  refine Tr.nil ?_
  refine at_n ?_
  refine Sat.seq ?_
  refine Sat.seq ?_
  refine Sat.region ?_
  refine Tr.move rfl rfl rfl ?_
  refine Tr.rem_i64 rfl rfl rfl rfl oM ?_
  refine Tr.eqi rfl rfl rfl rfl rfl ?_
  refine Tr.nil ?_
  refine at_n ?_
  first
    | refine Sat.condP rfl (fun hc0 => ?_) (fun hc0 => ?_)
    | refine Sat.condNP rfl (fun hc0 => ?_) (fun hc0 => ?_)
    | refine Sat.cond rfl (fun hc0 => ?_) (fun hc0 => ?_)
  ·
    rw [bits_even hc0]
    refine Sat.seq ?_
    refine Sat.region ?_
    refine Tr.assign rfl rfl (show evIn _ _ = some (u64 26) from rfl) ?_
    refine Tr.nil ?_
    refine at_n ?_
    refine Sat.ret ?_
    refine at_r ?_
    refine en_r ?_
    refine ⟨_, [], res_tmp rfl rfl, sP, sP, ?_, rfl⟩
    rfl
  ·
    rw [bits_odd hc0]
    refine Sat.skip ?_
    refine at_n ?_
    refine Sat.seq ?_
    refine Sat.region ?_
    refine Tr.assign rfl rfl (show evIn _ _ = some (u64 25) from rfl) ?_
    refine Tr.nil ?_
    refine at_n ?_
    refine Sat.ret ?_
    refine en_r ?_
    refine ⟨_, [], res_tmp rfl rfl, sP, sP, ?_, rfl⟩
    rfl

set_option maxRecDepth 100000 in
set_option maxHeartbeats 4000000 in
theorem r3_carry (w : List Nat) (h : Mid10 w) : Meets Try.prog 92 [agg (natsV w)] [] (fun _ => True) (fun v out => v = agg (natsV (car10 w)) ∧ out = []) := by
  intro W hW
  have hlw := h.len
  obtain ⟨u, hu0⟩ : ∃ u, Hid (car10 w = u) := ⟨_, ⟨rfl⟩⟩
  have hul : u.length = 10 := by rw [← hu0.out]; exact car10_length w
  rw [hu0.out]
  refine calls_of (hp0 := []) Try.func92 rfl 43 Try.ntmps92 rfl (HRep.nil _) ?_
  refine Sat.seq ?_
  refine Sat.region ?_
  refine Tr.boxA rfl rfl ?_
  intro n1 hn1 hf1
  refine Tr.alloc (cs := (intsV (List.replicate 10 0))) rfl Zr96 rfl ?_
  intro n2 hn2 hf2
  refine Tr.nil ?_
  refine at_n ?_
  refine Sat.seq ?_
  refine Sat.seq ?_
  refine Sat.region ?_
  refine Tr.assign rfl rfl rfl ?_
  refine Tr.nil ?_
  refine at_n ?_
  refine Sat.block ?_
  refine Sat.loop (ι := Nat) (fun k => ⟨[(1, ptr n1 0), (2, ptr n2 0), (3, i64 (k : Int))], [⟨n2, (intsV (List.replicate 10 0)), 96, 10⟩, ⟨n1, natsV (carAt w k), 96, (natsV w).length⟩]⟩) (fun k => k ≤ 10) (fun k => 10 - k) (0) ?_ ?_ ?_
  · omega
  · exact weak_of (wk1 rfl (wk1 rfl (wk1 rfl wk0))) (wh1 mM (wh1 mM wh0)) nD
  ·
    rintro k hi
    have hlc := carAt_length h.len k
    refine Sat.seq ?_
    refine Sat.seq ?_
    refine Sat.region ?_
    refine Tr.move rfl rfl rfl ?_
    refine Tr.lss rfl rfl rfl rfl rfl ?_
    refine Tr.nil ?_
    refine at_n ?_
    first
      | refine Sat.condP rfl (fun hc0 => ?_) (fun hc0 => ?_)
      | refine Sat.condNP rfl (fun hc0 => ?_) (fun hc0 => ?_)
      | refine Sat.cond rfl (fun hc0 => ?_) (fun hc0 => ?_)
    ·
      have hk2 : k < 10 := by omega
      have ck := carK h hk2
      have hb26 := bits_26 k
      have hcut := car_cut ((carAt w k).getD k 0) (bitsAt k)
      have hx := ck.x
      have hq := ck.q
      have hsl : ((carAt w k).set k ((carAt w k).getD k 0 % 2 ^ bitsAt k)).length = 10 := by rw [List.length_set]; exact hlc
      refine Sat.skip ?_
      refine at_n ?_
      refine Sat.seq ?_
      refine Sat.block ?_
      refine Sat.seq ?_
      refine Sat.draw [(0, 0), (0, 1), (1, 2), (0, 3), (3, 4), (0, 5), (0, 6)] Mixed (by kernel_rfl) ?_
      refine Tr.move rfl rfl rfl ?_
      first
        | refine Tr.idxArr1 rfl rfl rfl rfl Try.underlying96 Sz2 _ rfl oM ?_
        | refine Tr.idxArrO rfl rfl rfl rfl Try.underlying96 Sz2 _ rfl oM ?_
        | refine Tr.idxArr1 rfl rfl rfl rfl Try.underlying96 Sz2 _ (toNat_back oM) oM ?_
        | refine Tr.idxArrO rfl rfl rfl rfl Try.underlying96 Sz2 _ (toNat_back oM) oM ?_
      refine Tr.load1 rfl rfl rfl Try.underlying2 rfl mM (by first | rfl | exact get_nats (by first | omega | (simp [natsV_length, fb_length, hlw, hul]; omega)) | exact get_words (by first | omega | (simp [natsV_length, fb_length, hlw, hul]; done) | (simp [natsV_length, fb_length, hlw, hul]; omega)) | exact get_bytes (by first | omega | (simp [natsV_length, fb_length, hlw, hul]; done) | (simp [natsV_length, fb_length, hlw, hul]; omega)) | exact get_ints (by first | omega | (simp [natsV_length, fb_length, hlw, hul]; done) | (simp [natsV_length, fb_length, hlw, hul]; omega))) ?_
      refine Tr.move rfl rfl rfl ?_
      refine Tr.callV rfl rfl rfl rfl Body93 (r3_bits k hk2) (fun _ _ => trivial) ?_
      refine Tr.shrN ((carAt w k).getD k 0) (bitsAt k) rfl rfl rfl rfl (bits_w k) oM ?_
      refine Tr.assign rfl rfl rfl ?_
      refine Tr.nil ?_
      refine at_n ?_
      refine Sat.seq ?_
      refine Sat.draw [(0, 0), (0, 1), (0, 2), (1, 3), (0, 4), (0, 5), (3, 6), (0, 7), (0, 8), (0, 9), (4, 10)] Mixed (by kernel_rfl) ?_
      refine Tr.move rfl rfl rfl ?_
      refine Tr.move rfl rfl rfl ?_
      first
        | refine Tr.idxArr1 rfl rfl rfl rfl Try.underlying96 Sz2 _ rfl oM ?_
        | refine Tr.idxArrO rfl rfl rfl rfl Try.underlying96 Sz2 _ rfl oM ?_
        | refine Tr.idxArr1 rfl rfl rfl rfl Try.underlying96 Sz2 _ (toNat_back oM) oM ?_
        | refine Tr.idxArrO rfl rfl rfl rfl Try.underlying96 Sz2 _ (toNat_back oM) oM ?_
      refine Tr.load1 rfl rfl rfl Try.underlying2 rfl mM (by first | rfl | exact get_nats (by first | omega | (simp [natsV_length, fb_length, hlw, hul]; omega)) | exact get_words (by first | omega | (simp [natsV_length, fb_length, hlw, hul]; done) | (simp [natsV_length, fb_length, hlw, hul]; omega)) | exact get_bytes (by first | omega | (simp [natsV_length, fb_length, hlw, hul]; done) | (simp [natsV_length, fb_length, hlw, hul]; omega)) | exact get_ints (by first | omega | (simp [natsV_length, fb_length, hlw, hul]; done) | (simp [natsV_length, fb_length, hlw, hul]; omega))) ?_
      refine Tr.move rfl rfl rfl ?_
      refine Tr.move rfl rfl rfl ?_
      refine Tr.callV rfl rfl rfl rfl Body93 (r3_bits k hk2) (fun _ _ => trivial) ?_
      refine Tr.shlN ((carAt w k).getD k 0 / 2 ^ bitsAt k) (bitsAt k) rfl rfl rfl rfl (bits_w k) oM oM ?_
      refine Tr.subN ((carAt w k).getD k 0) ((carAt w k).getD k 0 / 2 ^ bitsAt k * 2 ^ bitsAt k) rfl rfl rfl rfl oM ?_
      first
        | refine Tr.idxArr1 rfl rfl rfl rfl Try.underlying96 Sz2 _ rfl oM ?_
        | refine Tr.idxArrO rfl rfl rfl rfl Try.underlying96 Sz2 _ rfl oM ?_
        | refine Tr.idxArr1 rfl rfl rfl rfl Try.underlying96 Sz2 _ (toNat_back oM) oM ?_
        | refine Tr.idxArrO rfl rfl rfl rfl Try.underlying96 Sz2 _ (toNat_back oM) oM ?_
      rw [hcut.2]
      refine Tr.store1 rfl rfl rfl rfl rfl Sz2 mM (by first | (simp [natsV_length, fb_length, hlw, hul]; done) | (simp [natsV_length, fb_length, hlw, hul]; omega)) (by first | exact set_nats _ _ _ | exact set_words _ _ _ | exact set_bytes _ _ _ | exact set_ints _ _ _ | rfl) uU ?_
      refine Tr.nil ?_
      refine at_n ?_
      refine Sat.seq ?_
      refine Sat.region ?_
      refine Tr.move rfl rfl rfl ?_
      refine Tr.eqi rfl rfl rfl rfl rfl ?_
      refine Tr.nil ?_
      refine at_n ?_
      first
        | refine Sat.condP rfl (fun hc1 => ?_) (fun hc1 => ?_)
        | refine Sat.condNP rfl (fun hc1 => ?_) (fun hc1 => ?_)
        | refine Sat.cond rfl (fun hc1 => ?_) (fun hc1 => ?_)
      ·
        have hfs := ck.fs oM
        refine Sat.region ?_
        first
          | refine Tr.idxArr1 rfl rfl rfl rfl Try.underlying96 Sz2 0 rfl dE ?_
          | refine Tr.idxArrO rfl rfl rfl rfl Try.underlying96 Sz2 0 rfl dE ?_
        refine Tr.load1 rfl rfl rfl Try.underlying2 rfl mM (by first | rfl | exact get_nats (by first | omega | (simp [natsV_length, fb_length, hlw, hul]; omega)) | exact get_words (by first | omega | (simp [natsV_length, fb_length, hlw, hul]; done) | (simp [natsV_length, fb_length, hlw, hul]; omega)) | exact get_bytes (by first | omega | (simp [natsV_length, fb_length, hlw, hul]; done) | (simp [natsV_length, fb_length, hlw, hul]; omega)) | exact get_ints (by first | omega | (simp [natsV_length, fb_length, hlw, hul]; done) | (simp [natsV_length, fb_length, hlw, hul]; omega))) ?_
        refine Tr.move rfl rfl rfl ?_
        refine Tr.mulN (19) ((carAt w k).getD k 0 / 2 ^ bitsAt k) rfl rfl rfl rfl oM ?_
        refine Tr.addN (((carAt w k).set k ((carAt w k).getD k 0 % 2 ^ bitsAt k)).getD 0 0) (19 * ((carAt w k).getD k 0 / 2 ^ bitsAt k)) rfl rfl rfl rfl oM ?_
        first
          | refine Tr.idxArr1 rfl rfl rfl rfl Try.underlying96 Sz2 0 rfl dE ?_
          | refine Tr.idxArrO rfl rfl rfl rfl Try.underlying96 Sz2 0 rfl dE ?_
        refine Tr.store1 rfl rfl rfl rfl rfl Sz2 mM (by first | (simp [natsV_length, fb_length, hlw, hul]; done) | (simp [natsV_length, fb_length, hlw, hul]; omega)) (by first | exact set_nats _ _ _ | exact set_words _ _ _ | exact set_bytes _ _ _ | exact set_ints _ _ _ | rfl) uU ?_
        refine Tr.nil ?_
        refine bl_n ?_
        refine at_n ?_
        refine Sat.region ?_
        refine Tr.move rfl rfl rfl ?_
        refine Tr.add_i64 rfl rfl rfl rfl oM ?_
        refine Tr.assign rfl rfl rfl ?_
        refine Tr.nil ?_
        refine at_n ?_
        exact ⟨k + 1, by omega, by omega, weak_of (wk1 rfl (wk1 rfl (wk1 rfl wk0))) (wh1 mM (wh1 (by first | (rw [carAt_nine hc1]; exact mem1) | (rw [carAt_low hc1]; exact mem1)) wh0)) nD⟩
      ·
        have hnx := ck.nx oM
        refine Sat.region ?_
        refine Tr.move rfl rfl rfl ?_
        refine Tr.addN (k) (1) rfl rfl rfl rfl oM ?_
        refine Tr.move rfl rfl rfl ?_
        refine Tr.addN (k) (1) rfl rfl rfl rfl oM ?_
        first
          | refine Tr.idxArr1 rfl rfl rfl rfl Try.underlying96 Sz2 _ rfl oM ?_
          | refine Tr.idxArrO rfl rfl rfl rfl Try.underlying96 Sz2 _ rfl oM ?_
          | refine Tr.idxArr1 rfl rfl rfl rfl Try.underlying96 Sz2 _ (toNat_back oM) oM ?_
          | refine Tr.idxArrO rfl rfl rfl rfl Try.underlying96 Sz2 _ (toNat_back oM) oM ?_
        refine Tr.load1 rfl rfl rfl Try.underlying2 rfl mM (by first | rfl | exact get_nats (by first | omega | (simp [natsV_length, fb_length, hlw, hul]; omega)) | exact get_words (by first | omega | (simp [natsV_length, fb_length, hlw, hul]; done) | (simp [natsV_length, fb_length, hlw, hul]; omega)) | exact get_bytes (by first | omega | (simp [natsV_length, fb_length, hlw, hul]; done) | (simp [natsV_length, fb_length, hlw, hul]; omega)) | exact get_ints (by first | omega | (simp [natsV_length, fb_length, hlw, hul]; done) | (simp [natsV_length, fb_length, hlw, hul]; omega))) ?_
        refine Tr.move rfl rfl rfl ?_
        refine Tr.addN (((carAt w k).set k ((carAt w k).getD k 0 % 2 ^ bitsAt k)).getD (k + 1) 0) ((carAt w k).getD k 0 / 2 ^ bitsAt k) rfl rfl rfl rfl oM ?_
        first
          | refine Tr.idxArr1 rfl rfl rfl rfl Try.underlying96 Sz2 _ rfl oM ?_
          | refine Tr.idxArrO rfl rfl rfl rfl Try.underlying96 Sz2 _ rfl oM ?_
          | refine Tr.idxArr1 rfl rfl rfl rfl Try.underlying96 Sz2 _ (toNat_back oM) oM ?_
          | refine Tr.idxArrO rfl rfl rfl rfl Try.underlying96 Sz2 _ (toNat_back oM) oM ?_
        refine Tr.store1 rfl rfl rfl rfl rfl Sz2 mM (by first | (simp [natsV_length, fb_length, hlw, hul]; done) | (simp [natsV_length, fb_length, hlw, hul]; omega)) (by first | exact set_nats _ _ _ | exact set_words _ _ _ | exact set_bytes _ _ _ | exact set_ints _ _ _ | rfl) uU ?_
        refine Tr.nil ?_
        refine bl_n ?_
        refine at_n ?_
        refine Sat.region ?_
        refine Tr.move rfl rfl rfl ?_
        refine Tr.add_i64 rfl rfl rfl rfl oM ?_
        refine Tr.assign rfl rfl rfl ?_
        refine Tr.nil ?_
        refine at_n ?_
        exact ⟨k + 1, by omega, by omega, weak_of (wk1 rfl (wk1 rfl (wk1 rfl wk0))) (wh1 mM (wh1 (by first | (rw [carAt_nine hc1]; exact mem1) | (rw [carAt_low hc1]; exact mem1)) wh0)) nD⟩
    ·
      rw [show carAt w k = u from by rw [show k = 10 by omega, carAt_eq h.len, hu0.out]]
      refine Sat.exit ?_
      refine at_x ?_
      refine at_x ?_
      refine bl_h ?_
      refine at_n ?_
      refine Sat.seq ?_
      refine Sat.region ?_
      first
        | refine Tr.loadAll rfl rfl rfl Try.underlying96 rfl Sz96 mM (by first | (simp [natsV_length, fb_length, hlw, hul]; done) | assumption | (rw [bytesV, List.length_map]; assumption)) ?_
        | refine Tr.loadN _ rfl rfl rfl Try.underlying96 rfl Sz96 mM (by exact rfl) (by first | (simp [natsV_length, fb_length, hlw, hul]; done) | assumption | (rw [bytesV, List.length_map]; assumption)) ?_
      first
        | refine Tr.storeAll rfl rfl rfl rfl (by first | exact bytesV_cell _ | exact natsV_cell _ | simp [isCell]) Sz96 (by first | (simp [natsV_length, fb_length, hlw, hul]; done) | assumption | (rw [bytesV, List.length_map]; assumption)) mM (by first | (simp [natsV_length, fb_length, hlw, hul]; done) | assumption | (rw [bytesV, List.length_map]; assumption)) uU ?_
        | refine Tr.storeN _ rfl rfl rfl rfl rfl (by first | exact bytesV_cell _ | exact natsV_cell _ | simp [isCell]) Sz96 (by first | (simp [natsV_length, fb_length, hlw, hul]; done) | assumption | (rw [bytesV, List.length_map]; assumption)) mM (by first | (simp [natsV_length, fb_length, hlw, hul]; done) | assumption | (rw [bytesV, List.length_map]; assumption)) (by exact rfl) uU ?_
      refine Tr.nil ?_
      refine at_n ?_
      refine Sat.ret ?_
      refine en_r ?_
      refine ⟨_, [], res_cell rfl rfl Try.underlying96 rfl Sz96 mM (by simp [natsV_length, fb_length, hlw, hul]), sP, sP, ?_, rfl⟩
      rfl

theorem op_on {N i k : Nat} (hi : i < 10) (hb : N.testBit (atOf i + k) = true) : ((opAt N i).set i (N / 2 ^ atOf i % 2 ^ k)).set i (((opAt N i).set i (N / 2 ^ atOf i % 2 ^ k)).getD i 0 + 1 * 2 ^ k) = (opAt N i).set i (N / 2 ^ atOf i % 2 ^ (k + 1)) := by
  have hl := opAt_length N i oM
  rw [getD_set' oM, if_pos rfl, List.set_set, op_bit, hb, if_pos rfl, Nat.one_mul]
theorem op_off {N i k : Nat} (hb : N.testBit (atOf i + k) = false) : (opAt N i).set i (N / 2 ^ atOf i % 2 ^ k) = (opAt N i).set i (N / 2 ^ atOf i % 2 ^ (k + 1)) := by
  rw [op_bit, hb, if_neg dE, Nat.add_zero]
theorem op_val {N i k : Nat} (hi : i < 10) (hk : k ≤ 26) : ((opAt N i).set i (N / 2 ^ atOf i % 2 ^ k)).getD i 0 ≤ 67108864 ∧ 2 ^ k ≤ 67108864 := by
  have hl := opAt_length N i oM
  have h1 : 2 ^ k ≤ 2 ^ 26 := Nat.pow_le_pow_right dE hk
  have h2 : N / 2 ^ atOf i % 2 ^ k < 2 ^ k := Nat.mod_lt _ (Nat.pow_pos dE)
  rw [getD_set' oM, if_pos rfl]
  omega
theorem bit_is {a : List UInt8} {m : Nat} (h : (((UInt8.ofNat ((shr8 (a.getD (m / 8) 0) (m % 8)).toNat % 2)).toNat : Int) = 1)) : (le a).testBit m = true := by rw [← bit_rem]; exact decide_eq_true h
theorem bit_isn {a : List UInt8} {m : Nat} (h : ¬ (((UInt8.ofNat ((shr8 (a.getD (m / 8) 0) (m % 8)).toNat % 2)).toNat : Int) = 1)) : (le a).testBit m = false := by rw [← bit_rem]; exact decide_eq_false h

set_option maxRecDepth 100000 in
set_option maxHeartbeats 8000000 in
theorem r3_Open (a : List UInt8) (ha : a.length = 32) : Meets Try.prog 70 [agg (bytesV a)] [] (fun _ => True) (fun v out => v = agg (natsV (openT (le a))) ∧ out = []) := by
  intro W hW
  obtain ⟨u, hu⟩ : ∃ u, Hid (openT (le a) = u) := ⟨_, ⟨rfl⟩⟩
  obtain ⟨D, hD⟩ : ∃ D, Hid (opD (le a) = D) := ⟨_, ⟨rfl⟩⟩
  have hu10 : u.length = 10 := by rw [← hu.out]; exact openT_length _
  have hd10 : D.length = 10 := by rw [← hD.out]; exact opD_length _
  have hc := r3_carry D (by rw [← hD.out]; exact opD_mid _)
  rw [show car10 D = u from by rw [← hD.out]; exact hu.out] at hc
  rw [hu.out]
  have hsl := hd10
  refine calls_of (hp0 := []) Try.func70 rfl 58 Try.ntmps70 rfl (HRep.nil _) ?_
  refine Sat.seq ?_
  refine Sat.region ?_
  refine Tr.boxA rfl rfl ?_
  intro n1 hn1 hf1
  refine Tr.alloc (cs := (intsV (List.replicate 10 0))) rfl Zr96 rfl ?_
  intro n2 hn2 hf2
  refine Tr.nil ?_
  refine at_n ?_
  refine Sat.seq ?_
  refine Sat.region ?_
  refine Tr.alloc (cs := (intsV (List.replicate 10 0))) rfl Zr96 rfl ?_
  intro n3 hn3 hf3
  refine Tr.nil ?_
  refine at_n ?_
  refine Sat.seq ?_
  refine Sat.region ?_
  refine Tr.assign rfl rfl rfl ?_
  refine Tr.nil ?_
  refine at_n ?_
  refine Sat.seq ?_
  refine Sat.seq ?_
  refine Sat.region ?_
  refine Tr.assign rfl rfl rfl ?_
  refine Tr.nil ?_
  refine at_n ?_
  refine Sat.block ?_
  refine Sat.loop (ι := Nat) (fun i => ⟨[(1, ptr n1 0), (2, ptr n2 0), (3, ptr n3 0), (4, i64 ((atOf i : Nat) : Int)), (5, i64 (i : Int))], [⟨n3, natsV (opAt (le a) i), 96, 10⟩, ⟨n2, (intsV (List.replicate 10 0)), 96, 10⟩, ⟨n1, bytesV a, 30, (bytesV a).length⟩]⟩) (fun i => i ≤ 10) (fun i => 10 - i) (0) ?_ ?_ ?_
  · omega
  · exact weak_of (wk1 rfl (wk1 rfl (wk1 rfl (wk1 rfl (wk1 rfl wk0))))) (wh1 (by rw [show natsV (opAt (le a) 0) = intsV (List.replicate 10 0) from rfl]; exact mem0) (wh1 mM (wh1 mM wh0))) nD
  ·
    rintro i hi
    refine Sat.seq ?_
    refine Sat.seq ?_
    refine Sat.region ?_
    refine Tr.move rfl rfl rfl ?_
    refine Tr.lss rfl rfl rfl rfl rfl ?_
    refine Tr.nil ?_
    refine at_n ?_
    first
      | refine Sat.condP rfl (fun hc0 => ?_) (fun hc0 => ?_)
      | refine Sat.condNP rfl (fun hc0 => ?_) (fun hc0 => ?_)
      | refine Sat.cond rfl (fun hc0 => ?_) (fun hc0 => ?_)
    ·
      have hi2 : i < 10 := by omega
      have hb26 := bits_26 i
      have hbw := bits_wn i
      have hop := at_op hi2
      have hopl := op_le i
      have hat := at_le hi2
      refine Sat.skip ?_
      refine at_n ?_
      refine Sat.seq ?_
      refine Sat.block ?_
      refine Sat.seq ?_
      refine Sat.region ?_
      refine Tr.move rfl rfl rfl ?_
      refine Tr.callV rfl rfl rfl rfl Body93 (r3_bits i hi2) (fun _ _ => trivial) ?_
      refine Tr.conv rfl rfl rfl Try.underlying91 Try.underlying3 (cv_u64_i64 oM) ?_
      rw [bits_wn]
      refine Tr.assign rfl rfl rfl ?_
      refine Tr.nil ?_
      refine at_n ?_
      refine Sat.join (ι := Unit) (fun _u => ⟨[(1, ptr n1 0), (2, ptr n2 0), (3, ptr n3 0), (4, i64 ((atOf i : Nat) : Int)), (5, i64 (i : Int)), (6, i64 ((opB i : Nat) : Int))], [⟨n3, natsV (opAt (le a) i), 96, 10⟩, ⟨n2, (intsV (List.replicate 10 0)), 96, 10⟩, ⟨n1, bytesV a, 30, (bytesV a).length⟩]⟩) (fun _u => True) ?_ ?_
      ·
        refine Sat.seq ?_
        refine Sat.region ?_
        refine Tr.move rfl rfl rfl ?_
        refine Tr.eqi rfl rfl rfl rfl rfl ?_
        refine Tr.nil ?_
        refine at_n ?_
        first
          | refine Sat.condP rfl (fun hc1 => ?_) (fun hc1 => ?_)
          | refine Sat.condNP rfl (fun hc1 => ?_) (fun hc1 => ?_)
          | refine Sat.cond rfl (fun hc1 => ?_) (fun hc1 => ?_)
        ·
          refine Sat.region ?_
          refine Tr.assign rfl rfl rfl ?_
          refine Tr.nil ?_
          refine at_n ?_
          first
            | (rw [opB_nine hc1]; exact ⟨(), trivial, weak_of (wk1 rfl (wk1 rfl (wk1 rfl (wk1 rfl (wk1 rfl (wk1 rfl wk0)))))) (wh1 mM (wh1 mM (wh1 mM wh0))) nD⟩)
            | (rw [opB_low hc1]; exact ⟨(), trivial, weak_of (wk1 rfl (wk1 rfl (wk1 rfl (wk1 rfl (wk1 rfl (wk1 rfl wk0)))))) (wh1 mM (wh1 mM (wh1 mM wh0))) nD⟩)
        ·
          refine Sat.skip ?_
          refine at_n ?_
          first
            | (rw [opB_nine hc1]; exact ⟨(), trivial, weak_of (wk1 rfl (wk1 rfl (wk1 rfl (wk1 rfl (wk1 rfl (wk1 rfl wk0)))))) (wh1 mM (wh1 mM (wh1 mM wh0))) nD⟩)
            | (rw [opB_low hc1]; exact ⟨(), trivial, weak_of (wk1 rfl (wk1 rfl (wk1 rfl (wk1 rfl (wk1 rfl (wk1 rfl wk0)))))) (wh1 mM (wh1 mM (wh1 mM wh0))) nD⟩)
      ·
        intro _u hj
        skip
        refine Sat.seq ?_
        refine Sat.seq ?_
        refine Sat.region ?_
        refine Tr.assign rfl rfl rfl ?_
        refine Tr.nil ?_
        refine at_n ?_
        refine Sat.block ?_
        refine Sat.loop (ι := Nat) (fun k => ⟨[(1, ptr n1 0), (2, ptr n2 0), (3, ptr n3 0), (4, i64 ((atOf i : Nat) : Int)), (5, i64 (i : Int)), (6, i64 ((opB i : Nat) : Int)), (7, i64 (k : Int))], [⟨n3, natsV ((opAt (le a) i).set i (le a / 2 ^ atOf i % 2 ^ k)), 96, 10⟩, ⟨n2, (intsV (List.replicate 10 0)), 96, 10⟩, ⟨n1, bytesV a, 30, (bytesV a).length⟩]⟩) (fun k => k ≤ opB i) (fun k => opB i - k) (0) ?_ ?_ ?_
        · exact Nat.zero_le _
        · exact weak_of (wk1 rfl (wk1 rfl (wk1 rfl (wk1 rfl (wk1 rfl (wk1 rfl (wk1 rfl wk0))))))) (wh1 (by rw [opAt_first _ hi2]; exact mem0) (wh1 mM (wh1 mM wh0))) nD
        ·
          rintro k hk
          have hsl : ((opAt (le a) i).set i (le a / 2 ^ atOf i % 2 ^ k)).length = 10 := by rw [List.length_set]; exact opAt_length _ i oM
          refine Sat.seq ?_
          refine Sat.seq ?_
          refine Sat.region ?_
          refine Tr.move rfl rfl rfl ?_
          refine Tr.move rfl rfl rfl ?_
          refine two (fun r hr k => Tr.lss rfl rfl rfl rfl hr k) (fun hs10_20 => ?_) (fun hs10_20 => ?_)
          ·
            first | have hs10_2 := of_decide_eq_true hs10_20 | have hs10_2 := of_decide_eq_false hs10_20 | have hs10_2 := nd_t hs10_20 | have hs10_2 := nd_f hs10_20 | have hs10_2 := hs10_20
            skip
            refine Tr.move rfl rfl rfl ?_
            refine Tr.move rfl rfl rfl ?_
            refine Tr.move rfl rfl rfl ?_
            refine Tr.addN (atOf i) (k) rfl rfl rfl rfl oM ?_
            refine Tr.lss rfl rfl rfl rfl (decide_eq_true oM) ?_
            refine Tr.pick rfl rfl rfl rfl rfl rfl ?_
            refine Tr.nil ?_
            refine at_n ?_
            refine Sat.cond_t rfl rfl ?_
            refine Sat.skip ?_
            refine at_n ?_
            refine Sat.seq ?_
            refine Sat.block ?_
            refine Sat.seq ?_
            refine Sat.region ?_
            refine Tr.move rfl rfl rfl ?_
            refine Tr.move rfl rfl rfl ?_
            refine Tr.addN (atOf i) (k) rfl rfl rfl rfl oM ?_
            refine Tr.quoN (atOf i + k) (8) rfl rfl rfl rfl ⟨by decide, by omega⟩ ?_
            first
              | refine Tr.idxArr1 rfl rfl rfl rfl Try.underlying30 Sz5 _ rfl oM ?_
              | refine Tr.idxArrO rfl rfl rfl rfl Try.underlying30 Sz5 _ rfl oM ?_
              | refine Tr.idxArr1 rfl rfl rfl rfl Try.underlying30 Sz5 _ (toNat_back oM) oM ?_
              | refine Tr.idxArrO rfl rfl rfl rfl Try.underlying30 Sz5 _ (toNat_back oM) oM ?_
            refine Tr.load1 rfl rfl rfl Try.underlying5 rfl mM (by first | rfl | exact get_nats (by first | omega | (simp [natsV_length, fb_length, ha, hd10, hu10, hsl]; omega)) | exact get_words (by first | omega | (simp [natsV_length, fb_length, ha, hd10, hu10, hsl]; done) | (simp [natsV_length, fb_length, ha, hd10, hu10, hsl]; omega)) | exact get_bytes (by first | omega | (simp [natsV_length, fb_length, ha, hd10, hu10, hsl]; done) | (simp [natsV_length, fb_length, ha, hd10, hu10, hsl]; omega)) | exact get_ints (by first | omega | (simp [natsV_length, fb_length, ha, hd10, hu10, hsl]; done) | (simp [natsV_length, fb_length, ha, hd10, hu10, hsl]; omega))) ?_
            refine Tr.move rfl rfl rfl ?_
            refine Tr.move rfl rfl rfl ?_
            refine Tr.addN (atOf i) (k) rfl rfl rfl rfl oM ?_
            refine Tr.remN (atOf i + k) (8) rfl rfl rfl rfl dE ?_
            refine Tr.conv rfl rfl rfl Try.underlying3 Try.underlying91 (cv_i64_u64 _) ?_
            refine Tr.shr_u8 rfl rfl rfl rfl ((atOf i + k) % 8) (by rw [wordOf_id _ oM]) oM ?_
            refine Tr.rem_u8 rfl rfl rfl rfl 2 rfl dE ?_
            refine Tr.eqi rfl rfl rfl rfl rfl ?_
            refine Tr.nil ?_
            refine at_n ?_
            first
              | refine Sat.condP rfl (fun hc3 => ?_) (fun hc3 => ?_)
              | refine Sat.condNP rfl (fun hc3 => ?_) (fun hc3 => ?_)
              | refine Sat.cond rfl (fun hc3 => ?_) (fun hc3 => ?_)
            ·
              have hbt := bit_is hc3
              have hov := op_val (N := le a) hi2 (show k ≤ 26 by omega)
              refine Sat.region ?_
              refine Tr.move rfl rfl rfl ?_
              refine Tr.move rfl rfl rfl ?_
              first
                | refine Tr.idxArr1 rfl rfl rfl rfl Try.underlying96 Sz2 _ rfl oM ?_
                | refine Tr.idxArrO rfl rfl rfl rfl Try.underlying96 Sz2 _ rfl oM ?_
                | refine Tr.idxArr1 rfl rfl rfl rfl Try.underlying96 Sz2 _ (toNat_back oM) oM ?_
                | refine Tr.idxArrO rfl rfl rfl rfl Try.underlying96 Sz2 _ (toNat_back oM) oM ?_
              refine Tr.load1 rfl rfl rfl Try.underlying2 rfl mM (by first | rfl | exact get_nats (by first | omega | (simp [natsV_length, fb_length, ha, hd10, hu10, hsl]; omega)) | exact get_words (by first | omega | (simp [natsV_length, fb_length, ha, hd10, hu10, hsl]; done) | (simp [natsV_length, fb_length, ha, hd10, hu10, hsl]; omega)) | exact get_bytes (by first | omega | (simp [natsV_length, fb_length, ha, hd10, hu10, hsl]; done) | (simp [natsV_length, fb_length, ha, hd10, hu10, hsl]; omega)) | exact get_ints (by first | omega | (simp [natsV_length, fb_length, ha, hd10, hu10, hsl]; done) | (simp [natsV_length, fb_length, ha, hd10, hu10, hsl]; omega))) ?_
              refine Tr.move rfl rfl rfl ?_
              refine Tr.conv rfl rfl rfl Try.underlying3 Try.underlying91 (cv_i64_u64 _) ?_
              refine Tr.shlN 1 k rfl rfl rfl rfl (wordOf_id _ oM) oM oM ?_
              refine Tr.addN (((opAt (le a) i).set i (le a / 2 ^ atOf i % 2 ^ k)).getD i 0) (1 * 2 ^ k) rfl rfl rfl rfl oM ?_
              first
                | refine Tr.idxArr1 rfl rfl rfl rfl Try.underlying96 Sz2 _ rfl oM ?_
                | refine Tr.idxArrO rfl rfl rfl rfl Try.underlying96 Sz2 _ rfl oM ?_
                | refine Tr.idxArr1 rfl rfl rfl rfl Try.underlying96 Sz2 _ (toNat_back oM) oM ?_
                | refine Tr.idxArrO rfl rfl rfl rfl Try.underlying96 Sz2 _ (toNat_back oM) oM ?_
              refine Tr.store1 rfl rfl rfl rfl rfl Sz2 mM (by first | (simp [natsV_length, fb_length, ha, hd10, hu10, hsl]; done) | (simp [natsV_length, fb_length, ha, hd10, hu10, hsl]; omega)) (by first | exact set_nats _ _ _ | exact set_words _ _ _ | exact set_bytes _ _ _ | exact set_ints _ _ _ | rfl) uU ?_
              refine Tr.nil ?_
              refine bl_n ?_
              refine at_n ?_
              refine Sat.region ?_
              refine Tr.move rfl rfl rfl ?_
              refine Tr.add_i64 rfl rfl rfl rfl oM ?_
              refine Tr.assign rfl rfl rfl ?_
              refine Tr.nil ?_
              refine at_n ?_
              exact ⟨k + 1, by omega, by omega, weak_of (wk1 rfl (wk1 rfl (wk1 rfl (wk1 rfl (wk1 rfl (wk1 rfl (wk1 rfl wk0))))))) (wh1 (by first | (rw [← op_on hi2 hbt]; exact mem0) | (rw [← op_off hbf]; exact mem0)) (wh1 mM (wh1 mM wh0))) nD⟩
            ·
              have hbf := bit_isn hc3
              refine Sat.skip ?_
              refine bl_n ?_
              refine at_n ?_
              refine Sat.region ?_
              refine Tr.move rfl rfl rfl ?_
              refine Tr.add_i64 rfl rfl rfl rfl oM ?_
              refine Tr.assign rfl rfl rfl ?_
              refine Tr.nil ?_
              refine at_n ?_
              exact ⟨k + 1, by omega, by omega, weak_of (wk1 rfl (wk1 rfl (wk1 rfl (wk1 rfl (wk1 rfl (wk1 rfl (wk1 rfl wk0))))))) (wh1 (by first | (rw [← op_on hi2 hbt]; exact mem0) | (rw [← op_off hbf]; exact mem0)) (wh1 mM (wh1 mM wh0))) nD⟩
          ·
            first | have hs10_2 := of_decide_eq_true hs10_20 | have hs10_2 := of_decide_eq_false hs10_20 | have hs10_2 := nd_t hs10_20 | have hs10_2 := nd_f hs10_20 | have hs10_2 := hs10_20
            skip
            refine Tr.move rfl rfl rfl ?_
            refine Tr.skp rfl rfl ?_
            refine Tr.skp rfl rfl ?_
            refine Tr.skp rfl rfl ?_
            refine Tr.skp rfl rfl ?_
            refine Tr.pick rfl rfl rfl rfl rfl rfl ?_
            refine Tr.nil ?_
            refine at_n ?_
            refine Sat.cond_f rfl rfl ?_
            refine Sat.exit ?_
            refine at_x ?_
            refine at_x ?_
            refine bl_h ?_
            refine at_n ?_
            refine Sat.region ?_
            refine Tr.move rfl rfl rfl ?_
            refine Tr.move rfl rfl rfl ?_
            refine Tr.callV rfl rfl rfl rfl Body93 (r3_bits i hi2) (fun _ _ => trivial) ?_
            refine Tr.conv rfl rfl rfl Try.underlying91 Try.underlying3 (cv_u64_i64 oM) ?_
            rw [bits_wn]
            refine Tr.addN (atOf i) (bitsAt i) rfl rfl rfl rfl oM ?_
            refine Tr.assign rfl rfl rfl ?_
            refine Tr.nil ?_
            refine bl_n ?_
            refine at_n ?_
            refine Sat.region ?_
            refine Tr.move rfl rfl rfl ?_
            refine Tr.add_i64 rfl rfl rfl rfl oM ?_
            refine Tr.assign rfl rfl rfl ?_
            refine Tr.nil ?_
            refine at_n ?_
            exact ⟨i + 1, by omega, by omega, weak_of (wk1 rfl (wk1 rfl (wk1 rfl (wk1 (natc (at_succ hi2)) (wk1 rfl wk0))))) (wh1 (by rw [← opAt_set (le a) hi2, show opB i = k by omega]; exact mem0) (wh1 mM (wh1 mM wh0))) nD⟩
    ·
      rw [show opAt (le a) i = D from by rw [show i = 10 by omega, opAt_ten]; exact hD.out]
      refine Sat.exit ?_
      refine at_x ?_
      refine at_x ?_
      refine bl_h ?_
      refine at_n ?_
      refine Sat.seq ?_
      refine Sat.region ?_
      first
        | refine Tr.loadAll rfl rfl rfl Try.underlying96 rfl Sz96 mM (by first | (simp [natsV_length, fb_length, ha, hd10, hu10, hsl]; done) | assumption | (rw [bytesV, List.length_map]; assumption)) ?_
        | refine Tr.loadN _ rfl rfl rfl Try.underlying96 rfl Sz96 mM (by exact rfl) (by first | (simp [natsV_length, fb_length, ha, hd10, hu10, hsl]; done) | assumption | (rw [bytesV, List.length_map]; assumption)) ?_
      refine Tr.callV rfl rfl rfl rfl Body92 (hc) (fun _ _ => trivial) ?_
      first
        | refine Tr.storeAll rfl rfl rfl rfl (by first | exact bytesV_cell _ | exact natsV_cell _ | simp [isCell]) Sz96 (by first | (simp [natsV_length, fb_length, ha, hd10, hu10, hsl]; done) | assumption | (rw [bytesV, List.length_map]; assumption)) mM (by first | (simp [natsV_length, fb_length, ha, hd10, hu10, hsl]; done) | assumption | (rw [bytesV, List.length_map]; assumption)) uU ?_
        | refine Tr.storeN _ rfl rfl rfl rfl rfl (by first | exact bytesV_cell _ | exact natsV_cell _ | simp [isCell]) Sz96 (by first | (simp [natsV_length, fb_length, ha, hd10, hu10, hsl]; done) | assumption | (rw [bytesV, List.length_map]; assumption)) mM (by first | (simp [natsV_length, fb_length, ha, hd10, hu10, hsl]; done) | assumption | (rw [bytesV, List.length_map]; assumption)) (by exact rfl) uU ?_
      refine Tr.nil ?_
      refine at_n ?_
      refine Sat.ret ?_
      refine en_r ?_
      refine ⟨_, [], res_cell rfl rfl Try.underlying96 rfl Sz96 mM (by simp [natsV_length, fb_length, ha, hd10, hu10, hsl]), sP, sP, ?_, rfl⟩
      rfl

theorem close_first (X : Nat) : leb 32 (X % 2 ^ atOf 0) = List.replicate 32 0 := by
  rw [show atOf 0 = 0 from rfl, Nat.pow_zero, Nat.mod_one, leb_zero32]

set_option maxRecDepth 100000 in
set_option maxHeartbeats 8000000 in
theorem r3_Close (w : List Nat) (hw : Fit10 w) : Meets Try.prog 69 [agg (natsV w)] [] (fun _ => True) (fun v out => v = agg (bytesV (fb (fe (v10 w)))) ∧ out = []) := by
  intro W hW
  have hlw := hw.len
  obtain ⟨X, hX⟩ : ∃ X, Hid (low10 w = X) := ⟨_, ⟨rfl⟩⟩
  have hX255 : X < 2 ^ 255 := by rw [← hX.out]; exact low10_lt hw
  have h4 := car10_four hw
  rw [hX.out] at h4
  have hfx : fe (v10 w) = fe X := by rw [← hX.out]; exact (low10_fe w).symm
  rw [hfx]
  have f1 : Fit10 (car10 w) := car10_fit (by have := hw.v; omega)
  have f2 : Fit10 (car10 (car10 w)) := car10_fit (by have := f1.v; omega)
  have f3 : Fit10 (car10 (car10 (car10 w))) := car10_fit (by have := f2.v; omega)
  have c1 := r3_carry w hw.mid
  have c2 := r3_carry _ f1.mid
  have c3 := r3_carry _ f2.mid
  have c4 := r3_carry _ f3.mid
  rw [h4] at c4
  have hl1 := f1.len
  have hl2 := f2.len
  have hl3 := f3.len
  have hDl : (dg X b10).length = 10 := by rw [dg_length]; rfl
  have hDb : ∀ i k, i < 10 → k < bitsAt i → (((((dg X b10).getD i 0 / 2 ^ k % 2 : Nat) : Int) = 1) ↔ X.testBit (atOf i + k) = true) := fun i k h1 h2 => dg_bit_dec X h1 h2
  have ht := fun h => not_top hX255 h
  have hm := fun i h1 h2 h => not_mid (i := i) hX255 h1 h2 h
  have htop := fun h1 h2 h3 => is_top hX255 h1 h2 h3
  obtain ⟨O, hO⟩ : ∃ O, Hid (leb 32 X = O) := ⟨_, ⟨rfl⟩⟩
  have hOl : O.length = 32 := by rw [← hO.out]; exact leb_length _ _
  rw [hO.out] at ht hm htop
  clear f1 f2 f3 h4
  revert c1 c2 c3 c4 hl1 hl2 hl3 hDl hDb
  generalize car10 (car10 (car10 w)) = w3
  generalize car10 (car10 w) = w2
  generalize car10 w = w1
  generalize dg X b10 = D
  intro c1 c2 c3 c4 hl1 hl2 hl3 hDl hDb
  generalize hFB : fb (fe X) = FB at ht hm htop ⊢
  refine calls_of (hp0 := []) Try.func69 rfl 77 Try.ntmps69 rfl (HRep.nil _) ?_
  refine Sat.seq ?_
  refine Sat.region ?_
  refine Tr.boxA rfl rfl ?_
  intro n1 hn1 hf1
  refine Tr.alloc (cs := (bytesV (List.replicate 32 0))) rfl Zr30 rfl ?_
  intro n2 hn2 hf2
  refine Tr.nil ?_
  refine at_n ?_
  refine Sat.seq ?_
  refine Sat.region ?_
  first
    | refine Tr.loadAll rfl rfl rfl Try.underlying96 rfl Sz96 mM (by first | (simp [natsV_length, fb_length, hlw, hl1, hl2, hl3, hDl, leb_length, hOl]; done) | assumption | (rw [bytesV, List.length_map]; assumption)) ?_
    | refine Tr.loadN _ rfl rfl rfl Try.underlying96 rfl Sz96 mM (by exact rfl) (by first | (simp [natsV_length, fb_length, hlw, hl1, hl2, hl3, hDl, leb_length, hOl]; done) | assumption | (rw [bytesV, List.length_map]; assumption)) ?_
  refine Tr.callV rfl rfl rfl rfl Body92 (c1) (fun _ _ => trivial) ?_
  refine Tr.callV rfl rfl rfl rfl Body92 (c2) (fun _ _ => trivial) ?_
  refine Tr.callV rfl rfl rfl rfl Body92 (c3) (fun _ _ => trivial) ?_
  refine Tr.callV rfl rfl rfl rfl Body92 (c4) (fun _ _ => trivial) ?_
  first
    | refine Tr.storeAll rfl rfl rfl rfl (by first | exact bytesV_cell _ | exact natsV_cell _ | simp [isCell]) Sz96 (by first | (simp [natsV_length, fb_length, hlw, hl1, hl2, hl3, hDl, leb_length, hOl]; done) | assumption | (rw [bytesV, List.length_map]; assumption)) mM (by first | (simp [natsV_length, fb_length, hlw, hl1, hl2, hl3, hDl, leb_length, hOl]; done) | assumption | (rw [bytesV, List.length_map]; assumption)) uU ?_
    | refine Tr.storeN _ rfl rfl rfl rfl rfl (by first | exact bytesV_cell _ | exact natsV_cell _ | simp [isCell]) Sz96 (by first | (simp [natsV_length, fb_length, hlw, hl1, hl2, hl3, hDl, leb_length, hOl]; done) | assumption | (rw [bytesV, List.length_map]; assumption)) mM (by first | (simp [natsV_length, fb_length, hlw, hl1, hl2, hl3, hDl, leb_length, hOl]; done) | assumption | (rw [bytesV, List.length_map]; assumption)) (by exact rfl) uU ?_
  refine Tr.nil ?_
  refine at_n ?_
  refine Sat.seq ?_
  refine Sat.region ?_
  refine Tr.alloc (cs := (bytesV (List.replicate 32 0))) rfl Zr30 rfl ?_
  intro n3 hn3 hf3
  refine Tr.nil ?_
  refine at_n ?_
  refine Sat.seq ?_
  refine Sat.region ?_
  refine Tr.assign rfl rfl rfl ?_
  refine Tr.nil ?_
  refine at_n ?_
  refine Sat.seq ?_
  refine Sat.seq ?_
  refine Sat.region ?_
  refine Tr.assign rfl rfl rfl ?_
  refine Tr.nil ?_
  refine at_n ?_
  refine Sat.block ?_
  refine Sat.loop (ι := Nat) (fun i => ⟨[(1, ptr n1 0), (2, ptr n2 0), (3, ptr n3 0), (4, i64 ((atOf i : Nat) : Int)), (5, i64 (i : Int))], [⟨n3, bytesV (leb 32 (X % 2 ^ atOf i)), 30, 32⟩, ⟨n2, bytesV (List.replicate 32 0), 30, 32⟩, ⟨n1, natsV D, 96, (natsV w).length⟩]⟩) (fun i => i ≤ 10) (fun i => 10 - i) (0) ?_ ?_ ?_
  · omega
  · exact weak_of (wk1 rfl (wk1 rfl (wk1 rfl (wk1 rfl (wk1 rfl wk0))))) (wh1 (by rw [close_first]; exact mem0) (wh1 mM (wh1 mM wh0))) nD
  ·
    rintro i hi
    refine Sat.seq ?_
    refine Sat.seq ?_
    refine Sat.region ?_
    refine Tr.move rfl rfl rfl ?_
    refine Tr.lss rfl rfl rfl rfl rfl ?_
    refine Tr.nil ?_
    refine at_n ?_
    first
      | refine Sat.condP rfl (fun hc0 => ?_) (fun hc0 => ?_)
      | refine Sat.condNP rfl (fun hc0 => ?_) (fun hc0 => ?_)
      | refine Sat.cond rfl (fun hc0 => ?_) (fun hc0 => ?_)
    ·
      have hi2 : i < 10 := by omega
      have hb26 := bits_26 i
      have hbw := bits_wn i
      have hat := at_le hi2
      have hat2 := at_succ hi2
      have hat3 : atOf (i + 1) ≤ 255 := by unfold atOf; omega
      refine Sat.skip ?_
      refine at_n ?_
      refine Sat.seq ?_
      refine Sat.block ?_
      refine Sat.seq ?_
      refine Sat.seq ?_
      refine Sat.region ?_
      refine Tr.assign rfl rfl rfl ?_
      refine Tr.nil ?_
      refine at_n ?_
      refine Sat.block ?_
      refine Sat.loop (ι := Nat) (fun k => ⟨[(1, ptr n1 0), (2, ptr n2 0), (3, ptr n3 0), (4, i64 ((atOf i : Nat) : Int)), (5, i64 (i : Int)), (6, i64 (k : Int))], [⟨n3, bytesV (leb 32 (X % 2 ^ (atOf i + k))), 30, 32⟩, ⟨n2, bytesV (List.replicate 32 0), 30, 32⟩, ⟨n1, natsV D, 96, (natsV w).length⟩]⟩) (fun k => k ≤ bitsAt i) (fun k => bitsAt i - k) (0) ?_ ?_ ?_
      · exact Nat.zero_le _
      · exact weak_of (wk1 rfl (wk1 rfl (wk1 rfl (wk1 rfl (wk1 rfl (wk1 rfl wk0)))))) (wh1 (by rw [Nat.add_zero]; exact mem0) (wh1 mM (wh1 mM wh0))) nD
      ·
        rintro k hk
        refine Sat.seq ?_
        refine Sat.seq ?_
        refine Sat.region ?_
        refine Tr.move rfl rfl rfl ?_
        refine Tr.move rfl rfl rfl ?_
        refine Tr.callV rfl rfl rfl rfl Body93 (r3_bits i hi2) (fun _ _ => trivial) ?_
        refine Tr.conv rfl rfl rfl Try.underlying91 Try.underlying3 (cv_u64_i64 oM) ?_
        rw [bits_wn]
        refine Tr.lss rfl rfl rfl rfl rfl ?_
        refine Tr.nil ?_
        refine at_n ?_
        first
          | refine Sat.condP rfl (fun hc1 => ?_) (fun hc1 => ?_)
          | refine Sat.condNP rfl (fun hc1 => ?_) (fun hc1 => ?_)
          | refine Sat.cond rfl (fun hc1 => ?_) (fun hc1 => ?_)
        ·
          refine Sat.skip ?_
          refine at_n ?_
          refine Sat.seq ?_
          refine Sat.block ?_
          refine Sat.seq ?_
          refine Sat.region ?_
          refine Tr.move rfl rfl rfl ?_
          first
            | refine Tr.idxArr1 rfl rfl rfl rfl Try.underlying96 Sz2 _ rfl oM ?_
            | refine Tr.idxArrO rfl rfl rfl rfl Try.underlying96 Sz2 _ rfl oM ?_
            | refine Tr.idxArr1 rfl rfl rfl rfl Try.underlying96 Sz2 _ (toNat_back oM) oM ?_
            | refine Tr.idxArrO rfl rfl rfl rfl Try.underlying96 Sz2 _ (toNat_back oM) oM ?_
          refine Tr.load1 rfl rfl rfl Try.underlying2 rfl mM (by first | rfl | exact get_nats (by first | omega | (simp [natsV_length, fb_length, hlw, hl1, hl2, hl3, hDl, leb_length, hOl]; omega)) | exact get_words (by first | omega | (simp [natsV_length, fb_length, hlw, hl1, hl2, hl3, hDl, leb_length, hOl]; done) | (simp [natsV_length, fb_length, hlw, hl1, hl2, hl3, hDl, leb_length, hOl]; omega)) | exact get_bytes (by first | omega | (simp [natsV_length, fb_length, hlw, hl1, hl2, hl3, hDl, leb_length, hOl]; done) | (simp [natsV_length, fb_length, hlw, hl1, hl2, hl3, hDl, leb_length, hOl]; omega)) | exact get_ints (by first | omega | (simp [natsV_length, fb_length, hlw, hl1, hl2, hl3, hDl, leb_length, hOl]; done) | (simp [natsV_length, fb_length, hlw, hl1, hl2, hl3, hDl, leb_length, hOl]; omega))) ?_
          refine Tr.move rfl rfl rfl ?_
          refine Tr.conv rfl rfl rfl Try.underlying3 Try.underlying91 (cv_i64_u64 _) ?_
          refine Tr.shrN (D.getD i 0) (k) rfl rfl rfl rfl (wordOf_id _ oM) oM ?_
          refine Tr.remN (D.getD i 0 / 2 ^ k) (2) rfl rfl rfl rfl dE ?_
          refine Tr.eqi rfl rfl rfl rfl rfl ?_
          refine Tr.nil ?_
          refine at_n ?_
          first
            | refine Sat.condP rfl (fun hc2 => ?_) (fun hc2 => ?_)
            | refine Sat.condNP rfl (fun hc2 => ?_) (fun hc2 => ?_)
            | refine Sat.cond rfl (fun hc2 => ?_) (fun hc2 => ?_)
          ·
            have hbt := (hDb i k hi2 oM).1 hc2
            have hbs : leb 32 (X % 2 ^ (atOf i + (k + 1))) = _ := (bit_set X (m := atOf i + k) oM hbt).symm
            refine Sat.region ?_
            refine Tr.move rfl rfl rfl ?_
            refine Tr.move rfl rfl rfl ?_
            refine Tr.addN (atOf i) (k) rfl rfl rfl rfl oM ?_
            refine Tr.quoN (atOf i + k) (8) rfl rfl rfl rfl ⟨by decide, by omega⟩ ?_
            refine Tr.move rfl rfl rfl ?_
            refine Tr.move rfl rfl rfl ?_
            refine Tr.addN (atOf i) (k) rfl rfl rfl rfl oM ?_
            refine Tr.quoN (atOf i + k) (8) rfl rfl rfl rfl ⟨by decide, by omega⟩ ?_
            first
              | refine Tr.idxArr1 rfl rfl rfl rfl Try.underlying30 Sz5 _ rfl oM ?_
              | refine Tr.idxArrO rfl rfl rfl rfl Try.underlying30 Sz5 _ rfl oM ?_
              | refine Tr.idxArr1 rfl rfl rfl rfl Try.underlying30 Sz5 _ (toNat_back oM) oM ?_
              | refine Tr.idxArrO rfl rfl rfl rfl Try.underlying30 Sz5 _ (toNat_back oM) oM ?_
            refine Tr.load1 rfl rfl rfl Try.underlying5 rfl mM (by first | rfl | exact get_nats (by first | omega | (simp [natsV_length, fb_length, hlw, hl1, hl2, hl3, hDl, leb_length, hOl]; omega)) | exact get_words (by first | omega | (simp [natsV_length, fb_length, hlw, hl1, hl2, hl3, hDl, leb_length, hOl]; done) | (simp [natsV_length, fb_length, hlw, hl1, hl2, hl3, hDl, leb_length, hOl]; omega)) | exact get_bytes (by first | omega | (simp [natsV_length, fb_length, hlw, hl1, hl2, hl3, hDl, leb_length, hOl]; done) | (simp [natsV_length, fb_length, hlw, hl1, hl2, hl3, hDl, leb_length, hOl]; omega)) | exact get_ints (by first | omega | (simp [natsV_length, fb_length, hlw, hl1, hl2, hl3, hDl, leb_length, hOl]; done) | (simp [natsV_length, fb_length, hlw, hl1, hl2, hl3, hDl, leb_length, hOl]; omega))) ?_
            refine Tr.move rfl rfl rfl ?_
            refine Tr.move rfl rfl rfl ?_
            refine Tr.addN (atOf i) (k) rfl rfl rfl rfl oM ?_
            refine Tr.remN (atOf i + k) (8) rfl rfl rfl rfl dE ?_
            refine Tr.conv rfl rfl rfl Try.underlying3 Try.underlying91 (cv_i64_u64 _) ?_
            refine Tr.shl_u8 rfl rfl (show evIn _ _ = some (u8 1) from rfl) rfl ((atOf i + k) % 8) (by rw [wordOf_id _ oM]) oM ?_
            refine Tr.add_u8 rfl rfl rfl rfl ?_
            first
              | refine Tr.idxArr1 rfl rfl rfl rfl Try.underlying30 Sz5 _ rfl oM ?_
              | refine Tr.idxArrO rfl rfl rfl rfl Try.underlying30 Sz5 _ rfl oM ?_
              | refine Tr.idxArr1 rfl rfl rfl rfl Try.underlying30 Sz5 _ (toNat_back oM) oM ?_
              | refine Tr.idxArrO rfl rfl rfl rfl Try.underlying30 Sz5 _ (toNat_back oM) oM ?_
            refine Tr.store1 rfl rfl rfl rfl rfl Sz5 mM (by first | (simp [natsV_length, fb_length, hlw, hl1, hl2, hl3, hDl, leb_length, hOl]; done) | (simp [natsV_length, fb_length, hlw, hl1, hl2, hl3, hDl, leb_length, hOl]; omega)) (by first | exact set_nats _ _ _ | exact set_words _ _ _ | exact set_bytes _ _ _ | exact set_ints _ _ _ | rfl) uU ?_
            refine Tr.nil ?_
            refine bl_n ?_
            refine at_n ?_
            refine Sat.region ?_
            refine Tr.move rfl rfl rfl ?_
            refine Tr.add_i64 rfl rfl rfl rfl oM ?_
            refine Tr.assign rfl rfl rfl ?_
            refine Tr.nil ?_
            refine at_n ?_
            exact ⟨k + 1, by omega, by omega, weak_of (wk1 rfl (wk1 rfl (wk1 rfl (wk1 rfl (wk1 rfl (wk1 rfl wk0)))))) (wh1 (by rw [hbs]; exact mem0) (wh1 mM (wh1 mM wh0))) nD⟩
          ·
            have hbf : X.testBit (atOf i + k) = false := Bool.eq_false_iff.2 (fun e => hc2 ((hDb i k hi2 oM).2 e))
            have hbs : leb 32 (X % 2 ^ (atOf i + (k + 1))) = leb 32 (X % 2 ^ (atOf i + k)) := (bit_off X (atOf i + k) hbf).symm
            refine Sat.skip ?_
            refine bl_n ?_
            refine at_n ?_
            refine Sat.region ?_
            refine Tr.move rfl rfl rfl ?_
            refine Tr.add_i64 rfl rfl rfl rfl oM ?_
            refine Tr.assign rfl rfl rfl ?_
            refine Tr.nil ?_
            refine at_n ?_
            exact ⟨k + 1, by omega, by omega, weak_of (wk1 rfl (wk1 rfl (wk1 rfl (wk1 rfl (wk1 rfl (wk1 rfl wk0)))))) (wh1 (by rw [hbs]; exact mem0) (wh1 mM (wh1 mM wh0))) nD⟩
        ·
          refine Sat.exit ?_
          refine at_x ?_
          refine at_x ?_
          refine bl_h ?_
          refine at_n ?_
          refine Sat.region ?_
          refine Tr.move rfl rfl rfl ?_
          refine Tr.move rfl rfl rfl ?_
          refine Tr.callV rfl rfl rfl rfl Body93 (r3_bits i hi2) (fun _ _ => trivial) ?_
          refine Tr.conv rfl rfl rfl Try.underlying91 Try.underlying3 (cv_u64_i64 oM) ?_
          rw [bits_wn]
          refine Tr.addN (atOf i) (bitsAt i) rfl rfl rfl rfl oM ?_
          refine Tr.assign rfl rfl rfl ?_
          refine Tr.nil ?_
          refine bl_n ?_
          refine at_n ?_
          refine Sat.region ?_
          refine Tr.move rfl rfl rfl ?_
          refine Tr.add_i64 rfl rfl rfl rfl oM ?_
          refine Tr.assign rfl rfl rfl ?_
          refine Tr.nil ?_
          refine at_n ?_
          exact ⟨i + 1, by omega, by omega, weak_of (wk1 rfl (wk1 rfl (wk1 rfl (wk1 (natc (at_succ hi2)) (wk1 rfl wk0))))) (wh1 (by rw [← at_succ hi2, show bitsAt i = k by omega]; exact mem0) (wh1 mM (wh1 mM wh0))) nD⟩
    ·
      rw [show leb 32 (X % 2 ^ atOf i) = O from by rw [show atOf i = 255 from by rw [show i = 10 by omega]; rfl, Nat.mod_eq_of_lt hX255]; exact hO.out]
      refine Sat.exit ?_
      refine at_x ?_
      refine at_x ?_
      refine bl_h ?_
      refine at_n ?_
      refine Sat.seq ?_
      refine Sat.seq ?_
      refine Sat.region ?_
      first
        | refine Tr.idxArr1 rfl rfl rfl rfl Try.underlying30 Sz5 0 rfl dE ?_
        | refine Tr.idxArrO rfl rfl rfl rfl Try.underlying30 Sz5 0 rfl dE ?_
      refine Tr.load1 rfl rfl rfl Try.underlying5 rfl mM (by first | rfl | exact get_nats (by first | omega | (simp [natsV_length, fb_length, hlw, hl1, hl2, hl3, hDl, leb_length, hOl]; omega)) | exact get_words (by first | omega | (simp [natsV_length, fb_length, hlw, hl1, hl2, hl3, hDl, leb_length, hOl]; done) | (simp [natsV_length, fb_length, hlw, hl1, hl2, hl3, hDl, leb_length, hOl]; omega)) | exact get_bytes (by first | omega | (simp [natsV_length, fb_length, hlw, hl1, hl2, hl3, hDl, leb_length, hOl]; done) | (simp [natsV_length, fb_length, hlw, hl1, hl2, hl3, hDl, leb_length, hOl]; omega)) | exact get_ints (by first | omega | (simp [natsV_length, fb_length, hlw, hl1, hl2, hl3, hDl, leb_length, hOl]; done) | (simp [natsV_length, fb_length, hlw, hl1, hl2, hl3, hDl, leb_length, hOl]; omega))) ?_
      refine two (fun r hr k => Tr.lss rfl rfl rfl rfl hr k) (fun hs13_20 => ?_) (fun hs13_20 => ?_)
      ·
        first | have hs13_2 := of_decide_eq_true hs13_20 | have hs13_2 := of_decide_eq_false hs13_20 | have hs13_2 := nd_t hs13_20 | have hs13_2 := nd_f hs13_20 | have hs13_2 := hs13_20
        refine Tr.move rfl rfl rfl ?_
        refine Tr.skp rfl rfl ?_
        refine Tr.skp rfl rfl ?_
        refine Tr.skp rfl rfl ?_
        refine Tr.pick rfl rfl rfl rfl rfl rfl ?_
        refine Tr.nil ?_
        refine at_n ?_
        refine Sat.cond_t rfl rfl ?_
        refine Sat.seq ?_
        refine Sat.region ?_
        first
          | refine Tr.loadAll rfl rfl rfl Try.underlying30 rfl Sz30 mM (by first | (simp [natsV_length, fb_length, hlw, hl1, hl2, hl3, hDl, leb_length, hOl]; done) | assumption | (rw [bytesV, List.length_map]; assumption)) ?_
          | refine Tr.loadN _ rfl rfl rfl Try.underlying30 rfl Sz30 mM (by exact rfl) (by first | (simp [natsV_length, fb_length, hlw, hl1, hl2, hl3, hDl, leb_length, hOl]; done) | assumption | (rw [bytesV, List.length_map]; assumption)) ?_
        first
          | refine Tr.storeAll rfl rfl rfl rfl (by first | exact bytesV_cell _ | exact natsV_cell _ | simp [isCell]) Sz30 (by first | (simp [natsV_length, fb_length, hlw, hl1, hl2, hl3, hDl, leb_length, hOl]; done) | assumption | (rw [bytesV, List.length_map]; assumption)) mM (by first | (simp [natsV_length, fb_length, hlw, hl1, hl2, hl3, hDl, leb_length, hOl]; done) | assumption | (rw [bytesV, List.length_map]; assumption)) uU ?_
          | refine Tr.storeN _ rfl rfl rfl rfl rfl (by first | exact bytesV_cell _ | exact natsV_cell _ | simp [isCell]) Sz30 (by first | (simp [natsV_length, fb_length, hlw, hl1, hl2, hl3, hDl, leb_length, hOl]; done) | assumption | (rw [bytesV, List.length_map]; assumption)) mM (by first | (simp [natsV_length, fb_length, hlw, hl1, hl2, hl3, hDl, leb_length, hOl]; done) | assumption | (rw [bytesV, List.length_map]; assumption)) (by exact rfl) uU ?_
        refine Tr.nil ?_
        refine at_n ?_
        refine Sat.ret ?_
        refine at_r ?_
        refine en_r ?_
        refine ⟨_, [], res_cell rfl rfl Try.underlying30 rfl Sz30 mM (by simp [natsV_length, fb_length, hlw, hl1, hl2, hl3, hDl, leb_length, hOl]), sP, sP, ?_, rfl⟩
        first
          | exact congrArg (fun l => agg (bytesV l)) (ht oM)
          | exact congrArg (fun l => agg (bytesV l)) (hm j oM oM oM)
          | exact congrArg (fun l => agg (bytesV l)) (htop oM oM (fun m h1 h2 => hj3 m h1 oM))
      ·
        first | have hs13_2 := of_decide_eq_true hs13_20 | have hs13_2 := of_decide_eq_false hs13_20 | have hs13_2 := nd_t hs13_20 | have hs13_2 := nd_f hs13_20 | have hs13_2 := hs13_20
        refine Tr.move rfl rfl rfl ?_
        first
          | refine Tr.idxArr1 rfl rfl rfl rfl Try.underlying30 Sz5 31 rfl dE ?_
          | refine Tr.idxArrO rfl rfl rfl rfl Try.underlying30 Sz5 31 rfl dE ?_
        refine Tr.load1 rfl rfl rfl Try.underlying5 rfl mM (by first | rfl | exact get_nats (by first | omega | (simp [natsV_length, fb_length, hlw, hl1, hl2, hl3, hDl, leb_length, hOl]; omega)) | exact get_words (by first | omega | (simp [natsV_length, fb_length, hlw, hl1, hl2, hl3, hDl, leb_length, hOl]; done) | (simp [natsV_length, fb_length, hlw, hl1, hl2, hl3, hDl, leb_length, hOl]; omega)) | exact get_bytes (by first | omega | (simp [natsV_length, fb_length, hlw, hl1, hl2, hl3, hDl, leb_length, hOl]; done) | (simp [natsV_length, fb_length, hlw, hl1, hl2, hl3, hDl, leb_length, hOl]; omega)) | exact get_ints (by first | omega | (simp [natsV_length, fb_length, hlw, hl1, hl2, hl3, hDl, leb_length, hOl]; done) | (simp [natsV_length, fb_length, hlw, hl1, hl2, hl3, hDl, leb_length, hOl]; omega))) ?_
        refine two (fun r hr k => Tr.nei rfl rfl rfl rfl hr k) (fun hs13_60 => ?_) (fun hs13_60 => ?_)
        ·
          first | have hs13_6 := of_decide_eq_true hs13_60 | have hs13_6 := of_decide_eq_false hs13_60 | have hs13_6 := nd_t hs13_60 | have hs13_6 := nd_f hs13_60 | have hs13_6 := hs13_60
          refine Tr.pick rfl rfl rfl rfl rfl rfl ?_
          refine Tr.nil ?_
          refine at_n ?_
          refine Sat.cond_t rfl rfl ?_
          refine Sat.seq ?_
          refine Sat.region ?_
          first
            | refine Tr.loadAll rfl rfl rfl Try.underlying30 rfl Sz30 mM (by first | (simp [natsV_length, fb_length, hlw, hl1, hl2, hl3, hDl, leb_length, hOl]; done) | assumption | (rw [bytesV, List.length_map]; assumption)) ?_
            | refine Tr.loadN _ rfl rfl rfl Try.underlying30 rfl Sz30 mM (by exact rfl) (by first | (simp [natsV_length, fb_length, hlw, hl1, hl2, hl3, hDl, leb_length, hOl]; done) | assumption | (rw [bytesV, List.length_map]; assumption)) ?_
          first
            | refine Tr.storeAll rfl rfl rfl rfl (by first | exact bytesV_cell _ | exact natsV_cell _ | simp [isCell]) Sz30 (by first | (simp [natsV_length, fb_length, hlw, hl1, hl2, hl3, hDl, leb_length, hOl]; done) | assumption | (rw [bytesV, List.length_map]; assumption)) mM (by first | (simp [natsV_length, fb_length, hlw, hl1, hl2, hl3, hDl, leb_length, hOl]; done) | assumption | (rw [bytesV, List.length_map]; assumption)) uU ?_
            | refine Tr.storeN _ rfl rfl rfl rfl rfl (by first | exact bytesV_cell _ | exact natsV_cell _ | simp [isCell]) Sz30 (by first | (simp [natsV_length, fb_length, hlw, hl1, hl2, hl3, hDl, leb_length, hOl]; done) | assumption | (rw [bytesV, List.length_map]; assumption)) mM (by first | (simp [natsV_length, fb_length, hlw, hl1, hl2, hl3, hDl, leb_length, hOl]; done) | assumption | (rw [bytesV, List.length_map]; assumption)) (by exact rfl) uU ?_
          refine Tr.nil ?_
          refine at_n ?_
          refine Sat.ret ?_
          refine at_r ?_
          refine en_r ?_
          refine ⟨_, [], res_cell rfl rfl Try.underlying30 rfl Sz30 mM (by simp [natsV_length, fb_length, hlw, hl1, hl2, hl3, hDl, leb_length, hOl]), sP, sP, ?_, rfl⟩
          first
            | exact congrArg (fun l => agg (bytesV l)) (ht oM)
            | exact congrArg (fun l => agg (bytesV l)) (hm j oM oM oM)
            | exact congrArg (fun l => agg (bytesV l)) (htop oM oM (fun m h1 h2 => hj3 m h1 oM))
        ·
          first | have hs13_6 := of_decide_eq_true hs13_60 | have hs13_6 := of_decide_eq_false hs13_60 | have hs13_6 := nd_t hs13_60 | have hs13_6 := nd_f hs13_60 | have hs13_6 := hs13_60
          refine Tr.pick rfl rfl rfl rfl rfl rfl ?_
          refine Tr.nil ?_
          refine at_n ?_
          refine Sat.cond_f rfl rfl ?_
          refine Sat.skip ?_
          refine at_n ?_
          refine Sat.seq ?_
          refine Sat.seq ?_
          refine Sat.region ?_
          refine Tr.assign rfl rfl rfl ?_
          refine Tr.nil ?_
          refine at_n ?_
          refine Sat.block ?_
          refine Sat.loop (ι := Nat) (fun j => ⟨[(2, ptr n2 0), (3, ptr n3 0), (7, i64 (j : Int))], [⟨n3, bytesV O, 30, 32⟩, ⟨n2, bytesV (List.replicate 32 0), 30, 32⟩]⟩) (fun j => 1 ≤ j ∧ j ≤ 31 ∧ ∀ m, 0 < m → m < j → (O.getD m 0).toNat = 255) (fun j => 31 - j) (1) ?_ ?_ ?_
          · exact ⟨Nat.le_refl _, by omega, fun m h1 h2 => by omega⟩
          · exact weak_of (wk1 rfl (wk1 rfl (wk1 rfl wk0))) (wh1 mM (wh1 mM wh0)) nD
          ·
            rintro j ⟨hj1, hj2, hj3⟩
            refine Sat.seq ?_
            refine Sat.seq ?_
            refine Sat.region ?_
            refine Tr.move rfl rfl rfl ?_
            refine Tr.lss rfl rfl rfl rfl rfl ?_
            refine Tr.nil ?_
            refine at_n ?_
            first
              | refine Sat.condP rfl (fun hc4 => ?_) (fun hc4 => ?_)
              | refine Sat.condNP rfl (fun hc4 => ?_) (fun hc4 => ?_)
              | refine Sat.cond rfl (fun hc4 => ?_) (fun hc4 => ?_)
            ·
              refine Sat.skip ?_
              refine at_n ?_
              refine Sat.seq ?_
              refine Sat.block ?_
              refine Sat.seq ?_
              refine Sat.region ?_
              refine Tr.move rfl rfl rfl ?_
              first
                | refine Tr.idxArr1 rfl rfl rfl rfl Try.underlying30 Sz5 _ rfl oM ?_
                | refine Tr.idxArrO rfl rfl rfl rfl Try.underlying30 Sz5 _ rfl oM ?_
                | refine Tr.idxArr1 rfl rfl rfl rfl Try.underlying30 Sz5 _ (toNat_back oM) oM ?_
                | refine Tr.idxArrO rfl rfl rfl rfl Try.underlying30 Sz5 _ (toNat_back oM) oM ?_
              refine Tr.load1 rfl rfl rfl Try.underlying5 rfl mM (by first | rfl | exact get_nats (by first | omega | (simp [natsV_length, fb_length, hlw, hl1, hl2, hl3, hDl, leb_length, hOl]; omega)) | exact get_words (by first | omega | (simp [natsV_length, fb_length, hlw, hl1, hl2, hl3, hDl, leb_length, hOl]; done) | (simp [natsV_length, fb_length, hlw, hl1, hl2, hl3, hDl, leb_length, hOl]; omega)) | exact get_bytes (by first | omega | (simp [natsV_length, fb_length, hlw, hl1, hl2, hl3, hDl, leb_length, hOl]; done) | (simp [natsV_length, fb_length, hlw, hl1, hl2, hl3, hDl, leb_length, hOl]; omega)) | exact get_ints (by first | omega | (simp [natsV_length, fb_length, hlw, hl1, hl2, hl3, hDl, leb_length, hOl]; done) | (simp [natsV_length, fb_length, hlw, hl1, hl2, hl3, hDl, leb_length, hOl]; omega))) ?_
              refine Tr.nei rfl rfl rfl rfl rfl ?_
              refine Tr.nil ?_
              refine at_n ?_
              first
                | refine Sat.condP rfl (fun hc5 => ?_) (fun hc5 => ?_)
                | refine Sat.condNP rfl (fun hc5 => ?_) (fun hc5 => ?_)
                | refine Sat.cond rfl (fun hc5 => ?_) (fun hc5 => ?_)
              ·
                refine Sat.seq ?_
                refine Sat.region ?_
                first
                  | refine Tr.loadAll rfl rfl rfl Try.underlying30 rfl Sz30 mM (by first | (simp [natsV_length, fb_length, hlw, hl1, hl2, hl3, hDl, leb_length, hOl]; done) | assumption | (rw [bytesV, List.length_map]; assumption)) ?_
                  | refine Tr.loadN _ rfl rfl rfl Try.underlying30 rfl Sz30 mM (by exact rfl) (by first | (simp [natsV_length, fb_length, hlw, hl1, hl2, hl3, hDl, leb_length, hOl]; done) | assumption | (rw [bytesV, List.length_map]; assumption)) ?_
                first
                  | refine Tr.storeAll rfl rfl rfl rfl (by first | exact bytesV_cell _ | exact natsV_cell _ | simp [isCell]) Sz30 (by first | (simp [natsV_length, fb_length, hlw, hl1, hl2, hl3, hDl, leb_length, hOl]; done) | assumption | (rw [bytesV, List.length_map]; assumption)) mM (by first | (simp [natsV_length, fb_length, hlw, hl1, hl2, hl3, hDl, leb_length, hOl]; done) | assumption | (rw [bytesV, List.length_map]; assumption)) uU ?_
                  | refine Tr.storeN _ rfl rfl rfl rfl rfl (by first | exact bytesV_cell _ | exact natsV_cell _ | simp [isCell]) Sz30 (by first | (simp [natsV_length, fb_length, hlw, hl1, hl2, hl3, hDl, leb_length, hOl]; done) | assumption | (rw [bytesV, List.length_map]; assumption)) mM (by first | (simp [natsV_length, fb_length, hlw, hl1, hl2, hl3, hDl, leb_length, hOl]; done) | assumption | (rw [bytesV, List.length_map]; assumption)) (by exact rfl) uU ?_
                refine Tr.nil ?_
                refine at_n ?_
                refine Sat.ret ?_
                refine bl_r ?_
                refine at_r ?_
                refine at_r ?_
                refine bl_r ?_
                refine at_r ?_
                refine en_r ?_
                refine ⟨_, [], res_cell rfl rfl Try.underlying30 rfl Sz30 mM (by simp [natsV_length, fb_length, hlw, hl1, hl2, hl3, hDl, leb_length, hOl]), sP, sP, ?_, rfl⟩
                first
                  | exact congrArg (fun l => agg (bytesV l)) (ht oM)
                  | exact congrArg (fun l => agg (bytesV l)) (hm j oM oM oM)
                  | exact congrArg (fun l => agg (bytesV l)) (htop oM oM (fun m h1 h2 => hj3 m h1 oM))
              ·
                refine Sat.skip ?_
                refine bl_n ?_
                refine at_n ?_
                refine Sat.region ?_
                refine Tr.move rfl rfl rfl ?_
                refine Tr.add_i64 rfl rfl rfl rfl oM ?_
                refine Tr.assign rfl rfl rfl ?_
                refine Tr.nil ?_
                refine at_n ?_
                exact ⟨j + 1, ⟨by omega, by omega, fun m h1 h2 => by
                    by_cases e : m = j
                    · rw [e]; omega
                    · exact hj3 m h1 oM⟩, by omega, weak_of (wk1 rfl (wk1 rfl (wk1 rfl wk0))) (wh1 mM (wh1 mM wh0)) nD⟩
            ·
              refine Sat.exit ?_
              refine at_x ?_
              refine at_x ?_
              refine bl_h ?_
              refine at_n ?_
              refine Sat.seq ?_
              refine Sat.region ?_
              first
                | refine Tr.idxArr1 rfl rfl rfl rfl Try.underlying30 Sz5 0 rfl dE ?_
                | refine Tr.idxArrO rfl rfl rfl rfl Try.underlying30 Sz5 0 rfl dE ?_
              refine Tr.load1 rfl rfl rfl Try.underlying5 rfl mM (by first | rfl | exact get_nats (by first | omega | (simp [natsV_length, fb_length, hlw, hl1, hl2, hl3, hDl, leb_length, hOl]; omega)) | exact get_words (by first | omega | (simp [natsV_length, fb_length, hlw, hl1, hl2, hl3, hDl, leb_length, hOl]; done) | (simp [natsV_length, fb_length, hlw, hl1, hl2, hl3, hDl, leb_length, hOl]; omega)) | exact get_bytes (by first | omega | (simp [natsV_length, fb_length, hlw, hl1, hl2, hl3, hDl, leb_length, hOl]; done) | (simp [natsV_length, fb_length, hlw, hl1, hl2, hl3, hDl, leb_length, hOl]; omega)) | exact get_ints (by first | omega | (simp [natsV_length, fb_length, hlw, hl1, hl2, hl3, hDl, leb_length, hOl]; done) | (simp [natsV_length, fb_length, hlw, hl1, hl2, hl3, hDl, leb_length, hOl]; omega))) ?_
              refine Tr.sub_u8 rfl rfl rfl (show evIn _ _ = some (u8 237) from rfl) ?_
              refine Tr.build (cs := bytesV ((O.getD 0 0 - 237) :: List.replicate 31 0)) rfl rfl rfl (fun w => by kernel_rfl) ?_
              first
                | refine Tr.storeAll rfl rfl rfl rfl (by first | exact bytesV_cell _ | exact natsV_cell _ | simp [isCell]) Sz30 (by first | (simp [natsV_length, fb_length, hlw, hl1, hl2, hl3, hDl, leb_length, hOl]; done) | assumption | (rw [bytesV, List.length_map]; assumption)) mM (by first | (simp [natsV_length, fb_length, hlw, hl1, hl2, hl3, hDl, leb_length, hOl]; done) | assumption | (rw [bytesV, List.length_map]; assumption)) uU ?_
                | refine Tr.storeN _ rfl rfl rfl rfl rfl (by first | exact bytesV_cell _ | exact natsV_cell _ | simp [isCell]) Sz30 (by first | (simp [natsV_length, fb_length, hlw, hl1, hl2, hl3, hDl, leb_length, hOl]; done) | assumption | (rw [bytesV, List.length_map]; assumption)) mM (by first | (simp [natsV_length, fb_length, hlw, hl1, hl2, hl3, hDl, leb_length, hOl]; done) | assumption | (rw [bytesV, List.length_map]; assumption)) (by exact rfl) uU ?_
              refine Tr.nil ?_
              refine at_n ?_
              refine Sat.ret ?_
              refine en_r ?_
              refine ⟨_, [], res_cell rfl rfl Try.underlying30 rfl Sz30 mM (by simp [natsV_length, fb_length, hlw, hl1, hl2, hl3, hDl, leb_length, hOl]), sP, sP, ?_, rfl⟩
              first
                | exact congrArg (fun l => agg (bytesV l)) (ht oM)
                | exact congrArg (fun l => agg (bytesV l)) (hm j oM oM oM)
                | exact congrArg (fun l => agg (bytesV l)) (htop oM oM (fun m h1 h2 => hj3 m h1 oM))

def p1 (i : Nat) : Nat := 2 ^ bitsAt i - 1 - (if i = 0 then 18 else 0)
theorem p1_z {i : Nat} (h : (i : Int) = 0) : p1 i = 1 * 2 ^ bitsAt i - 1 - 18 := by rw [p1, if_pos oM, Nat.one_mul]
theorem p1_n {i : Nat} (h : ¬ (i : Int) = 0) : p1 i = 1 * 2 ^ bitsAt i - 1 := by rw [p1, if_neg oM, Nat.one_mul, Nat.sub_zero]
theorem p4_p1 (i : Nat) : p4 i = 4 * p1 i := rfl
def cf2 (i k : Nat) : Nat := if i % 2 = 1 ∧ k % 2 = 1 then 2 else 1
theorem cf2_t {i k : Nat} (P : Nat) (h : ((i % 2 : Nat) : Int) = 1) (h2 : ((k % 2 : Nat) : Int) = 1) : cf2 i k * P = 2 * P := by rw [cf2, if_pos ⟨by omega, by omega⟩]
theorem cf2_a {i k : Nat} (P : Nat) (h : ¬ ((i % 2 : Nat) : Int) = 1) : cf2 i k * P = P := by rw [cf2, if_neg (fun e => h oM), Nat.one_mul]
theorem cf2_b {i k : Nat} (P : Nat) (h : ¬ ((k % 2 : Nat) : Int) = 1) : cf2 i k * P = P := by rw [cf2, if_neg (fun e => h oM), Nat.one_mul]
theorem cf2_le (i k : Nat) : cf2 i k ≤ 2 := by unfold cf2; split <;> omega
theorem coef_hi {i k : Nat} (P : Nat) (h : (9 : Int) < ((i + k : Nat) : Int)) : coef i k * P = 19 * (cf2 i k * P) := by
  rw [coef, if_pos oM, Nat.mul_assoc]; rfl
theorem coef_lo {i k : Nat} (P : Nat) (h : ¬ (9 : Int) < ((i + k : Nat) : Int)) : coef i k * P = cf2 i k * P := by
  rw [coef, if_neg oM, Nat.one_mul]; rfl
theorem tRow_bd {x y : List Nat} (hx : Fit10 x) (hy : Fit10 y) {i k m : Nat} (hi : i < 10) (hk : k ≤ 10) (hm : m < 10) : (tRow x y i (tAll x y i) k).getD m 0 ≤ 6845471433603153920 := by
  have h1 := tRow_le hi (fun k hk => term_le hx hy i k hi hk) (tAll_length x y i) k hk m hm
  have h2 := tAll_le (term_le hx hy) i oM m hm
  have h3 : (if (m + 10 - i) % 10 < k then 38 * (2 ^ 27 * 2 ^ 27) else 0) ≤ 38 * (2 ^ 27 * 2 ^ 27) := by split <;> omega
  omega
theorem prod_le {x y : List Nat} (hx : Fit10 x) (hy : Fit10 y) {i k : Nat} (hi : i < 10) (hk : k < 10) : x.getD i 0 * y.getD k 0 ≤ 18014398509481984 :=
  Nat.le_trans (Nat.mul_le_mul (Nat.le_of_lt (hx.all hi)) (Nat.le_of_lt (hy.all hk))) dE

set_option maxRecDepth 100000 in
set_option maxHeartbeats 4000000 in
theorem r3_Minus (x y : List Nat) (hx : Fit10 x) (hy : Fit10 y) : Meets Try.prog 72 [agg (natsV x), agg (natsV y)] [] (fun _ => True) (fun v out => v = agg (natsV (minusT x y)) ∧ out = []) := by
  intro W hW
  have hxl := hx.len
  have hyl := hy.len
  obtain ⟨A, hA⟩ : ∃ A, Hid (subAt x y 10 = A) := ⟨_, ⟨rfl⟩⟩
  obtain ⟨U, hU⟩ : ∃ U, Hid (minusT x y = U) := ⟨_, ⟨rfl⟩⟩
  have hAl : A.length = 10 := by rw [← hA.out]; exact subAt_length y hx.len 10
  have hUl : U.length = 10 := by rw [← hU.out]; exact car10_length _
  have hc := r3_carry A (by rw [← hA.out]; exact subAt_mid hx)
  rw [show car10 A = U from by rw [← hA.out]; exact hU.out] at hc
  rw [hU.out]
  have hal := hAl
  refine calls_of (hp0 := []) Try.func72 rfl 33 Try.ntmps72 rfl (HRep.nil _) ?_
  refine Sat.seq ?_
  refine Sat.region ?_
  refine Tr.boxA rfl rfl ?_
  intro n2 hn2 hf2
  refine Tr.boxA rfl rfl ?_
  intro n3 hn3 hf3
  refine Tr.alloc (cs := (intsV (List.replicate 10 0))) rfl Zr96 rfl ?_
  intro n4 hn4 hf4
  refine Tr.nil ?_
  refine at_n ?_
  refine Sat.seq ?_
  refine Sat.seq ?_
  refine Sat.region ?_
  refine Tr.assign rfl rfl rfl ?_
  refine Tr.nil ?_
  refine at_n ?_
  refine Sat.block ?_
  refine Sat.loop (ι := Nat) (fun i => ⟨[(2, ptr n2 0), (3, ptr n3 0), (4, ptr n4 0), (5, i64 (i : Int))], [⟨n4, (intsV (List.replicate 10 0)), 96, 10⟩, ⟨n3, natsV y, 96, (natsV y).length⟩, ⟨n2, natsV (subAt x y i), 96, (natsV x).length⟩]⟩) (fun i => i ≤ 10) (fun i => 10 - i) (0) ?_ ?_ ?_
  · omega
  · exact weak_of (wk1 rfl (wk1 rfl (wk1 rfl (wk1 rfl wk0)))) (wh1 mM (wh1 mM (wh1 mM wh0))) nD
  ·
    rintro i hi
    have hal := subAt_length y hxl i
    refine Sat.seq ?_
    refine Sat.seq ?_
    refine Sat.region ?_
    refine Tr.move rfl rfl rfl ?_
    refine Tr.lss rfl rfl rfl rfl rfl ?_
    refine Tr.nil ?_
    refine at_n ?_
    first
      | refine Sat.condP rfl (fun hc0 => ?_) (fun hc0 => ?_)
      | refine Sat.condNP rfl (fun hc0 => ?_) (fun hc0 => ?_)
      | refine Sat.cond rfl (fun hc0 => ?_) (fun hc0 => ?_)
    ·
      have hi2 : i < 10 := by omega
      have hxi : (subAt x y i).getD i 0 = x.getD i 0 + 0 := by rw [subAt_get hx.len i oM i hi2, if_neg oM]
      have hx2 := hx.all hi2
      have hy2 := hy.all hi2
      have hpg := p4_ge hy hi2
      have hpl := p4_le i
      rw [p4_p1] at hpg hpl
      have hbg := bits_ge i
      have hbl := bits_le i
      have hb26 := bits_26 i
      have hsub : (subAt x y i).getD i 0 + 4 * p1 i - y.getD i 0 = (subAt x y i).getD i 0 + (p4 i - y.getD i 0) := by rw [p4_p1]; omega
      refine Sat.skip ?_
      refine at_n ?_
      refine Sat.seq ?_
      refine Sat.block ?_
      refine Sat.seq ?_
      refine Sat.region ?_
      refine Tr.move rfl rfl rfl ?_
      refine Tr.callV rfl rfl rfl rfl Body93 (r3_bits i hi2) (fun _ _ => trivial) ?_
      refine Tr.shlN (1) (bitsAt i) rfl rfl rfl rfl (bits_w i) oM oM ?_
      refine Tr.subN (1 * 2 ^ bitsAt i) (1) rfl rfl rfl rfl oM ?_
      refine Tr.assign rfl rfl rfl ?_
      refine Tr.nil ?_
      refine at_n ?_
      refine Sat.join (ι := Unit) (fun _u => ⟨[(2, ptr n2 0), (3, ptr n3 0), (4, ptr n4 0), (5, i64 (i : Int)), (6, i64 ((p1 i : Nat) : Int))], [⟨n4, (intsV (List.replicate 10 0)), 96, 10⟩, ⟨n3, natsV y, 96, (natsV y).length⟩, ⟨n2, natsV (subAt x y i), 96, (natsV x).length⟩]⟩) (fun _u => True) ?_ ?_
      ·
        refine Sat.seq ?_
        refine Sat.region ?_
        refine Tr.move rfl rfl rfl ?_
        refine Tr.eqi rfl rfl rfl rfl rfl ?_
        refine Tr.nil ?_
        refine at_n ?_
        first
          | refine Sat.condP rfl (fun hc1 => ?_) (fun hc1 => ?_)
          | refine Sat.condNP rfl (fun hc1 => ?_) (fun hc1 => ?_)
          | refine Sat.cond rfl (fun hc1 => ?_) (fun hc1 => ?_)
        ·
          refine Sat.region ?_
          refine Tr.move rfl rfl rfl ?_
          refine Tr.subN (1 * 2 ^ bitsAt i - 1) (18) rfl rfl rfl rfl oM ?_
          refine Tr.assign rfl rfl rfl ?_
          refine Tr.nil ?_
          refine at_n ?_
          first
            | (rw [p1_z hc1]; exact ⟨(), trivial, weak_of (wk1 rfl (wk1 rfl (wk1 rfl (wk1 rfl (wk1 rfl wk0))))) (wh1 mM (wh1 mM (wh1 mM wh0))) nD⟩)
            | (rw [p1_n hc1]; exact ⟨(), trivial, weak_of (wk1 rfl (wk1 rfl (wk1 rfl (wk1 rfl (wk1 rfl wk0))))) (wh1 mM (wh1 mM (wh1 mM wh0))) nD⟩)
        ·
          refine Sat.skip ?_
          refine at_n ?_
          first
            | (rw [p1_z hc1]; exact ⟨(), trivial, weak_of (wk1 rfl (wk1 rfl (wk1 rfl (wk1 rfl (wk1 rfl wk0))))) (wh1 mM (wh1 mM (wh1 mM wh0))) nD⟩)
            | (rw [p1_n hc1]; exact ⟨(), trivial, weak_of (wk1 rfl (wk1 rfl (wk1 rfl (wk1 rfl (wk1 rfl wk0))))) (wh1 mM (wh1 mM (wh1 mM wh0))) nD⟩)
      ·
        intro _u hj
        skip
        refine Sat.draw [(0, 0), (0, 1), (0, 2), (1, 3), (0, 4), (0, 5), (0, 6), (0, 7), (0, 8), (1, 9), (0, 10), (0, 11), (4, 12)] Mixed (by kernel_rfl) ?_
        refine Tr.move rfl rfl rfl ?_
        refine Tr.move rfl rfl rfl ?_
        first
          | refine Tr.idxArr1 rfl rfl rfl rfl Try.underlying96 Sz2 _ rfl oM ?_
          | refine Tr.idxArrO rfl rfl rfl rfl Try.underlying96 Sz2 _ rfl oM ?_
          | refine Tr.idxArr1 rfl rfl rfl rfl Try.underlying96 Sz2 _ (toNat_back oM) oM ?_
          | refine Tr.idxArrO rfl rfl rfl rfl Try.underlying96 Sz2 _ (toNat_back oM) oM ?_
        refine Tr.load1 rfl rfl rfl Try.underlying2 rfl mM (by first | rfl | exact get_nats (by first | omega | (simp [natsV_length, fb_length, hxl, hyl, hAl, hUl, hal]; omega)) | exact get_words (by first | omega | (simp [natsV_length, fb_length, hxl, hyl, hAl, hUl, hal]; done) | (simp [natsV_length, fb_length, hxl, hyl, hAl, hUl, hal]; omega)) | exact get_bytes (by first | omega | (simp [natsV_length, fb_length, hxl, hyl, hAl, hUl, hal]; done) | (simp [natsV_length, fb_length, hxl, hyl, hAl, hUl, hal]; omega)) | exact get_ints (by first | omega | (simp [natsV_length, fb_length, hxl, hyl, hAl, hUl, hal]; done) | (simp [natsV_length, fb_length, hxl, hyl, hAl, hUl, hal]; omega))) ?_
        refine Tr.move rfl rfl rfl ?_
        refine Tr.mulN (4) (p1 i) rfl rfl rfl rfl oM ?_
        refine Tr.addN ((subAt x y i).getD i 0) (4 * p1 i) rfl rfl rfl rfl oM ?_
        refine Tr.move rfl rfl rfl ?_
        first
          | refine Tr.idxArr1 rfl rfl rfl rfl Try.underlying96 Sz2 _ rfl oM ?_
          | refine Tr.idxArrO rfl rfl rfl rfl Try.underlying96 Sz2 _ rfl oM ?_
          | refine Tr.idxArr1 rfl rfl rfl rfl Try.underlying96 Sz2 _ (toNat_back oM) oM ?_
          | refine Tr.idxArrO rfl rfl rfl rfl Try.underlying96 Sz2 _ (toNat_back oM) oM ?_
        refine Tr.load1 rfl rfl rfl Try.underlying2 rfl mM (by first | rfl | exact get_nats (by first | omega | (simp [natsV_length, fb_length, hxl, hyl, hAl, hUl, hal]; omega)) | exact get_words (by first | omega | (simp [natsV_length, fb_length, hxl, hyl, hAl, hUl, hal]; done) | (simp [natsV_length, fb_length, hxl, hyl, hAl, hUl, hal]; omega)) | exact get_bytes (by first | omega | (simp [natsV_length, fb_length, hxl, hyl, hAl, hUl, hal]; done) | (simp [natsV_length, fb_length, hxl, hyl, hAl, hUl, hal]; omega)) | exact get_ints (by first | omega | (simp [natsV_length, fb_length, hxl, hyl, hAl, hUl, hal]; done) | (simp [natsV_length, fb_length, hxl, hyl, hAl, hUl, hal]; omega))) ?_
        refine Tr.subN ((subAt x y i).getD i 0 + 4 * p1 i) (y.getD i 0) rfl rfl rfl rfl oM ?_
        first
          | refine Tr.idxArr1 rfl rfl rfl rfl Try.underlying96 Sz2 _ rfl oM ?_
          | refine Tr.idxArrO rfl rfl rfl rfl Try.underlying96 Sz2 _ rfl oM ?_
          | refine Tr.idxArr1 rfl rfl rfl rfl Try.underlying96 Sz2 _ (toNat_back oM) oM ?_
          | refine Tr.idxArrO rfl rfl rfl rfl Try.underlying96 Sz2 _ (toNat_back oM) oM ?_
        rw [hsub]
        refine Tr.store1 rfl rfl rfl rfl rfl Sz2 mM (by first | (simp [natsV_length, fb_length, hxl, hyl, hAl, hUl, hal]; done) | (simp [natsV_length, fb_length, hxl, hyl, hAl, hUl, hal]; omega)) (by first | exact set_nats _ _ _ | exact set_words _ _ _ | exact set_bytes _ _ _ | exact set_ints _ _ _ | rfl) uU ?_
        refine Tr.nil ?_
        refine bl_n ?_
        refine at_n ?_
        refine Sat.region ?_
        refine Tr.move rfl rfl rfl ?_
        refine Tr.add_i64 rfl rfl rfl rfl oM ?_
        refine Tr.assign rfl rfl rfl ?_
        refine Tr.nil ?_
        refine at_n ?_
        exact ⟨i + 1, by omega, by omega, weak_of (wk1 rfl (wk1 rfl (wk1 rfl (wk1 rfl wk0)))) (wh1 mM (wh1 mM (wh1 mM wh0))) nD⟩
    ·
      rw [show subAt x y i = A from by rw [show i = 10 by omega]; exact hA.out]
      refine Sat.exit ?_
      refine at_x ?_
      refine at_x ?_
      refine bl_h ?_
      refine at_n ?_
      refine Sat.seq ?_
      refine Sat.region ?_
      first
        | refine Tr.loadAll rfl rfl rfl Try.underlying96 rfl Sz96 mM (by first | (simp [natsV_length, fb_length, hxl, hyl, hAl, hUl, hal]; done) | assumption | (rw [bytesV, List.length_map]; assumption)) ?_
        | refine Tr.loadN _ rfl rfl rfl Try.underlying96 rfl Sz96 mM (by exact rfl) (by first | (simp [natsV_length, fb_length, hxl, hyl, hAl, hUl, hal]; done) | assumption | (rw [bytesV, List.length_map]; assumption)) ?_
      refine Tr.callV rfl rfl rfl rfl Body92 (hc) (fun _ _ => trivial) ?_
      first
        | refine Tr.storeAll rfl rfl rfl rfl (by first | exact bytesV_cell _ | exact natsV_cell _ | simp [isCell]) Sz96 (by first | (simp [natsV_length, fb_length, hxl, hyl, hAl, hUl, hal]; done) | assumption | (rw [bytesV, List.length_map]; assumption)) mM (by first | (simp [natsV_length, fb_length, hxl, hyl, hAl, hUl, hal]; done) | assumption | (rw [bytesV, List.length_map]; assumption)) uU ?_
        | refine Tr.storeN _ rfl rfl rfl rfl rfl (by first | exact bytesV_cell _ | exact natsV_cell _ | simp [isCell]) Sz96 (by first | (simp [natsV_length, fb_length, hxl, hyl, hAl, hUl, hal]; done) | assumption | (rw [bytesV, List.length_map]; assumption)) mM (by first | (simp [natsV_length, fb_length, hxl, hyl, hAl, hUl, hal]; done) | assumption | (rw [bytesV, List.length_map]; assumption)) (by exact rfl) uU ?_
      refine Tr.nil ?_
      refine at_n ?_
      refine Sat.ret ?_
      refine en_r ?_
      refine ⟨_, [], res_cell rfl rfl Try.underlying96 rfl Sz96 mM (by simp [natsV_length, fb_length, hxl, hyl, hAl, hUl, hal]), sP, sP, ?_, rfl⟩
      rfl

set_option maxRecDepth 100000 in
set_option maxHeartbeats 8000000 in
theorem r3_Times (x y : List Nat) (hx : Fit10 x) (hy : Fit10 y) : Meets Try.prog 71 [agg (natsV x), agg (natsV y)] [] (fun _ => True) (fun v out => v = agg (natsV (mulT x y)) ∧ out = []) := by
  intro W hW
  have hxl := hx.len
  have hyl := hy.len
  obtain ⟨A, hA⟩ : ∃ A, Hid (tAll x y 10 = A) := ⟨_, ⟨rfl⟩⟩
  obtain ⟨U, hU⟩ : ∃ U, Hid (car10 (tAll x y 10) = U) := ⟨_, ⟨rfl⟩⟩
  have hAl : A.length = 10 := by rw [← hA.out]; exact tAll_length x y 10
  have hUl : U.length = 10 := by rw [← hU.out]; exact car10_length _
  have hc := r3_carry A (by rw [← hA.out]; exact tAll_mid hx hy)
  rw [show car10 A = U from by rw [← hA.out]; exact hU.out] at hc
  have hcc := r3_carry U (by rw [← hU.out]; exact car10_mid (tAll_v10 hx hy))
  obtain ⟨V, hV⟩ : ∃ V, Hid (mulT x y = V) := ⟨_, ⟨rfl⟩⟩
  have hVl : V.length = 10 := by rw [← hV.out]; exact car10_length _
  rw [show car10 U = V from by rw [← hU.out]; exact hV.out] at hcc
  rw [hV.out]
  have hal := hAl
  refine calls_of (hp0 := []) Try.func71 rfl 56 Try.ntmps71 rfl (HRep.nil _) ?_
  refine Sat.seq ?_
  refine Sat.region ?_
  refine Tr.boxA rfl rfl ?_
  intro n2 hn2 hf2
  refine Tr.boxA rfl rfl ?_
  intro n3 hn3 hf3
  refine Tr.alloc (cs := (intsV (List.replicate 10 0))) rfl Zr96 rfl ?_
  intro n4 hn4 hf4
  refine Tr.nil ?_
  refine at_n ?_
  refine Sat.seq ?_
  refine Sat.region ?_
  refine Tr.alloc (cs := (intsV (List.replicate 10 0))) rfl Zr96 rfl ?_
  intro n5 hn5 hf5
  refine Tr.nil ?_
  refine at_n ?_
  refine Sat.seq ?_
  refine Sat.seq ?_
  refine Sat.region ?_
  refine Tr.assign rfl rfl rfl ?_
  refine Tr.nil ?_
  refine at_n ?_
  refine Sat.block ?_
  refine Sat.loop (ι := Nat) (fun i => ⟨[(2, ptr n2 0), (3, ptr n3 0), (4, ptr n4 0), (5, ptr n5 0), (6, i64 (i : Int))], [⟨n5, natsV (tAll x y i), 96, 10⟩, ⟨n4, (intsV (List.replicate 10 0)), 96, 10⟩, ⟨n3, natsV y, 96, (natsV y).length⟩, ⟨n2, natsV x, 96, (natsV x).length⟩]⟩) (fun i => i ≤ 10) (fun i => 10 - i) (0) ?_ ?_ ?_
  · omega
  · exact weak_of (wk1 rfl (wk1 rfl (wk1 rfl (wk1 rfl (wk1 rfl wk0))))) (wh1 (by rw [show natsV (tAll x y 0) = intsV (List.replicate 10 0) from rfl]; exact mem0) (wh1 mM (wh1 mM (wh1 mM wh0)))) nD
  ·
    rintro i hi
    refine Sat.seq ?_
    refine Sat.seq ?_
    refine Sat.region ?_
    refine Tr.move rfl rfl rfl ?_
    refine Tr.lss rfl rfl rfl rfl rfl ?_
    refine Tr.nil ?_
    refine at_n ?_
    first
      | refine Sat.condP rfl (fun hc0 => ?_) (fun hc0 => ?_)
      | refine Sat.condNP rfl (fun hc0 => ?_) (fun hc0 => ?_)
      | refine Sat.cond rfl (fun hc0 => ?_) (fun hc0 => ?_)
    ·
      have hi2 : i < 10 := by omega
      refine Sat.skip ?_
      refine at_n ?_
      refine Sat.seq ?_
      refine Sat.block ?_
      refine Sat.seq ?_
      refine Sat.region ?_
      refine Tr.assign rfl rfl rfl ?_
      refine Tr.nil ?_
      refine at_n ?_
      refine Sat.block ?_
      refine Sat.loop (ι := Nat) (fun k => ⟨[(2, ptr n2 0), (3, ptr n3 0), (4, ptr n4 0), (5, ptr n5 0), (6, i64 (i : Int)), (7, i64 (k : Int))], [⟨n5, natsV (tRow x y i (tAll x y i) k), 96, 10⟩, ⟨n4, (intsV (List.replicate 10 0)), 96, 10⟩, ⟨n3, natsV y, 96, (natsV y).length⟩, ⟨n2, natsV x, 96, (natsV x).length⟩]⟩) (fun k => k ≤ 10) (fun k => 10 - k) (0) ?_ ?_ ?_
      · omega
      · exact weak_of (wk1 rfl (wk1 rfl (wk1 rfl (wk1 rfl (wk1 rfl (wk1 rfl wk0)))))) (wh1 mM (wh1 mM (wh1 mM (wh1 mM wh0)))) nD
      ·
        rintro k hk
        have hal := tRow_length x y i (tAll_length x y i) k
        refine Sat.seq ?_
        refine Sat.seq ?_
        refine Sat.region ?_
        refine Tr.move rfl rfl rfl ?_
        refine Tr.lss rfl rfl rfl rfl rfl ?_
        refine Tr.nil ?_
        refine at_n ?_
        first
          | refine Sat.condP rfl (fun hc1 => ?_) (fun hc1 => ?_)
          | refine Sat.condNP rfl (fun hc1 => ?_) (fun hc1 => ?_)
          | refine Sat.cond rfl (fun hc1 => ?_) (fun hc1 => ?_)
        ·
          have hk2 : k < 10 := by omega
          have hxy := prod_le hx hy hi2 hk2
          have hcf : cf2 i k * (x.getD i 0 * y.getD k 0) ≤ 2 * 18014398509481984 := Nat.mul_le_mul (cf2_le i k) hxy
          have hco := term_le hx hy i k hi2 hk2
          have hbd := tRow_bd hx hy (m := (i + k) % 10) hi2 (show k ≤ 10 by omega) (Nat.mod_lt _ dE)
          refine Sat.skip ?_
          refine at_n ?_
          refine Sat.seq ?_
          refine Sat.block ?_
          refine Sat.seq ?_
          refine Sat.draw [(0, 0), (0, 1), (1, 2), (0, 3), (0, 4), (1, 5), (0, 6), (0, 7)] Mixed (by kernel_rfl) ?_
          refine Tr.move rfl rfl rfl ?_
          first
            | refine Tr.idxArr1 rfl rfl rfl rfl Try.underlying96 Sz2 _ rfl oM ?_
            | refine Tr.idxArrO rfl rfl rfl rfl Try.underlying96 Sz2 _ rfl oM ?_
            | refine Tr.idxArr1 rfl rfl rfl rfl Try.underlying96 Sz2 _ (toNat_back oM) oM ?_
            | refine Tr.idxArrO rfl rfl rfl rfl Try.underlying96 Sz2 _ (toNat_back oM) oM ?_
          refine Tr.load1 rfl rfl rfl Try.underlying2 rfl mM (by first | rfl | exact get_nats (by first | omega | (simp [natsV_length, fb_length, hxl, hyl, hAl, hUl, hVl, hal]; omega)) | exact get_words (by first | omega | (simp [natsV_length, fb_length, hxl, hyl, hAl, hUl, hVl, hal]; done) | (simp [natsV_length, fb_length, hxl, hyl, hAl, hUl, hVl, hal]; omega)) | exact get_bytes (by first | omega | (simp [natsV_length, fb_length, hxl, hyl, hAl, hUl, hVl, hal]; done) | (simp [natsV_length, fb_length, hxl, hyl, hAl, hUl, hVl, hal]; omega)) | exact get_ints (by first | omega | (simp [natsV_length, fb_length, hxl, hyl, hAl, hUl, hVl, hal]; done) | (simp [natsV_length, fb_length, hxl, hyl, hAl, hUl, hVl, hal]; omega))) ?_
          refine Tr.move rfl rfl rfl ?_
          first
            | refine Tr.idxArr1 rfl rfl rfl rfl Try.underlying96 Sz2 _ rfl oM ?_
            | refine Tr.idxArrO rfl rfl rfl rfl Try.underlying96 Sz2 _ rfl oM ?_
            | refine Tr.idxArr1 rfl rfl rfl rfl Try.underlying96 Sz2 _ (toNat_back oM) oM ?_
            | refine Tr.idxArrO rfl rfl rfl rfl Try.underlying96 Sz2 _ (toNat_back oM) oM ?_
          refine Tr.load1 rfl rfl rfl Try.underlying2 rfl mM (by first | rfl | exact get_nats (by first | omega | (simp [natsV_length, fb_length, hxl, hyl, hAl, hUl, hVl, hal]; omega)) | exact get_words (by first | omega | (simp [natsV_length, fb_length, hxl, hyl, hAl, hUl, hVl, hal]; done) | (simp [natsV_length, fb_length, hxl, hyl, hAl, hUl, hVl, hal]; omega)) | exact get_bytes (by first | omega | (simp [natsV_length, fb_length, hxl, hyl, hAl, hUl, hVl, hal]; done) | (simp [natsV_length, fb_length, hxl, hyl, hAl, hUl, hVl, hal]; omega)) | exact get_ints (by first | omega | (simp [natsV_length, fb_length, hxl, hyl, hAl, hUl, hVl, hal]; done) | (simp [natsV_length, fb_length, hxl, hyl, hAl, hUl, hVl, hal]; omega))) ?_
          refine Tr.mulN (x.getD i 0) (y.getD k 0) rfl rfl rfl rfl oM ?_
          refine Tr.assign rfl rfl rfl ?_
          refine Tr.nil ?_
          refine at_n ?_
          refine Sat.join (ι := Unit) (fun _u => ⟨[(2, ptr n2 0), (3, ptr n3 0), (4, ptr n4 0), (5, ptr n5 0), (6, i64 (i : Int)), (7, i64 (k : Int)), (8, i64 ((cf2 i k * (x.getD i 0 * y.getD k 0) : Nat) : Int))], [⟨n5, natsV (tRow x y i (tAll x y i) k), 96, 10⟩, ⟨n4, (intsV (List.replicate 10 0)), 96, 10⟩, ⟨n3, natsV y, 96, (natsV y).length⟩, ⟨n2, natsV x, 96, (natsV x).length⟩]⟩) (fun _u => True) ?_ ?_
          ·
            refine Sat.seq ?_
            refine Sat.region ?_
            refine Tr.move rfl rfl rfl ?_
            refine Tr.remN (i) (2) rfl rfl rfl rfl dE ?_
            refine two (fun r hr k => Tr.eqi rfl rfl rfl rfl hr k) (fun hs9_20 => ?_) (fun hs9_20 => ?_)
            ·
              first | have hs9_2 := of_decide_eq_true hs9_20 | have hs9_2 := of_decide_eq_false hs9_20 | have hs9_2 := nd_t hs9_20 | have hs9_2 := nd_f hs9_20 | have hs9_2 := hs9_20
              refine Tr.move rfl rfl rfl ?_
              refine Tr.move rfl rfl rfl ?_
              refine Tr.remN (k) (2) rfl rfl rfl rfl dE ?_
              refine two (fun r hr k => Tr.eqi rfl rfl rfl rfl hr k) (fun hs9_60 => ?_) (fun hs9_60 => ?_)
              ·
                first | have hs9_6 := of_decide_eq_true hs9_60 | have hs9_6 := of_decide_eq_false hs9_60 | have hs9_6 := nd_t hs9_60 | have hs9_6 := nd_f hs9_60 | have hs9_6 := hs9_60
                refine Tr.pick rfl rfl rfl rfl rfl rfl ?_
                refine Tr.nil ?_
                refine at_n ?_
                refine Sat.cond_t rfl rfl ?_
                refine Sat.region ?_
                refine Tr.move rfl rfl rfl ?_
                refine Tr.mulN (2) (x.getD i 0 * y.getD k 0) rfl rfl rfl rfl oM ?_
                refine Tr.assign rfl rfl rfl ?_
                refine Tr.nil ?_
                refine at_n ?_
                first
                  | (rw [cf2_t _ hs9_2 hs9_6]; exact ⟨(), trivial, weak_of (wk1 rfl (wk1 rfl (wk1 rfl (wk1 rfl (wk1 rfl (wk1 rfl (wk1 rfl wk0))))))) (wh1 mM (wh1 mM (wh1 mM (wh1 mM wh0)))) nD⟩)
                  | (rw [cf2_a _ hs9_2]; exact ⟨(), trivial, weak_of (wk1 rfl (wk1 rfl (wk1 rfl (wk1 rfl (wk1 rfl (wk1 rfl (wk1 rfl wk0))))))) (wh1 mM (wh1 mM (wh1 mM (wh1 mM wh0)))) nD⟩)
                  | (rw [cf2_b _ hs9_6]; exact ⟨(), trivial, weak_of (wk1 rfl (wk1 rfl (wk1 rfl (wk1 rfl (wk1 rfl (wk1 rfl (wk1 rfl wk0))))))) (wh1 mM (wh1 mM (wh1 mM (wh1 mM wh0)))) nD⟩)
              ·
                first | have hs9_6 := of_decide_eq_true hs9_60 | have hs9_6 := of_decide_eq_false hs9_60 | have hs9_6 := nd_t hs9_60 | have hs9_6 := nd_f hs9_60 | have hs9_6 := hs9_60
                refine Tr.pick rfl rfl rfl rfl rfl rfl ?_
                refine Tr.nil ?_
                refine at_n ?_
                refine Sat.cond_f rfl rfl ?_
                refine Sat.skip ?_
                refine at_n ?_
                first
                  | (rw [cf2_t _ hs9_2 hs9_6]; exact ⟨(), trivial, weak_of (wk1 rfl (wk1 rfl (wk1 rfl (wk1 rfl (wk1 rfl (wk1 rfl (wk1 rfl wk0))))))) (wh1 mM (wh1 mM (wh1 mM (wh1 mM wh0)))) nD⟩)
                  | (rw [cf2_a _ hs9_2]; exact ⟨(), trivial, weak_of (wk1 rfl (wk1 rfl (wk1 rfl (wk1 rfl (wk1 rfl (wk1 rfl (wk1 rfl wk0))))))) (wh1 mM (wh1 mM (wh1 mM (wh1 mM wh0)))) nD⟩)
                  | (rw [cf2_b _ hs9_6]; exact ⟨(), trivial, weak_of (wk1 rfl (wk1 rfl (wk1 rfl (wk1 rfl (wk1 rfl (wk1 rfl (wk1 rfl wk0))))))) (wh1 mM (wh1 mM (wh1 mM (wh1 mM wh0)))) nD⟩)
            ·
              first | have hs9_2 := of_decide_eq_true hs9_20 | have hs9_2 := of_decide_eq_false hs9_20 | have hs9_2 := nd_t hs9_20 | have hs9_2 := nd_f hs9_20 | have hs9_2 := hs9_20
              refine Tr.move rfl rfl rfl ?_
              refine Tr.skp rfl rfl ?_
              refine Tr.skp rfl rfl ?_
              refine Tr.skp rfl rfl ?_
              refine Tr.pick rfl rfl rfl rfl rfl rfl ?_
              refine Tr.nil ?_
              refine at_n ?_
              refine Sat.cond_f rfl rfl ?_
              refine Sat.skip ?_
              refine at_n ?_
              first
                | (rw [cf2_t _ hs9_2 hs9_6]; exact ⟨(), trivial, weak_of (wk1 rfl (wk1 rfl (wk1 rfl (wk1 rfl (wk1 rfl (wk1 rfl (wk1 rfl wk0))))))) (wh1 mM (wh1 mM (wh1 mM (wh1 mM wh0)))) nD⟩)
                | (rw [cf2_a _ hs9_2]; exact ⟨(), trivial, weak_of (wk1 rfl (wk1 rfl (wk1 rfl (wk1 rfl (wk1 rfl (wk1 rfl (wk1 rfl wk0))))))) (wh1 mM (wh1 mM (wh1 mM (wh1 mM wh0)))) nD⟩)
                | (rw [cf2_b _ hs9_6]; exact ⟨(), trivial, weak_of (wk1 rfl (wk1 rfl (wk1 rfl (wk1 rfl (wk1 rfl (wk1 rfl (wk1 rfl wk0))))))) (wh1 mM (wh1 mM (wh1 mM (wh1 mM wh0)))) nD⟩)
          ·
            intro _u hj
            skip
            refine Sat.join (ι := Unit) (fun _u => ⟨[(2, ptr n2 0), (3, ptr n3 0), (4, ptr n4 0), (5, ptr n5 0), (6, i64 (i : Int)), (7, i64 (k : Int)), (8, i64 ((coef i k * (x.getD i 0 * y.getD k 0) : Nat) : Int))], [⟨n5, natsV (tRow x y i (tAll x y i) k), 96, 10⟩, ⟨n4, (intsV (List.replicate 10 0)), 96, 10⟩, ⟨n3, natsV y, 96, (natsV y).length⟩, ⟨n2, natsV x, 96, (natsV x).length⟩]⟩) (fun _u => True) ?_ ?_
            ·
              refine Sat.seq ?_
              refine Sat.region ?_
              refine Tr.move rfl rfl rfl ?_
              refine Tr.move rfl rfl rfl ?_
              refine Tr.addN (i) (k) rfl rfl rfl rfl oM ?_
              refine Tr.gtr rfl rfl rfl rfl rfl ?_
              refine Tr.nil ?_
              refine at_n ?_
              first
                | refine Sat.condP rfl (fun hc3 => ?_) (fun hc3 => ?_)
                | refine Sat.condNP rfl (fun hc3 => ?_) (fun hc3 => ?_)
                | refine Sat.cond rfl (fun hc3 => ?_) (fun hc3 => ?_)
              ·
                refine Sat.region ?_
                refine Tr.move rfl rfl rfl ?_
                refine Tr.mulN (19) (cf2 i k * (x.getD i 0 * y.getD k 0)) rfl rfl rfl rfl oM ?_
                refine Tr.assign rfl rfl rfl ?_
                refine Tr.nil ?_
                refine at_n ?_
                first
                  | (rw [coef_hi _ hc3]; exact ⟨(), trivial, weak_of (wk1 rfl (wk1 rfl (wk1 rfl (wk1 rfl (wk1 rfl (wk1 rfl (wk1 rfl wk0))))))) (wh1 mM (wh1 mM (wh1 mM (wh1 mM wh0)))) nD⟩)
                  | (rw [coef_lo _ hc3]; exact ⟨(), trivial, weak_of (wk1 rfl (wk1 rfl (wk1 rfl (wk1 rfl (wk1 rfl (wk1 rfl (wk1 rfl wk0))))))) (wh1 mM (wh1 mM (wh1 mM (wh1 mM wh0)))) nD⟩)
              ·
                refine Sat.skip ?_
                refine at_n ?_
                first
                  | (rw [coef_hi _ hc3]; exact ⟨(), trivial, weak_of (wk1 rfl (wk1 rfl (wk1 rfl (wk1 rfl (wk1 rfl (wk1 rfl (wk1 rfl wk0))))))) (wh1 mM (wh1 mM (wh1 mM (wh1 mM wh0)))) nD⟩)
                  | (rw [coef_lo _ hc3]; exact ⟨(), trivial, weak_of (wk1 rfl (wk1 rfl (wk1 rfl (wk1 rfl (wk1 rfl (wk1 rfl (wk1 rfl wk0))))))) (wh1 mM (wh1 mM (wh1 mM (wh1 mM wh0)))) nD⟩)
            ·
              intro _u hj
              skip
              refine Sat.region ?_
              refine Tr.move rfl rfl rfl ?_
              refine Tr.move rfl rfl rfl ?_
              refine Tr.addN (i) (k) rfl rfl rfl rfl oM ?_
              refine Tr.remN (i + k) (10) rfl rfl rfl rfl dE ?_
              refine Tr.move rfl rfl rfl ?_
              refine Tr.move rfl rfl rfl ?_
              refine Tr.addN (i) (k) rfl rfl rfl rfl oM ?_
              refine Tr.remN (i + k) (10) rfl rfl rfl rfl dE ?_
              first
                | refine Tr.idxArr1 rfl rfl rfl rfl Try.underlying96 Sz2 _ rfl oM ?_
                | refine Tr.idxArrO rfl rfl rfl rfl Try.underlying96 Sz2 _ rfl oM ?_
                | refine Tr.idxArr1 rfl rfl rfl rfl Try.underlying96 Sz2 _ (toNat_back oM) oM ?_
                | refine Tr.idxArrO rfl rfl rfl rfl Try.underlying96 Sz2 _ (toNat_back oM) oM ?_
              refine Tr.load1 rfl rfl rfl Try.underlying2 rfl mM (by first | rfl | exact get_nats (by first | omega | (simp [natsV_length, fb_length, hxl, hyl, hAl, hUl, hVl, hal]; omega)) | exact get_words (by first | omega | (simp [natsV_length, fb_length, hxl, hyl, hAl, hUl, hVl, hal]; done) | (simp [natsV_length, fb_length, hxl, hyl, hAl, hUl, hVl, hal]; omega)) | exact get_bytes (by first | omega | (simp [natsV_length, fb_length, hxl, hyl, hAl, hUl, hVl, hal]; done) | (simp [natsV_length, fb_length, hxl, hyl, hAl, hUl, hVl, hal]; omega)) | exact get_ints (by first | omega | (simp [natsV_length, fb_length, hxl, hyl, hAl, hUl, hVl, hal]; done) | (simp [natsV_length, fb_length, hxl, hyl, hAl, hUl, hVl, hal]; omega))) ?_
              refine Tr.move rfl rfl rfl ?_
              refine Tr.addN ((tRow x y i (tAll x y i) k).getD ((i + k) % 10) 0) (coef i k * (x.getD i 0 * y.getD k 0)) rfl rfl rfl rfl oM ?_
              first
                | refine Tr.idxArr1 rfl rfl rfl rfl Try.underlying96 Sz2 _ rfl oM ?_
                | refine Tr.idxArrO rfl rfl rfl rfl Try.underlying96 Sz2 _ rfl oM ?_
                | refine Tr.idxArr1 rfl rfl rfl rfl Try.underlying96 Sz2 _ (toNat_back oM) oM ?_
                | refine Tr.idxArrO rfl rfl rfl rfl Try.underlying96 Sz2 _ (toNat_back oM) oM ?_
              refine Tr.store1 rfl rfl rfl rfl rfl Sz2 mM (by first | (simp [natsV_length, fb_length, hxl, hyl, hAl, hUl, hVl, hal]; done) | (simp [natsV_length, fb_length, hxl, hyl, hAl, hUl, hVl, hal]; omega)) (by first | exact set_nats _ _ _ | exact set_words _ _ _ | exact set_bytes _ _ _ | exact set_ints _ _ _ | rfl) uU ?_
              refine Tr.nil ?_
              refine bl_n ?_
              refine at_n ?_
              refine Sat.region ?_
              refine Tr.move rfl rfl rfl ?_
              refine Tr.add_i64 rfl rfl rfl rfl oM ?_
              refine Tr.assign rfl rfl rfl ?_
              refine Tr.nil ?_
              refine at_n ?_
              exact ⟨k + 1, by omega, by omega, weak_of (wk1 rfl (wk1 rfl (wk1 rfl (wk1 rfl (wk1 rfl (wk1 rfl wk0)))))) (wh1 mM (wh1 mM (wh1 mM (wh1 mM wh0)))) nD⟩
        ·
          refine Sat.exit ?_
          refine at_x ?_
          refine at_x ?_
          refine bl_h ?_
          refine bl_n ?_
          refine at_n ?_
          refine Sat.region ?_
          refine Tr.move rfl rfl rfl ?_
          refine Tr.add_i64 rfl rfl rfl rfl oM ?_
          refine Tr.assign rfl rfl rfl ?_
          refine Tr.nil ?_
          refine at_n ?_
          exact ⟨i + 1, by omega, by omega, weak_of (wk1 rfl (wk1 rfl (wk1 rfl (wk1 rfl (wk1 rfl wk0))))) (wh1 (by rw [show tAll x y (i + 1) = (tRow x y i (tAll x y i) k) from by rw [show k = 10 by omega]; rfl]; exact mem0) (wh1 mM (wh1 mM (wh1 mM wh0)))) nD⟩
    ·
      rw [show tAll x y i = A from by rw [show i = 10 by omega]; exact hA.out]
      refine Sat.exit ?_
      refine at_x ?_
      refine at_x ?_
      refine bl_h ?_
      refine at_n ?_
      refine Sat.seq ?_
      refine Sat.region ?_
      first
        | refine Tr.loadAll rfl rfl rfl Try.underlying96 rfl Sz96 mM (by first | (simp [natsV_length, fb_length, hxl, hyl, hAl, hUl, hVl, hal]; done) | assumption | (rw [bytesV, List.length_map]; assumption)) ?_
        | refine Tr.loadN _ rfl rfl rfl Try.underlying96 rfl Sz96 mM (by exact rfl) (by first | (simp [natsV_length, fb_length, hxl, hyl, hAl, hUl, hVl, hal]; done) | assumption | (rw [bytesV, List.length_map]; assumption)) ?_
      refine Tr.callV rfl rfl rfl rfl Body92 (hc) (fun _ _ => trivial) ?_
      refine Tr.callV rfl rfl rfl rfl Body92 (hcc) (fun _ _ => trivial) ?_
      first
        | refine Tr.storeAll rfl rfl rfl rfl (by first | exact bytesV_cell _ | exact natsV_cell _ | simp [isCell]) Sz96 (by first | (simp [natsV_length, fb_length, hxl, hyl, hAl, hUl, hVl, hal]; done) | assumption | (rw [bytesV, List.length_map]; assumption)) mM (by first | (simp [natsV_length, fb_length, hxl, hyl, hAl, hUl, hVl, hal]; done) | assumption | (rw [bytesV, List.length_map]; assumption)) uU ?_
        | refine Tr.storeN _ rfl rfl rfl rfl rfl (by first | exact bytesV_cell _ | exact natsV_cell _ | simp [isCell]) Sz96 (by first | (simp [natsV_length, fb_length, hxl, hyl, hAl, hUl, hVl, hal]; done) | assumption | (rw [bytesV, List.length_map]; assumption)) mM (by first | (simp [natsV_length, fb_length, hxl, hyl, hAl, hUl, hVl, hal]; done) | assumption | (rw [bytesV, List.length_map]; assumption)) (by exact rfl) uU ?_
      refine Tr.nil ?_
      refine at_n ?_
      refine Sat.ret ?_
      refine en_r ?_
      refine ⟨_, [], res_cell rfl rfl Try.underlying96 rfl Sz96 mM (by simp [natsV_length, fb_length, hxl, hyl, hAl, hUl, hVl, hal]), sP, sP, ?_, rfl⟩
      rfl

end Go.Proofs.Ytmddgelpllffoaa
end

section
namespace Ed
open Hw Go
set_option linter.unusedVariables false

def oneT : List Nat := 1 :: List.replicate 9 0
def powT (x : List Nat) (E : Nat) : Nat → List Nat
  | 0 => oneT
  | j + 1 => if E.testBit (255 - j) = true then mulT (mulT (powT x E j) (powT x E j)) x else mulT (powT x E j) (powT x E j)
theorem oneT_v : fe (v10 oneT) = 1 := by kernel_rfl
theorem oneT_fit : Fit10 oneT := ⟨rfl, by decide, fun i h1 h2 => by
  have : ∀ i : _root_.Fin 10, oneT.getD i.val 0 < 2 ^ bitsAt i.val := by decide
  exact this ⟨i, h2⟩⟩
theorem test_div (E j : Nat) (b : Bool) (h : E.testBit j = b) : E / 2 ^ j % 2 = (if b = true then 1 else 0) := by
  rw [← h, Nat.testBit_eq_decide_div_mod_eq]
  simp only [decide_eq_true_eq]
  split <;> omega
theorem powT_ok {x : List Nat} (hx : Fit10 x) {E : Nat} (hE : E < 2 ^ 256) : ∀ j, j ≤ 256 → Fit10 (powT x E j) ∧ fe (v10 (powT x E j)) = fpow (fe (v10 x)) (E / 2 ^ (256 - j))
  | 0, _ => ⟨oneT_fit, by rw [powT, oneT_v, show 256 - 0 = 256 from rfl, Nat.div_eq_of_lt hE, fpow_zero]⟩
  | j + 1, hj => by
    obtain ⟨h1, h2⟩ := powT_ok hx hE j oM
    have h3 : E / 2 ^ (256 - (j + 1)) ≤ E := Nat.div_le_self _ _
    rw [next_div E j oM] at h3 ⊢
    rw [powT]
    cases hb : E.testBit (255 - j) with
    | true =>
      have h4 := test_div E (255 - j) true hb
      rw [if_pos rfl] at h4
      rw [h4] at h3 ⊢
      rw [if_pos rfl]
      refine ⟨mulT_fit (mulT_fit h1 h1) hx, ?_⟩
      rw [mulT_v (mulT_length _ _) hx.len, mulT_v h1.len h1.len, h2, fpow_succ oM, fpow_two oM]
    | false =>
      have h4 := test_div E (255 - j) false hb
      rw [if_neg dE] at h4
      rw [h4] at h3 ⊢
      rw [if_neg dE]
      refine ⟨mulT_fit h1 h1, ?_⟩
      rw [mulT_v h1.len h1.len, h2, Nat.add_zero, fpow_two oM]
theorem powT_all {x : List Nat} (hx : Fit10 x) {E : Nat} (hE : E < 2 ^ 256) : fe (v10 (powT x E 256)) = fpow (fe (v10 x)) E := by
  have h := (powT_ok hx hE 256 (Nat.le_refl _)).2
  rwa [Nat.sub_self, Nat.pow_zero, Nat.div_one] at h
theorem powT_t {x : List Nat} {E j : Nat} (h : E.testBit (255 - j) = true) : powT x E (j + 1) = mulT (mulT (powT x E j) (powT x E j)) x := if_pos h
theorem powT_f {x : List Nat} {E j : Nat} (h : E.testBit (255 - j) = false) : powT x E (j + 1) = mulT (powT x E j) (powT x E j) := if_neg (by rw [h]; decide)
def halfAt (M i : Nat) : List UInt8 := (leb 32 (M / 2)).take i ++ (leb 32 M).drop i
theorem halfAt_length (M i : Nat) (h : i ≤ 32) : (halfAt M i).length = 32 := by
  rw [halfAt, List.length_append, List.length_take, List.length_drop, leb_length, leb_length]; omega
theorem halfAt_zero (M : Nat) : halfAt M 0 = leb 32 M := rfl
theorem halfAt_end (M : Nat) : halfAt M 32 = leb 32 (M / 2) := by
  rw [halfAt, List.take_of_length_le (by rw [leb_length]; exact Nat.le_refl _), List.drop_of_length_le (by rw [leb_length]; exact Nat.le_refl _), List.append_nil]
theorem halfAt_get (M : Nat) {i j : Nat} (hi : i ≤ j) (hj : j < 32) : (halfAt M i).getD j 0 = UInt8.ofNat (M / 256 ^ j) := by
  rw [halfAt, List.getD_eq_getElem?_getD, List.getElem?_append_right (by rw [List.length_take, leb_length]; omega), List.length_take, leb_length, List.getElem?_drop, show i + (j - min i 32) = j by omega, leb_get 32 M j hj]
  rfl
theorem half_byte (M i : Nat) : M / 2 / 256 ^ i % 256 = M / 256 ^ i % 256 / 2 + 128 * (M / 256 ^ (i + 1) % 2) := by
  have e1 : M / 2 / 256 ^ i = M / 256 ^ i / 2 := by rw [Nat.div_div_eq_div_mul, Nat.div_div_eq_div_mul, Nat.mul_comm]
  have e2 : M / 256 ^ (i + 1) = M / 256 ^ i / 256 := by rw [Nat.div_div_eq_div_mul, Nat.pow_succ]
  rw [e1, e2]
  generalize M / 256 ^ i = x
  omega
theorem halfAt_next (M : Nat) {i : Nat} (h : i < 32) (v : UInt8) (hv : v = UInt8.ofNat (M / 2 / 256 ^ i)) : (halfAt M i).set i v = halfAt M (i + 1) := by
  have hl : (leb 32 (M / 2)).length = 32 := leb_length _ _
  have hl2 : (leb 32 M).length = 32 := leb_length _ _
  have e : (leb 32 (M / 2)).take (i + 1) = (leb 32 (M / 2)).take i ++ [v] := by
    have e3 : (leb 32 (M / 2))[i]'oM = v := by
      have := leb_get 32 (M / 2) i h
      rw [List.getElem?_eq_getElem oM] at this
      rw [hv]
      exact Option.some.inj this
    rw [← e3]
    exact List.take_succ_eq_append_getElem oM
  have e2 : (leb 32 M).drop i = (leb 32 M)[i]'oM :: (leb 32 M).drop (i + 1) := List.drop_eq_getElem_cons oM
  rw [halfAt, halfAt, e, e2, List.set_append_right _ _ (by rw [List.length_take, hl]; omega), List.length_take, hl, show i - min i 32 = 0 by omega, List.set_cons_zero, List.append_assoc]
  rfl
theorem half_odd (M : Nat) {i : Nat} (h : i < 31) (hb : (((halfAt M i).set i (UInt8.ofNat (((halfAt M i).getD i 0).toNat / 2))).getD (i + 1) 0).toNat % 2 = 1) :
    ((halfAt M i).set i (UInt8.ofNat (((halfAt M i).getD i 0).toNat / 2))).set i (((halfAt M i).set i (UInt8.ofNat (((halfAt M i).getD i 0).toNat / 2))).getD i 0 + 128) = halfAt M (i + 1) := by
  have hl := halfAt_length M i oM
  have g1 : ((halfAt M i).set i (UInt8.ofNat (((halfAt M i).getD i 0).toNat / 2))).getD i 0 = UInt8.ofNat (((halfAt M i).getD i 0).toNat / 2) := by
    rw [List.getD_eq_getElem?_getD, List.getElem?_set_self oM]; rfl
  have g2 : ((halfAt M i).set i (UInt8.ofNat (((halfAt M i).getD i 0).toNat / 2))).getD (i + 1) 0 = UInt8.ofNat (M / 256 ^ (i + 1)) := by
    rw [List.getD_eq_getElem?_getD, List.getElem?_set_ne oM, ← List.getD_eq_getElem?_getD, halfAt_get M oM oM]
  rw [g2, UInt8.toNat_ofNat'] at hb
  rw [g1, List.set_set]
  refine halfAt_next M oM _ ?_
  rw [halfAt_get M (Nat.le_refl _) oM, show (128 : UInt8) = UInt8.ofNat 128 from rfl, ← UInt8.ofNat_add, UInt8.toNat_ofNat']
  apply ofNat8
  have := half_byte M i
  omega
theorem half_even (M : Nat) {i : Nat} (h : i < 31) (hb : ¬ (((halfAt M i).set i (UInt8.ofNat (((halfAt M i).getD i 0).toNat / 2))).getD (i + 1) 0).toNat % 2 = 1) :
    (halfAt M i).set i (UInt8.ofNat (((halfAt M i).getD i 0).toNat / 2)) = halfAt M (i + 1) := by
  have hl := halfAt_length M i oM
  have g2 : ((halfAt M i).set i (UInt8.ofNat (((halfAt M i).getD i 0).toNat / 2))).getD (i + 1) 0 = UInt8.ofNat (M / 256 ^ (i + 1)) := by
    rw [List.getD_eq_getElem?_getD, List.getElem?_set_ne oM, ← List.getD_eq_getElem?_getD, halfAt_get M oM oM]
  rw [g2, UInt8.toNat_ofNat'] at hb
  refine halfAt_next M oM _ ?_
  rw [halfAt_get M (Nat.le_refl _) oM, UInt8.toNat_ofNat']
  apply ofNat8
  have := half_byte M i
  omega
theorem half_last (M : Nat) (hM : M < 2 ^ 256) : (halfAt M 31).set 31 (UInt8.ofNat (((halfAt M 31).getD 31 0).toNat / 2)) = halfAt M 32 := by
  refine halfAt_next M oM _ ?_
  rw [halfAt_get M (Nat.le_refl _) oM, UInt8.toNat_ofNat']
  apply ofNat8
  have := half_byte M 31
  have h2 : M / 256 ^ (31 + 1) = 0 := Nat.div_eq_of_lt (Nat.lt_of_lt_of_le hM dE)
  omega
theorem ones_leb (f l : UInt8) : leb 32 (le (onesB f l)) = onesB f l := by
  have := leb_le (onesB f l)
  rwa [onesB_length] at this
/-- what the reference raises to -/
def expT (n k : Nat) : List UInt8 := leb 32 (le (onesB (UInt8.ofNat (237 - n)) 127) / 2 ^ k)
theorem expT_length (n k : Nat) : (expT n k).length = 32 := leb_length _ _
theorem expT_inv : le (expT 2 0) = PF - 2 := by kernel_rfl
theorem expT_root : le (expT 5 3) = (PF - 5) / 8 := by kernel_rfl
theorem expT_unit : le (expT 1 2) = (PF - 1) / 4 := by kernel_rfl
theorem root_step (X : Fp) : fpow X ((PF - 5) / 8) * X = fpow X ((PF + 3) / 8) := by
  rw [← fpow_succ dE]
  rfl
end Ed
end
