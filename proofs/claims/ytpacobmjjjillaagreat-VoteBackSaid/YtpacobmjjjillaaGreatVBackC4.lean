/- Contracts of functions of the loaded program, and the lemmas that they need (part 4). It proves no statement by itself; it has no conditions. -/
import Derived.WalkKit
import Derived.Orders
import Derived.Deep.LoopGhost
import Derived.IntWalk
import Derived.Laws.StructEq
import Derived.Test.YtpacobmjjjillaaGreatRows
import Derived.KernelRfl
import Derived.ArgAppend
import Derived.Deep.AppendSrc
import Derived.Lib.Bytealg
import Derived.Lib.BytesEntry
import Derived.Laws.IdiomStrings
import Derived.Laws.Externs
import Derived.WideKeyArr2
import Derived.ProofKit
import Derived.OpenShut
import Derived.Deep.Slices
import Derived.Laws.Pointers
import Derived.Laws.Cover3
import Derived.LaidEqlPtr
import Derived.LoopN
import Derived.RangeFuncLeaves
import Derived.RangeFuncSeq
import Derived.OrdersIn
import Derived.Defers
import Derived.Laws.MathBits
import Derived.ChangeOld
import Derived.Below
import Derived.Test.YtpacobmjjjillaaGreatVBackC3
section
namespace Go.Proofs.YtpacobmjjjillaaGreat
open Go Hw
set_option linter.unusedVariables false
set_option linter.unusedSimpArgs false

open Ed

theorem f_mul (x y : Fp) : Meets Tryz.prog 169 [agg (bytesV (fb x)), agg (bytesV (fb y))] [] (fun _ => True) (fun v out => v = agg (bytesV (fb (x * y))) ∧ out = []) := by
  have h := field_Mul (fb x) (fb y) (fb_length x) (fb_length y)
  rwa [fe_fb x, fe_fb y] at h

theorem f_add (x y : Fp) : Meets Tryz.prog 172 [agg (bytesV (fb x)), agg (bytesV (fb y))] [] (fun _ => True) (fun v out => v = agg (bytesV (fb (x + y))) ∧ out = []) := by
  have h := field_Add (fb x) (fb y) (fb_length x) (fb_length y)
  rwa [fe_fb x, fe_fb y] at h

theorem f_sub (x y : Fp) : Meets Tryz.prog 170 [agg (bytesV (fb x)), agg (bytesV (fb y))] [] (fun _ => True) (fun v out => v = agg (bytesV (fb (x - y))) ∧ out = []) := by
  have h := field_Sub (fb x) (fb y) (fb_length x) (fb_length y)
  rwa [fe_fb x, fe_fb y] at h

theorem f_neg (x : Fp) : Meets Tryz.prog 176 [agg (bytesV (fb x))] [] (fun _ => True) (fun v out => v = agg (bytesV (fb (-x))) ∧ out = []) := by
  have h := field_Neg (fb x) (fb_length x)
  rwa [fe_fb x] at h

theorem f_inv (x : Fp) : Meets Tryz.prog 175 [agg (bytesV (fb x))] [] (fun _ => True) (fun v out => v = agg (bytesV (fb (finv x))) ∧ out = []) := by
  have h := field_Inv (fb x) (fb_length x)
  rwa [fe_fb x] at h

theorem f_odd (x : Fp) : Meets Tryz.prog 215 [agg (bytesV (fb x))] [] (fun _ => True) (fun v out => v = .bool (decide (x.val % 2 = 1)) ∧ out = []) := by
  have h := field_Odd (fb x) (fb_length x)
  rwa [fe_fb x] at h

theorem f_same_raw (x : Fp) (a : List UInt8) (ha : a.length = 32) : Meets Tryz.prog 227 [agg (bytesV (fb x)), agg (bytesV a)] [] (fun _ => True) (fun v out => v = .bool (decide (x = fe (le a))) ∧ out = []) := by
  have h := field_Same (fb x) a (fb_length x) ha
  rwa [fe_fb x] at h
theorem f_pow_root (a : List UInt8) (ha : a.length = 32) : Meets Tryz.prog 225 [agg (bytesV a), agg (bytesV (onesB 254 15))] [] (fun _ => True) (fun v out => v = agg (bytesV (fb (fpow (fe (le a)) ((PF + 3) / 8)))) ∧ out = []) := by
  have h := field_Pow a (onesB 254 15) ha (onesB_length _ _)
  rwa [ones_root] at h
theorem f_pow_unit : Meets Tryz.prog 225 [agg (bytesV (fb (fe (2 : UInt64).toNat))), agg (bytesV (onesB 251 31))] [] (fun _ => True) (fun v out => v = agg (bytesV (fb (fpow (fe 2) ((PF - 1) / 4)))) ∧ out = []) := by
  have h := field_Pow (fb (fe (2 : UInt64).toNat)) (onesB 251 31) (fb_length _) (onesB_length _ _)
  rwa [ones_unit, fe_fb] at h
theorem f_one : Meets Tryz.prog 171 [u64 1] [] (fun _ => True) (fun v out => v = agg (bytesV (fb 1)) ∧ out = []) := by
  have h := field_Of 1
  rwa [show fe (1 : UInt64).toNat = 1 from rfl] at h

set_option maxRecDepth 100000 in
set_option maxHeartbeats 2000000 in
theorem field_Root (a : List UInt8) (X : Fp) (ha : a.length = 32) (hX : fe (le a) = X) : Meets Tryz.prog 174 [agg (bytesV a)] [] (fun _ => True) (fun v out => v = .tuple #[agg (bytesV (fb (fRoot X).1)), .bool (fRoot X).2] ∧ out = []) := by
 intro W hW
 obtain ⟨r0, hr0⟩ : ∃ r, fpow X ((PF + 3) / 8) = r := ⟨_, rfl⟩
 obtain ⟨un, hun⟩ : ∃ r, fpow (fe 2) ((PF - 1) / 4) = r := ⟨_, rfl⟩
 obtain ⟨r1, hr1⟩ : ∃ r, fRoot1 X = r := ⟨_, rfl⟩
 have hp0 := f_pow_root a ha
 have hpu := f_pow_unit
 rw [hX, hr0] at hp0
 rw [hun] at hpu
 have hm := fun y => f_same_raw y a ha
 rw [hX] at hm
 have hr1' : r1 = if r0 * r0 = X then r0 else r0 * un := by rw [← hr1, fRoot1, hr0, hun]
 have hR : fRoot X = if r1 * r1 = X then ((if r1.val % 2 = 1 then -r1 else r1), true) else (0, false) := by rw [fRoot, hr1]
 clear hr1
 refine calls_of (hp0 := []) Tryz.func174 rfl 31 Tryz.ntmps174 rfl (HRep.nil _) ?_
 refine Sat.seq (Sat.region ?_)
 refine Tr.boxA rfl rfl ?_
 intro n1 hn1 hf1
 refine Tr.alloc (cs := (bytesV (List.replicate 32 0))) rfl Zr77 rfl ?_
 intro n2 hn2 hf2
 refine Tr.assign rfl rfl rfl ?_
 refine Tr.nil (at_n (Sat.seq ?_))
 refine Sat.draw [(1, 0), (3, 1), (3, 2), (2, 3), (4, 4)] Mixed (by kernel_rfl) ?_
 refine Tr.loadAll rfl rfl rfl Tryz.underlying77 rfl Sz77 (by exact mem1) (by (simp [ha]; done)) ?_
 refine Tr.callV rfl rfl rfl rfl Body226 (field_ones 254 15) (fun _ _ => trivial) ?_
 refine Tr.callV rfl rfl rfl rfl Body225 (hp0) (fun _ _ => trivial) ?_
 refine Tr.alloc (cs := (bytesV (List.replicate 32 0))) rfl Zr77 rfl ?_
 intro n4 hn4 hf4
 refine Tr.storeAll rfl rfl rfl rfl (by exact bytesV_cell _) Sz77 (by (simp [fb_length]; done)) (by exact mem0) (by (simp; done)) (by exact upd0) ?_
 refine Tr.nil (at_n ?_)
 refine Sat.join (ι := Unit) (fun _u => ⟨[(1, ptr n1 0), (2, ptr n2 0), (4, ptr n4 0)], [⟨n4, bytesV (fb r1), 77, 32⟩, ⟨n2, bytesV (List.replicate 32 0), 77, 32⟩, ⟨n1, bytesV a, 77, (bytesV a).length⟩]⟩) (fun _u => True) ?_ ?_
 ·
  refine Sat.seq ?_
  refine Sat.draw [(1, 0), (1, 1), (1, 3), (3, 2), (3, 4), (0, 5)] Mixed (by kernel_rfl) ?_
  refine Tr.loadAll rfl rfl rfl Tryz.underlying77 rfl Sz77 (by exact mem0) (by (simp [fb_length]; done)) ?_
  refine Tr.loadAll rfl rfl rfl Tryz.underlying77 rfl Sz77 (by exact mem0) (by (simp [fb_length]; done)) ?_
  refine Tr.loadAll rfl rfl rfl Tryz.underlying77 rfl Sz77 (by exact mem2) (by (simp [ha]; done)) ?_
  refine Tr.callV rfl rfl rfl rfl Body169 (f_mul r0 r0) (fun _ _ => trivial) ?_
  refine Tr.callV rfl rfl rfl rfl Body227 (hm (r0 * r0)) (fun _ _ => trivial) ?_
  refine Tr.not rfl rfl rfl ?_
  refine Tr.nil (at_n ?_)
  refine Sat.condNP rfl (fun hc0 => ?_) (fun hc0 => ?_)
  ·
   refine Sat.draw [(1, 0), (3, 1), (3, 2), (3, 3), (3, 4), (4, 5)] Mixed (by kernel_rfl) ?_
   refine Tr.loadAll rfl rfl rfl Tryz.underlying77 rfl Sz77 (by exact mem0) (by (simp [fb_length]; done)) ?_
   refine Tr.callV rfl rfl rfl rfl Body171 (field_Of 2) (fun _ _ => trivial) ?_
   refine Tr.callV rfl rfl rfl rfl Body226 (field_ones 251 31) (fun _ _ => trivial) ?_
   refine Tr.callV rfl rfl rfl rfl Body225 (hpu) (fun _ _ => trivial) ?_
   refine Tr.callV rfl rfl rfl rfl Body169 (f_mul r0 un) (fun _ _ => trivial) ?_
   refine Tr.storeAll rfl rfl rfl rfl (by exact bytesV_cell _) Sz77 (by (simp [fb_length]; done)) (by exact mem0) (by (simp [fb_length]; done)) (by exact upd0) ?_
   refine Tr.nil (at_n ?_)
   (rw [hr1', if_neg hc0]; exact ⟨(), trivial, weak_of (wk1 rfl (wk1 rfl (wk1 rfl wk0))) (wh1 (by exact mem0) (wh1 (by exact mem1) (wh1 (by exact mem2) wh0))) (by repeat (first | exact ns_nil | refine ns_keep rfl ?_))⟩)
  ·
   refine Sat.skip (at_n ?_)
   (rw [hr1', if_pos hc0]; exact ⟨(), trivial, weak_of (wk1 rfl (wk1 rfl (wk1 rfl wk0))) (wh1 (by exact mem0) (wh1 (by exact mem1) (wh1 (by exact mem2) wh0))) (by repeat (first | exact ns_nil | refine ns_keep rfl ?_))⟩)
 ·
  intro _u hj
  skip
  refine Sat.seq (Sat.seq ?_)
  refine Sat.draw [(1, 0), (1, 1), (1, 3), (3, 2), (3, 4), (0, 5)] Mixed (by kernel_rfl) ?_
  refine Tr.loadAll rfl rfl rfl Tryz.underlying77 rfl Sz77 (by exact mem0) (by (simp [fb_length]; done)) ?_
  refine Tr.loadAll rfl rfl rfl Tryz.underlying77 rfl Sz77 (by exact mem0) (by (simp [fb_length]; done)) ?_
  refine Tr.loadAll rfl rfl rfl Tryz.underlying77 rfl Sz77 (by exact mem2) (by (simp [ha]; done)) ?_
  refine Tr.callV rfl rfl rfl rfl Body169 (f_mul r1 r1) (fun _ _ => trivial) ?_
  refine Tr.callV rfl rfl rfl rfl Body227 (hm (r1 * r1)) (fun _ _ => trivial) ?_
  refine Tr.not rfl rfl rfl ?_
  refine Tr.nil (at_n ?_)
  refine Sat.condNP rfl (fun hc1 => ?_) (fun hc1 => ?_)
  ·
   refine Sat.seq (Sat.region ?_)
   refine Tr.build (cs := bytesV (List.replicate 32 0)) rfl rfl rfl (fun w => by kernel_rfl) ?_
   refine Tr.storeAll rfl rfl rfl rfl (by exact bytesV_cell _) Sz77 (by (simp; done)) (by exact mem1) (by (simp; done)) (by exact upd1) ?_
   refine Tr.assign rfl rfl rfl ?_
   refine Tr.nil (at_n (Sat.ret (at_r (en_r ?_))))
   refine ⟨_, [], res_cell_tmp rfl rfl rfl Tryz.underlying77 rfl Sz77 (by exact mem1) sP, sP, sP, ?_, rfl⟩
   (rw [hR, if_neg hc1, fb_zero]; done)
  ·
   refine Sat.skip (at_n ?_)
   refine Sat.join (ι := Unit) (fun _u => ⟨[(2, ptr n2 0), (4, ptr n4 0)], [⟨n4, bytesV (fb (if r1.val % 2 = 1 then -r1 else r1)), 77, 32⟩, ⟨n2, bytesV (List.replicate 32 0), 77, 32⟩]⟩) (fun _u => True) ?_ ?_
   ·
    refine Sat.seq (Sat.region ?_)
    refine Tr.loadAll rfl rfl rfl Tryz.underlying77 rfl Sz77 (by exact mem0) (by (simp [fb_length]; done)) ?_
    refine Tr.callV rfl rfl rfl rfl Body215 (f_odd r1) (fun _ _ => trivial) ?_
    refine Tr.nil (at_n ?_)
    refine Sat.condP rfl (fun hc2 => ?_) (fun hc2 => ?_)
    ·
     refine Sat.region ?_
     refine Tr.loadAll rfl rfl rfl Tryz.underlying77 rfl Sz77 (by exact mem0) (by (simp [fb_length]; done)) ?_
     refine Tr.callV rfl rfl rfl rfl Body176 (f_neg r1) (fun _ _ => trivial) ?_
     refine Tr.storeAll rfl rfl rfl rfl (by exact bytesV_cell _) Sz77 (by (simp [fb_length]; done)) (by exact mem0) (by (simp [fb_length]; done)) (by exact upd0) ?_
     refine Tr.nil (at_n ?_)
     (rw [if_pos hc2]; exact ⟨(), trivial, weak_of (wk1 rfl (wk1 rfl wk0)) (wh1 (by exact mem0) (wh1 (by exact mem1) wh0)) (by repeat (first | exact ns_nil | refine ns_keep rfl ?_))⟩)
    ·
     refine Sat.skip (at_n ?_)
     (rw [if_neg hc2]; exact ⟨(), trivial, weak_of (wk1 rfl (wk1 rfl wk0)) (wh1 (by exact mem0) (wh1 (by exact mem1) wh0)) (by repeat (first | exact ns_nil | refine ns_keep rfl ?_))⟩)
   ·
    intro _u hj
    skip
    refine Sat.seq (Sat.region ?_)
    refine Tr.loadAll rfl rfl rfl Tryz.underlying77 rfl Sz77 (by exact mem0) (by (simp [fb_length]; done)) ?_
    refine Tr.storeAll rfl rfl rfl rfl (by exact bytesV_cell _) Sz77 (by (simp [fb_length]; done)) (by exact mem1) (by (simp; done)) (by exact upd1) ?_
    refine Tr.assign rfl rfl rfl ?_
    refine Tr.nil (at_n (Sat.ret (en_r ?_)))
    refine ⟨_, [], res_cell_tmp rfl rfl rfl Tryz.underlying77 rfl Sz77 (by exact mem1) (by simp [fb_length]), sP, sP, ?_, rfl⟩
    (rw [hR, if_pos hc1]; done)

end Go.Proofs.YtpacobmjjjillaaGreat
end

section
namespace Ed
open Hw Go
set_option linter.unusedVariables false

theorem fb32 (x : Fp) : (fb x).length = 32 := fb_length x
/-- the bytes of a point -/
def pb (P : Pt Fp) : List UInt8 := if P.x.val % 2 = 1 then (fb P.y).set 31 ((fb P.y).getD 31 0 ||| 128) else fb P.y
theorem pb_length (P : Pt Fp) : (pb P).length = 32 := by
  unfold pb
  split
  · rw [List.length_set, fb_length]
  · exact fb_length _
def topB (b : List UInt8) : Bool := !decide (((b.getD 31 0 &&& 128).toNat : Int) = 0)
def lowB (b : List UInt8) : List UInt8 := b.set 31 (b.getD 31 0 &&& 127)
theorem lowB_length {b : List UInt8} (h : b.length = 32) : (lowB b).length = 32 := by rw [lowB, List.length_set, h]
/-- the X of a Y, and whether there is one -/
def xOf (Y : Fp) : Fp × Bool := fRoot ((Y * Y - 1) * finv (fD * (Y * Y) + 1))
def rdP (b : List UInt8) : Option (Pt Fp) :=
  if fb (fe (le (lowB b))) = lowB b then
    (if (xOf (fe (le (lowB b)))).2 = true ∧ ¬ (topB b = true ∧ (xOf (fe (le (lowB b)))).1 = 0) then
      some ⟨if topB b = true then - (xOf (fe (le (lowB b)))).1 else (xOf (fe (le (lowB b)))).1, fe (le (lowB b))⟩
    else none)
  else none
theorem fRoot_sq {X : Fp} (h : (fRoot X).2 = true) : (fRoot X).1 * (fRoot X).1 = X := by
  unfold fRoot at h ⊢
  by_cases h1 : fRoot1 X * fRoot1 X = X
  · rw [if_pos h1]
    simp only
    split
    · rw [sq_neg, h1]
    · exact h1
  · rw [if_neg h1] at h; cases h
theorem xOf_on {Y : Fp} (h : (xOf Y).2 = true) : cv.on ⟨(xOf Y).1, Y⟩ :=
  cv.on_read (finv_mul (cv.below_ne Y)) (fRoot_sq h)
theorem neg_mk (x y : Fp) : neg ⟨x, y⟩ = ⟨-x, y⟩ := rfl
theorem rdP_on {b : List UInt8} {P : Pt Fp} (h : rdP b = some P) : cv.on P := by
  unfold rdP at h
  split at h
  · split at h
    · rename_i h1 h2
      simp only [Option.some.injEq] at h
      subst h
      have := xOf_on h2.1
      split
      · have h3 := cv.on_neg this
        rw [neg_mk] at h3
        exact h3
      · exact this
    · cases h
  · cases h
/-- what Check says of a point's numbers -/
def pchk (x y : List UInt8) : Int := if fb (fe (le x)) = x ∧ fb (fe (le y)) = y ∧ fe (le y) * fe (le y) - fe (le x) * fe (le x) = 1 + fD * (fe (le x) * fe (le x) * (fe (le y) * fe (le y))) then 0 else 2
theorem pchk_on {P : Pt Fp} (h : cv.on P) : pchk (fb P.x) (fb P.y) = 0 := by
  have h1 := (cv.on_iff P).1 h
  unfold pchk
  rw [fe_fb, fe_fb]
  exact if_pos (And.intro (Eq.refl (fb P.x)) (And.intro (Eq.refl (fb P.y)) h1))
/-- the base point -/
def bX : List UInt8 := [26, 213, 37, 143, 96, 45, 86, 201, 178, 167, 37, 149, 96, 199, 44, 105, 92, 220, 214, 253, 49, 226, 164, 192, 254, 83, 110, 205, 211, 54, 105, 33]
def bY : List UInt8 := (List.replicate 32 102).set 0 88
def bP : Pt Fp := ⟨fe (le bX), fe (le bY)⟩
theorem bP_x : fb bP.x = bX := by kernel_rfl
theorem bP_y : fb bP.y = bY := by kernel_rfl
theorem bP_on : cv.on bP := by
  show bP.y * bP.y - bP.x * bP.x = 1 + fD * bP.x * bP.x * bP.y * bP.y
  kernel_rfl
theorem lin_step (a b j : Nat) (hj : j < 256) {P Q : Pt Fp} (hP : cv.on P) (hQ : cv.on Q) : cv.lin (a / 2 ^ (256 - (j + 1))) (b / 2 ^ (256 - (j + 1))) P Q =
    (if a.testBit (255 - j) then (if b.testBit (255 - j) then cv.add (cv.add (cv.lin (a / 2 ^ (256 - j)) (b / 2 ^ (256 - j)) P Q) (cv.lin (a / 2 ^ (256 - j)) (b / 2 ^ (256 - j)) P Q)) (cv.add P Q) else cv.add (cv.add (cv.lin (a / 2 ^ (256 - j)) (b / 2 ^ (256 - j)) P Q) (cv.lin (a / 2 ^ (256 - j)) (b / 2 ^ (256 - j)) P Q)) P)
     else (if b.testBit (255 - j) then cv.add (cv.add (cv.lin (a / 2 ^ (256 - j)) (b / 2 ^ (256 - j)) P Q) (cv.lin (a / 2 ^ (256 - j)) (b / 2 ^ (256 - j)) P Q)) Q else cv.add (cv.lin (a / 2 ^ (256 - j)) (b / 2 ^ (256 - j)) P Q) (cv.lin (a / 2 ^ (256 - j)) (b / 2 ^ (256 - j)) P Q))) := by
  have ha := next_div a j hj
  have hb := next_div b j hj
  rw [ha, hb]
  have e : ∀ n : Nat, n.testBit (255 - j) = decide (n / 2 ^ (255 - j) % 2 = 1) := fun n => Nat.testBit_eq_decide_div_mod_eq
  rw [e a, e b]
  rw [← cv.lin_two hP hQ]
  generalize a / 2 ^ (256 - j) = A
  generalize b / 2 ^ (256 - j) = B
  have h1 : a / 2 ^ (255 - j) % 2 = 0 ∨ a / 2 ^ (255 - j) % 2 = 1 := by omega
  have h2 : b / 2 ^ (255 - j) % 2 = 0 ∨ b / 2 ^ (255 - j) % 2 = 1 := by omega
  rcases h1 with h1 | h1 <;> rcases h2 with h2 | h2 <;> rw [h1, h2]
  · rfl
  · exact cv.lin_right hP hQ _ _
  · exact cv.lin_left hP hQ _ _
  · exact cv.lin_both hP hQ _ _
theorem lin_tt {a b j : Nat} (hj : j < 256) {P Q : Pt Fp} (hP : cv.on P) (hQ : cv.on Q) (h1 : a.testBit (255 - j) = true) (h2 : b.testBit (255 - j) = true) : cv.lin (a / 2 ^ (256 - (j + 1))) (b / 2 ^ (256 - (j + 1))) P Q = cv.add (cv.add (cv.lin (a / 2 ^ (256 - j)) (b / 2 ^ (256 - j)) P Q) (cv.lin (a / 2 ^ (256 - j)) (b / 2 ^ (256 - j)) P Q)) (cv.add P Q) := by
  rw [lin_step a b j hj hP hQ, h1, h2]; rfl
theorem lin_tf {a b j : Nat} (hj : j < 256) {P Q : Pt Fp} (hP : cv.on P) (hQ : cv.on Q) (h1 : a.testBit (255 - j) = true) (h2 : b.testBit (255 - j) = false) : cv.lin (a / 2 ^ (256 - (j + 1))) (b / 2 ^ (256 - (j + 1))) P Q = cv.add (cv.add (cv.lin (a / 2 ^ (256 - j)) (b / 2 ^ (256 - j)) P Q) (cv.lin (a / 2 ^ (256 - j)) (b / 2 ^ (256 - j)) P Q)) P := by
  rw [lin_step a b j hj hP hQ, h1, h2]; rfl
theorem lin_ft {a b j : Nat} (hj : j < 256) {P Q : Pt Fp} (hP : cv.on P) (hQ : cv.on Q) (h1 : a.testBit (255 - j) = false) (h2 : b.testBit (255 - j) = true) : cv.lin (a / 2 ^ (256 - (j + 1))) (b / 2 ^ (256 - (j + 1))) P Q = cv.add (cv.add (cv.lin (a / 2 ^ (256 - j)) (b / 2 ^ (256 - j)) P Q) (cv.lin (a / 2 ^ (256 - j)) (b / 2 ^ (256 - j)) P Q)) Q := by
  rw [lin_step a b j hj hP hQ, h1, h2]; rfl
theorem lin_ff {a b j : Nat} (hj : j < 256) {P Q : Pt Fp} (hP : cv.on P) (hQ : cv.on Q) (h1 : a.testBit (255 - j) = false) (h2 : b.testBit (255 - j) = false) : cv.lin (a / 2 ^ (256 - (j + 1))) (b / 2 ^ (256 - (j + 1))) P Q = cv.add (cv.lin (a / 2 ^ (256 - j)) (b / 2 ^ (256 - j)) P Q) (cv.lin (a / 2 ^ (256 - j)) (b / 2 ^ (256 - j)) P Q) := by
  rw [lin_step a b j hj hP hQ, h1, h2]; rfl
theorem lin_first (a b : List UInt8) (ha : a.length = 32) (hb : b.length = 32) (P Q : Pt Fp) : (Wd.of (zero : Pt Fp)).rep (cv.lin (le a / 2 ^ (256 - 0)) (le b / 2 ^ (256 - 0)) P Q) := by
  have h1 := le32 ha
  have h2 := le32 hb
  rw [show 256 - 0 = 256 from rfl, Nat.div_eq_of_lt h1, Nat.div_eq_of_lt h2, cv.lin_zero]
  exact cv.rep_of zero
theorem lin_last (a b : Nat) (P Q : Pt Fp) : cv.lin (a / 2 ^ (256 - 256)) (b / 2 ^ (256 - 256)) P Q = cv.lin a b P Q := by rw [Nat.sub_self, Nat.pow_zero, Nat.div_one, Nat.div_one]
theorem lin_one (a : Nat) (P : Pt Fp) : cv.lin a 0 P zero = cv.mul a P := cv.add_zero _
/-- 8 times a point -/
def eight (P : Pt Fp) : Pt Fp := cv.add (cv.add (cv.add P P) (cv.add P P)) (cv.add (cv.add P P) (cv.add P P))
end Ed
end

section
namespace Hw
open Go
set_option linter.unusedSimpArgs false
set_option linter.unusedVariables false
set_option maxRecDepth 100000

/-- eight words, highest first -/
theorem lt_sp {n a b c : Nat} (h : n < 2 ^ c) (hc : a + b = c) : n < 2 ^ a * 2 ^ b := by subst hc; rw [← Nat.pow_add]; exact h
theorem top_sp {n a b c : Nat} (h : n < 2 ^ c) (hc : a + b = c) : n / 2 ^ a % 2 ^ b = n / 2 ^ a := Nat.mod_eq_of_lt (Nat.div_lt_of_lt_mul (lt_sp h hc))
theorem le_2p {a c : Nat} (h : a ≤ c) : 2 ^ a ≤ 2 ^ c := Nat.pow_le_pow_right (by decide) h
theorem pos_2p (c : Nat) : 0 < 2 ^ c := Nat.pow_pos (by decide)
def words8 (n : Nat) : List UInt64 := [448, 384, 320, 256, 192, 128, 64, 0].map fun e => w64 (n / 2 ^ e)
theorem words8_length (n : Nat) : (words8 n).length = 8 := rfl
theorem words8_zero : words8 0 = List.replicate 8 0 := by
  simp only [words8, List.map_cons, List.map_nil, Nat.zero_div]; rfl
theorem wvo8 (a b c d e f g h : UInt64) : wv [a, b, c, d, e, f, g, h] = ((((((a.toNat * 2 ^ 64 + b.toNat) * 2 ^ 64 + c.toNat) * 2 ^ 64 + d.toNat) * 2 ^ 64 + e.toNat) * 2 ^ 64 + f.toNat) * 2 ^ 64 + g.toNat) * 2 ^ 64 + h.toNat := by
  simp [wv]
theorem horner (n k : Nat) : n / 2 ^ (k + 64) * 2 ^ 64 + n / 2 ^ k % 2 ^ 64 = n / 2 ^ k := by
  rw [Nat.pow_add, ← Nat.div_div_eq_div_mul, Nat.mul_comm]
  exact Nat.div_add_mod _ _
theorem horn2 {n k m : Nat} (h : k + 64 = m) : n / 2 ^ m * 2 ^ 64 + n / 2 ^ k % 2 ^ 64 = n / 2 ^ k := by subst h; exact horner n k
theorem wv_words8 {n : Nat} (h : n < 2 ^ 512) : wv (words8 n) = n := by
  simp only [words8, List.map_cons, List.map_nil]
  rw [wvo8]
  simp only [w64_toNat]
  have h0 := top_sp (a := 448) (b := 64) h rfl
  rw [h0, horn2 (k := 384) (m := 448) rfl, horn2 (k := 320) (m := 384) rfl, horn2 (k := 256) (m := 320) rfl, horn2 (k := 192) (m := 256) rfl, horn2 (k := 128) (m := 192) rfl, horn2 (k := 64) (m := 128) rfl, horn2 (k := 0) (m := 64) rfl, Nat.pow_zero, Nat.div_one]
theorem words8_get (n : Nat) : ∀ j, j < 8 → (words8 n)[7 - j]? = some (w64 (n / 2 ^ (64 * j))) := fun j hj => by
  have e : ∀ j, j < 8 → ([448, 384, 320, 256, 192, 128, 64, 0] : List Nat)[7 - j]? = some (64 * j) := by decide
  rw [words8, List.getElem?_map, e j hj]; rfl
theorem pow256 (k : Nat) : 256 ^ k = 2 ^ (8 * k) := by rw [show (256 : Nat) = 2 ^ 8 by decide, ← Nat.pow_mul]
/-- one byte more -/
theorem words8_step (n k : Nat) (x : UInt8) (hn : n < 256 ^ k) (hk : k < 64) :
    words8 (n + 256 ^ k * x.toNat) = (words8 n).set (7 - k / 8) ((words8 n).getD (7 - k / 8) 0 ||| shl64 x.toUInt64 (8 * (k % 8))) := by
  have hx := x.toNat_lt
  apply List.ext_getElem?
  intro i
  rcases Nat.lt_or_ge i 8 with hi | hi
  · obtain ⟨j, hj, rfl⟩ : ∃ j, j < 8 ∧ i = 7 - j := ⟨7 - i, by omega, by omega⟩
    rw [words8_get _ j hj, List.getElem?_set, List.getD, words8_get _ (k / 8) oM, Option.getD_some]
    rw [pow256] at hn
    rcases Nat.lt_trichotomy j (k / 8) with h | h | h
    · rw [if_neg oM, words8_get _ j hj, pow256]
      congr 1
      apply UInt64.toNat_inj.1
      rw [w64_toNat, w64_toNat]
      have e : 2 ^ (8 * k) * x.toNat = 2 ^ (64 * j) * (2 ^ 64 * (2 ^ (8 * k - 64 * j - 64) * x.toNat)) := by
        rw [← Nat.mul_assoc, ← Nat.mul_assoc, ← Nat.pow_add, ← Nat.pow_add]
        congr 2; omega
      rw [e, Nat.add_mul_div_left _ _ (Nat.pow_pos dE), Nat.add_mul_mod_self_left]
    · subst h
      rw [if_pos rfl, if_pos (by rw [words8_length]; omega), pow256]
      congr 1
      apply UInt64.toNat_inj.1
      rw [UInt64.toNat_or, shl64_toNat, w64_toNat, w64_toNat, UInt8.toNat_toUInt64]
      have e : 2 ^ (8 * k) * x.toNat = 2 ^ (64 * (k / 8)) * (2 ^ (8 * (k % 8)) * x.toNat) := by
        rw [← Nat.mul_assoc, ← Nat.pow_add]
        congr 2; omega
      have hl : n / 2 ^ (64 * (k / 8)) < 2 ^ (8 * (k % 8)) := by
        apply Nat.div_lt_of_lt_mul
        rw [← Nat.pow_add]
        rw [show 64 * (k / 8) + 8 * (k % 8) = 8 * k by omega]; exact hn
      have hm : 8 * (k % 8) ≤ 56 := by omega
      have h8 : 2 ^ (8 * (k % 8)) ≤ 2 ^ 56 := Nat.pow_le_pow_right dE hm
      have hb : x.toNat * 2 ^ (8 * (k % 8)) < 2 ^ 64 := by
        calc x.toNat * 2 ^ (8 * (k % 8)) ≤ x.toNat * 2 ^ 56 := Nat.mul_le_mul_left _ h8
          _ < 2 ^ 64 := by omega
      rw [e, Nat.add_mul_div_left _ _ (Nat.pow_pos dE), Nat.mod_eq_of_lt hb, Nat.mod_eq_of_lt (Nat.lt_of_lt_of_le hl (Nat.le_trans h8 dE))]
      rw [Nat.mul_comm x.toNat, Nat.or_comm, ← Nat.two_pow_add_eq_or_of_lt hl, Nat.add_comm, Nat.mod_eq_of_lt]
      calc 2 ^ (8 * (k % 8)) * x.toNat + n / 2 ^ (64 * (k / 8)) < 2 ^ (8 * (k % 8)) * (x.toNat + 1) := by rw [Nat.mul_add]; omega
        _ ≤ 2 ^ (8 * (k % 8)) * 2 ^ 8 := Nat.mul_le_mul_left _ hx
        _ = 2 ^ (8 * (k % 8) + 8) := by rw [Nat.pow_add]
        _ ≤ 2 ^ 64 := Nat.pow_le_pow_right dE oM
    · rw [if_neg oM, words8_get _ j hj, pow256]
      congr 1
      have hp : 2 ^ (8 * (k + 1)) ≤ 2 ^ (64 * j) := Nat.pow_le_pow_right dE oM
      have h1 : n + 2 ^ (8 * k) * x.toNat < 2 ^ (8 * (k + 1)) := by
        rw [show 8 * (k + 1) = 8 * k + 8 by omega, Nat.pow_add]
        calc n + 2 ^ (8 * k) * x.toNat < 2 ^ (8 * k) * (x.toNat + 1) := by rw [Nat.mul_add]; omega
          _ ≤ 2 ^ (8 * k) * 2 ^ 8 := Nat.mul_le_mul_left _ hx
      rw [Nat.div_eq_of_lt (Nat.lt_of_lt_of_le h1 hp), Nat.div_eq_of_lt (Nat.lt_of_lt_of_le (Nat.lt_of_le_of_lt (Nat.le_add_right _ _) h1) hp)]
  · rw [List.getElem?_eq_none (by rw [words8_length]; exact hi), List.getElem?_eq_none (by rw [List.length_set, words8_length]; exact hi)]

theorem le_take_succ (l : List UInt8) (k : Nat) (h : k < l.length) : le (l.take (k + 1)) = le (l.take k) + 256 ^ k * (l.getD k 0).toNat := by
  rw [List.take_succ_eq_append_getElem h, le_append, List.length_take, Nat.min_eq_left oM]
  simp [le, List.getD, h]
theorem le_take_lt (l : List UInt8) (k : Nat) : le (l.take k) < 256 ^ k := by
  refine Nat.lt_of_lt_of_le (le_lt _) (Nat.pow_le_pow_right dE ?_)
  rw [List.length_take]; omega
theorem take_512 (l : List UInt8) (k : Nat) (h : k ≤ 64) : le (l.take k) < 2 ^ 512 := by
  refine Nat.lt_of_lt_of_le (le_take_lt l k) ?_
  rw [pow256]; exact le_2p (c := 512) (by omega)
theorem L_pos : 0 < L := by decide
theorem L_lt : L < 2 ^ 256 := by decide
theorem le_leb32 {n : Nat} (h : n < 2 ^ 256) : le (leb 32 n) = n := by
  rw [le_leb]; exact Nat.mod_eq_of_lt h
theorem lm (n : Nat) : n % L < 2 ^ 256 := Nat.lt_trans (Nat.mod_lt _ L_pos) L_lt
theorem le_byte (l : List UInt8) (k : Nat) : (l.getD k 0).toNat = le l / 256 ^ k % 256 := by
  rcases Nat.lt_or_ge k l.length with h | h
  · rw [le_drop l k (Nat.le_of_lt h)]
    have : l.drop k = l.getD k 0 :: l.drop (k + 1) := by
      rw [List.getD_eq_getElem?_getD, List.getElem?_eq_getElem h]
      exact List.drop_eq_getElem_cons h
    rw [this, le]
    have := (l.getD k 0).toNat_lt
    omega
  · rw [List.getD_eq_getElem?_getD, List.getElem?_eq_none h, Nat.div_eq_of_lt (Nat.lt_of_lt_of_le (le_lt l) (Nat.pow_le_pow_right dE h))]
    rfl
theorem le_bit (l : List UInt8) (k : Nat) : (l.getD (k / 8) 0).toNat / 2 ^ (k % 8) % 2 = le l / 2 ^ k % 2 := by
  rw [le_byte, pow256, show (256 : Nat) = 2 ^ (k % 8) * 2 ^ (8 - k % 8) by rw [← Nat.pow_add, show k % 8 + (8 - k % 8) = 8 by omega], Nat.mod_mul_right_div_self, Nat.div_div_eq_div_mul, ← Nat.pow_add, show 8 * (k / 8) + k % 8 = k by omega]
  exact Nat.mod_mod_of_dvd _ ⟨2 ^ (8 - k % 8 - 1), by rw [← Nat.pow_succ']; congr 1; omega⟩
theorem bit_and (l : List UInt8) (k : Nat) : (decide (((shr8 (l.getD (k / 8) 0) (k % 8) &&& 1).toNat : Int) = 1)) = (le l).testBit k := by
  rw [UInt8.toNat_and, shr8_toNat, show (1 : UInt8).toNat = 2 ^ 1 - 1 by decide, Nat.and_two_pow_sub_one_eq_mod, Nat.pow_one, le_bit, Nat.testBit_eq_decide_div_mod_eq]
  congr 1
  apply propext; omega
theorem bit_rem (l : List UInt8) (k : Nat) : (decide (((UInt8.ofNat ((shr8 (l.getD (k / 8) 0) (k % 8)).toNat % 2)).toNat : Int) = 1)) = (le l).testBit k := by
  rw [shr8_toNat, le_bit, UInt8.toNat_ofNat', Nat.testBit_eq_decide_div_mod_eq]
  congr 1
  apply propext; omega
end Hw
end

section
namespace Go.Proofs.YtpacobmjjjillaaGreat
open Go Hw
set_option linter.unusedVariables false
set_option linter.unusedSimpArgs false

set_option maxRecDepth 100000 in
set_option maxHeartbeats 1000000 in
theorem scalar_canon (a : List UInt8) (ha : a.length = 32) : Meets Tryz.prog 107 [agg (bytesV a)] [] (fun _ => True) (fun v out => v = .bool (decide (le a < L)) ∧ out = []) := by
 intro W hW
 refine calls_of (hp0 := []) Tryz.func107 rfl 7 Tryz.ntmps107 rfl (HRep.nil _) ?_
 refine Sat.seq (Sat.region ?_)
 refine Tr.boxA rfl rfl ?_
 intro n1 hn1 hf1
 refine Tr.assign rfl rfl rfl ?_
 refine Tr.nil (at_n (Sat.seq (Sat.region ?_)))
 refine Tr.loadAll rfl rfl rfl Tryz.underlying77 rfl Sz77 (by exact mem0) (by (simp [ha]; done)) ?_
 refine Tr.callV rfl rfl rfl rfl Body162 (scalar_load_n _ (by simp [ha])) (fun _ _ => trivial) ?_
 refine Tr.callV rfl rfl rfl rfl Body167 (scalar_modulus_n) (fun _ _ => trivial) ?_
 refine Tr.callV rfl rfl rfl rfl Body166 (scalar_below_n _ _ (le32 ha) L_lt) (fun _ _ => trivial) ?_
 refine Tr.assign rfl rfl rfl ?_
 refine Tr.nil (at_n (Sat.ret (en_r ?_)))
 refine ⟨_, [], res_tmp rfl rfl, sP, sP, ?_, rfl⟩
 rfl

set_option maxRecDepth 100000 in
set_option maxHeartbeats 1000000 in
theorem scalar_rest (b o c n : Nat) (xs : List UInt8) (hx : xs.length = n) (hn : n ≤ 64) : Meets Tryz.prog 161 [.slice (some ⟨b, o, none⟩) n c] [] (fun W => Sees W b o (bytesV xs)) (fun v out => v = .tuple #[agg (bytesV (leb 32 (le xs % L))), i64 0] ∧ out = []) := by
 intro W hW
 refine calls_of (hp0 := []) Tryz.func161 rfl 34 Tryz.ntmps161 rfl (HRep.nil _) ?_
 refine Sat.seq (Sat.region ?_)
 refine Tr.alloc (cs := (bytesV (List.replicate 32 0))) rfl Zr77 rfl ?_
 intro n2 hn2 hf2
 refine Tr.assign rfl rfl rfl ?_
 refine Tr.nil (at_n (Sat.seq (Sat.seq (Sat.region ?_))))
 refine Tr.move rfl rfl rfl ?_
 refine Tr.lenSl rfl rfl rfl Tryz.underlying39 ?_
 refine Tr.gtr rfl rfl rfl rfl (decide_eq_false oM) ?_
 refine Tr.nil (at_n ?_)
 refine Sat.cond_f rfl (rfl) ?_
 refine Sat.skip (at_n (Sat.seq (Sat.region ?_)))
 refine Tr.alloc (cs := (wordsV (List.replicate 8 0))) rfl Zr135 rfl ?_
 intro n4 hn4 hf4
 refine Tr.nil (at_n (Sat.seq (Sat.seq (Sat.region ?_))))
 refine Tr.move rfl rfl rfl ?_
 refine Tr.lenSl rfl rfl rfl Tryz.underlying39 ?_
 refine Tr.move rfl rfl rfl ?_
 refine Tr.nil (at_n (Sat.block ?_))
 refine Sat.loop (ι := Nat) (fun k => ⟨[(2, ptr n2 0), (4, ptr n4 0), (11, .slice (some ⟨b, o, none⟩) n c), (12, i64 (n : Int)), (13, i64 (k : Int))], [⟨n4, wordsV (words8 (le (xs.take k))), 135, 8⟩, ⟨n2, bytesV (List.replicate 32 0), 77, 32⟩]⟩) (fun k => k ≤ n) (fun k => n - k) (0) ?_ ?_ ?_
 · omega
 · exact weak_of (wk1 rfl (wk1 rfl (wk1 rfl (wk1 rfl (wk1 rfl wk0))))) (wh1 (by rw [List.take_zero, show le [] = 0 from rfl, words8_zero]; exact mem0) (wh1 (by exact mem1) wh0)) (by repeat (first | exact ns_nil | refine ns_keep rfl ?_))
 ·
  rintro k hi
  refine Sat.seq (Sat.region ?_)
  refine Tr.lss rfl rfl rfl rfl rfl ?_
  refine Tr.nil (at_n (Sat.seq ?_))
  refine Sat.condP rfl (fun hc1 => ?_) (fun hc1 => ?_)
  ·
   refine Sat.skip (at_n (Sat.seq (Sat.block (Sat.seq (Sat.region ?_)))))
   refine Tr.move rfl rfl rfl ?_
   refine Tr.idxSlO rfl rfl rfl rfl Tryz.underlying39 Sz5 _ rfl oM ?_
   refine Tr.loadE rfl rfl rfl Tryz.underlying5 rfl (by (simp; done)) (hW _ _ (get_bytes oM)) ?_
   refine Tr.assign rfl rfl rfl ?_
   refine Tr.assign rfl rfl rfl ?_
   refine Tr.nil (at_n ?_)
   refine Sat.draw [(0, 0), (0, 1), (0, 2), (0, 3), (1, 4), (0, 5), (0, 6), (0, 7), (0, 8), (0, 9), (0, 10), (0, 11), (0, 12), (4, 13)] Mixed (by kernel_rfl) ?_
   refine Tr.move rfl rfl rfl ?_
   refine Tr.quo_i64 rfl rfl rfl rfl oM ?_
   refine Tr.sub_i64 rfl rfl rfl rfl oM ?_
   refine Tr.idxArr1 rfl rfl rfl rfl Tryz.underlying135 Sz22 (7 - k / 8) oM oM ?_
   refine Tr.load1 rfl rfl rfl Tryz.underlying22 rfl (by exact mem0) (by exact get_words (by (simp [words8_length]; omega))) ?_
   refine Tr.move rfl rfl rfl ?_
   refine Tr.conv rfl rfl rfl Tryz.underlying5 Tryz.underlying22 (cv_u8_u64 _) ?_
   refine Tr.move rfl rfl rfl ?_
   refine Tr.rem_i64 rfl rfl rfl rfl oM ?_
   refine Tr.mul_i64 rfl rfl rfl rfl oM ?_
   refine Tr.shl_u64 rfl rfl rfl rfl (8 * (k % 8)) oM oM ?_
   refine Tr.or_u64 rfl rfl rfl rfl ?_
   refine Tr.idxArr1 rfl rfl rfl rfl Tryz.underlying135 Sz22 (7 - k / 8) oM oM ?_
   refine Tr.store1 rfl rfl rfl rfl rfl Sz22 (by exact mem0) (by (simp [words8_length]; omega)) (by exact set_words _ _ _) (by exact upd0) ?_
   refine Tr.nil (bl_n (at_n (Sat.region ?_)))
   refine Tr.add_i64 rfl rfl rfl rfl oM ?_
   refine Tr.move rfl rfl rfl ?_
   refine Tr.nil (at_n ?_)
   exact ⟨k + 1, by omega, by omega, weak_of (wk1 rfl (wk1 rfl (wk1 rfl (wk1 rfl (wk1 rfl wk0))))) (wh1 (by rw [le_take_succ xs k oM, words8_step _ _ _ (le_take_lt xs k) oM]; exact mem0) (wh1 (by exact mem1) wh0)) (by repeat (first | exact ns_nil | refine ns_keep rfl ?_))⟩
  ·
   obtain rfl : k = n := by omega
   refine Sat.exit (at_x (at_x (bl_h (at_n (Sat.seq (Sat.region ?_))))))
   refine Tr.sliceArr rfl rfl rfl Tryz.underlying135 Sz22 ?_
   refine Tr.callV rfl rfl rfl rfl Body165 (scalar_residue _ _ _ 8 (words8 (le (xs.take k))) rfl oM) (fun W h => sees_own h (by exact mem0)) ?_
   refine Tr.storeAll rfl rfl rfl rfl (by simp [isCell]) Sz77 (by (simp [leb_length]; done)) (by exact mem1) (by (simp; done)) (by exact upd1) ?_
   refine Tr.assign rfl rfl rfl ?_
   refine Tr.nil (at_n (Sat.ret (en_r ?_)))
   refine ⟨_, [], res_cell_tmp rfl rfl rfl Tryz.underlying77 rfl Sz77 (by exact mem1) (by simp [leb_length]), sP, sP, ?_, rfl⟩
   rw [wv_words8 (take_512 xs k oM), List.take_of_length_le oM]

set_option maxRecDepth 100000 in
set_option maxHeartbeats 1000000 in
theorem scalar_bit_at (a : List UInt8) (ha : a.length = 32) (k : Nat) (hk : k < 256) : Meets Tryz.prog 182 [agg (bytesV a), i64 (k : Int)] [] (fun _ => True) (fun v out => v = .bool ((le a).testBit k) ∧ out = []) := by
 intro W hW
 refine calls_of (hp0 := []) Tryz.func182 rfl 22 Tryz.ntmps182 rfl (HRep.nil _) ?_
 refine Sat.seq (Sat.region ?_)
 refine Tr.boxA rfl rfl ?_
 intro n2 hn2 hf2
 refine Tr.assign rfl rfl rfl ?_
 refine Tr.nil (at_n (Sat.seq (Sat.region ?_)))
 refine Tr.move rfl rfl rfl ?_
 refine Tr.geq rfl rfl rfl rfl (decide_eq_true oM) ?_
 refine Tr.move rfl rfl rfl ?_
 refine Tr.move rfl rfl rfl ?_
 refine Tr.lss rfl rfl rfl rfl (decide_eq_true oM) ?_
 refine Tr.pick rfl rfl rfl rfl rfl rfl ?_
 refine Tr.move rfl rfl rfl ?_
 refine Tr.move rfl rfl rfl ?_
 refine Tr.quo_i64 rfl rfl rfl rfl oM ?_
 refine Tr.idxArr1 rfl rfl rfl rfl Tryz.underlying77 Sz5 (k / 8) oM oM ?_
 refine Tr.load1 rfl rfl rfl Tryz.underlying5 rfl (by exact mem0) (by exact get_bytes oM) ?_
 refine Tr.move rfl rfl rfl ?_
 refine Tr.rem_i64 rfl rfl rfl rfl oM ?_
 refine Tr.shr_u8 rfl rfl rfl rfl (k % 8) oM oM ?_
 refine Tr.and_u8 rfl rfl rfl (show evIn _ _ = some (u8 1) from rfl) ?_
 refine Tr.eqi rfl rfl rfl rfl rfl ?_
 refine Tr.pick rfl rfl rfl rfl rfl rfl ?_
 refine Tr.assign rfl rfl rfl ?_
 refine Tr.nil (at_n (Sat.ret (en_r ?_)))
 refine ⟨_, [], res_tmp rfl rfl, sP, sP, ?_, rfl⟩
 rw [← bit_and a k]; rfl

end Go.Proofs.YtpacobmjjjillaaGreat
end

section
namespace Go.Proofs.YtpacobmjjjillaaGreat
open Go Hw
set_option linter.unusedVariables false
set_option linter.unusedSimpArgs false

open Ed

/-- a point, and four numbers, in memory -/
def ptc (P : Pt Fp) : Point := ⟨fb P.x, fb P.y⟩
def wdc (w : Wd Fp) : wide := ⟨fb w.x, fb w.y, fb w.z, fb w.t⟩
theorem ptc_ok (P : Pt Fp) : (ptc P).ok := ⟨fb32 _, fb32 _⟩
theorem wdc_ok (w : Wd Fp) : (wdc w).ok := ⟨fb32 _, fb32 _, fb32 _, fb32 _⟩
theorem sees_subC {w : World} {b o off : Nat} {cs l : List Value} (hs : Sees w b o cs) (h : ∀ (j : Nat) (v : Value), l[j]? = some v → cs[off + j]? = some v) : Sees w b (o + off) l := fun j v hj => by
  have := hs _ v (h j v hj)
  rwa [← Nat.add_assoc] at this
theorem ptc_inj {P Q : Pt Fp} : ptc P = ptc Q ↔ P = Q := ⟨fun h => by
  obtain ⟨x, y⟩ := P
  obtain ⟨z, w⟩ := Q
  simp only [ptc, Point.mk.injEq, fb_inj] at h
  rw [h.1, h.2], fun h => by rw [h]⟩

set_option maxRecDepth 100000 in
set_option maxHeartbeats 1000000 in
theorem curve_D  : Meets Tryz.prog 173 [] [] (fun _ => True) (fun v out => v = agg (bytesV (fb fD)) ∧ out = []) := by
 intro W hW
 refine calls_of (hp0 := []) Tryz.func173 rfl 2 Tryz.ntmps173 rfl (HRep.nil _) ?_
 refine Sat.seq (Sat.region ?_)
 refine Tr.alloc (cs := (bytesV (List.replicate 32 0))) rfl Zr77 rfl ?_
 intro n0 hn0 hf0
 refine Tr.nil (at_n (Sat.seq (Sat.region ?_)))
 refine Tr.build (cs := bytesV (fb fD)) rfl rfl rfl (fun w => by kernel_rfl) ?_
 refine Tr.storeAll rfl rfl rfl rfl (by exact bytesV_cell _) Sz77 (by (simp [fb_length]; done)) (by exact mem0) (by (simp; done)) (by exact upd0) ?_
 refine Tr.nil (at_n (Sat.ret (en_r ?_)))
 refine ⟨_, [], res_cell rfl rfl Tryz.underlying77 rfl Sz77 (by exact mem0) (by simp [fb_length]), sP, sP, ?_, rfl⟩
 rfl

set_option maxRecDepth 100000 in
set_option maxHeartbeats 1000000 in
theorem curve_Zero  : Meets Tryz.prog 178 [] [] (fun _ => True) (fun v out => v = agg (ptc (zero : Pt Fp)).cells ∧ out = []) := by
 intro W hW
 refine calls_of (hp0 := []) Tryz.func178 rfl 3 Tryz.ntmps178 rfl (HRep.nil _) ?_
 refine Sat.seq (Sat.region ?_)
 refine Tr.alloc (cs := Point.zero.cells) rfl Point.zr rfl ?_
 intro n0 hn0 hf0
 refine Tr.nil (at_n (Sat.seq (Sat.region ?_)))
 refine Tr.callV rfl rfl rfl rfl Body171 (f_one) (fun _ _ => trivial) ?_
 refine Tr.build (cs := (⟨fb 0, fb 1⟩ : Point).cells) rfl rfl rfl (fun w => by kernel_rfl) ?_
 refine Tr.storeAll rfl rfl rfl rfl (Point.isCell (by exact ⟨fb32 _, fb32 _⟩)) Sz79 (Point.length (by exact ⟨fb32 _, fb32 _⟩)) (by exact mem0) (Point.length (by exact Point.zero_ok)) (by exact upd0) ?_
 refine Tr.nil (at_n (Sat.ret (en_r ?_)))
 refine ⟨_, [], res_cell rfl rfl Tryz.underlying79 rfl Sz79 (by exact mem0) (by exact Point.length (by exact ⟨fb32 _, fb32 _⟩)), sP, sP, ?_, rfl⟩
 rfl

theorem base_len {k : Nat} (h : k ≤ 32) : (bytesV (bX ++ (List.replicate k 102 ++ List.replicate (32 - k) 0))).length = 64 := by
  rw [bytesV, List.length_map, List.length_append, List.length_append, List.length_replicate, List.length_replicate, show bX.length = 32 from rfl]; omega
theorem base_step {k : Nat} (h : k < 32) : (bX ++ (List.replicate k (102 : UInt8) ++ List.replicate (32 - k) 0)).set (32 + k) 102 = bX ++ (List.replicate (k + 1) 102 ++ List.replicate (32 - (k + 1)) 0) := by
  rw [List.set_append_right _ _ (by rw [show bX.length = 32 from rfl]; omega), show bX.length = 32 from rfl, show 32 + k - 32 = k by omega, show 32 - k = (32 - (k + 1)) + 1 by omega, List.replicate_succ, List.set_append_right _ _ sP]
  simp [List.replicate_succ']
theorem base_end : bytesV ((bX ++ (List.replicate 32 (102 : UInt8) ++ List.replicate (32 - 32) 0)).set 32 88) = (ptc bP).cells := by
  show _ = bytesV (fb bP.x) ++ bytesV (fb bP.y)
  rw [bP_x, bP_y]
  kernel_rfl

set_option maxRecDepth 100000 in
set_option maxHeartbeats 2000000 in
theorem curve_Base  : Meets Tryz.prog 110 [] [] (fun _ => True) (fun v out => v = agg (ptc bP).cells ∧ out = []) := by
 intro W hW
 refine calls_of (hp0 := []) Tryz.func110 rfl 15 Tryz.ntmps110 rfl (HRep.nil _) ?_
 refine Sat.seq (Sat.region ?_)
 refine Tr.alloc (cs := Point.zero.cells) rfl Point.zr rfl ?_
 intro n0 hn0 hf0
 refine Tr.nil (at_n (Sat.seq (Sat.region ?_)))
 refine Tr.build (cs := bytesV bX) rfl rfl rfl (fun w => by kernel_rfl) ?_
 refine Tr.build (cs := (⟨bX, List.replicate 32 0⟩ : Point).cells) rfl rfl rfl (fun w => by kernel_rfl) ?_
 refine Tr.alloc (cs := Point.zero.cells) rfl Point.zr rfl ?_
 intro n1 hn1 hf1
 refine Tr.storeAll rfl rfl rfl rfl (Point.isCell (by exact ⟨rfl, rfl⟩)) Sz79 (Point.length (by exact ⟨rfl, rfl⟩)) (by exact mem0) (Point.length (by exact ⟨rfl, rfl⟩)) (by exact upd0) ?_
 refine Tr.nil (at_n (Sat.seq (Sat.seq (Sat.region ?_))))
 refine Tr.move rfl rfl rfl ?_
 refine Tr.nil (at_n (Sat.block ?_))
 refine Sat.loop (ι := Nat) (fun k => ⟨[(0, ptr n0 0), (1, ptr n1 0), (5, i64 (k : Int))], [⟨n1, bytesV (bX ++ (List.replicate k 102 ++ List.replicate (32 - k) 0)), 79, 64⟩, ⟨n0, Point.zero.cells, 79, 64⟩]⟩) (fun k => k ≤ 32) (fun k => 32 - k) (0) ?_ ?_ ?_
 · omega
 · exact weak_of (wk1 rfl (wk1 rfl (wk1 rfl wk0))) (wh1 (by rw [show bytesV (bX ++ (List.replicate 0 102 ++ List.replicate (32 - 0) 0)) = (⟨bX, List.replicate 32 0⟩ : Point).cells from by kernel_rfl]; exact mem0) (wh1 (by exact mem1) wh0)) (by repeat (first | exact ns_nil | refine ns_keep rfl ?_))
 ·
  rintro k hi
  refine Sat.seq (Sat.region ?_)
  refine Tr.lss rfl rfl rfl rfl rfl ?_
  refine Tr.nil (at_n (Sat.seq ?_))
  refine Sat.condP rfl (fun hc0 => ?_) (fun hc0 => ?_)
  ·
   have hk2 : k < 32 := by omega
   refine Sat.skip (at_n (Sat.seq (Sat.block (Sat.seq (Sat.region ?_)))))
   refine Tr.move rfl rfl rfl ?_
   refine Tr.assign rfl rfl rfl ?_
   refine Tr.nil (at_n (Sat.region ?_))
   refine Tr.move rfl rfl rfl ?_
   refine Tr.fld rfl rfl rfl Tryz.underlying79 rfl Sz77 dE _ rfl ?_
   refine Tr.idxArrO rfl rfl rfl rfl Tryz.underlying77 Sz5 k rfl oM ?_
   refine Tr.store1 rfl rfl rfl rfl rfl Sz5 (by exact mem0) (by rw [base_len oM]; exact (show 32 + k < 64 by omega)) (by exact set_bytes _ (32 + k) 102) (by exact upd0) ?_
   refine Tr.nil (bl_n (at_n (Sat.region ?_)))
   refine Tr.add_i64 rfl rfl rfl rfl oM ?_
   refine Tr.move rfl rfl rfl ?_
   refine Tr.nil (at_n ?_)
   exact ⟨k + 1, by omega, by omega, weak_of (wk1 rfl (wk1 rfl (wk1 rfl wk0))) (wh1 (by rw [← base_step hk2]; exact mem0) (wh1 (by exact mem1) wh0)) (by repeat (first | exact ns_nil | refine ns_keep rfl ?_))⟩
  ·
   obtain rfl : k = 32 := by omega
   refine Sat.exit (at_x (at_x (bl_h (at_n (Sat.seq (Sat.region ?_))))))
   refine Tr.fld rfl rfl rfl Tryz.underlying79 rfl Sz77 dE _ rfl ?_
   refine Tr.idxArrO rfl rfl rfl rfl Tryz.underlying77 Sz5 0 rfl dE ?_
   refine Tr.store1 rfl rfl rfl rfl rfl Sz5 (by exact mem0) (by rw [base_len oM]; exact (show 32 + 0 < 64 by decide)) (by exact set_bytes _ (32 + 0) 88) (by exact upd0) ?_
   rw [base_end]
   refine Tr.nil (at_n (Sat.seq (Sat.region ?_)))
   refine Tr.loadAll rfl rfl rfl Tryz.underlying79 rfl Sz79 (by exact mem0) (Point.length (by exact ptc_ok _)) ?_
   refine Tr.storeAll rfl rfl rfl rfl (Point.isCell (by exact ptc_ok _)) Sz79 (Point.length (by exact ptc_ok _)) (by exact mem1) (Point.length (by exact ⟨rfl, rfl⟩)) (by exact upd1) ?_
   refine Tr.nil (at_n (Sat.ret (en_r ?_)))
   refine ⟨_, [], res_cell rfl rfl Tryz.underlying79 rfl Sz79 (by exact mem1) (by exact Point.length (by exact ptc_ok _)), sP, sP, ?_, rfl⟩
   rfl

set_option maxRecDepth 100000 in
set_option maxHeartbeats 4000000 in
theorem curve_Check (p : Point) (hp : p.ok) : Meets Tryz.prog 177 [agg p.cells] [] (fun _ => True) (fun v out => v = i64 (pchk p.fX p.fY) ∧ out = []) := by
 intro W hW
 refine calls_of (hp0 := []) Tryz.func177 rfl 38 Tryz.ntmps177 rfl (HRep.nil _) ?_
 refine Sat.seq (Sat.region ?_)
 refine Tr.boxA rfl rfl ?_
 intro n1 hn1 hf1
 refine Tr.assign rfl rfl rfl ?_
 refine Tr.nil (at_n (Sat.seq (Sat.seq (Sat.region ?_))))
 refine Tr.fld rfl rfl rfl Tryz.underlying79 rfl Sz77 dE _ rfl ?_
 refine Tr.loadN (bytesV _) rfl rfl rfl Tryz.underlying77 rfl Sz77 (by exact mem0) (Point.row_fX (by exact hp)) (Point.rl_fX (by exact hp)) ?_
 refine Tr.callB rfl rfl rfl rfl Body168 (field_Canon p.fX hp.l_fX) (fun _ _ => trivial) (fun hs1_20 => ?_) (fun hs1_20 => ?_)
 ·
  have hs1_2 := of_decide_eq_true hs1_20
  refine Tr.not rfl rfl rfl ?_
  refine Tr.move rfl rfl rfl ?_
  refine Tr.fld rfl rfl rfl Tryz.underlying79 rfl Sz77 dE _ rfl ?_
  refine Tr.loadN (bytesV _) rfl rfl rfl Tryz.underlying77 rfl Sz77 (by exact mem0) (Point.row_fY (by exact hp)) (Point.rl_fY (by exact hp)) ?_
  refine Tr.callB rfl rfl rfl rfl Body168 (field_Canon p.fY hp.l_fY) (fun _ _ => trivial) (fun hs1_70 => ?_) (fun hs1_70 => ?_)
  ·
   have hs1_7 := of_decide_eq_true hs1_70
   refine Tr.not rfl rfl rfl ?_
   refine Tr.pick rfl rfl rfl rfl rfl rfl ?_
   refine Tr.nil (at_n ?_)
   refine Sat.cond_f rfl rfl ?_
   refine Sat.skip (at_n (Sat.seq ?_))
   refine Sat.draw [(0, 0), (1, 1), (0, 2), (1, 3), (0, 5), (1, 6), (0, 7), (1, 8), (3, 4), (3, 9), (2, 10), (2, 11), (4, 12), (4, 13)] Mixed (by kernel_rfl) ?_
   refine Tr.fld rfl rfl rfl Tryz.underlying79 rfl Sz77 dE _ rfl ?_
   refine Tr.loadN (bytesV _) rfl rfl rfl Tryz.underlying77 rfl Sz77 (by exact mem0) (Point.row_fX (by exact hp)) (Point.rl_fX (by exact hp)) ?_
   refine Tr.fld rfl rfl rfl Tryz.underlying79 rfl Sz77 dE _ rfl ?_
   refine Tr.loadN (bytesV _) rfl rfl rfl Tryz.underlying77 rfl Sz77 (by exact mem0) (Point.row_fX (by exact hp)) (Point.rl_fX (by exact hp)) ?_
   refine Tr.fld rfl rfl rfl Tryz.underlying79 rfl Sz77 dE _ rfl ?_
   refine Tr.loadN (bytesV _) rfl rfl rfl Tryz.underlying77 rfl Sz77 (by exact mem0) (Point.row_fY (by exact hp)) (Point.rl_fY (by exact hp)) ?_
   refine Tr.fld rfl rfl rfl Tryz.underlying79 rfl Sz77 dE _ rfl ?_
   refine Tr.loadN (bytesV _) rfl rfl rfl Tryz.underlying77 rfl Sz77 (by exact mem0) (Point.row_fY (by exact hp)) (Point.rl_fY (by exact hp)) ?_
   refine Tr.callV rfl rfl rfl rfl Body169 (field_Mul p.fX p.fX hp.l_fX hp.l_fX) (fun _ _ => trivial) ?_
   refine Tr.callV rfl rfl rfl rfl Body169 (field_Mul p.fY p.fY hp.l_fY hp.l_fY) (fun _ _ => trivial) ?_
   refine Tr.alloc (cs := (bytesV (List.replicate 32 0))) rfl Zr77 rfl ?_
   intro n3 hn3 hf3
   refine Tr.alloc (cs := (bytesV (List.replicate 32 0))) rfl Zr77 rfl ?_
   intro n4 hn4 hf4
   refine Tr.storeAll rfl rfl rfl rfl (by exact bytesV_cell _) Sz77 (by (simp [fb_length]; done)) (by exact mem1) (by (simp; done)) (by exact upd1) ?_
   refine Tr.storeAll rfl rfl rfl rfl (by exact bytesV_cell _) Sz77 (by (simp [fb_length]; done)) (by exact mem0) (by (simp; done)) (by exact upd0) ?_
   refine Tr.nil (at_n (Sat.seq ?_))
   refine Sat.draw [(1, 2), (1, 3), (3, 0), (3, 1), (3, 4), (3, 5), (3, 6), (2, 7), (4, 8)] Mixed (by kernel_rfl) ?_
   refine Tr.loadAll rfl rfl rfl Tryz.underlying77 rfl Sz77 (by exact mem1) (by (simp [fb_length]; done)) ?_
   refine Tr.loadAll rfl rfl rfl Tryz.underlying77 rfl Sz77 (by exact mem0) (by (simp [fb_length]; done)) ?_
   refine Tr.callV rfl rfl rfl rfl Body171 (f_one) (fun _ _ => trivial) ?_
   refine Tr.callV rfl rfl rfl rfl Body173 (curve_D) (fun _ _ => trivial) ?_
   refine Tr.callV rfl rfl rfl rfl Body169 (f_mul _ _) (fun _ _ => trivial) ?_
   refine Tr.callV rfl rfl rfl rfl Body169 (f_mul _ _) (fun _ _ => trivial) ?_
   refine Tr.callV rfl rfl rfl rfl Body172 (f_add _ _) (fun _ _ => trivial) ?_
   refine Tr.alloc (cs := (bytesV (List.replicate 32 0))) rfl Zr77 rfl ?_
   intro n5 hn5 hf5
   refine Tr.storeAll rfl rfl rfl rfl (by exact bytesV_cell _) Sz77 (by (simp [fb_length]; done)) (by exact mem0) (by (simp; done)) (by exact upd0) ?_
   refine Tr.nil (at_n (Sat.seq (Sat.seq ?_)))
   refine Sat.draw [(1, 0), (1, 1), (1, 3), (3, 2), (0, 4)] Mixed (by kernel_rfl) ?_
   refine Tr.loadAll rfl rfl rfl Tryz.underlying77 rfl Sz77 (by exact mem1) (by (simp [fb_length]; done)) ?_
   refine Tr.loadAll rfl rfl rfl Tryz.underlying77 rfl Sz77 (by exact mem2) (by (simp [fb_length]; done)) ?_
   refine Tr.loadAll rfl rfl rfl Tryz.underlying77 rfl Sz77 (by exact mem0) (by (simp [fb_length]; done)) ?_
   refine Tr.callV rfl rfl rfl rfl Body170 (f_sub _ _) (fun _ _ => trivial) ?_
   refine Tr.neq_bytes rfl rfl rfl rfl Tryz.eqGuardType77 Tryz.underlying77 Tryz.underlying5 Sz5 (by (simp [fb_length]; done)) (by (simp [fb_length]; done)) rfl ?_
   refine Tr.nil (at_n ?_)
   refine Sat.condNP rfl (fun hc1 => ?_) (fun hc1 => ?_)
   ·
    refine Sat.seq (Sat.region ?_)
    refine Tr.assign rfl rfl rfl ?_
    refine Tr.nil (at_n (Sat.ret (at_r (en_r ?_))))
    refine ⟨_, [], res_tmp rfl rfl, sP, sP, ?_, rfl⟩
    unfold pchk
    exact congrArg i64 (if_neg (fun h => by exact hc1 (fb_inj.2 h.2.2))).symm
   ·
    refine Sat.skip (at_n (Sat.seq (Sat.region ?_)))
    refine Tr.assign rfl rfl rfl ?_
    refine Tr.nil (at_n (Sat.ret (en_r ?_)))
    refine ⟨_, [], res_tmp rfl rfl, sP, sP, ?_, rfl⟩
    unfold pchk
    exact congrArg i64 (if_pos ⟨hs1_2, hs1_7, fb_inj.1 hc1⟩).symm
  ·
   have hs1_7 := of_decide_eq_false hs1_70
   refine Tr.not rfl rfl rfl ?_
   refine Tr.pick rfl rfl rfl rfl rfl rfl ?_
   refine Tr.nil (at_n ?_)
   refine Sat.cond_t rfl rfl ?_
   refine Sat.seq (Sat.region ?_)
   refine Tr.assign rfl rfl rfl ?_
   refine Tr.nil (at_n (Sat.ret (at_r (en_r ?_))))
   refine ⟨_, [], res_tmp rfl rfl, sP, sP, ?_, rfl⟩
   unfold pchk
   exact congrArg i64 (if_neg (fun h => by exact hs1_7 h.2.1)).symm
 ·
  have hs1_2 := of_decide_eq_false hs1_20
  refine Tr.not rfl rfl rfl ?_
  refine Tr.move rfl rfl rfl ?_
  refine Tr.skp rfl rfl ?_
  refine Tr.skp rfl rfl ?_
  refine Tr.skp rfl rfl ?_
  refine Tr.skp rfl rfl ?_
  refine Tr.pick rfl rfl rfl rfl rfl rfl ?_
  refine Tr.nil (at_n ?_)
  refine Sat.cond_t rfl rfl ?_
  refine Sat.seq (Sat.region ?_)
  refine Tr.assign rfl rfl rfl ?_
  refine Tr.nil (at_n (Sat.ret (at_r (en_r ?_))))
  refine ⟨_, [], res_tmp rfl rfl, sP, sP, ?_, rfl⟩
  unfold pchk
  exact congrArg i64 (if_neg (fun h => by exact hs1_2 h.1)).symm

theorem curve_Check_on (P : Pt Fp) (h : cv.on P) : Meets Tryz.prog 177 [agg (ptc P).cells] [] (fun _ => True) (fun v out => v = i64 0 ∧ out = []) := by
  have h1 := curve_Check (ptc P) (ptc_ok P)
  rwa [show pchk (ptc P).fX (ptc P).fY = 0 from pchk_on h] at h1

set_option maxRecDepth 100000 in
set_option maxHeartbeats 2000000 in
theorem curve_widen (P : Pt Fp) : Meets Tryz.prog 179 [agg (ptc P).cells] [] (fun _ => True) (fun v out => v = agg (wdc (Wd.of P)).cells ∧ out = []) := by
 intro W hW
 refine calls_of (hp0 := []) Tryz.func179 rfl 14 Tryz.ntmps179 rfl (HRep.nil _) ?_
 refine Sat.seq (Sat.region ?_)
 refine Tr.boxA rfl rfl ?_
 intro n1 hn1 hf1
 refine Tr.alloc (cs := wide.zero.cells) rfl wide.zr rfl ?_
 intro n2 hn2 hf2
 refine Tr.nil (at_n (Sat.seq ?_))
 refine Sat.draw [(0, 0), (1, 1), (0, 2), (1, 3), (0, 5), (1, 6), (0, 7), (1, 8), (3, 4), (3, 9), (0, 10), (4, 11)] Mixed (by kernel_rfl) ?_
 refine Tr.fld rfl rfl rfl Tryz.underlying79 rfl Sz77 dE _ rfl ?_
 refine Tr.loadN (bytesV _) rfl rfl rfl Tryz.underlying77 rfl Sz77 (by exact mem1) (Point.row_fX (by exact ptc_ok _)) (Point.rl_fX (by exact ptc_ok _)) ?_
 refine Tr.fld rfl rfl rfl Tryz.underlying79 rfl Sz77 dE _ rfl ?_
 refine Tr.loadN (bytesV _) rfl rfl rfl Tryz.underlying77 rfl Sz77 (by exact mem1) (Point.row_fY (by exact ptc_ok _)) (Point.rl_fY (by exact ptc_ok _)) ?_
 refine Tr.fld rfl rfl rfl Tryz.underlying79 rfl Sz77 dE _ rfl ?_
 refine Tr.loadN (bytesV _) rfl rfl rfl Tryz.underlying77 rfl Sz77 (by exact mem1) (Point.row_fX (by exact ptc_ok _)) (Point.rl_fX (by exact ptc_ok _)) ?_
 refine Tr.fld rfl rfl rfl Tryz.underlying79 rfl Sz77 dE _ rfl ?_
 refine Tr.loadN (bytesV _) rfl rfl rfl Tryz.underlying77 rfl Sz77 (by exact mem1) (Point.row_fY (by exact ptc_ok _)) (Point.rl_fY (by exact ptc_ok _)) ?_
 refine Tr.callV rfl rfl rfl rfl Body171 (f_one) (fun _ _ => trivial) ?_
 refine Tr.callV rfl rfl rfl rfl Body169 (f_mul P.x P.y) (fun _ _ => trivial) ?_
 refine Tr.build (cs := (wdc (Wd.of P)).cells) rfl rfl rfl (fun w => by kernel_rfl) ?_
 refine Tr.storeAll rfl rfl rfl rfl (wide.isCell (by exact wdc_ok _)) Sz168 (wide.length (by exact wdc_ok _)) (by exact mem0) (wide.length (by exact wide.zero_ok)) (by exact upd0) ?_
 refine Tr.nil (at_n (Sat.ret (en_r ?_)))
 refine ⟨_, [], res_cell rfl rfl Tryz.underlying168 rfl Sz168 (by exact mem0) (by exact wide.length (by exact wdc_ok _)), sP, sP, ?_, rfl⟩
 rfl

set_option maxRecDepth 100000 in
set_option maxHeartbeats 2000000 in
theorem wide_point (n : Nat) (w : Wd Fp) : Meets Tryz.prog 183 [ptr n 0] [] (fun W => Sees W n 0 (wdc w).cells) (fun v out => v = agg (ptc (⟨w.x * finv w.z, w.y * finv w.z⟩ : Pt Fp)).cells ∧ out = []) := by
 intro W hW
 have hinv := f_inv w.z
 revert hinv
 generalize finv w.z = iz
 intro hinv
 refine calls_of (hp0 := []) Tryz.func183 rfl 22 Tryz.ntmps183 rfl (HRep.nil _) ?_
 refine Sat.seq (Sat.region ?_)
 refine Tr.alloc (cs := Point.zero.cells) rfl Point.zr rfl ?_
 intro n2 hn2 hf2
 refine Tr.nil (at_n (Sat.seq (Sat.region ?_)))
 refine Tr.move rfl rfl rfl ?_
 refine Tr.nilChk rfl rfl rfl ?_
 refine Tr.fld rfl rfl rfl Tryz.underlying168 rfl Sz77 dE _ rfl ?_
 refine Tr.loadEN (bytesV (fb w.z)) rfl rfl rfl Tryz.underlying77 rfl Sz77 sP (by rw [bytesV, List.length_map, fb_length]) (sees_subC hW (wide.see_fZ (wdc_ok w))) ?_
 refine Tr.callV rfl rfl rfl rfl Body175 (hinv) (fun _ _ => trivial) ?_
 refine Tr.alloc (cs := (bytesV (List.replicate 32 0))) rfl Zr77 rfl ?_
 intro n3 hn3 hf3
 refine Tr.storeAll rfl rfl rfl rfl (by exact bytesV_cell _) Sz77 (by (simp [fb_length]; done)) (by exact mem0) (by (simp; done)) (by exact upd0) ?_
 refine Tr.nil (at_n (Sat.seq ?_))
 refine Sat.draw [(0, 0), (0, 1), (0, 2), (1, 3), (1, 4), (0, 6), (0, 7), (0, 8), (1, 9), (1, 10), (3, 5), (3, 11), (0, 12), (4, 13)] Mixed (by kernel_rfl) ?_
 refine Tr.move rfl rfl rfl ?_
 refine Tr.nilChk rfl rfl rfl ?_
 refine Tr.fld rfl rfl rfl Tryz.underlying168 rfl Sz77 dE _ rfl ?_
 refine Tr.loadEN (bytesV (fb w.x)) rfl rfl rfl Tryz.underlying77 rfl Sz77 sP (by rw [bytesV, List.length_map, fb_length]) (sees_subC hW (wide.see_fX (wdc_ok w))) ?_
 refine Tr.loadAll rfl rfl rfl Tryz.underlying77 rfl Sz77 (by exact mem0) (by (simp [fb_length]; done)) ?_
 refine Tr.move rfl rfl rfl ?_
 refine Tr.nilChk rfl rfl rfl ?_
 refine Tr.fld rfl rfl rfl Tryz.underlying168 rfl Sz77 dE _ rfl ?_
 refine Tr.loadEN (bytesV (fb w.y)) rfl rfl rfl Tryz.underlying77 rfl Sz77 sP (by rw [bytesV, List.length_map, fb_length]) (sees_subC hW (wide.see_fY (wdc_ok w))) ?_
 refine Tr.loadAll rfl rfl rfl Tryz.underlying77 rfl Sz77 (by exact mem0) (by (simp [fb_length]; done)) ?_
 refine Tr.callV rfl rfl rfl rfl Body169 (f_mul _ _) (fun _ _ => trivial) ?_
 refine Tr.callV rfl rfl rfl rfl Body169 (f_mul _ _) (fun _ _ => trivial) ?_
 refine Tr.build (cs := (ptc (⟨w.x * iz, w.y * iz⟩ : Pt Fp)).cells) rfl rfl rfl (fun w => by kernel_rfl) ?_
 refine Tr.storeAll rfl rfl rfl rfl (Point.isCell (by exact ptc_ok _)) Sz79 (Point.length (by exact ptc_ok _)) (by exact mem1) (Point.length (by exact Point.zero_ok)) (by exact upd1) ?_
 refine Tr.nil (at_n (Sat.ret (en_r ?_)))
 refine ⟨_, [], res_cell rfl rfl Tryz.underlying79 rfl Sz79 (by exact mem1) (by exact Point.length (by exact ptc_ok _)), sP, sP, ?_, rfl⟩
 rfl

set_option maxRecDepth 100000 in
set_option maxHeartbeats 4000000 in
theorem wide_finish (n : Nat) (w : Wd Fp) (e f g h : Fp) : Meets Tryz.prog 228 [ptr n 0, agg (bytesV (fb e)), agg (bytesV (fb f)), agg (bytesV (fb g)), agg (bytesV (fb h))] [n] (fun W => BlkOk W ⟨n, (wdc w).cells, 168, 128⟩) (fun v out => out = [⟨n, (wdc (Wd.fin e f g h)).cells, 168, 128⟩]) := by
 intro W hW
 refine calls_of (hp0 := [⟨n, (wdc w).cells, 168, 128⟩]) Tryz.func228 rfl 34 Tryz.ntmps228 rfl (HRep.one hW) ?_
 refine Sat.seq (Sat.region ?_)
 refine Tr.boxA rfl rfl ?_
 intro n6 hn6 hf6
 refine Tr.boxA rfl rfl ?_
 intro n7 hn7 hf7
 refine Tr.boxA rfl rfl ?_
 intro n8 hn8 hf8
 refine Tr.boxA rfl rfl ?_
 intro n9 hn9 hf9
 refine Tr.nil (at_n (Sat.seq ?_))
 refine Sat.draw [(0, 0), (0, 1), (1, 2), (1, 3), (1, 5), (1, 6), (3, 4), (3, 7), (0, 8), (0, 9), (4, 10), (0, 11), (0, 12), (4, 13)] Mixed (by kernel_rfl) ?_
 refine Tr.move rfl rfl rfl ?_
 refine Tr.move rfl rfl rfl ?_
 refine Tr.loadAll rfl rfl rfl Tryz.underlying77 rfl Sz77 (by exact mem3) (by (simp [fb_length]; done)) ?_
 refine Tr.loadAll rfl rfl rfl Tryz.underlying77 rfl Sz77 (by exact mem2) (by (simp [fb_length]; done)) ?_
 refine Tr.loadAll rfl rfl rfl Tryz.underlying77 rfl Sz77 (by exact mem1) (by (simp [fb_length]; done)) ?_
 refine Tr.loadAll rfl rfl rfl Tryz.underlying77 rfl Sz77 (by exact mem0) (by (simp [fb_length]; done)) ?_
 refine Tr.callV rfl rfl rfl rfl Body169 (f_mul _ _) (fun _ _ => trivial) ?_
 refine Tr.callV rfl rfl rfl rfl Body169 (f_mul _ _) (fun _ _ => trivial) ?_
 refine Tr.nilChk rfl rfl rfl ?_
 refine Tr.fld rfl rfl rfl Tryz.underlying168 rfl Sz77 dE _ rfl ?_
 refine Tr.storeN (bytesV _) rfl rfl rfl rfl rfl (by exact bytesV_cell _) Sz77 (by simp [fb_length]) (by exact mem4) (by rw [wide.length (by exact wdc_ok _)]; simp [fb_length]) (wide.upd_fX (by exact wdc_ok _) _ (by simp [fb_length])) (by exact upd4) ?_
 refine Tr.nilChk rfl rfl rfl ?_
 refine Tr.fld rfl rfl rfl Tryz.underlying168 rfl Sz77 dE _ rfl ?_
 refine Tr.storeN (bytesV _) rfl rfl rfl rfl rfl (by exact bytesV_cell _) Sz77 (by simp [fb_length]) (by exact mem4) (by rw [wide.length (by exact ⟨fb32 _, fb32 _, fb32 _, fb32 _⟩)]; simp [fb_length]) (wide.upd_fY (by exact ⟨fb32 _, fb32 _, fb32 _, fb32 _⟩) _ (by simp [fb_length])) (by exact upd4) ?_
 refine Tr.nil (at_n ?_)
 refine Sat.draw [(0, 0), (0, 1), (1, 2), (1, 3), (1, 5), (1, 6), (3, 4), (3, 7), (0, 8), (0, 9), (4, 10), (0, 11), (0, 12), (4, 13)] Mixed (by kernel_rfl) ?_
 refine Tr.move rfl rfl rfl ?_
 refine Tr.move rfl rfl rfl ?_
 refine Tr.loadAll rfl rfl rfl Tryz.underlying77 rfl Sz77 (by exact mem2) (by (simp [fb_length]; done)) ?_
 refine Tr.loadAll rfl rfl rfl Tryz.underlying77 rfl Sz77 (by exact mem1) (by (simp [fb_length]; done)) ?_
 refine Tr.loadAll rfl rfl rfl Tryz.underlying77 rfl Sz77 (by exact mem3) (by (simp [fb_length]; done)) ?_
 refine Tr.loadAll rfl rfl rfl Tryz.underlying77 rfl Sz77 (by exact mem0) (by (simp [fb_length]; done)) ?_
 refine Tr.callV rfl rfl rfl rfl Body169 (f_mul _ _) (fun _ _ => trivial) ?_
 refine Tr.callV rfl rfl rfl rfl Body169 (f_mul _ _) (fun _ _ => trivial) ?_
 refine Tr.nilChk rfl rfl rfl ?_
 refine Tr.fld rfl rfl rfl Tryz.underlying168 rfl Sz77 dE _ rfl ?_
 refine Tr.storeN (bytesV _) rfl rfl rfl rfl rfl (by exact bytesV_cell _) Sz77 (by simp [fb_length]) (by exact mem4) (by rw [wide.length (by exact ⟨fb32 _, fb32 _, fb32 _, fb32 _⟩)]; simp [fb_length]) (wide.upd_fZ (by exact ⟨fb32 _, fb32 _, fb32 _, fb32 _⟩) _ (by simp [fb_length])) (by exact upd4) ?_
 refine Tr.nilChk rfl rfl rfl ?_
 refine Tr.fld rfl rfl rfl Tryz.underlying168 rfl Sz77 dE _ rfl ?_
 refine Tr.storeN (bytesV _) rfl rfl rfl rfl rfl (by exact bytesV_cell _) Sz77 (by simp [fb_length]) (by exact mem4) (by rw [wide.length (by exact ⟨fb32 _, fb32 _, fb32 _, fb32 _⟩)]; simp [fb_length]) (wide.upd_fT (by exact ⟨fb32 _, fb32 _, fb32 _, fb32 _⟩) _ (by simp [fb_length])) (by exact upd4) ?_
 refine Tr.nil (en_n ?_)
 exact ⟨_, [⟨n, (wdc (Wd.fin e f g h)).cells, 168, 128⟩], res_none rfl, (fun b hb => by rw [List.mem_singleton.1 hb]; exact (by exact mem4)), nodup1, rfl⟩

set_option maxRecDepth 100000 in
set_option maxHeartbeats 8000000 in
theorem wide_add (n q : Nat) (w p : Wd Fp) (tw : Fp) : Meets Tryz.prog 180 [ptr n 0, ptr q 0, agg (bytesV (fb tw))] [n] (fun W => BlkOk W ⟨n, (wdc w).cells, 168, 128⟩ ∧ Sees W q 0 (wdc p).cells ∧ q ≠ n) (fun v out => out = [⟨n, (wdc (Wd.fin ((w.y + w.x) * (p.y + p.x) - (w.y - w.x) * (p.y - p.x)) (w.z * p.z + w.z * p.z - w.t * tw * p.t) (w.z * p.z + w.z * p.z + w.t * tw * p.t) ((w.y + w.x) * (p.y + p.x) + (w.y - w.x) * (p.y - p.x)))).cells, 168, 128⟩]) := by
 intro W hW
 refine calls_of (hp0 := [⟨n, (wdc w).cells, 168, 128⟩]) Tryz.func180 rfl 85 Tryz.ntmps180 rfl (HRep.one hW.1) ?_
 refine Sat.seq (Sat.region ?_)
 refine Tr.boxA rfl rfl ?_
 intro n5 hn5 hf5
 refine Tr.nil (at_n (Sat.seq ?_))
 refine Sat.draw [(0, 0), (0, 1), (0, 2), (1, 3), (0, 4), (0, 5), (0, 6), (1, 7), (0, 9), (0, 10), (0, 11), (1, 12), (0, 13), (0, 14), (0, 15), (1, 16), (3, 8), (3, 17), (3, 18), (2, 19), (4, 20)] Mixed (by kernel_rfl) ?_
 refine Tr.move rfl rfl rfl ?_
 refine Tr.nilChk rfl rfl rfl ?_
 refine Tr.fld rfl rfl rfl Tryz.underlying168 rfl Sz77 dE _ rfl ?_
 refine Tr.loadN (bytesV _) rfl rfl rfl Tryz.underlying77 rfl Sz77 (by exact mem1) (wide.row_fY (by exact wdc_ok _)) (wide.rl_fY (by exact wdc_ok _)) ?_
 refine Tr.move rfl rfl rfl ?_
 refine Tr.nilChk rfl rfl rfl ?_
 refine Tr.fld rfl rfl rfl Tryz.underlying168 rfl Sz77 dE _ rfl ?_
 refine Tr.loadN (bytesV _) rfl rfl rfl Tryz.underlying77 rfl Sz77 (by exact mem1) (wide.row_fX (by exact wdc_ok _)) (wide.rl_fX (by exact wdc_ok _)) ?_
 refine Tr.move rfl rfl rfl ?_
 refine Tr.nilChk rfl rfl rfl ?_
 refine Tr.fld rfl rfl rfl Tryz.underlying168 rfl Sz77 dE _ rfl ?_
 refine Tr.loadEN (bytesV (fb p.y)) rfl rfl rfl Tryz.underlying77 rfl Sz77 (by simp; exact hW.2.2) (by rw [bytesV, List.length_map, fb_length]) (sees_subC hW.2.1 (wide.see_fY (wdc_ok p))) ?_
 refine Tr.move rfl rfl rfl ?_
 refine Tr.nilChk rfl rfl rfl ?_
 refine Tr.fld rfl rfl rfl Tryz.underlying168 rfl Sz77 dE _ rfl ?_
 refine Tr.loadEN (bytesV (fb p.x)) rfl rfl rfl Tryz.underlying77 rfl Sz77 (by simp; exact hW.2.2) (by rw [bytesV, List.length_map, fb_length]) (sees_subC hW.2.1 (wide.see_fX (wdc_ok p))) ?_
 refine Tr.callV rfl rfl rfl rfl Body170 (f_sub _ _) (fun _ _ => trivial) ?_
 refine Tr.callV rfl rfl rfl rfl Body170 (f_sub _ _) (fun _ _ => trivial) ?_
 refine Tr.callV rfl rfl rfl rfl Body169 (f_mul _ _) (fun _ _ => trivial) ?_
 refine Tr.alloc (cs := (bytesV (List.replicate 32 0))) rfl Zr77 rfl ?_
 intro n6 hn6 hf6
 refine Tr.storeAll rfl rfl rfl rfl (by exact bytesV_cell _) Sz77 (by (simp [fb_length]; done)) (by exact mem0) (by (simp; done)) (by exact upd0) ?_
 refine Tr.nil (at_n (Sat.seq ?_))
 refine Sat.draw [(0, 0), (0, 1), (0, 2), (1, 3), (0, 4), (0, 5), (0, 6), (1, 7), (0, 9), (0, 10), (0, 11), (1, 12), (0, 13), (0, 14), (0, 15), (1, 16), (3, 8), (3, 17), (3, 18), (2, 19), (4, 20)] Mixed (by kernel_rfl) ?_
 refine Tr.move rfl rfl rfl ?_
 refine Tr.nilChk rfl rfl rfl ?_
 refine Tr.fld rfl rfl rfl Tryz.underlying168 rfl Sz77 dE _ rfl ?_
 refine Tr.loadN (bytesV _) rfl rfl rfl Tryz.underlying77 rfl Sz77 (by exact mem2) (wide.row_fY (by exact wdc_ok _)) (wide.rl_fY (by exact wdc_ok _)) ?_
 refine Tr.move rfl rfl rfl ?_
 refine Tr.nilChk rfl rfl rfl ?_
 refine Tr.fld rfl rfl rfl Tryz.underlying168 rfl Sz77 dE _ rfl ?_
 refine Tr.loadN (bytesV _) rfl rfl rfl Tryz.underlying77 rfl Sz77 (by exact mem2) (wide.row_fX (by exact wdc_ok _)) (wide.rl_fX (by exact wdc_ok _)) ?_
 refine Tr.move rfl rfl rfl ?_
 refine Tr.nilChk rfl rfl rfl ?_
 refine Tr.fld rfl rfl rfl Tryz.underlying168 rfl Sz77 dE _ rfl ?_
 refine Tr.loadEN (bytesV (fb p.y)) rfl rfl rfl Tryz.underlying77 rfl Sz77 (by simp; exact hW.2.2) (by rw [bytesV, List.length_map, fb_length]) (sees_subC hW.2.1 (wide.see_fY (wdc_ok p))) ?_
 refine Tr.move rfl rfl rfl ?_
 refine Tr.nilChk rfl rfl rfl ?_
 refine Tr.fld rfl rfl rfl Tryz.underlying168 rfl Sz77 dE _ rfl ?_
 refine Tr.loadEN (bytesV (fb p.x)) rfl rfl rfl Tryz.underlying77 rfl Sz77 (by simp; exact hW.2.2) (by rw [bytesV, List.length_map, fb_length]) (sees_subC hW.2.1 (wide.see_fX (wdc_ok p))) ?_
 refine Tr.callV rfl rfl rfl rfl Body172 (f_add _ _) (fun _ _ => trivial) ?_
 refine Tr.callV rfl rfl rfl rfl Body172 (f_add _ _) (fun _ _ => trivial) ?_
 refine Tr.callV rfl rfl rfl rfl Body169 (f_mul _ _) (fun _ _ => trivial) ?_
 refine Tr.alloc (cs := (bytesV (List.replicate 32 0))) rfl Zr77 rfl ?_
 intro n7 hn7 hf7
 refine Tr.storeAll rfl rfl rfl rfl (by exact bytesV_cell _) Sz77 (by (simp [fb_length]; done)) (by exact mem0) (by (simp; done)) (by exact upd0) ?_
 refine Tr.nil (at_n (Sat.seq ?_))
 refine Sat.draw [(0, 0), (0, 1), (0, 2), (1, 3), (1, 4), (0, 6), (0, 7), (0, 8), (1, 9), (3, 5), (3, 10), (2, 11), (4, 12)] Mixed (by kernel_rfl) ?_
 refine Tr.move rfl rfl rfl ?_
 refine Tr.nilChk rfl rfl rfl ?_
 refine Tr.fld rfl rfl rfl Tryz.underlying168 rfl Sz77 dE _ rfl ?_
 refine Tr.loadN (bytesV _) rfl rfl rfl Tryz.underlying77 rfl Sz77 (by exact mem3) (wide.row_fT (by exact wdc_ok _)) (wide.rl_fT (by exact wdc_ok _)) ?_
 refine Tr.loadAll rfl rfl rfl Tryz.underlying77 rfl Sz77 (by exact mem2) (by (simp [fb_length]; done)) ?_
 refine Tr.move rfl rfl rfl ?_
 refine Tr.nilChk rfl rfl rfl ?_
 refine Tr.fld rfl rfl rfl Tryz.underlying168 rfl Sz77 dE _ rfl ?_
 refine Tr.loadEN (bytesV (fb p.t)) rfl rfl rfl Tryz.underlying77 rfl Sz77 (by simp; exact hW.2.2) (by rw [bytesV, List.length_map, fb_length]) (sees_subC hW.2.1 (wide.see_fT (wdc_ok p))) ?_
 refine Tr.callV rfl rfl rfl rfl Body169 (f_mul _ _) (fun _ _ => trivial) ?_
 refine Tr.callV rfl rfl rfl rfl Body169 (f_mul _ _) (fun _ _ => trivial) ?_
 refine Tr.alloc (cs := (bytesV (List.replicate 32 0))) rfl Zr77 rfl ?_
 intro n8 hn8 hf8
 refine Tr.storeAll rfl rfl rfl rfl (by exact bytesV_cell _) Sz77 (by (simp [fb_length]; done)) (by exact mem0) (by (simp; done)) (by exact upd0) ?_
 refine Tr.nil (at_n (Sat.seq ?_))
 refine Sat.draw [(0, 0), (0, 1), (0, 2), (1, 3), (0, 4), (0, 5), (0, 6), (1, 7), (3, 8), (2, 9), (4, 10)] Mixed (by kernel_rfl) ?_
 refine Tr.move rfl rfl rfl ?_
 refine Tr.nilChk rfl rfl rfl ?_
 refine Tr.fld rfl rfl rfl Tryz.underlying168 rfl Sz77 dE _ rfl ?_
 refine Tr.loadN (bytesV _) rfl rfl rfl Tryz.underlying77 rfl Sz77 (by exact mem4) (wide.row_fZ (by exact wdc_ok _)) (wide.rl_fZ (by exact wdc_ok _)) ?_
 refine Tr.move rfl rfl rfl ?_
 refine Tr.nilChk rfl rfl rfl ?_
 refine Tr.fld rfl rfl rfl Tryz.underlying168 rfl Sz77 dE _ rfl ?_
 refine Tr.loadEN (bytesV (fb p.z)) rfl rfl rfl Tryz.underlying77 rfl Sz77 (by simp; exact hW.2.2) (by rw [bytesV, List.length_map, fb_length]) (sees_subC hW.2.1 (wide.see_fZ (wdc_ok p))) ?_
 refine Tr.callV rfl rfl rfl rfl Body169 (f_mul _ _) (fun _ _ => trivial) ?_
 refine Tr.alloc (cs := (bytesV (List.replicate 32 0))) rfl Zr77 rfl ?_
 intro n9 hn9 hf9
 refine Tr.storeAll rfl rfl rfl rfl (by exact bytesV_cell _) Sz77 (by (simp [fb_length]; done)) (by exact mem0) (by (simp; done)) (by exact upd0) ?_
 refine Tr.nil (at_n (Sat.seq (Sat.region ?_)))
 refine Tr.loadAll rfl rfl rfl Tryz.underlying77 rfl Sz77 (by exact mem0) (by (simp [fb_length]; done)) ?_
 refine Tr.loadAll rfl rfl rfl Tryz.underlying77 rfl Sz77 (by exact mem0) (by (simp [fb_length]; done)) ?_
 refine Tr.callV rfl rfl rfl rfl Body172 (f_add _ _) (fun _ _ => trivial) ?_
 refine Tr.storeAll rfl rfl rfl rfl (by exact bytesV_cell _) Sz77 (by (simp [fb_length]; done)) (by exact mem0) (by (simp [fb_length]; done)) (by exact upd0) ?_
 refine Tr.nil (at_n ?_)
 refine Sat.draw [(0, 0), (1, 1), (1, 2), (1, 4), (1, 5), (1, 7), (1, 8), (1, 10), (1, 11), (3, 3), (3, 6), (3, 9), (3, 12), (4, 13)] Mixed (by kernel_rfl) ?_
 refine Tr.move rfl rfl rfl ?_
 refine Tr.loadAll rfl rfl rfl Tryz.underlying77 rfl Sz77 (by exact mem2) (by (simp [fb_length]; done)) ?_
 refine Tr.loadAll rfl rfl rfl Tryz.underlying77 rfl Sz77 (by exact mem3) (by (simp [fb_length]; done)) ?_
 refine Tr.loadAll rfl rfl rfl Tryz.underlying77 rfl Sz77 (by exact mem0) (by (simp [fb_length]; done)) ?_
 refine Tr.loadAll rfl rfl rfl Tryz.underlying77 rfl Sz77 (by exact mem1) (by (simp [fb_length]; done)) ?_
 refine Tr.loadAll rfl rfl rfl Tryz.underlying77 rfl Sz77 (by exact mem0) (by (simp [fb_length]; done)) ?_
 refine Tr.loadAll rfl rfl rfl Tryz.underlying77 rfl Sz77 (by exact mem1) (by (simp [fb_length]; done)) ?_
 refine Tr.loadAll rfl rfl rfl Tryz.underlying77 rfl Sz77 (by exact mem2) (by (simp [fb_length]; done)) ?_
 refine Tr.loadAll rfl rfl rfl Tryz.underlying77 rfl Sz77 (by exact mem3) (by (simp [fb_length]; done)) ?_
 refine Tr.callV rfl rfl rfl rfl Body170 (f_sub _ _) (fun _ _ => trivial) ?_
 refine Tr.callV rfl rfl rfl rfl Body170 (f_sub _ _) (fun _ _ => trivial) ?_
 refine Tr.callV rfl rfl rfl rfl Body172 (f_add _ _) (fun _ _ => trivial) ?_
 refine Tr.callV rfl rfl rfl rfl Body172 (f_add _ _) (fun _ _ => trivial) ?_
 refine Tr.callL (L := [⟨n, (wdc w).cells, 168, 128⟩]) rfl rfl rfl rfl rfl Body228 (wide_finish n w ((w.y + w.x) * (p.y + p.x) - (w.y - w.x) * (p.y - p.x)) (w.z * p.z + w.z * p.z - w.t * tw * p.t) (w.z * p.z + w.z * p.z + w.t * tw * p.t) ((w.y + w.x) * (p.y + p.x) + (w.y - w.x) * (p.y - p.x))) (pm_cons (by repeat (first | exact rem_here | apply rem_there)) pm_nil) (lent_ok rfl) (fun w h => own_blk h (by exact mem5)) ?_
 rintro v84 out84 rfl
 refine Tr.nil (en_n ?_)
 exact ⟨_, [⟨n, (wdc (Wd.fin ((w.y + w.x) * (p.y + p.x) - (w.y - w.x) * (p.y - p.x)) (w.z * p.z + w.z * p.z - w.t * tw * p.t) (w.z * p.z + w.z * p.z + w.t * tw * p.t) ((w.y + w.x) * (p.y + p.x) + (w.y - w.x) * (p.y - p.x)))).cells, 168, 128⟩], res_none rfl, (fun b hb => by rw [List.mem_singleton.1 hb]; exact (by exact mem0)), nodup1, rfl⟩

set_option maxRecDepth 100000 in
set_option maxHeartbeats 8000000 in
theorem wide_double (n : Nat) (w : Wd Fp) : Meets Tryz.prog 181 [ptr n 0] [n] (fun W => BlkOk W ⟨n, (wdc w).cells, 168, 128⟩) (fun v out => out = [⟨n, (wdc (Wd.dbl w)).cells, 168, 128⟩]) := by
 intro W hW
 refine calls_of (hp0 := [⟨n, (wdc w).cells, 168, 128⟩]) Tryz.func181 rfl 66 Tryz.ntmps181 rfl (HRep.one hW) ?_
 refine Sat.seq ?_
 refine Sat.draw [(0, 0), (0, 1), (0, 2), (1, 3), (0, 4), (0, 5), (0, 6), (1, 7), (0, 9), (0, 10), (0, 11), (1, 12), (0, 13), (0, 14), (0, 15), (1, 16), (0, 18), (0, 19), (0, 20), (1, 21), (0, 22), (0, 23), (0, 24), (1, 25), (3, 8), (3, 17), (3, 26), (2, 27), (2, 28), (2, 29), (4, 30), (4, 31), (4, 32)] Mixed (by kernel_rfl) ?_
 refine Tr.move rfl rfl rfl ?_
 refine Tr.nilChk rfl rfl rfl ?_
 refine Tr.fld rfl rfl rfl Tryz.underlying168 rfl Sz77 dE _ rfl ?_
 refine Tr.loadN (bytesV _) rfl rfl rfl Tryz.underlying77 rfl Sz77 (by exact mem0) (wide.row_fX (by exact wdc_ok _)) (wide.rl_fX (by exact wdc_ok _)) ?_
 refine Tr.move rfl rfl rfl ?_
 refine Tr.nilChk rfl rfl rfl ?_
 refine Tr.fld rfl rfl rfl Tryz.underlying168 rfl Sz77 dE _ rfl ?_
 refine Tr.loadN (bytesV _) rfl rfl rfl Tryz.underlying77 rfl Sz77 (by exact mem0) (wide.row_fX (by exact wdc_ok _)) (wide.rl_fX (by exact wdc_ok _)) ?_
 refine Tr.move rfl rfl rfl ?_
 refine Tr.nilChk rfl rfl rfl ?_
 refine Tr.fld rfl rfl rfl Tryz.underlying168 rfl Sz77 dE _ rfl ?_
 refine Tr.loadN (bytesV _) rfl rfl rfl Tryz.underlying77 rfl Sz77 (by exact mem0) (wide.row_fY (by exact wdc_ok _)) (wide.rl_fY (by exact wdc_ok _)) ?_
 refine Tr.move rfl rfl rfl ?_
 refine Tr.nilChk rfl rfl rfl ?_
 refine Tr.fld rfl rfl rfl Tryz.underlying168 rfl Sz77 dE _ rfl ?_
 refine Tr.loadN (bytesV _) rfl rfl rfl Tryz.underlying77 rfl Sz77 (by exact mem0) (wide.row_fY (by exact wdc_ok _)) (wide.rl_fY (by exact wdc_ok _)) ?_
 refine Tr.move rfl rfl rfl ?_
 refine Tr.nilChk rfl rfl rfl ?_
 refine Tr.fld rfl rfl rfl Tryz.underlying168 rfl Sz77 dE _ rfl ?_
 refine Tr.loadN (bytesV _) rfl rfl rfl Tryz.underlying77 rfl Sz77 (by exact mem0) (wide.row_fZ (by exact wdc_ok _)) (wide.rl_fZ (by exact wdc_ok _)) ?_
 refine Tr.move rfl rfl rfl ?_
 refine Tr.nilChk rfl rfl rfl ?_
 refine Tr.fld rfl rfl rfl Tryz.underlying168 rfl Sz77 dE _ rfl ?_
 refine Tr.loadN (bytesV _) rfl rfl rfl Tryz.underlying77 rfl Sz77 (by exact mem0) (wide.row_fZ (by exact wdc_ok _)) (wide.rl_fZ (by exact wdc_ok _)) ?_
 refine Tr.callV rfl rfl rfl rfl Body169 (f_mul _ _) (fun _ _ => trivial) ?_
 refine Tr.callV rfl rfl rfl rfl Body169 (f_mul _ _) (fun _ _ => trivial) ?_
 refine Tr.callV rfl rfl rfl rfl Body169 (f_mul _ _) (fun _ _ => trivial) ?_
 refine Tr.alloc (cs := (bytesV (List.replicate 32 0))) rfl Zr77 rfl ?_
 intro n2 hn2 hf2
 refine Tr.alloc (cs := (bytesV (List.replicate 32 0))) rfl Zr77 rfl ?_
 intro n3 hn3 hf3
 refine Tr.alloc (cs := (bytesV (List.replicate 32 0))) rfl Zr77 rfl ?_
 intro n4 hn4 hf4
 refine Tr.storeAll rfl rfl rfl rfl (by exact bytesV_cell _) Sz77 (by (simp [fb_length]; done)) (by exact mem2) (by (simp; done)) (by exact upd2) ?_
 refine Tr.storeAll rfl rfl rfl rfl (by exact bytesV_cell _) Sz77 (by (simp [fb_length]; done)) (by exact mem1) (by (simp; done)) (by exact upd1) ?_
 refine Tr.storeAll rfl rfl rfl rfl (by exact bytesV_cell _) Sz77 (by (simp [fb_length]; done)) (by exact mem0) (by (simp; done)) (by exact upd0) ?_
 refine Tr.nil (at_n (Sat.seq ?_))
 refine Sat.draw [(0, 0), (0, 1), (0, 2), (1, 3), (0, 4), (0, 5), (0, 6), (1, 7), (3, 8), (2, 9), (4, 10)] Mixed (by kernel_rfl) ?_
 refine Tr.move rfl rfl rfl ?_
 refine Tr.nilChk rfl rfl rfl ?_
 refine Tr.fld rfl rfl rfl Tryz.underlying168 rfl Sz77 dE _ rfl ?_
 refine Tr.loadN (bytesV _) rfl rfl rfl Tryz.underlying77 rfl Sz77 (by exact mem3) (wide.row_fX (by exact wdc_ok _)) (wide.rl_fX (by exact wdc_ok _)) ?_
 refine Tr.move rfl rfl rfl ?_
 refine Tr.nilChk rfl rfl rfl ?_
 refine Tr.fld rfl rfl rfl Tryz.underlying168 rfl Sz77 dE _ rfl ?_
 refine Tr.loadN (bytesV _) rfl rfl rfl Tryz.underlying77 rfl Sz77 (by exact mem3) (wide.row_fY (by exact wdc_ok _)) (wide.rl_fY (by exact wdc_ok _)) ?_
 refine Tr.callV rfl rfl rfl rfl Body172 (f_add _ _) (fun _ _ => trivial) ?_
 refine Tr.alloc (cs := (bytesV (List.replicate 32 0))) rfl Zr77 rfl ?_
 intro n5 hn5 hf5
 refine Tr.storeAll rfl rfl rfl rfl (by exact bytesV_cell _) Sz77 (by (simp [fb_length]; done)) (by exact mem0) (by (simp; done)) (by exact upd0) ?_
 refine Tr.nil (at_n (Sat.seq (Sat.region ?_)))
 refine Tr.loadAll rfl rfl rfl Tryz.underlying77 rfl Sz77 (by exact mem3) (by (simp [fb_length]; done)) ?_
 refine Tr.loadAll rfl rfl rfl Tryz.underlying77 rfl Sz77 (by exact mem2) (by (simp [fb_length]; done)) ?_
 refine Tr.callV rfl rfl rfl rfl Body172 (f_add _ _) (fun _ _ => trivial) ?_
 refine Tr.alloc (cs := (bytesV (List.replicate 32 0))) rfl Zr77 rfl ?_
 intro n6 hn6 hf6
 refine Tr.storeAll rfl rfl rfl rfl (by exact bytesV_cell _) Sz77 (by (simp [fb_length]; done)) (by exact mem0) (by (simp; done)) (by exact upd0) ?_
 refine Tr.nil (at_n (Sat.seq ?_))
 refine Sat.draw [(1, 0), (1, 1), (1, 2), (3, 3), (3, 4), (2, 5), (4, 6)] Mixed (by kernel_rfl) ?_
 refine Tr.loadAll rfl rfl rfl Tryz.underlying77 rfl Sz77 (by exact mem0) (by (simp [fb_length]; done)) ?_
 refine Tr.loadAll rfl rfl rfl Tryz.underlying77 rfl Sz77 (by exact mem1) (by (simp [fb_length]; done)) ?_
 refine Tr.loadAll rfl rfl rfl Tryz.underlying77 rfl Sz77 (by exact mem1) (by (simp [fb_length]; done)) ?_
 refine Tr.callV rfl rfl rfl rfl Body169 (f_mul _ _) (fun _ _ => trivial) ?_
 refine Tr.callV rfl rfl rfl rfl Body170 (f_sub _ _) (fun _ _ => trivial) ?_
 refine Tr.alloc (cs := (bytesV (List.replicate 32 0))) rfl Zr77 rfl ?_
 intro n7 hn7 hf7
 refine Tr.storeAll rfl rfl rfl rfl (by exact bytesV_cell _) Sz77 (by (simp [fb_length]; done)) (by exact mem0) (by (simp; done)) (by exact upd0) ?_
 refine Tr.nil (at_n (Sat.seq (Sat.region ?_)))
 refine Tr.loadAll rfl rfl rfl Tryz.underlying77 rfl Sz77 (by exact mem5) (by (simp [fb_length]; done)) ?_
 refine Tr.loadAll rfl rfl rfl Tryz.underlying77 rfl Sz77 (by exact mem4) (by (simp [fb_length]; done)) ?_
 refine Tr.callV rfl rfl rfl rfl Body170 (f_sub _ _) (fun _ _ => trivial) ?_
 refine Tr.alloc (cs := (bytesV (List.replicate 32 0))) rfl Zr77 rfl ?_
 intro n8 hn8 hf8
 refine Tr.storeAll rfl rfl rfl rfl (by exact bytesV_cell _) Sz77 (by (simp [fb_length]; done)) (by exact mem0) (by (simp; done)) (by exact upd0) ?_
 refine Tr.nil (at_n ?_)
 refine Sat.draw [(0, 0), (1, 1), (1, 2), (1, 3), (1, 5), (1, 7), (1, 8), (3, 4), (3, 6), (4, 9)] Mixed (by kernel_rfl) ?_
 refine Tr.move rfl rfl rfl ?_
 refine Tr.loadAll rfl rfl rfl Tryz.underlying77 rfl Sz77 (by exact mem1) (by (simp [fb_length]; done)) ?_
 refine Tr.loadAll rfl rfl rfl Tryz.underlying77 rfl Sz77 (by exact mem4) (by (simp [fb_length]; done)) ?_
 refine Tr.loadAll rfl rfl rfl Tryz.underlying77 rfl Sz77 (by exact mem4) (by (simp [fb_length]; done)) ?_
 refine Tr.loadAll rfl rfl rfl Tryz.underlying77 rfl Sz77 (by exact mem0) (by (simp [fb_length]; done)) ?_
 refine Tr.loadAll rfl rfl rfl Tryz.underlying77 rfl Sz77 (by exact mem0) (by (simp [fb_length]; done)) ?_
 refine Tr.loadAll rfl rfl rfl Tryz.underlying77 rfl Sz77 (by exact mem2) (by (simp [fb_length]; done)) ?_
 refine Tr.callV rfl rfl rfl rfl Body172 (f_add _ _) (fun _ _ => trivial) ?_
 refine Tr.callV rfl rfl rfl rfl Body172 (f_add _ _) (fun _ _ => trivial) ?_
 refine Tr.callL (L := [⟨n, (wdc w).cells, 168, 128⟩]) rfl rfl rfl rfl rfl Body228 (wide_finish n w (w.x * w.x + w.y * w.y - (w.x + w.y) * (w.x + w.y)) (w.z * w.z + w.z * w.z + (w.x * w.x - w.y * w.y)) (w.x * w.x - w.y * w.y) (w.x * w.x + w.y * w.y)) (pm_cons (by repeat (first | exact rem_here | apply rem_there)) pm_nil) (lent_ok rfl) (fun w h => own_blk h (by exact mem7)) ?_
 rintro v65 out65 rfl
 refine Tr.nil (en_n ?_)
 exact ⟨_, [⟨n, (wdc (Wd.dbl w)).cells, 168, 128⟩], res_none rfl, (fun b hb => by rw [List.mem_singleton.1 hb]; exact (by exact mem0)), nodup1, rfl⟩

end Go.Proofs.YtpacobmjjjillaaGreat
end

section
namespace Go.Proofs.YtpacobmjjjillaaGreat
open Go Hw
set_option linter.unusedVariables false
set_option linter.unusedSimpArgs false

open Ed

theorem own_ne {C : Cx} {hp R : List Blk} {w : World} {b1 b2 : Blk} (h : HRep C hp w) (p : hp.Perm ((b1 :: b2 :: []) ++ R)) : b2.n ≠ b1.n := fun e => by
  have := (p.map (·.n)).nodup_iff.1 h.nodup
  simp [e] at this
theorem wide_addD (n q : Nat) (w p : Wd Fp) : Meets Tryz.prog 180 [ptr n 0, ptr q 0, agg (bytesV (fb (fD + fD)))] [n] (fun W => BlkOk W ⟨n, (wdc w).cells, 168, 128⟩ ∧ Sees W q 0 (wdc p).cells ∧ q ≠ n) (fun v out => out = [⟨n, (wdc (Wd.add fD w p)).cells, 168, 128⟩]) := wide_add n q w p (fD + fD)
theorem wide_pointR (n : Nat) (w : Wd Fp) (R : Pt Fp) (hw : w.rep R) : Meets Tryz.prog 183 [ptr n 0] [] (fun W => Sees W n 0 (wdc w).cells) (fun v out => v = agg (ptc R).cells ∧ out = []) := by
  have h := wide_point n w
  have e : (⟨w.x * finv w.z, w.y * finv w.z⟩ : Pt Fp) = R := cv.rep_pt hw
  rwa [e] at h
theorem pair_eg : Tryz.prog.eqGuardType Tryz.prog.depth 174 = false := by kernel_rfl
theorem pair_eq (a b c d : Bool) (w : World) : (Op.equalIn 10000 174 (agg [.bool a, .bool b]) (agg [.bool c, .bool d])).run Tryz.prog w = .ok (a == c && b == d) w := by
  cases a <;> cases b <;> cases c <;> cases d <;> kernel_rfl

set_option maxRecDepth 100000 in
set_option maxHeartbeats 8000000 in
theorem curve_Mul2 (a b : List UInt8) (P Q : Pt Fp) (ha : a.length = 32) (hb : b.length = 32) (hP : cv.on P) (hQ : cv.on Q) : Meets Tryz.prog 109 [agg (bytesV a), agg (ptc P).cells, agg (bytesV b), agg (ptc Q).cells] [] (fun _ => True) (fun v out => v = agg (ptc (cv.lin (le a) (le b) P Q)).cells ∧ out = []) := by
 intro W hW
 refine calls_of (hp0 := []) Tryz.func109 rfl 65 Tryz.ntmps109 rfl (HRep.nil _) ?_
 refine Sat.seq (Sat.region ?_)
 refine Tr.boxA rfl rfl ?_
 intro n4 hn4 hf4
 refine Tr.boxA rfl rfl ?_
 intro n5 hn5 hf5
 refine Tr.boxA rfl rfl ?_
 intro n6 hn6 hf6
 refine Tr.boxA rfl rfl ?_
 intro n7 hn7 hf7
 refine Tr.alloc (cs := Point.zero.cells) rfl Point.zr rfl ?_
 intro n8 hn8 hf8
 refine Tr.nil (at_n (Sat.seq (Sat.seq (Sat.region ?_))))
 refine Tr.loadAll rfl rfl rfl Tryz.underlying79 rfl Sz79 (by exact mem3) (Point.length (by exact ptc_ok _)) ?_
 refine Tr.callV rfl rfl rfl rfl Body177 (curve_Check_on P hP) (fun _ _ => trivial) ?_
 refine Tr.nei rfl rfl rfl rfl (show (!decide _) = false from congrArg not (decide_eq_true (rfl))) ?_
 refine Tr.move rfl rfl rfl ?_
 refine Tr.loadAll rfl rfl rfl Tryz.underlying79 rfl Sz79 (by exact mem1) (Point.length (by exact ptc_ok _)) ?_
 refine Tr.callV rfl rfl rfl rfl Body177 (curve_Check_on Q hQ) (fun _ _ => trivial) ?_
 refine Tr.nei rfl rfl rfl rfl (show (!decide _) = false from congrArg not (decide_eq_true (rfl))) ?_
 refine Tr.pick rfl rfl rfl rfl rfl rfl ?_
 refine Tr.nil (at_n ?_)
 refine Sat.cond_f rfl rfl ?_
 refine Sat.skip (at_n (Sat.seq (Sat.region ?_)))
 refine Tr.callV rfl rfl rfl rfl Body173 (curve_D) (fun _ _ => trivial) ?_
 refine Tr.callV rfl rfl rfl rfl Body173 (curve_D) (fun _ _ => trivial) ?_
 refine Tr.callV rfl rfl rfl rfl Body172 (f_add _ _) (fun _ _ => trivial) ?_
 refine Tr.alloc (cs := (bytesV (List.replicate 32 0))) rfl Zr77 rfl ?_
 intro n9 hn9 hf9
 refine Tr.storeAll rfl rfl rfl rfl (by exact bytesV_cell _) Sz77 (by (simp [fb_length]; done)) (by exact mem0) (by (simp; done)) (by exact upd0) ?_
 refine Tr.nil (at_n (Sat.seq ?_))
 refine Sat.draw [(1, 0), (1, 2), (1, 4), (3, 1), (3, 3), (3, 5), (3, 6), (3, 7), (2, 8), (2, 9), (2, 10), (2, 11), (4, 12), (4, 13), (4, 14), (4, 15)] Mixed (by kernel_rfl) ?_
 refine Tr.loadAll rfl rfl rfl Tryz.underlying79 rfl Sz79 (by exact mem4) (Point.length (by exact ptc_ok _)) ?_
 refine Tr.loadAll rfl rfl rfl Tryz.underlying79 rfl Sz79 (by exact mem2) (Point.length (by exact ptc_ok _)) ?_
 refine Tr.loadAll rfl rfl rfl Tryz.underlying79 rfl Sz79 (by exact mem4) (Point.length (by exact ptc_ok _)) ?_
 refine Tr.callV rfl rfl rfl rfl Body179 (curve_widen P) (fun _ _ => trivial) ?_
 refine Tr.callV rfl rfl rfl rfl Body179 (curve_widen Q) (fun _ _ => trivial) ?_
 refine Tr.callV rfl rfl rfl rfl Body179 (curve_widen P) (fun _ _ => trivial) ?_
 refine Tr.callV rfl rfl rfl rfl Body178 (curve_Zero) (fun _ _ => trivial) ?_
 refine Tr.callV rfl rfl rfl rfl Body179 (curve_widen (zero : Pt Fp)) (fun _ _ => trivial) ?_
 refine Tr.alloc (cs := wide.zero.cells) rfl wide.zr rfl ?_
 intro n10 hn10 hf10
 refine Tr.alloc (cs := wide.zero.cells) rfl wide.zr rfl ?_
 intro n11 hn11 hf11
 refine Tr.alloc (cs := wide.zero.cells) rfl wide.zr rfl ?_
 intro n12 hn12 hf12
 refine Tr.alloc (cs := wide.zero.cells) rfl wide.zr rfl ?_
 intro n13 hn13 hf13
 refine Tr.storeAll rfl rfl rfl rfl (wide.isCell (by exact wdc_ok _)) Sz168 (wide.length (by exact wdc_ok _)) (by exact mem3) (wide.length (by exact wide.zero_ok)) (by exact upd3) ?_
 refine Tr.storeAll rfl rfl rfl rfl (wide.isCell (by exact wdc_ok _)) Sz168 (wide.length (by exact wdc_ok _)) (by exact mem2) (wide.length (by exact wide.zero_ok)) (by exact upd2) ?_
 refine Tr.storeAll rfl rfl rfl rfl (wide.isCell (by exact wdc_ok _)) Sz168 (wide.length (by exact wdc_ok _)) (by exact mem1) (wide.length (by exact wide.zero_ok)) (by exact upd1) ?_
 refine Tr.storeAll rfl rfl rfl rfl (wide.isCell (by exact wdc_ok _)) Sz168 (wide.length (by exact wdc_ok _)) (by exact mem0) (wide.length (by exact wide.zero_ok)) (by exact upd0) ?_
 refine Tr.nil (at_n (Sat.seq (Sat.region ?_)))
 refine Tr.loadAll rfl rfl rfl Tryz.underlying77 rfl Sz77 (by exact mem4) (by (simp [fb_length]; done)) ?_
 refine Tr.callL (L := [⟨n12, (wdc (Wd.of P)).cells, 168, 128⟩]) rfl rfl rfl rfl rfl Body180 (wide_addD n12 n11 (Wd.of P) (Wd.of Q)) (pm_cons (by repeat (first | exact rem_here | apply rem_there)) pm_nil) (lent_ok rfl) (fun w h => ⟨own_blk h (by exact mem1), sees_own h (by exact mem2), own_ne (b1 := ⟨n12, (wdc (Wd.of P)).cells, 168, 128⟩) (b2 := ⟨n11, (wdc (Wd.of Q)).cells, 168, 128⟩) h (pm_cons (by repeat (first | exact rem_here | apply rem_there)) (pm_cons (by repeat (first | exact rem_here | apply rem_there)) pm_nil))⟩) ?_
 rintro v36 out36 rfl
 simp only [List.cons_append, List.nil_append]
 refine Tr.nil (at_n (Sat.seq (Sat.seq (Sat.region ?_))))
 refine Tr.assign rfl rfl rfl ?_
 refine Tr.nil (at_n (Sat.block ?_))
 refine Sat.loop (ι := Nat × Wd Fp) (fun p => ⟨[(4, ptr n4 0), (6, ptr n6 0), (8, ptr n8 0), (9, ptr n9 0), (10, ptr n10 0), (11, ptr n11 0), (12, ptr n12 0), (13, ptr n13 0), (14, i64 (255 - (p.1 : Int)))], [⟨n13, (wdc p.2).cells, 168, 128⟩, ⟨n12, (wdc (Wd.add fD (Wd.of P) (Wd.of Q))).cells, 168, 128⟩, ⟨n11, (wdc (Wd.of Q)).cells, 168, 128⟩, ⟨n10, (wdc (Wd.of P)).cells, 168, 128⟩, ⟨n9, bytesV (fb (fD + fD)), 77, 32⟩, ⟨n8, Point.zero.cells, 79, 64⟩, ⟨n6, bytesV b, 77, (bytesV b).length⟩, ⟨n4, bytesV a, 77, (bytesV a).length⟩]⟩) (fun p => p.1 ≤ 256 ∧ p.2.rep (cv.lin (le a / 2 ^ (256 - p.1)) (le b / 2 ^ (256 - p.1)) P Q)) (fun p => 256 - p.1) ((0, Wd.of zero)) ?_ ?_ ?_
 · exact ⟨Nat.zero_le _, lin_first a b ha hb P Q⟩
 · exact weak_perm (wk1 rfl (wk1 rfl (wk1 rfl (wk1 rfl (wk1 rfl (wk1 rfl (wk1 rfl (wk1 rfl (wk1 rfl wk0))))))))) (pm_cons (by repeat (first | exact rem_here | apply rem_there)) (pm_cons (by repeat (exact rem_here)) (pm_cons (by repeat (exact rem_here)) (pm_cons (by repeat (exact rem_here)) (pm_cons (by repeat (exact rem_here)) (pm_cons (by repeat (exact rem_here)) (pm_cons (by repeat (first | exact rem_here | apply rem_there)) (pm_cons (by repeat (first | exact rem_here | apply rem_there)) pm_nil))))))))
 ·
  rintro p ⟨hj1, hw⟩
  refine Sat.seq (Sat.seq (Sat.region ?_))
  refine Tr.move rfl rfl rfl ?_
  refine Tr.geq rfl rfl rfl rfl rfl ?_
  refine Tr.nil (at_n ?_)
  refine Sat.condP rfl (fun hc1 => ?_) (fun hc1 => ?_)
  ·
   have hj : p.1 < 256 := by omega
   refine Sat.skip (at_n ?_)
   refine Sat.join (ι := Wd Fp) (fun u => ⟨[(4, ptr n4 0), (6, ptr n6 0), (8, ptr n8 0), (9, ptr n9 0), (10, ptr n10 0), (11, ptr n11 0), (12, ptr n12 0), (13, ptr n13 0), (14, i64 (((255 - p.1 : Nat) : Int)))], [⟨n13, (wdc u).cells, 168, 128⟩, ⟨n12, (wdc (Wd.add fD (Wd.of P) (Wd.of Q))).cells, 168, 128⟩, ⟨n11, (wdc (Wd.of Q)).cells, 168, 128⟩, ⟨n10, (wdc (Wd.of P)).cells, 168, 128⟩, ⟨n9, bytesV (fb (fD + fD)), 77, 32⟩, ⟨n8, Point.zero.cells, 79, 64⟩, ⟨n6, bytesV b, 77, (bytesV b).length⟩, ⟨n4, bytesV a, 77, (bytesV a).length⟩]⟩) (fun u => u.rep (cv.lin (le a / 2 ^ (256 - (p.1 + 1))) (le b / 2 ^ (256 - (p.1 + 1))) P Q)) ?_ ?_
   ·
    refine Sat.block (Sat.seq ?_)
    refine Sat.region ?_
    refine Tr.callL (L := [⟨n13, (wdc p.2).cells, 168, 128⟩]) rfl rfl rfl rfl rfl Body181 (wide_double n13 p.2) (pm_cons (by repeat (exact rem_here)) pm_nil) (lent_ok rfl) (fun w h => own_blk h (by exact mem0)) ?_
    rintro v41 out41 rfl
    simp only [List.cons_append, List.nil_append]
    rw [show (255 : Int) - (p.1 : Int) = ((255 - p.1 : Nat) : Int) by omega]
    refine Tr.nil (at_n (Sat.seq ?_))
    refine Sat.draw [(1, 0), (0, 1), (1, 3), (0, 4), (3, 2), (3, 5), (0, 6)] Mixed (by kernel_rfl) ?_
    refine Tr.loadAll rfl rfl rfl Tryz.underlying77 rfl Sz77 (by exact mem7) (by (simp [ha]; done)) ?_
    refine Tr.move rfl rfl rfl ?_
    refine Tr.loadAll rfl rfl rfl Tryz.underlying77 rfl Sz77 (by exact mem6) (by (simp [hb]; done)) ?_
    refine Tr.move rfl rfl rfl ?_
    refine Tr.callB rfl rfl rfl rfl Body182 (scalar_bit_at a ha (255 - p.1) oM) (fun _ _ => trivial) (fun hs10_20 => ?_) (fun hs10_20 => ?_)
    ·
     have hs10_2 := nd_t hs10_20
     have hs10_2 := hs10_20
     refine Tr.callB rfl rfl rfl rfl Body182 (scalar_bit_at b hb (255 - p.1) oM) (fun _ _ => trivial) (fun hs10_50 => ?_) (fun hs10_50 => ?_)
     ·
      have hs10_5 := nd_t hs10_50
      have hs10_5 := hs10_50
      refine Tr.build (cs := [.bool true, .bool true]) rfl rfl rfl (fun w => by kernel_rfl) ?_
      refine Tr.nil (at_n (Sat.block (Sat.seq (Sat.region ?_))))
      refine Tr.build (cs := [.bool true, .bool true]) rfl rfl rfl (fun w => by kernel_rfl) ?_
      refine Tr.eql_rec (q := (true == true && true == true)) (r := true) rfl rfl rfl rfl pair_eg (fun w => pair_eq true true true true w) rfl ?_
      refine Tr.assign rfl rfl rfl ?_
      refine Tr.nil (at_n ?_)
      refine Sat.cond_t rfl rfl ?_
      refine Sat.region ?_
      refine Tr.loadAll rfl rfl rfl Tryz.underlying77 rfl Sz77 (by exact mem4) (by (simp [fb_length]; done)) ?_
      refine Tr.callL (L := [⟨n13, (wdc (Wd.dbl p.2)).cells, 168, 128⟩]) rfl rfl rfl rfl rfl Body180 (wide_addD n13 n12 (Wd.dbl p.2) (Wd.add fD (Wd.of P) (Wd.of Q))) (pm_cons (by repeat (exact rem_here)) pm_nil) (lent_ok rfl) (fun w h => ⟨own_blk h (by exact mem0), sees_own h (by exact mem1), own_ne (b1 := ⟨n13, (wdc (Wd.dbl p.2)).cells, 168, 128⟩) (b2 := ⟨n12, (wdc (Wd.add fD (Wd.of P) (Wd.of Q))).cells, 168, 128⟩) h (pm_cons (by repeat (exact rem_here)) (pm_cons (by repeat (exact rem_here)) pm_nil))⟩) ?_
      rintro v53 out53 rfl
      simp only [List.cons_append, List.nil_append]
      refine Tr.nil (bl_n (bl_n (at_n ?_)))
      (exact ⟨Wd.add fD (Wd.dbl p.2) (Wd.add fD (Wd.of P) (Wd.of Q)), (by rw [lin_tt hj hP hQ hs10_2 hs10_5]; exact cv.rep_add (cv.rep_dbl hw (cv.on_lin hP hQ _ _)) (cv.rep_add (cv.rep_of P) (cv.rep_of Q) hP hQ) (cv.on_add (cv.on_lin hP hQ _ _) (cv.on_lin hP hQ _ _)) (cv.on_add hP hQ)), weak_perm (wk1 rfl (wk1 rfl (wk1 rfl (wk1 rfl (wk1 rfl (wk1 rfl (wk1 rfl (wk1 rfl (wk1 rfl wk0))))))))) (pm_cons (by repeat (exact rem_here)) (pm_cons (by repeat (exact rem_here)) (pm_cons (by repeat (exact rem_here)) (pm_cons (by repeat (exact rem_here)) (pm_cons (by repeat (exact rem_here)) (pm_cons (by repeat (exact rem_here)) (pm_cons (by repeat (exact rem_here)) (pm_cons (by repeat (exact rem_here)) pm_nil))))))))⟩)
     ·
      have hs10_5 := nd_f hs10_50
      have hs10_5 := hs10_50
      refine Tr.build (cs := [.bool true, .bool false]) rfl rfl rfl (fun w => by kernel_rfl) ?_
      refine Tr.nil (at_n (Sat.block (Sat.seq (Sat.region ?_))))
      refine Tr.build (cs := [.bool true, .bool true]) rfl rfl rfl (fun w => by kernel_rfl) ?_
      refine Tr.eql_rec (q := (true == true && false == true)) (r := false) rfl rfl rfl rfl pair_eg (fun w => pair_eq true false true true w) rfl ?_
      refine Tr.assign rfl rfl rfl ?_
      refine Tr.nil (at_n ?_)
      refine Sat.cond_f rfl rfl ?_
      refine Sat.seq (Sat.region ?_)
      refine Tr.build (cs := [.bool true, .bool false]) rfl rfl rfl (fun w => by kernel_rfl) ?_
      refine Tr.eql_rec (q := (true == true && false == false)) (r := true) rfl rfl rfl rfl pair_eg (fun w => pair_eq true false true false w) rfl ?_
      refine Tr.assign rfl rfl rfl ?_
      refine Tr.nil (at_n ?_)
      refine Sat.cond_t rfl rfl ?_
      refine Sat.region ?_
      refine Tr.loadAll rfl rfl rfl Tryz.underlying77 rfl Sz77 (by exact mem4) (by (simp [fb_length]; done)) ?_
      refine Tr.callL (L := [⟨n13, (wdc (Wd.dbl p.2)).cells, 168, 128⟩]) rfl rfl rfl rfl rfl Body180 (wide_addD n13 n10 (Wd.dbl p.2) (Wd.of P)) (pm_cons (by repeat (exact rem_here)) pm_nil) (lent_ok rfl) (fun w h => ⟨own_blk h (by exact mem0), sees_own h (by exact mem3), own_ne (b1 := ⟨n13, (wdc (Wd.dbl p.2)).cells, 168, 128⟩) (b2 := ⟨n10, (wdc (Wd.of P)).cells, 168, 128⟩) h (pm_cons (by repeat (exact rem_here)) (pm_cons (by repeat (first | exact rem_here | apply rem_there)) pm_nil))⟩) ?_
      rintro v58 out58 rfl
      simp only [List.cons_append, List.nil_append]
      refine Tr.nil (bl_n (bl_n (at_n ?_)))
      (exact ⟨Wd.add fD (Wd.dbl p.2) (Wd.of P), (by rw [lin_tf hj hP hQ hs10_2 hs10_5]; exact cv.rep_add (cv.rep_dbl hw (cv.on_lin hP hQ _ _)) (cv.rep_of P) (cv.on_add (cv.on_lin hP hQ _ _) (cv.on_lin hP hQ _ _)) hP), weak_perm (wk1 rfl (wk1 rfl (wk1 rfl (wk1 rfl (wk1 rfl (wk1 rfl (wk1 rfl (wk1 rfl (wk1 rfl wk0))))))))) (pm_cons (by repeat (exact rem_here)) (pm_cons (by repeat (exact rem_here)) (pm_cons (by repeat (exact rem_here)) (pm_cons (by repeat (exact rem_here)) (pm_cons (by repeat (exact rem_here)) (pm_cons (by repeat (exact rem_here)) (pm_cons (by repeat (exact rem_here)) (pm_cons (by repeat (exact rem_here)) pm_nil))))))))⟩)
    ·
     have hs10_2 := nd_f hs10_20
     have hs10_2 := hs10_20
     refine Tr.callB rfl rfl rfl rfl Body182 (scalar_bit_at b hb (255 - p.1) oM) (fun _ _ => trivial) (fun hs10_50 => ?_) (fun hs10_50 => ?_)
     ·
      have hs10_5 := nd_t hs10_50
      have hs10_5 := hs10_50
      refine Tr.build (cs := [.bool false, .bool true]) rfl rfl rfl (fun w => by kernel_rfl) ?_
      refine Tr.nil (at_n (Sat.block (Sat.seq (Sat.region ?_))))
      refine Tr.build (cs := [.bool true, .bool true]) rfl rfl rfl (fun w => by kernel_rfl) ?_
      refine Tr.eql_rec (q := (false == true && true == true)) (r := false) rfl rfl rfl rfl pair_eg (fun w => pair_eq false true true true w) rfl ?_
      refine Tr.assign rfl rfl rfl ?_
      refine Tr.nil (at_n ?_)
      refine Sat.cond_f rfl rfl ?_
      refine Sat.seq (Sat.region ?_)
      refine Tr.build (cs := [.bool true, .bool false]) rfl rfl rfl (fun w => by kernel_rfl) ?_
      refine Tr.eql_rec (q := (false == true && true == false)) (r := false) rfl rfl rfl rfl pair_eg (fun w => pair_eq false true true false w) rfl ?_
      refine Tr.assign rfl rfl rfl ?_
      refine Tr.nil (at_n ?_)
      refine Sat.cond_f rfl rfl ?_
      refine Sat.seq (Sat.region ?_)
      refine Tr.build (cs := [.bool false, .bool true]) rfl rfl rfl (fun w => by kernel_rfl) ?_
      refine Tr.eql_rec (q := (false == false && true == true)) (r := true) rfl rfl rfl rfl pair_eg (fun w => pair_eq false true false true w) rfl ?_
      refine Tr.assign rfl rfl rfl ?_
      refine Tr.nil (at_n ?_)
      refine Sat.cond_t rfl rfl ?_
      refine Sat.region ?_
      refine Tr.loadAll rfl rfl rfl Tryz.underlying77 rfl Sz77 (by exact mem4) (by (simp [fb_length]; done)) ?_
      refine Tr.callL (L := [⟨n13, (wdc (Wd.dbl p.2)).cells, 168, 128⟩]) rfl rfl rfl rfl rfl Body180 (wide_addD n13 n11 (Wd.dbl p.2) (Wd.of Q)) (pm_cons (by repeat (exact rem_here)) pm_nil) (lent_ok rfl) (fun w h => ⟨own_blk h (by exact mem0), sees_own h (by exact mem2), own_ne (b1 := ⟨n13, (wdc (Wd.dbl p.2)).cells, 168, 128⟩) (b2 := ⟨n11, (wdc (Wd.of Q)).cells, 168, 128⟩) h (pm_cons (by repeat (exact rem_here)) (pm_cons (by repeat (first | exact rem_here | apply rem_there)) pm_nil))⟩) ?_
      rintro v63 out63 rfl
      simp only [List.cons_append, List.nil_append]
      refine Tr.nil (bl_n (bl_n (at_n ?_)))
      (exact ⟨Wd.add fD (Wd.dbl p.2) (Wd.of Q), (by rw [lin_ft hj hP hQ hs10_2 hs10_5]; exact cv.rep_add (cv.rep_dbl hw (cv.on_lin hP hQ _ _)) (cv.rep_of Q) (cv.on_add (cv.on_lin hP hQ _ _) (cv.on_lin hP hQ _ _)) hQ), weak_perm (wk1 rfl (wk1 rfl (wk1 rfl (wk1 rfl (wk1 rfl (wk1 rfl (wk1 rfl (wk1 rfl (wk1 rfl wk0))))))))) (pm_cons (by repeat (exact rem_here)) (pm_cons (by repeat (exact rem_here)) (pm_cons (by repeat (exact rem_here)) (pm_cons (by repeat (exact rem_here)) (pm_cons (by repeat (exact rem_here)) (pm_cons (by repeat (exact rem_here)) (pm_cons (by repeat (exact rem_here)) (pm_cons (by repeat (exact rem_here)) pm_nil))))))))⟩)
     ·
      have hs10_5 := nd_f hs10_50
      have hs10_5 := hs10_50
      refine Tr.build (cs := [.bool false, .bool false]) rfl rfl rfl (fun w => by kernel_rfl) ?_
      refine Tr.nil (at_n (Sat.block (Sat.seq (Sat.region ?_))))
      refine Tr.build (cs := [.bool true, .bool true]) rfl rfl rfl (fun w => by kernel_rfl) ?_
      refine Tr.eql_rec (q := (false == true && false == true)) (r := false) rfl rfl rfl rfl pair_eg (fun w => pair_eq false false true true w) rfl ?_
      refine Tr.assign rfl rfl rfl ?_
      refine Tr.nil (at_n ?_)
      refine Sat.cond_f rfl rfl ?_
      refine Sat.seq (Sat.region ?_)
      refine Tr.build (cs := [.bool true, .bool false]) rfl rfl rfl (fun w => by kernel_rfl) ?_
      refine Tr.eql_rec (q := (false == true && false == false)) (r := false) rfl rfl rfl rfl pair_eg (fun w => pair_eq false false true false w) rfl ?_
      refine Tr.assign rfl rfl rfl ?_
      refine Tr.nil (at_n ?_)
      refine Sat.cond_f rfl rfl ?_
      refine Sat.seq (Sat.region ?_)
      refine Tr.build (cs := [.bool false, .bool true]) rfl rfl rfl (fun w => by kernel_rfl) ?_
      refine Tr.eql_rec (q := (false == false && false == true)) (r := false) rfl rfl rfl rfl pair_eg (fun w => pair_eq false false false true w) rfl ?_
      refine Tr.assign rfl rfl rfl ?_
      refine Tr.nil (at_n ?_)
      refine Sat.cond_f rfl rfl ?_
      refine Sat.skip (bl_n (bl_n (at_n ?_)))
      (exact ⟨Wd.dbl p.2, (by rw [lin_ff hj hP hQ hs10_2 hs10_5]; exact (cv.rep_dbl hw (cv.on_lin hP hQ _ _))), weak_perm (wk1 rfl (wk1 rfl (wk1 rfl (wk1 rfl (wk1 rfl (wk1 rfl (wk1 rfl (wk1 rfl (wk1 rfl wk0))))))))) (pm_cons (by repeat (exact rem_here)) (pm_cons (by repeat (exact rem_here)) (pm_cons (by repeat (exact rem_here)) (pm_cons (by repeat (exact rem_here)) (pm_cons (by repeat (exact rem_here)) (pm_cons (by repeat (exact rem_here)) (pm_cons (by repeat (exact rem_here)) (pm_cons (by repeat (exact rem_here)) pm_nil))))))))⟩)
   ·
    intro u hj
    have hu := hj
    refine Sat.region ?_
    refine Tr.move rfl rfl rfl ?_
    refine Tr.sub_i64 rfl rfl rfl rfl oM ?_
    refine Tr.assign rfl rfl rfl ?_
    refine Tr.nil (at_n ?_)
    exact ⟨(p.1 + 1, u), ⟨by simp only []; omega, hu⟩, by simp only []; omega, weak_perm (wk1 rfl (wk1 rfl (wk1 rfl (wk1 rfl (wk1 rfl (wk1 rfl (wk1 rfl (wk1 rfl (wk1 (congrArg (fun z => some (i64 z)) (show ((255 - p.1 : Nat) : Int) - 1 = 255 - ((p.1 + 1 : Nat) : Int) by omega)) wk0))))))))) (pm_cons (by repeat (exact rem_here)) (pm_cons (by repeat (exact rem_here)) (pm_cons (by repeat (exact rem_here)) (pm_cons (by repeat (exact rem_here)) (pm_cons (by repeat (exact rem_here)) (pm_cons (by repeat (exact rem_here)) (pm_cons (by repeat (exact rem_here)) (pm_cons (by repeat (exact rem_here)) pm_nil))))))))⟩
  ·
   have hje : p.1 = 256 := by omega
   have hfin : p.2.rep (cv.lin (le a) (le b) P Q) := by rw [hje, lin_last] at hw; exact hw
   refine Sat.exit (at_x (at_x (bl_h (at_n (Sat.seq (Sat.region ?_))))))
   refine Tr.callV rfl rfl rfl rfl Body183 (wide_pointR n13 p.2 _ hfin) (fun w h => sees_own h (by exact mem0)) ?_
   refine Tr.storeAll rfl rfl rfl rfl (Point.isCell (by exact ptc_ok _)) Sz79 (Point.length (by exact ptc_ok _)) (by exact mem5) (Point.length (by exact Point.zero_ok)) (by exact upd5) ?_
   refine Tr.nil (at_n (Sat.ret (en_r ?_)))
   refine ⟨_, [], res_cell rfl rfl Tryz.underlying79 rfl Sz79 (by exact mem5) (by exact Point.length (by exact ptc_ok _)), sP, sP, ?_, rfl⟩
   rfl

theorem ptc_y (P : Pt Fp) : (ptc P).fY = fb P.y := rfl
theorem le_zero32 : le (List.replicate 32 0) = 0 := by kernel_rfl
theorem curve_Mul2z (a : List UInt8) (P : Pt Fp) (ha : a.length = 32) (hP : cv.on P) : Meets Tryz.prog 109 [agg (bytesV a), agg (ptc P).cells, agg (bytesV (List.replicate 32 0)), agg (ptc (zero : Pt Fp)).cells] [] (fun _ => True) (fun v out => v = agg (ptc (cv.mul (le a) P)).cells ∧ out = []) := by
  have h := curve_Mul2 a (List.replicate 32 0) P zero ha rfl hP cv.on_zero
  rwa [le_zero32, lin_one] at h

set_option maxRecDepth 100000 in
set_option maxHeartbeats 1000000 in
theorem curve_Mul (a : List UInt8) (P : Pt Fp) (ha : a.length = 32) (hP : cv.on P) : Meets Tryz.prog 159 [agg (bytesV a), agg (ptc P).cells] [] (fun _ => True) (fun v out => v = agg (ptc (cv.mul (le a) P)).cells ∧ out = []) := by
 intro W hW
 refine calls_of (hp0 := []) Tryz.func159 rfl 10 Tryz.ntmps159 rfl (HRep.nil _) ?_
 refine Sat.seq (Sat.region ?_)
 refine Tr.boxA rfl rfl ?_
 intro n2 hn2 hf2
 refine Tr.boxA rfl rfl ?_
 intro n3 hn3 hf3
 refine Tr.alloc (cs := Point.zero.cells) rfl Point.zr rfl ?_
 intro n4 hn4 hf4
 refine Tr.nil (at_n (Sat.seq ?_))
 refine Sat.draw [(1, 0), (1, 1), (0, 2), (3, 3), (3, 4), (4, 5)] Mixed (by kernel_rfl) ?_
 refine Tr.loadAll rfl rfl rfl Tryz.underlying77 rfl Sz77 (by exact mem2) (by (simp [ha]; done)) ?_
 refine Tr.loadAll rfl rfl rfl Tryz.underlying79 rfl Sz79 (by exact mem1) (Point.length (by exact ptc_ok _)) ?_
 refine Tr.build (cs := bytesV (List.replicate 32 0)) rfl rfl rfl (fun w => by kernel_rfl) ?_
 refine Tr.callV rfl rfl rfl rfl Body178 (curve_Zero) (fun _ _ => trivial) ?_
 refine Tr.callV rfl rfl rfl rfl Body109 (curve_Mul2z a P ha hP) (fun _ _ => trivial) ?_
 refine Tr.storeAll rfl rfl rfl rfl (Point.isCell (by exact ptc_ok _)) Sz79 (Point.length (by exact ptc_ok _)) (by exact mem0) (Point.length (by exact Point.zero_ok)) (by exact upd0) ?_
 refine Tr.nil (at_n (Sat.ret (en_r ?_)))
 refine ⟨_, [], res_cell rfl rfl Tryz.underlying79 rfl Sz79 (by exact mem0) (by exact Point.length (by exact ptc_ok _)), sP, sP, ?_, rfl⟩
 rfl

set_option maxRecDepth 100000 in
set_option maxHeartbeats 2000000 in
theorem curve_Neg (P : Pt Fp) (hP : cv.on P) : Meets Tryz.prog 111 [agg (ptc P).cells] [] (fun _ => True) (fun v out => v = agg (ptc (neg P)).cells ∧ out = []) := by
 intro W hW
 refine calls_of (hp0 := []) Tryz.func111 rfl 13 Tryz.ntmps111 rfl (HRep.nil _) ?_
 refine Sat.seq (Sat.region ?_)
 refine Tr.boxA rfl rfl ?_
 intro n1 hn1 hf1
 refine Tr.alloc (cs := Point.zero.cells) rfl Point.zr rfl ?_
 intro n2 hn2 hf2
 refine Tr.nil (at_n (Sat.seq (Sat.seq (Sat.region ?_))))
 refine Tr.loadAll rfl rfl rfl Tryz.underlying79 rfl Sz79 (by exact mem1) (Point.length (by exact ptc_ok _)) ?_
 refine Tr.callV rfl rfl rfl rfl Body177 (curve_Check_on P hP) (fun _ _ => trivial) ?_
 refine Tr.nei rfl rfl rfl rfl (show (!decide _) = false from congrArg not (decide_eq_true (rfl))) ?_
 refine Tr.nil (at_n ?_)
 refine Sat.cond_f rfl (rfl) ?_
 refine Sat.skip (at_n (Sat.seq ?_))
 refine Sat.draw [(0, 0), (1, 1), (0, 3), (1, 4), (3, 2), (0, 5), (4, 6)] Mixed (by kernel_rfl) ?_
 refine Tr.fld rfl rfl rfl Tryz.underlying79 rfl Sz77 dE _ rfl ?_
 refine Tr.loadN (bytesV _) rfl rfl rfl Tryz.underlying77 rfl Sz77 (by exact mem1) (Point.row_fX (by exact ptc_ok _)) (Point.rl_fX (by exact ptc_ok _)) ?_
 refine Tr.fld rfl rfl rfl Tryz.underlying79 rfl Sz77 dE _ rfl ?_
 refine Tr.loadN (bytesV _) rfl rfl rfl Tryz.underlying77 rfl Sz77 (by exact mem1) (Point.row_fY (by exact ptc_ok _)) (Point.rl_fY (by exact ptc_ok _)) ?_
 refine Tr.callV rfl rfl rfl rfl Body176 (f_neg _) (fun _ _ => trivial) ?_
 refine Tr.build (cs := (ptc (neg P)).cells) rfl rfl rfl (fun w => by kernel_rfl) ?_
 refine Tr.storeAll rfl rfl rfl rfl (Point.isCell (by exact ptc_ok _)) Sz79 (Point.length (by exact ptc_ok _)) (by exact mem0) (Point.length (by exact Point.zero_ok)) (by exact upd0) ?_
 refine Tr.nil (at_n (Sat.ret (en_r ?_)))
 refine ⟨_, [], res_cell rfl rfl Tryz.underlying79 rfl Sz79 (by exact mem0) (by exact Point.length (by exact ptc_ok _)), sP, sP, ?_, rfl⟩
 rfl

set_option maxRecDepth 100000 in
set_option maxHeartbeats 2000000 in
theorem curve_Bytes (P : Pt Fp) (hP : cv.on P) : Meets Tryz.prog 158 [agg (ptc P).cells] [] (fun _ => True) (fun v out => v = .tuple #[agg (bytesV (pb P)), i64 0] ∧ out = []) := by
 intro W hW
 refine calls_of (hp0 := []) Tryz.func158 rfl 22 Tryz.ntmps158 rfl (HRep.nil _) ?_
 refine Sat.seq (Sat.region ?_)
 refine Tr.boxA rfl rfl ?_
 intro n1 hn1 hf1
 refine Tr.alloc (cs := (bytesV (List.replicate 32 0))) rfl Zr23 rfl ?_
 intro n2 hn2 hf2
 refine Tr.assign rfl rfl rfl ?_
 refine Tr.nil (at_n (Sat.seq (Sat.seq (Sat.region ?_))))
 refine Tr.loadAll rfl rfl rfl Tryz.underlying79 rfl Sz79 (by exact mem1) (Point.length (by exact ptc_ok _)) ?_
 refine Tr.callV rfl rfl rfl rfl Body177 (curve_Check_on P hP) (fun _ _ => trivial) ?_
 refine Tr.assign rfl rfl rfl ?_
 refine Tr.nil (at_n (Sat.seq (Sat.region ?_)))
 refine Tr.move rfl rfl rfl ?_
 refine Tr.nei rfl rfl rfl rfl (show (!decide _) = false from congrArg not (decide_eq_true (rfl))) ?_
 refine Tr.nil (at_n ?_)
 refine Sat.cond_f rfl (rfl) ?_
 refine Sat.skip (at_n (Sat.seq (Sat.region ?_)))
 refine Tr.fld rfl rfl rfl Tryz.underlying79 rfl Sz77 dE _ rfl ?_
 refine Tr.loadN (bytesV _) rfl rfl rfl Tryz.underlying77 rfl Sz77 (by exact mem1) (Point.row_fY (by exact ptc_ok _)) (Point.rl_fY (by exact ptc_ok _)) ?_
 refine Tr.alloc (cs := (bytesV (List.replicate 32 0))) rfl Zr23 rfl ?_
 intro n5 hn5 hf5
 refine Tr.storeAll rfl rfl rfl rfl (by exact bytesV_cell _) Sz23 (by (simp [fb_length, ptc_y]; done)) (by exact mem0) (by (simp; done)) (by exact upd0) ?_
 refine Tr.nil (at_n ?_)
 refine Sat.join (ι := Unit) (fun _u => ⟨[(2, ptr n2 0), (5, ptr n5 0)], [⟨n5, bytesV (pb P), 23, 32⟩, ⟨n2, bytesV (List.replicate 32 0), 23, 32⟩]⟩) (fun _u => True) ?_ ?_
 ·
  refine Sat.seq (Sat.region ?_)
  refine Tr.fld rfl rfl rfl Tryz.underlying79 rfl Sz77 dE _ rfl ?_
  refine Tr.loadN (bytesV _) rfl rfl rfl Tryz.underlying77 rfl Sz77 (by exact mem2) (Point.row_fX (by exact ptc_ok _)) (Point.rl_fX (by exact ptc_ok _)) ?_
  refine Tr.callV rfl rfl rfl rfl Body215 (f_odd P.x) (fun _ _ => trivial) ?_
  refine Tr.nil (at_n ?_)
  refine Sat.condP rfl (fun hc1 => ?_) (fun hc1 => ?_)
  ·
   refine Sat.region ?_
   refine Tr.idxArr1 rfl rfl rfl rfl Tryz.underlying23 Sz5 31 rfl dE ?_
   refine Tr.load1 rfl rfl rfl Tryz.underlying5 rfl (by exact mem0) (by rfl) ?_
   refine Tr.or_u8 rfl rfl rfl (show evIn _ _ = some (u8 128) from rfl) ?_
   refine Tr.idxArr1 rfl rfl rfl rfl Tryz.underlying23 Sz5 31 rfl dE ?_
   refine Tr.store1 rfl rfl rfl rfl rfl Sz5 (by exact mem0) (by (simp [fb_length, ptc_y]; done)) (by exact set_bytes _ _ _) (by exact upd0) ?_
   refine Tr.nil (at_n ?_)
   (rw [show pb P = (fb P.y).set 31 ((fb P.y).getD 31 0 ||| 128) from if_pos hc1]; exact ⟨(), trivial, weak_of (wk1 rfl (wk1 rfl wk0)) (wh1 (by exact mem0) (wh1 (by exact mem1) wh0)) (by repeat (first | exact ns_nil | refine ns_keep rfl ?_))⟩)
  ·
   refine Sat.skip (at_n ?_)
   (rw [show pb P = fb P.y from if_neg hc1]; exact ⟨(), trivial, weak_of (wk1 rfl (wk1 rfl wk0)) (wh1 (by exact mem0) (wh1 (by exact mem1) wh0)) (by repeat (first | exact ns_nil | refine ns_keep rfl ?_))⟩)
 ·
  intro _u hj
  skip
  refine Sat.seq (Sat.region ?_)
  refine Tr.loadAll rfl rfl rfl Tryz.underlying23 rfl Sz23 (by exact mem0) (by (simp [pb_length]; done)) ?_
  refine Tr.storeAll rfl rfl rfl rfl (by exact bytesV_cell _) Sz23 (by (simp [pb_length]; done)) (by exact mem1) (by (simp; done)) (by exact upd1) ?_
  refine Tr.assign rfl rfl rfl ?_
  refine Tr.nil (at_n (Sat.ret (en_r ?_)))
  refine ⟨_, [], res_cell_tmp rfl rfl rfl Tryz.underlying23 rfl Sz23 (by exact mem1) (by simp [pb_length]), sP, sP, ?_, rfl⟩
  rfl

def rdV (b : List UInt8) : Value := match rdP b with
  | some P => .tuple #[agg (ptc P).cells, i64 0]
  | none => .tuple #[agg Point.zero.cells, i64 4]
theorem rdV_none {b : List UInt8} (h : rdP b = none) : rdV b = .tuple #[agg Point.zero.cells, i64 4] := by rw [rdV, h]
theorem rdV_some {b : List UInt8} {P : Pt Fp} (h : rdP b = some P) : rdV b = .tuple #[agg (ptc P).cells, i64 0] := by rw [rdV, h]
theorem rd_n1 {b : List UInt8} (h : ¬ fb (fe (le (lowB b))) = lowB b) : rdP b = none := by rw [rdP, if_neg h]
theorem rd_n2 {b : List UInt8} {r : Fp × Bool} (hx : xOf (fe (le (lowB b))) = r) (h : r.2 = false) : rdP b = none := by
  rw [rdP]
  split
  · rw [hx, if_neg (by rw [h]; simp)]
  · rfl
theorem rd_n3 {b : List UInt8} {r : Fp × Bool} (hx : xOf (fe (le (lowB b))) = r) (h1 : topB b = true) (h : fb r.1 = List.replicate 32 0) : rdP b = none := by
  have h2 : r.1 = 0 := fb_inj.1 (h.trans fb_zero.symm)
  rw [rdP]
  split
  · rw [hx, if_neg (fun e => e.2 ⟨h1, h2⟩)]
  · rfl
theorem rd_s1 {b : List UInt8} {r : Fp × Bool} (hc : fb (fe (le (lowB b))) = lowB b) (hx : xOf (fe (le (lowB b))) = r) (h2 : r.2 = true) (h1 : topB b = true) (h : ¬ fb r.1 = List.replicate 32 0) : rdP b = some ⟨-r.1, fe (le (lowB b))⟩ := by
  rw [rdP, if_pos hc, hx, if_pos ⟨h2, fun e => h (by rw [e.2, fb_zero])⟩, if_pos h1]
theorem rd_s2 {b : List UInt8} {r : Fp × Bool} (hc : fb (fe (le (lowB b))) = lowB b) (hx : xOf (fe (le (lowB b))) = r) (h2 : r.2 = true) (h1 : topB b = false) : rdP b = some ⟨r.1, fe (le (lowB b))⟩ := by
  rw [rdP, if_pos hc, hx, if_pos ⟨h2, fun e => by rw [h1] at e; cases e.1⟩, if_neg (by rw [h1]; decide)]
theorem topB_t {b : List UInt8} (h : ¬ ((b.getD 31 0 &&& 128).toNat : Int) = 0) : topB b = true := by rw [topB, decide_eq_false h]; rfl
theorem topB_f {b : List UInt8} (h : ((b.getD 31 0 &&& 128).toNat : Int) = 0) : topB b = false := by rw [topB, decide_eq_true h]; rfl

set_option maxRecDepth 100000 in
set_option maxHeartbeats 8000000 in
theorem curve_Read (b : List UInt8) (hb : b.length = 32) : Meets Tryz.prog 108 [agg (bytesV b)] [] (fun _ => True) (fun v out => v = rdV b ∧ out = []) := by
 intro W hW
 have hll := lowB_length hb
 obtain ⟨Y, hY⟩ : ∃ Y, fe (le (lowB b)) = Y := ⟨_, rfl⟩
 have hcan := field_Canon (lowB b) hll
 have hmul := field_Mul (lowB b) (lowB b) hll hll
 have hinv := f_inv (fD * (Y * Y) + 1)
 have hxo : xOf Y = fRoot ((Y * Y - 1) * finv (fD * (Y * Y) + 1)) := rfl
 revert hinv hxo
 generalize finv (fD * (Y * Y) + 1) = iz
 intro hinv hxo
 have hroot := field_Root (fb ((Y * Y - 1) * iz)) ((Y * Y - 1) * iz) (fb_length _) (fe_fb _)
 revert hroot hxo
 generalize fRoot ((Y * Y - 1) * iz) = xr
 intro hxo hroot
 rw [← hY] at hxo
 rw [hY] at hcan hmul
 refine calls_of (hp0 := []) Tryz.func108 rfl 60 Tryz.ntmps108 rfl (HRep.nil _) ?_
 refine Sat.seq (Sat.region ?_)
 refine Tr.boxA rfl rfl ?_
 intro n1 hn1 hf1
 refine Tr.alloc (cs := Point.zero.cells) rfl Point.zr rfl ?_
 intro n2 hn2 hf2
 refine Tr.assign rfl rfl rfl ?_
 refine Tr.nil (at_n (Sat.seq (Sat.region ?_)))
 refine Tr.idxArr1 rfl rfl rfl rfl Tryz.underlying23 Sz5 31 rfl dE ?_
 refine Tr.load1 rfl rfl rfl Tryz.underlying5 rfl (by exact mem1) (by exact get_bytes oM) ?_
 refine Tr.and_u8 rfl rfl rfl (show evIn _ _ = some (u8 128) from rfl) ?_
 refine two (fun r hr k => Tr.nei rfl rfl rfl rfl hr k) (fun hs1_30 => ?_) (fun hs1_30 => ?_)
 ·
  have hs1_3 := nd_t hs1_30
  refine Tr.assign rfl rfl rfl ?_
  refine Tr.nil (at_n (Sat.seq (Sat.region ?_)))
  refine Tr.loadAll rfl rfl rfl Tryz.underlying23 rfl Sz23 (by exact mem1) (by (simp [hb]; done)) ?_
  refine Tr.alloc (cs := (bytesV (List.replicate 32 0))) rfl Zr77 rfl ?_
  intro n5 hn5 hf5
  refine Tr.storeAll rfl rfl rfl rfl (by exact bytesV_cell _) Sz77 (by (simp [hb]; done)) (by exact mem0) (by (simp; done)) (by exact upd0) ?_
  refine Tr.nil (at_n (Sat.seq (Sat.region ?_)))
  refine Tr.idxArr1 rfl rfl rfl rfl Tryz.underlying77 Sz5 31 rfl dE ?_
  refine Tr.load1 rfl rfl rfl Tryz.underlying5 rfl (by exact mem0) (by exact get_bytes oM) ?_
  refine Tr.and_u8 rfl rfl rfl (show evIn _ _ = some (u8 127) from rfl) ?_
  refine Tr.idxArr1 rfl rfl rfl rfl Tryz.underlying77 Sz5 31 rfl dE ?_
  refine Tr.store1 rfl rfl rfl rfl rfl Sz5 (by exact mem0) (by (simp [hb]; done)) (by exact set_bytes _ _ _) (by exact upd0) ?_
  refine Tr.nil (at_n (Sat.seq (Sat.seq (Sat.region ?_))))
  refine Tr.loadAll rfl rfl rfl Tryz.underlying77 rfl Sz77 (by exact mem0) (by (simp [hb]; done)) ?_
  refine Tr.callV rfl rfl rfl rfl Body168 (hcan) (fun _ _ => trivial) ?_
  refine Tr.not rfl rfl rfl ?_
  refine Tr.nil (at_n ?_)
  refine Sat.cond rfl (fun hc0 => ?_) (fun hc0 => ?_)
  ·
   have hcn : ¬ fb Y = lowB b := of_decide_eq_false (by simpa using hc0)
   refine Sat.seq (Sat.region ?_)
   refine Tr.build (cs := Point.zero.cells) rfl rfl rfl (fun w => by kernel_rfl) ?_
   refine Tr.storeAll rfl rfl rfl rfl (Point.isCell (by exact Point.zero_ok)) Sz79 (Point.length (by exact Point.zero_ok)) (by exact mem1) (Point.length (by exact Point.zero_ok)) (by exact upd1) ?_
   refine Tr.assign rfl rfl rfl ?_
   refine Tr.nil (at_n (Sat.ret (at_r (en_r ?_))))
   refine ⟨_, [], res_cell_tmp rfl rfl rfl Tryz.underlying79 rfl Sz79 (by exact mem1) (by exact Point.length (by exact Point.zero_ok)), sP, sP, ?_, rfl⟩
   exact (rdV_none (rd_n1 (by rw [hY]; exact hcn))).symm
  ·
   have hcy : fb Y = lowB b := of_decide_eq_true (by simpa using hc0)
   refine Sat.skip (at_n (Sat.seq (Sat.region ?_)))
   refine Tr.loadAll rfl rfl rfl Tryz.underlying77 rfl Sz77 (by exact mem0) (by (simp [hb]; done)) ?_
   refine Tr.loadAll rfl rfl rfl Tryz.underlying77 rfl Sz77 (by exact mem0) (by (simp [hb]; done)) ?_
   refine Tr.callV rfl rfl rfl rfl Body169 (hmul) (fun _ _ => trivial) ?_
   refine Tr.alloc (cs := (bytesV (List.replicate 32 0))) rfl Zr77 rfl ?_
   intro n6 hn6 hf6
   refine Tr.storeAll rfl rfl rfl rfl (by exact bytesV_cell _) Sz77 (by (simp [fb_length]; done)) (by exact mem0) (by (simp; done)) (by exact upd0) ?_
   refine Tr.nil (at_n (Sat.seq ?_))
   refine Sat.draw [(1, 0), (3, 1), (3, 2), (2, 3), (4, 4)] Mixed (by kernel_rfl) ?_
   refine Tr.loadAll rfl rfl rfl Tryz.underlying77 rfl Sz77 (by exact mem0) (by (simp [fb_length]; done)) ?_
   refine Tr.callV rfl rfl rfl rfl Body171 (f_one) (fun _ _ => trivial) ?_
   refine Tr.callV rfl rfl rfl rfl Body170 (f_sub _ _) (fun _ _ => trivial) ?_
   refine Tr.alloc (cs := (bytesV (List.replicate 32 0))) rfl Zr77 rfl ?_
   intro n7 hn7 hf7
   refine Tr.storeAll rfl rfl rfl rfl (by exact bytesV_cell _) Sz77 (by (simp [fb_length]; done)) (by exact mem0) (by (simp; done)) (by exact upd0) ?_
   refine Tr.nil (at_n (Sat.seq ?_))
   refine Sat.draw [(1, 1), (3, 0), (3, 2), (3, 3), (3, 4), (2, 5), (4, 6)] Mixed (by kernel_rfl) ?_
   refine Tr.loadAll rfl rfl rfl Tryz.underlying77 rfl Sz77 (by exact mem1) (by (simp [fb_length]; done)) ?_
   refine Tr.callV rfl rfl rfl rfl Body173 (curve_D) (fun _ _ => trivial) ?_
   refine Tr.callV rfl rfl rfl rfl Body169 (f_mul _ _) (fun _ _ => trivial) ?_
   refine Tr.callV rfl rfl rfl rfl Body171 (f_one) (fun _ _ => trivial) ?_
   refine Tr.callV rfl rfl rfl rfl Body172 (f_add _ _) (fun _ _ => trivial) ?_
   refine Tr.alloc (cs := (bytesV (List.replicate 32 0))) rfl Zr77 rfl ?_
   intro n8 hn8 hf8
   refine Tr.storeAll rfl rfl rfl rfl (by exact bytesV_cell _) Sz77 (by (simp [fb_length]; done)) (by exact mem0) (by (simp; done)) (by exact upd0) ?_
   refine Tr.nil (at_n (Sat.seq ?_))
   refine Sat.draw [(1, 0), (1, 1), (3, 2), (3, 3), (3, 4), (0, 5), (0, 6), (0, 7), (2, 8), (4, 9), (0, 10)] Mixed (by kernel_rfl) ?_
   refine Tr.loadAll rfl rfl rfl Tryz.underlying77 rfl Sz77 (by exact mem1) (by (simp [fb_length]; done)) ?_
   refine Tr.loadAll rfl rfl rfl Tryz.underlying77 rfl Sz77 (by exact mem0) (by (simp [fb_length]; done)) ?_
   refine Tr.callV rfl rfl rfl rfl Body175 (hinv) (fun _ _ => trivial) ?_
   refine Tr.callV rfl rfl rfl rfl Body169 (f_mul _ _) (fun _ _ => trivial) ?_
   refine Tr.callV rfl rfl rfl rfl Body174 (hroot) (fun _ _ => trivial) ?_
   refine Tr.move rfl rfl rfl ?_
   refine Tr.extract rfl rfl rfl rfl ?_
   refine Tr.extractB rfl rfl rfl rfl (fun hs9_70 => ?_) (fun hs9_70 => ?_)
   ·
    have hs9_7 := hs9_70
    refine Tr.alloc (cs := (bytesV (List.replicate 32 0))) rfl Zr77 rfl ?_
    intro n9 hn9 hf9
    refine Tr.storeAll rfl rfl rfl rfl (by exact bytesV_cell _) Sz77 (by (simp [fb_length]; done)) (by exact mem0) (by (simp; done)) (by exact upd0) ?_
    refine Tr.assign rfl rfl rfl ?_
    refine Tr.nil (at_n (Sat.seq (Sat.seq (Sat.region ?_))))
    refine Tr.move rfl rfl rfl ?_
    refine Tr.not rfl rfl rfl ?_
    refine Tr.move rfl rfl rfl ?_
    refine Tr.move rfl rfl rfl ?_
    refine Tr.move rfl rfl rfl ?_
    refine Tr.loadAll rfl rfl rfl Tryz.underlying77 rfl Sz77 (by exact mem0) (by (simp [fb_length]; done)) ?_
    refine Tr.build (cs := bytesV (List.replicate 32 0)) rfl rfl rfl (fun w => by kernel_rfl) ?_
    refine two (fun r hr k => Tr.eql_bytes rfl rfl rfl rfl Tryz.eqGuardType77 Tryz.underlying77 Tryz.underlying5 Sz5 (by (simp [fb_length]; done)) (by (simp; done)) hr k) (fun hs10_70 => ?_) (fun hs10_70 => ?_)
    ·
     have hs10_7 := of_decide_eq_true hs10_70
     refine Tr.pick rfl rfl rfl rfl rfl rfl ?_
     refine Tr.pick rfl rfl rfl rfl rfl rfl ?_
     refine Tr.nil (at_n ?_)
     refine Sat.cond_t rfl rfl ?_
     refine Sat.seq (Sat.region ?_)
     refine Tr.build (cs := Point.zero.cells) rfl rfl rfl (fun w => by kernel_rfl) ?_
     refine Tr.storeAll rfl rfl rfl rfl (Point.isCell (by exact Point.zero_ok)) Sz79 (Point.length (by exact Point.zero_ok)) (by exact mem5) (Point.length (by exact Point.zero_ok)) (by exact upd5) ?_
     refine Tr.assign rfl rfl rfl ?_
     refine Tr.nil (at_n (Sat.ret (at_r (en_r ?_))))
     refine ⟨_, [], res_cell_tmp rfl rfl rfl Tryz.underlying79 rfl Sz79 (by exact mem5) (by exact Point.length (by exact Point.zero_ok)), sP, sP, ?_, rfl⟩
     exact (rdV_none (rd_n3 hxo (topB_t hs1_3) hs10_7)).symm
    ·
     have hs10_7 := of_decide_eq_false hs10_70
     refine Tr.pick rfl rfl rfl rfl rfl rfl ?_
     refine Tr.pick rfl rfl rfl rfl rfl rfl ?_
     refine Tr.nil (at_n ?_)
     refine Sat.cond_f rfl rfl ?_
     refine Sat.skip (at_n (Sat.seq (Sat.seq (Sat.region ?_))))
     refine Tr.move rfl rfl rfl ?_
     refine Tr.nil (at_n ?_)
     refine Sat.cond_t rfl rfl ?_
     refine Sat.region ?_
     refine Tr.loadAll rfl rfl rfl Tryz.underlying77 rfl Sz77 (by exact mem0) (by (simp [fb_length]; done)) ?_
     refine Tr.callV rfl rfl rfl rfl Body176 (f_neg _) (fun _ _ => trivial) ?_
     refine Tr.storeAll rfl rfl rfl rfl (by exact bytesV_cell _) Sz77 (by (simp [fb_length]; done)) (by exact mem0) (by (simp [fb_length]; done)) (by exact upd0) ?_
     refine Tr.nil (at_n (Sat.seq (Sat.region ?_)))
     rw [show b.set 31 (b.getD 31 0 &&& 127) = fb Y from hcy.symm]
     refine Tr.loadAll rfl rfl rfl Tryz.underlying77 rfl Sz77 (by exact mem0) (by (simp [fb_length]; done)) ?_
     refine Tr.loadAll rfl rfl rfl Tryz.underlying77 rfl Sz77 (by exact mem4) (by (simp [fb_length]; done)) ?_
     refine Tr.build (cs := (⟨fb (-xr.1), fb Y⟩ : Point).cells) rfl rfl rfl (fun w => by kernel_rfl) ?_
     refine Tr.storeAll rfl rfl rfl rfl (Point.isCell (by exact ⟨fb32 _, fb32 _⟩)) Sz79 (Point.length (by exact ⟨fb32 _, fb32 _⟩)) (by exact mem5) (Point.length (by exact Point.zero_ok)) (by exact upd5) ?_
     refine Tr.assign rfl rfl rfl ?_
     refine Tr.nil (at_n (Sat.ret (en_r ?_)))
     refine ⟨_, [], res_cell_tmp rfl rfl rfl Tryz.underlying79 rfl Sz79 (by exact mem5) (by exact Point.length (by exact ⟨fb32 _, fb32 _⟩)), sP, sP, ?_, rfl⟩
     (rw [rdV_some (rd_s1 (by rw [hY]; exact hcy) hxo hs9_7 (topB_t hs1_3) hs10_7), hY]; rfl)
   ·
    have hs9_7 := hs9_70
    refine Tr.alloc (cs := (bytesV (List.replicate 32 0))) rfl Zr77 rfl ?_
    intro n9 hn9 hf9
    refine Tr.storeAll rfl rfl rfl rfl (by exact bytesV_cell _) Sz77 (by (simp [fb_length]; done)) (by exact mem0) (by (simp; done)) (by exact upd0) ?_
    refine Tr.assign rfl rfl rfl ?_
    refine Tr.nil (at_n (Sat.seq (Sat.seq (Sat.region ?_))))
    refine Tr.move rfl rfl rfl ?_
    refine Tr.not rfl rfl rfl ?_
    refine Tr.move rfl rfl rfl ?_
    refine Tr.skp rfl rfl ?_
    refine Tr.skp rfl rfl ?_
    refine Tr.skp rfl rfl ?_
    refine Tr.skp rfl rfl ?_
    refine Tr.skp rfl rfl ?_
    refine Tr.skp rfl rfl ?_
    refine Tr.pick rfl rfl rfl rfl rfl rfl ?_
    refine Tr.nil (at_n ?_)
    refine Sat.cond_t rfl rfl ?_
    refine Sat.seq (Sat.region ?_)
    refine Tr.build (cs := Point.zero.cells) rfl rfl rfl (fun w => by kernel_rfl) ?_
    refine Tr.storeAll rfl rfl rfl rfl (Point.isCell (by exact Point.zero_ok)) Sz79 (Point.length (by exact Point.zero_ok)) (by exact mem5) (Point.length (by exact Point.zero_ok)) (by exact upd5) ?_
    refine Tr.assign rfl rfl rfl ?_
    refine Tr.nil (at_n (Sat.ret (at_r (en_r ?_))))
    refine ⟨_, [], res_cell_tmp rfl rfl rfl Tryz.underlying79 rfl Sz79 (by exact mem5) (by exact Point.length (by exact Point.zero_ok)), sP, sP, ?_, rfl⟩
    exact (rdV_none (rd_n2 hxo hs9_7)).symm
 ·
  have hs1_3 := nd_f hs1_30
  refine Tr.assign rfl rfl rfl ?_
  refine Tr.nil (at_n (Sat.seq (Sat.region ?_)))
  refine Tr.loadAll rfl rfl rfl Tryz.underlying23 rfl Sz23 (by exact mem1) (by (simp [hb]; done)) ?_
  refine Tr.alloc (cs := (bytesV (List.replicate 32 0))) rfl Zr77 rfl ?_
  intro n5 hn5 hf5
  refine Tr.storeAll rfl rfl rfl rfl (by exact bytesV_cell _) Sz77 (by (simp [hb]; done)) (by exact mem0) (by (simp; done)) (by exact upd0) ?_
  refine Tr.nil (at_n (Sat.seq (Sat.region ?_)))
  refine Tr.idxArr1 rfl rfl rfl rfl Tryz.underlying77 Sz5 31 rfl dE ?_
  refine Tr.load1 rfl rfl rfl Tryz.underlying5 rfl (by exact mem0) (by exact get_bytes oM) ?_
  refine Tr.and_u8 rfl rfl rfl (show evIn _ _ = some (u8 127) from rfl) ?_
  refine Tr.idxArr1 rfl rfl rfl rfl Tryz.underlying77 Sz5 31 rfl dE ?_
  refine Tr.store1 rfl rfl rfl rfl rfl Sz5 (by exact mem0) (by (simp [hb]; done)) (by exact set_bytes _ _ _) (by exact upd0) ?_
  refine Tr.nil (at_n (Sat.seq (Sat.seq (Sat.region ?_))))
  refine Tr.loadAll rfl rfl rfl Tryz.underlying77 rfl Sz77 (by exact mem0) (by (simp [hb]; done)) ?_
  refine Tr.callV rfl rfl rfl rfl Body168 (hcan) (fun _ _ => trivial) ?_
  refine Tr.not rfl rfl rfl ?_
  refine Tr.nil (at_n ?_)
  refine Sat.cond rfl (fun hc0 => ?_) (fun hc0 => ?_)
  ·
   have hcn : ¬ fb Y = lowB b := of_decide_eq_false (by simpa using hc0)
   refine Sat.seq (Sat.region ?_)
   refine Tr.build (cs := Point.zero.cells) rfl rfl rfl (fun w => by kernel_rfl) ?_
   refine Tr.storeAll rfl rfl rfl rfl (Point.isCell (by exact Point.zero_ok)) Sz79 (Point.length (by exact Point.zero_ok)) (by exact mem1) (Point.length (by exact Point.zero_ok)) (by exact upd1) ?_
   refine Tr.assign rfl rfl rfl ?_
   refine Tr.nil (at_n (Sat.ret (at_r (en_r ?_))))
   refine ⟨_, [], res_cell_tmp rfl rfl rfl Tryz.underlying79 rfl Sz79 (by exact mem1) (by exact Point.length (by exact Point.zero_ok)), sP, sP, ?_, rfl⟩
   exact (rdV_none (rd_n1 (by rw [hY]; exact hcn))).symm
  ·
   have hcy : fb Y = lowB b := of_decide_eq_true (by simpa using hc0)
   refine Sat.skip (at_n (Sat.seq (Sat.region ?_)))
   refine Tr.loadAll rfl rfl rfl Tryz.underlying77 rfl Sz77 (by exact mem0) (by (simp [hb]; done)) ?_
   refine Tr.loadAll rfl rfl rfl Tryz.underlying77 rfl Sz77 (by exact mem0) (by (simp [hb]; done)) ?_
   refine Tr.callV rfl rfl rfl rfl Body169 (hmul) (fun _ _ => trivial) ?_
   refine Tr.alloc (cs := (bytesV (List.replicate 32 0))) rfl Zr77 rfl ?_
   intro n6 hn6 hf6
   refine Tr.storeAll rfl rfl rfl rfl (by exact bytesV_cell _) Sz77 (by (simp [fb_length]; done)) (by exact mem0) (by (simp; done)) (by exact upd0) ?_
   refine Tr.nil (at_n (Sat.seq ?_))
   refine Sat.draw [(1, 0), (3, 1), (3, 2), (2, 3), (4, 4)] Mixed (by kernel_rfl) ?_
   refine Tr.loadAll rfl rfl rfl Tryz.underlying77 rfl Sz77 (by exact mem0) (by (simp [fb_length]; done)) ?_
   refine Tr.callV rfl rfl rfl rfl Body171 (f_one) (fun _ _ => trivial) ?_
   refine Tr.callV rfl rfl rfl rfl Body170 (f_sub _ _) (fun _ _ => trivial) ?_
   refine Tr.alloc (cs := (bytesV (List.replicate 32 0))) rfl Zr77 rfl ?_
   intro n7 hn7 hf7
   refine Tr.storeAll rfl rfl rfl rfl (by exact bytesV_cell _) Sz77 (by (simp [fb_length]; done)) (by exact mem0) (by (simp; done)) (by exact upd0) ?_
   refine Tr.nil (at_n (Sat.seq ?_))
   refine Sat.draw [(1, 1), (3, 0), (3, 2), (3, 3), (3, 4), (2, 5), (4, 6)] Mixed (by kernel_rfl) ?_
   refine Tr.loadAll rfl rfl rfl Tryz.underlying77 rfl Sz77 (by exact mem1) (by (simp [fb_length]; done)) ?_
   refine Tr.callV rfl rfl rfl rfl Body173 (curve_D) (fun _ _ => trivial) ?_
   refine Tr.callV rfl rfl rfl rfl Body169 (f_mul _ _) (fun _ _ => trivial) ?_
   refine Tr.callV rfl rfl rfl rfl Body171 (f_one) (fun _ _ => trivial) ?_
   refine Tr.callV rfl rfl rfl rfl Body172 (f_add _ _) (fun _ _ => trivial) ?_
   refine Tr.alloc (cs := (bytesV (List.replicate 32 0))) rfl Zr77 rfl ?_
   intro n8 hn8 hf8
   refine Tr.storeAll rfl rfl rfl rfl (by exact bytesV_cell _) Sz77 (by (simp [fb_length]; done)) (by exact mem0) (by (simp; done)) (by exact upd0) ?_
   refine Tr.nil (at_n (Sat.seq ?_))
   refine Sat.draw [(1, 0), (1, 1), (3, 2), (3, 3), (3, 4), (0, 5), (0, 6), (0, 7), (2, 8), (4, 9), (0, 10)] Mixed (by kernel_rfl) ?_
   refine Tr.loadAll rfl rfl rfl Tryz.underlying77 rfl Sz77 (by exact mem1) (by (simp [fb_length]; done)) ?_
   refine Tr.loadAll rfl rfl rfl Tryz.underlying77 rfl Sz77 (by exact mem0) (by (simp [fb_length]; done)) ?_
   refine Tr.callV rfl rfl rfl rfl Body175 (hinv) (fun _ _ => trivial) ?_
   refine Tr.callV rfl rfl rfl rfl Body169 (f_mul _ _) (fun _ _ => trivial) ?_
   refine Tr.callV rfl rfl rfl rfl Body174 (hroot) (fun _ _ => trivial) ?_
   refine Tr.move rfl rfl rfl ?_
   refine Tr.extract rfl rfl rfl rfl ?_
   refine Tr.extractB rfl rfl rfl rfl (fun hs9_70 => ?_) (fun hs9_70 => ?_)
   ·
    have hs9_7 := hs9_70
    refine Tr.alloc (cs := (bytesV (List.replicate 32 0))) rfl Zr77 rfl ?_
    intro n9 hn9 hf9
    refine Tr.storeAll rfl rfl rfl rfl (by exact bytesV_cell _) Sz77 (by (simp [fb_length]; done)) (by exact mem0) (by (simp; done)) (by exact upd0) ?_
    refine Tr.assign rfl rfl rfl ?_
    refine Tr.nil (at_n (Sat.seq (Sat.seq (Sat.region ?_))))
    refine Tr.move rfl rfl rfl ?_
    refine Tr.not rfl rfl rfl ?_
    refine Tr.move rfl rfl rfl ?_
    refine Tr.move rfl rfl rfl ?_
    refine Tr.move rfl rfl rfl ?_
    refine Tr.skp rfl rfl ?_
    refine Tr.skp rfl rfl ?_
    refine Tr.skp rfl rfl ?_
    refine Tr.pick rfl rfl rfl rfl rfl rfl ?_
    refine Tr.pick rfl rfl rfl rfl rfl rfl ?_
    refine Tr.nil (at_n ?_)
    refine Sat.cond_f rfl rfl ?_
    refine Sat.skip (at_n (Sat.seq (Sat.seq (Sat.region ?_))))
    refine Tr.move rfl rfl rfl ?_
    refine Tr.nil (at_n ?_)
    refine Sat.cond_f rfl rfl ?_
    refine Sat.skip (at_n (Sat.seq (Sat.region ?_)))
    rw [show b.set 31 (b.getD 31 0 &&& 127) = fb Y from hcy.symm]
    refine Tr.loadAll rfl rfl rfl Tryz.underlying77 rfl Sz77 (by exact mem0) (by (simp [fb_length]; done)) ?_
    refine Tr.loadAll rfl rfl rfl Tryz.underlying77 rfl Sz77 (by exact mem4) (by (simp [fb_length]; done)) ?_
    refine Tr.build (cs := (⟨fb xr.1, fb Y⟩ : Point).cells) rfl rfl rfl (fun w => by kernel_rfl) ?_
    refine Tr.storeAll rfl rfl rfl rfl (Point.isCell (by exact ⟨fb32 _, fb32 _⟩)) Sz79 (Point.length (by exact ⟨fb32 _, fb32 _⟩)) (by exact mem5) (Point.length (by exact Point.zero_ok)) (by exact upd5) ?_
    refine Tr.assign rfl rfl rfl ?_
    refine Tr.nil (at_n (Sat.ret (en_r ?_)))
    refine ⟨_, [], res_cell_tmp rfl rfl rfl Tryz.underlying79 rfl Sz79 (by exact mem5) (by exact Point.length (by exact ⟨fb32 _, fb32 _⟩)), sP, sP, ?_, rfl⟩
    (rw [rdV_some (rd_s2 (by rw [hY]; exact hcy) hxo hs9_7 (topB_f hs1_3)), hY]; rfl)
   ·
    have hs9_7 := hs9_70
    refine Tr.alloc (cs := (bytesV (List.replicate 32 0))) rfl Zr77 rfl ?_
    intro n9 hn9 hf9
    refine Tr.storeAll rfl rfl rfl rfl (by exact bytesV_cell _) Sz77 (by (simp [fb_length]; done)) (by exact mem0) (by (simp; done)) (by exact upd0) ?_
    refine Tr.assign rfl rfl rfl ?_
    refine Tr.nil (at_n (Sat.seq (Sat.seq (Sat.region ?_))))
    refine Tr.move rfl rfl rfl ?_
    refine Tr.not rfl rfl rfl ?_
    refine Tr.move rfl rfl rfl ?_
    refine Tr.skp rfl rfl ?_
    refine Tr.skp rfl rfl ?_
    refine Tr.skp rfl rfl ?_
    refine Tr.skp rfl rfl ?_
    refine Tr.skp rfl rfl ?_
    refine Tr.skp rfl rfl ?_
    refine Tr.pick rfl rfl rfl rfl rfl rfl ?_
    refine Tr.nil (at_n ?_)
    refine Sat.cond_t rfl rfl ?_
    refine Sat.seq (Sat.region ?_)
    refine Tr.build (cs := Point.zero.cells) rfl rfl rfl (fun w => by kernel_rfl) ?_
    refine Tr.storeAll rfl rfl rfl rfl (Point.isCell (by exact Point.zero_ok)) Sz79 (Point.length (by exact Point.zero_ok)) (by exact mem5) (Point.length (by exact Point.zero_ok)) (by exact upd5) ?_
    refine Tr.assign rfl rfl rfl ?_
    refine Tr.nil (at_n (Sat.ret (at_r (en_r ?_))))
    refine ⟨_, [], res_cell_tmp rfl rfl rfl Tryz.underlying79 rfl Sz79 (by exact mem5) (by exact Point.length (by exact Point.zero_ok)), sP, sP, ?_, rfl⟩
    exact (rdV_none (rd_n2 hxo hs9_7)).symm

end Go.Proofs.YtpacobmjjjillaaGreat
end

section
namespace Go.Proofs.YtpacobmjjjillaaGreat
open Go Hw
set_option linter.unusedVariables false
set_option linter.unusedSimpArgs false

open Ed

/-- SHA-512 -/
def sha512 (l : List UInt8) : List UInt8 := sumUp (allW kW startW l) 64
theorem sha512_length (l : List UInt8) : (sha512 l).length = 64 := sumUp_length _ _
theorem sha_StartS (s : List UInt64) (h : Hid (startW = s)) : Meets Tryz.prog 204 [] [] (fun _ => True) (fun v out => v = agg (wordsV s) ∧ out = []) := by
  rw [← h.out]; exact sha_Start

set_option maxRecDepth 100000 in
set_option maxHeartbeats 4000000 in
theorem sha_Sum512 (p : Option Addr) (n c : Nat) (ss : List Sl) (ls : List (List UInt8)) (hss : ss.length = n) (hls : ls.length = n) (hsl : ∀ j, j < n → (ss.getD j Sl.nil).n = (ls.getD j []).length ∧ ((ss.getD j Sl.nil).p = none → (ss.getD j Sl.nil).n = 0)) (F : List UInt8) (hF : ls.flatten = F) (htot : F.length ≤ 90000) (hn : n ≤ 1000000) (s : List UInt8) (hs : Hid (sha512 F = s))  : Meets Tryz.prog 160 [.slice p n c] [] (fun W => SeesP W p (ss.map Sl.v) ∧ ∀ j, j < n → SeesP W (ss.getD j Sl.nil).p (bytesV (ls.getD j []))) (fun v out => v = agg (bytesV s) ∧ out = []) := by
 intro W hW
 have hs64 : s.length = 64 := by rw [← hs.out]; exact sha512_length F
 obtain ⟨k, hk⟩ : ∃ k, Hid (kW = k) := ⟨_, ⟨rfl⟩⟩
 obtain ⟨st, hst⟩ : ∃ k, Hid (startW = k) := ⟨_, ⟨rfl⟩⟩
 obtain ⟨r, hr⟩ : ∃ r, Hid (allW k st F = r) := ⟨_, ⟨rfl⟩⟩
 have hk80 : k.length = 80 := by rw [← hk.out]; rfl
 have hst8 : st.length = 8 := by rw [← hst.out]; rfl
 have hr8 : r.length = 8 := by rw [← hr.out, allW_length]; exact hst8
 have hs2 : Hid (sumUp r 64 = s) := ⟨by rw [← hs.out, sha512, hk.out, hst.out, hr.out]⟩
 refine calls_of (hp0 := []) Tryz.func160 rfl 7 Tryz.ntmps160 rfl (HRep.nil _) ?_
 refine Sat.seq (Sat.region ?_)
 refine Tr.alloc (cs := (bytesV (List.replicate 64 0))) rfl Zr26 rfl ?_
 intro n2 hn2 hf2
 refine Tr.nil (at_n (Sat.seq (Sat.region ?_)))
 refine Tr.callV rfl rfl rfl rfl Body204 (sha_StartS st hst) (fun _ _ => trivial) ?_
 refine Tr.move rfl rfl rfl ?_
 refine Tr.callV rfl rfl rfl rfl Body127 (sha_whole st hst8 k hk hk80 p n c ss ls hss hls hsl F hF htot hn) (fun w h => ⟨seesP_ext h rfl hW.1, fun j hj => seesP_ext h rfl (hW.2 j hj)⟩) ?_
 rw [hr.out]
 refine Tr.callV rfl rfl rfl rfl Body126 (sha_sum r hr8 s hs2) (fun _ _ => trivial) ?_
 refine Tr.storeAll rfl rfl rfl rfl (by exact bytesV_cell _) Sz26 (by (simp [hs64]; done)) (by exact mem0) (by (simp; done)) (by exact upd0) ?_
 refine Tr.nil (at_n (Sat.ret (en_r ?_)))
 refine ⟨_, [], res_cell rfl rfl Tryz.underlying26 rfl Sz26 (by exact mem0) (by simp [hs64]), sP, sP, ?_, rfl⟩
 rfl

set_option maxRecDepth 100000 in
set_option maxHeartbeats 4000000 in
theorem sign_residue (p : Option Addr) (n c : Nat) (ss : List Sl) (ls : List (List UInt8)) (hss : ss.length = n) (hls : ls.length = n) (hsl : ∀ j, j < n → (ss.getD j Sl.nil).n = (ls.getD j []).length ∧ ((ss.getD j Sl.nil).p = none → (ss.getD j Sl.nil).n = 0)) (F : List UInt8) (hF : ls.flatten = F) (htot : F.length ≤ 90000) (hn : n ≤ 1000000) (s : List UInt8) (hs : Hid (sha512 F = s))  : Meets Tryz.prog 105 [.slice p n c] [] (fun W => SeesP W p (ss.map Sl.v) ∧ ∀ j, j < n → SeesP W (ss.getD j Sl.nil).p (bytesV (ls.getD j []))) (fun v out => v = agg (bytesV (leb 32 (le s % L))) ∧ out = []) := by
 intro W hW
 have hs64 : s.length = 64 := by rw [← hs.out]; exact sha512_length F
 refine calls_of (hp0 := []) Tryz.func105 rfl 14 Tryz.ntmps105 rfl (HRep.nil _) ?_
 refine Sat.seq (Sat.region ?_)
 refine Tr.alloc (cs := (bytesV (List.replicate 32 0))) rfl Zr77 rfl ?_
 intro n2 hn2 hf2
 refine Tr.nil (at_n (Sat.seq (Sat.region ?_)))
 refine Tr.move rfl rfl rfl ?_
 refine Tr.callV rfl rfl rfl rfl Body160 (sha_Sum512 p n c ss ls hss hls hsl F hF htot hn s hs) (fun w h => ⟨seesP_ext h rfl hW.1, fun j hj => seesP_ext h rfl (hW.2 j hj)⟩) ?_
 refine Tr.alloc (cs := (bytesV (List.replicate 64 0))) rfl Zr26 rfl ?_
 intro n3 hn3 hf3
 refine Tr.storeAll rfl rfl rfl rfl (by exact bytesV_cell _) Sz26 (by (simp [hs64]; done)) (by exact mem0) (by (simp; done)) (by exact upd0) ?_
 refine Tr.nil (at_n (Sat.seq (Sat.region ?_)))
 refine Tr.sliceArr rfl rfl rfl Tryz.underlying26 Sz5 ?_
 refine Tr.callV rfl rfl rfl rfl Body161 (scalar_rest n3 0 64 64 s hs64 dE) (fun w h => sees_own h (by exact mem0)) ?_
 refine Tr.move rfl rfl rfl ?_
 refine Tr.extract rfl rfl rfl rfl ?_
 refine Tr.extract rfl rfl rfl rfl ?_
 refine Tr.alloc (cs := (bytesV (List.replicate 32 0))) rfl Zr77 rfl ?_
 intro n4 hn4 hf4
 refine Tr.storeAll rfl rfl rfl rfl (by exact bytesV_cell _) Sz77 (by (simp [leb_length]; done)) (by exact mem0) (by (simp; done)) (by exact upd0) ?_
 refine Tr.assign rfl rfl rfl ?_
 refine Tr.nil (at_n (Sat.seq (Sat.region ?_)))
 refine Tr.loadAll rfl rfl rfl Tryz.underlying77 rfl Sz77 (by exact mem0) (by (simp [leb_length]; done)) ?_
 refine Tr.storeAll rfl rfl rfl rfl (by exact bytesV_cell _) Sz77 (by (simp [leb_length]; done)) (by exact mem2) (by (simp; done)) (by exact upd2) ?_
 refine Tr.nil (at_n (Sat.ret (en_r ?_)))
 refine ⟨_, [], res_cell rfl rfl Tryz.underlying77 rfl Sz77 (by exact mem2) (by simp [leb_length]), sP, sP, ?_, rfl⟩
 rfl

set_option maxRecDepth 100000 in
set_option maxHeartbeats 4000000 in
theorem sign_multiple (a : List UInt8) (ha : a.length = 32) : Meets Tryz.prog 103 [agg (bytesV a)] [] (fun _ => True) (fun v out => v = agg (bytesV (pb (cv.mul (le a) bP))) ∧ out = []) := by
 intro W hW
 obtain ⟨Q, hQ⟩ : ∃ Q, cv.mul (le a) bP = Q := ⟨_, rfl⟩
 have hQo : cv.on Q := by rw [← hQ]; exact cv.on_mul bP_on _
 have hmul := curve_Mul a bP ha bP_on
 rw [hQ] at hmul ⊢
 refine calls_of (hp0 := []) Tryz.func103 rfl 13 Tryz.ntmps103 rfl (HRep.nil _) ?_
 refine Sat.seq (Sat.region ?_)
 refine Tr.boxA rfl rfl ?_
 intro n1 hn1 hf1
 refine Tr.alloc (cs := (bytesV (List.replicate 32 0))) rfl Zr23 rfl ?_
 intro n2 hn2 hf2
 refine Tr.nil (at_n (Sat.seq ?_))
 refine Sat.draw [(1, 0), (3, 1), (3, 2), (3, 3), (0, 4), (0, 5), (0, 6), (2, 7), (4, 8), (0, 9)] Mixed (by kernel_rfl) ?_
 refine Tr.loadAll rfl rfl rfl Tryz.underlying77 rfl Sz77 (by exact mem1) (by (simp [ha]; done)) ?_
 refine Tr.callV rfl rfl rfl rfl Body110 (curve_Base) (fun _ _ => trivial) ?_
 refine Tr.callV rfl rfl rfl rfl Body159 (hmul) (fun _ _ => trivial) ?_
 refine Tr.callV rfl rfl rfl rfl Body158 (curve_Bytes Q hQo) (fun _ _ => trivial) ?_
 refine Tr.move rfl rfl rfl ?_
 refine Tr.extract rfl rfl rfl rfl ?_
 refine Tr.extract rfl rfl rfl rfl ?_
 refine Tr.alloc (cs := (bytesV (List.replicate 32 0))) rfl Zr23 rfl ?_
 intro n3 hn3 hf3
 refine Tr.storeAll rfl rfl rfl rfl (by exact bytesV_cell _) Sz23 (by (simp [pb_length]; done)) (by exact mem0) (by (simp; done)) (by exact upd0) ?_
 refine Tr.assign rfl rfl rfl ?_
 refine Tr.nil (at_n (Sat.seq (Sat.region ?_)))
 refine Tr.loadAll rfl rfl rfl Tryz.underlying23 rfl Sz23 (by exact mem0) (by (simp [pb_length]; done)) ?_
 refine Tr.storeAll rfl rfl rfl rfl (by exact bytesV_cell _) Sz23 (by (simp [pb_length]; done)) (by exact mem1) (by (simp; done)) (by exact upd1) ?_
 refine Tr.nil (at_n (Sat.ret (en_r ?_)))
 refine ⟨_, [], res_cell rfl rfl Tryz.underlying23 rfl Sz23 (by exact mem1) (by simp [pb_length]), sP, sP, ?_, rfl⟩
 rfl

/-- the secret number of 32 bytes -/
def clampB (l : List UInt8) : List UInt8 := (l.set 0 (l.getD 0 0 &&& 248)).set 31 (((l.getD 31 0) &&& 127) ||| 64)
theorem clampB_length {l : List UInt8} (h : l.length = 32) : (clampB l).length = 32 := by simp [clampB, h]
theorem clamp_all (l z : List UInt8) (h : l.length = 32) : ((l ++ z).set 0 ((l ++ z).getD 0 0 &&& 248)).set 31 (((((l ++ z).set 0 ((l ++ z).getD 0 0 &&& 248)).getD 31 0) &&& 127) ||| 64) = clampB l ++ z := by
  have g : ∀ i, i < 32 → (l ++ z).getD i 0 = l.getD i 0 := fun i hi => by
    rw [List.getD_eq_getElem?_getD, List.getElem?_append_left oM, ← List.getD_eq_getElem?_getD]
  have g2 : ((l ++ z).set 0 ((l ++ z).getD 0 0 &&& 248)).getD 31 0 = l.getD 31 0 := by
    rw [List.getD_eq_getElem?_getD, List.getElem?_set_ne dE, ← List.getD_eq_getElem?_getD, g 31 dE]
  rw [g2, g 0 dE, List.set_append_left _ _ oM, List.set_append_left _ _ (by simp; omega)]
  rfl
def secB (h : List UInt8) : secrets := ⟨clampB (h.take 32), h.drop 32⟩
theorem secB_ok {h : List UInt8} (hl : h.length = 64) : (secB h).ok := ⟨clampB_length (by rw [List.length_take, hl]; rfl), by show (h.drop 32).length = 32; rw [List.length_drop, hl]⟩
theorem sec_first (l : List UInt8) : ({ secrets.zero with fNumber := l } : secrets).cells = bytesV (l ++ List.replicate 32 0) := by
  show bytesV l ++ bytesV (List.replicate 32 0) = _
  simp [bytesV]
theorem sec_last (l : List UInt8) : bytesV (clampB l ++ List.replicate 32 0) = (⟨clampB l, List.replicate 32 0⟩ : secrets).cells := by
  show _ = bytesV (clampB l) ++ bytesV (List.replicate 32 0)
  simp [bytesV]
theorem d64 {s : List UInt8} (h : s.length = 64) : (s.drop 32).take 32 = s.drop 32 := List.take_of_length_le (by rw [List.length_drop, h]; decide)

set_option maxRecDepth 100000 in
set_option maxHeartbeats 4000000 in
theorem sign_expand (seed : List UInt8) (h32 : seed.length = 32) (s : List UInt8) (hs : Hid (sha512 seed = s)) : Meets Tryz.prog 104 [agg (bytesV seed)] [] (fun _ => True) (fun v out => v = agg (secB s).cells ∧ out = []) := by
 intro W hW
 have hs64 : s.length = 64 := by rw [← hs.out]; exact sha512_length seed
 have ht32 : (s.take 32).length = 32 := by rw [List.length_take, hs64]; rfl
 have hd32 : (s.drop 32).length = 32 := by rw [List.length_drop, hs64]
 refine calls_of (hp0 := []) Tryz.func104 rfl 29 Tryz.ntmps104 rfl (HRep.nil _) ?_
 refine Sat.seq (Sat.region ?_)
 refine Tr.boxA rfl rfl ?_
 intro n1 hn1 hf1
 refine Tr.alloc (cs := secrets.zero.cells) rfl secrets.zr rfl ?_
 intro n2 hn2 hf2
 refine Tr.nil (at_n (Sat.seq (Sat.region ?_)))
 refine Tr.sliceArr rfl rfl rfl Tryz.underlying23 Sz5 ?_
 refine Tr.mkRow2 (z := .slice none 0 0) [.slice (some ⟨n1, 0, none⟩) 32 32] [.slice (some ⟨n1, 0, none⟩) 32 32] rfl rfl Tryz.underlying133 Sz39 Zr39 rfl rfl (by intro v hv; rw [List.mem_singleton.1 hv]; rfl) dE rfl ?_
 intro q5
 refine Tr.callV rfl rfl rfl rfl Body160 (sha_Sum512 (some ⟨q5, 0, none⟩) 1 1 [⟨some ⟨n1, 0, none⟩, 32, 32⟩] [seed] rfl rfl (fun j hj => (by obtain rfl : j = 0 := oM; exact ⟨by simp [h32], fun e => by cases e⟩)) seed sP oM dE s hs) (fun w h => ⟨SeesP.of (sees_own h (by exact mem0)), fun j hj => (by obtain rfl : j = 0 := oM; exact SeesP.of (sees_own h (by exact mem2)))⟩) ?_
 refine Tr.alloc (cs := (bytesV (List.replicate 64 0))) rfl Zr26 rfl ?_
 intro n3 hn3 hf3
 refine Tr.storeAll rfl rfl rfl rfl (by exact bytesV_cell _) Sz26 (by (simp [hs64]; done)) (by exact mem0) (by (simp; done)) (by exact upd0) ?_
 refine Tr.nil (at_n (Sat.seq (Sat.region ?_)))
 refine Tr.sliceArrHi 32 rfl rfl rfl rfl rfl dE dE Tryz.underlying26 Sz5 ?_
 refine Tr.s2a rfl rfl rfl Tryz.underlying77 oM ?_
 refine Tr.loadN (bytesV (s.take 32)) rfl rfl rfl Tryz.underlying77 rfl Sz77 (by exact mem0) (by rw [List.drop_zero, ← List.map_take]) (by rw [List.length_map]; exact ht32) ?_
 refine Tr.fld rfl rfl rfl Tryz.underlying114 rfl Sz77 dE _ rfl ?_
 refine Tr.storeN (bytesV _) rfl rfl rfl rfl rfl (by exact bytesV_cell _) Sz77 (by simp [hs64]) (by exact mem2) (by rw [secrets.length (by exact secrets.zero_ok)]; simp [hs64]) (secrets.upd_fNumber (by exact secrets.zero_ok) _ (by simp [ht32])) (by exact upd2) ?_
 refine Tr.nil (at_n (Sat.seq (Sat.region ?_)))
 rw [sec_first]
 refine Tr.fld rfl rfl rfl Tryz.underlying114 rfl Sz77 dE _ rfl ?_
 refine Tr.idxArr1 rfl rfl rfl rfl Tryz.underlying77 Sz5 0 rfl dE ?_
 refine Tr.load1 rfl rfl rfl Tryz.underlying5 rfl (by exact mem2) (get_bytes (by simp [ht32])) ?_
 refine Tr.and_u8 rfl rfl rfl (show evIn _ _ = some (u8 248) from rfl) ?_
 refine Tr.fld rfl rfl rfl Tryz.underlying114 rfl Sz77 dE _ rfl ?_
 refine Tr.idxArr1 rfl rfl rfl rfl Tryz.underlying77 Sz5 0 rfl dE ?_
 refine Tr.store1 rfl rfl rfl rfl rfl Sz5 (by exact mem2) (by rw [bytesV, List.length_map]; simp [ht32]) (by exact set_bytes _ 0 _) (by exact upd2) ?_
 refine Tr.nil (at_n (Sat.seq (Sat.region ?_)))
 refine Tr.fld rfl rfl rfl Tryz.underlying114 rfl Sz77 dE _ rfl ?_
 refine Tr.idxArr1 rfl rfl rfl rfl Tryz.underlying77 Sz5 31 rfl dE ?_
 refine Tr.load1 rfl rfl rfl Tryz.underlying5 rfl (by exact mem2) (get_bytes (by simp [ht32])) ?_
 refine Tr.and_u8 rfl rfl rfl (show evIn _ _ = some (u8 127) from rfl) ?_
 refine Tr.or_u8 rfl rfl rfl (show evIn _ _ = some (u8 64) from rfl) ?_
 refine Tr.fld rfl rfl rfl Tryz.underlying114 rfl Sz77 dE _ rfl ?_
 refine Tr.idxArr1 rfl rfl rfl rfl Tryz.underlying77 Sz5 31 rfl dE ?_
 refine Tr.store1 rfl rfl rfl rfl rfl Sz5 (by exact mem2) (by rw [bytesV, List.length_map]; simp [ht32]) (by exact set_bytes _ 31 _) (by exact upd2) ?_
 refine Tr.nil (at_n (Sat.seq (Sat.region ?_)))
 rw [clamp_all _ _ ht32, sec_last]
 refine Tr.sliceArrLo 32 rfl rfl rfl rfl rfl dE Tryz.underlying26 Sz5 ?_
 refine Tr.s2a rfl rfl rfl Tryz.underlying23 oM ?_
 refine Tr.loadN (bytesV (s.drop 32)) rfl rfl rfl Tryz.underlying23 rfl Sz23 (by exact mem0) (by show ((s.map u8).drop 32).take 32 = _; rw [← List.map_drop, ← List.map_take, d64 hs64]) (by rw [List.length_map]; exact hd32) ?_
 refine Tr.fld rfl rfl rfl Tryz.underlying114 rfl Sz23 dE _ rfl ?_
 refine Tr.storeN (bytesV _) rfl rfl rfl rfl rfl (by exact bytesV_cell _) Sz23 (by simp [hs64]) (by exact mem2) (by rw [secrets.length (by exact ⟨clampB_length ht32, rfl⟩)]; simp [hs64]) (secrets.upd_fRest (by exact ⟨clampB_length ht32, rfl⟩) _ (by simp [hd32])) (by exact upd2) ?_
 refine Tr.nil (at_n (Sat.seq (Sat.region ?_)))
 refine Tr.loadAll rfl rfl rfl Tryz.underlying114 rfl Sz114 (by exact mem2) (secrets.length (by exact secB_ok hs64)) ?_
 refine Tr.storeAll rfl rfl rfl rfl (secrets.isCell (by exact secB_ok hs64)) Sz114 (secrets.length (by exact secB_ok hs64)) (by exact mem2) (secrets.length (by exact secB_ok hs64)) (by exact upd2) ?_
 refine Tr.nil (at_n (Sat.ret (en_r ?_)))
 refine ⟨_, [], res_cell rfl rfl Tryz.underlying114 rfl Sz114 (by exact mem2) (by exact secrets.length (by exact secB_ok hs64)), sP, sP, ?_, rfl⟩
 rfl

set_option maxRecDepth 100000 in
set_option maxHeartbeats 4000000 in
theorem sign_Key (seed : List UInt8) (h32 : seed.length = 32) (s : List UInt8) (hs : Hid (sha512 seed = s)) : Meets Tryz.prog 58 [agg (bytesV seed)] [] (fun _ => True) (fun v out => v = agg (bytesV (pb (cv.mul (le (clampB (s.take 32))) bP))) ∧ out = []) := by
 intro W hW
 have hs64 : s.length = 64 := by rw [← hs.out]; exact sha512_length seed
 have hc32 : (clampB (s.take 32)).length = 32 := clampB_length (by rw [List.length_take, hs64]; rfl)
 have hm := sign_multiple (clampB (s.take 32)) hc32
 refine calls_of (hp0 := []) Tryz.func58 rfl 7 Tryz.ntmps58 rfl (HRep.nil _) ?_
 refine Sat.seq (Sat.region ?_)
 refine Tr.boxA rfl rfl ?_
 intro n1 hn1 hf1
 refine Tr.alloc (cs := (bytesV (List.replicate 32 0))) rfl Zr25 rfl ?_
 intro n2 hn2 hf2
 refine Tr.nil (at_n (Sat.seq (Sat.region ?_)))
 refine Tr.loadAll rfl rfl rfl Tryz.underlying23 rfl Sz23 (by exact mem1) (by (simp [h32]; done)) ?_
 refine Tr.callV rfl rfl rfl rfl Body104 (sign_expand seed h32 s hs) (fun _ _ => trivial) ?_
 refine Tr.fieldN (bytesV (clampB (s.take 32))) rfl rfl rfl Tryz.underlying114 rfl Tryz.underlying77 rfl Sz77 (secrets.row_fNumber (secB_ok hs64)) ?_
 refine Tr.callV rfl rfl rfl rfl Body103 (hm) (fun _ _ => trivial) ?_
 refine Tr.storeAll rfl rfl rfl rfl (by exact bytesV_cell _) Sz25 (by (simp [pb_length]; done)) (by exact mem0) (by (simp; done)) (by exact upd0) ?_
 refine Tr.nil (at_n (Sat.ret (en_r ?_)))
 refine ⟨_, [], res_cell rfl rfl Tryz.underlying25 rfl Sz25 (by exact mem0) (by simp [pb_length]), sP, sP, ?_, rfl⟩
 rfl

end Go.Proofs.YtpacobmjjjillaaGreat
end

section
namespace Go.Proofs.YtpacobmjjjillaaGreat
open Go Hw
set_option linter.unusedVariables false
set_option linter.unusedSimpArgs false

open Ed

/-- the residue of a hash -/
def sgR (s : List UInt8) : List UInt8 := leb 32 (le s % L)
theorem sgR_length (s : List UInt8) : (sgR s).length = 32 := leb_length _ _
def sgF (s1 : List UInt8) : List UInt8 := pb (cv.mul (le (sgR s1)) bP)
def sgK (s : List UInt8) : List UInt8 := pb (cv.mul (le (clampB (s.take 32))) bP)
theorem sgF_length (s : List UInt8) : (sgF s).length = 32 := pb_length _
theorem sgK_length (s : List UInt8) : (sgK s).length = 32 := pb_length _
def sgS (s s1 s2 : List UInt8) : List UInt8 := leb 32 ((le (sgR s2) * le (clampB (s.take 32)) + le (sgR s1)) % L)
theorem sgS_length (s s1 s2 : List UInt8) : (sgS s s1 s2).length = 32 := leb_length _ _
theorem upd_first {f : List UInt8} (h : f.length = 32) : upd (bytesV (List.replicate 64 0)) 0 (bytesV f) = bytesV (f ++ List.replicate 32 0) := by
  simp [upd, bytesV, h]
theorem upd_last {f g : List UInt8} (h : f.length = 32) (hg : g.length = 32) : upd (bytesV (f ++ List.replicate 32 0)) 32 (bytesV g) = bytesV (f ++ g) := by
  simp [upd, bytesV, h, hg]

theorem sign_residueR (p : Option Addr) (n c : Nat) (ss : List Sl) (ls : List (List UInt8)) (hss : ss.length = n) (hls : ls.length = n) (hsl : ∀ j, j < n → (ss.getD j Sl.nil).n = (ls.getD j []).length ∧ ((ss.getD j Sl.nil).p = none → (ss.getD j Sl.nil).n = 0)) (F : List UInt8) (hF : ls.flatten = F) (htot : F.length ≤ 90000) (hn : n ≤ 1000000) (s : List UInt8) (hs : Hid (sha512 F = s)) (r : List UInt8) (hr : Hid (sgR s = r))  : Meets Tryz.prog 105 [.slice p n c] [] (fun W => SeesP W p (ss.map Sl.v) ∧ ∀ j, j < n → SeesP W (ss.getD j Sl.nil).p (bytesV (ls.getD j []))) (fun v out => v = agg (bytesV r) ∧ out = []) := by
  have h := sign_residue p n c ss ls hss hls hsl F hF htot hn s hs
  rwa [show leb 32 (le s % L) = r from hr.out] at h

theorem take_sees {l : List UInt8} {n i : Nat} {v : Value} (h : (bytesV (l.take n))[i]? = some v) : (bytesV l)[i]? = some v := by
  rw [bytesV, List.map_take, List.getElem?_take] at h
  split at h
  · exact h
  · cases h

set_option maxRecDepth 100000 in
set_option maxHeartbeats 8000000 in
theorem sign_Sign (seed : List UInt8) (h32 : seed.length = 32) (sb : Sl) (bb : List UInt8) (hbn : bb.length ≤ 80000) (s s1 s2 : List UInt8) (hs : Hid (sha512 seed = s)) (hs1 : Hid (sha512 (s.drop 32 ++ bb) = s1)) (hs2 : Hid (sha512 (sgF s1 ++ (sgK s ++ bb)) = s2)) : Meets Tryz.prog 59 [agg (bytesV seed), sb.v] [] (fun W => BytesAt W sb bb) (fun v out => v = agg (bytesV (sgF s1 ++ sgS s s1 s2)) ∧ out = []) := by
 intro W hW
 have hs64 : s.length = 64 := by rw [← hs.out]; exact sha512_length seed
 have hexp := sign_expand seed h32 s hs
 obtain ⟨sc, hsc⟩ : ∃ sc, secB s = sc := ⟨_, rfl⟩
 rw [hsc] at hexp
 have hok : sc.ok := by rw [← hsc]; exact secB_ok hs64
 have hnum : clampB (s.take 32) = sc.fNumber := by rw [← hsc]; rfl
 have hrst : s.drop 32 = sc.fRest := by rw [← hsc]; rfl
 have hnl := hok.l_fNumber
 have hrl := hok.l_fRest
 obtain ⟨r1, hr1⟩ : ∃ r, Hid (sgR s1 = r) := ⟨_, ⟨rfl⟩⟩
 obtain ⟨r2, hr2⟩ : ∃ r, Hid (sgR s2 = r) := ⟨_, ⟨rfl⟩⟩
 have hr1l : r1.length = 32 := by rw [← hr1.out]; exact sgR_length s1
 have hr2l : r2.length = 32 := by rw [← hr2.out]; exact sgR_length s2
 have hm1 := sign_multiple sc.fNumber hnl
 have hm2 := sign_multiple r1 hr1l
 obtain ⟨K1, hK1⟩ : ∃ l, Hid (sgK s = l) := ⟨_, ⟨rfl⟩⟩
 obtain ⟨F1, hF1⟩ : ∃ l, Hid (sgF s1 = l) := ⟨_, ⟨rfl⟩⟩
 obtain ⟨S1, hS1⟩ : ∃ l, Hid (sgS s s1 s2 = l) := ⟨_, ⟨rfl⟩⟩
 have hF1l : F1.length = 32 := by rw [← hF1.out]; exact sgF_length s1
 have hK1l : K1.length = 32 := by rw [← hK1.out]; exact sgK_length s
 have hSl : S1.length = 32 := by rw [← hS1.out]; exact sgS_length s s1 s2
 rw [show pb (cv.mul (le sc.fNumber) bP) = K1 from by rw [← hK1.out, sgK, hnum]] at hm1
 rw [show pb (cv.mul (le r1) bP) = F1 from by rw [← hF1.out, sgF, hr1.out]] at hm2
 have hma := scalar_muladd r2 sc.fNumber r1 hr2l hnl hr1l
 rw [show leb 32 ((le r2 * le sc.fNumber + le r1) % L) = S1 from by rw [← hS1.out, sgS, hr1.out, hr2.out, hnum]] at hma
 rw [hF1.out, hS1.out]
 rw [hF1.out, hK1.out] at hs2
 rw [hrst] at hs1
 clear hsc hnum hrst
 refine calls_of (hp0 := []) Tryz.func59 rfl 39 Tryz.ntmps59 rfl (HRep.nil _) ?_
 refine Sat.seq (Sat.region ?_)
 refine Tr.boxA rfl rfl ?_
 intro n2 hn2 hf2
 refine Tr.alloc (cs := (bytesV (List.replicate 64 0))) rfl Zr27 rfl ?_
 intro n4 hn4 hf4
 refine Tr.nil (at_n (Sat.seq (Sat.region ?_)))
 refine Tr.loadAll rfl rfl rfl Tryz.underlying23 rfl Sz23 (by exact mem1) (by (simp [h32]; done)) ?_
 refine Tr.callV rfl rfl rfl rfl Body104 (hexp) (fun _ _ => trivial) ?_
 refine Tr.alloc (cs := secrets.zero.cells) rfl secrets.zr rfl ?_
 intro n5 hn5 hf5
 refine Tr.storeAll rfl rfl rfl rfl (secrets.isCell (by exact hok)) Sz114 (secrets.length (by exact hok)) (by exact mem0) (secrets.length (by exact secrets.zero_ok)) (by exact upd0) ?_
 refine Tr.nil (at_n (Sat.seq (Sat.region ?_)))
 refine Tr.fld rfl rfl rfl Tryz.underlying114 rfl Sz77 dE _ rfl ?_
 refine Tr.loadN (bytesV _) rfl rfl rfl Tryz.underlying77 rfl Sz77 (by exact mem0) (secrets.row_fNumber (by exact hok)) (secrets.rl_fNumber (by exact hok)) ?_
 refine Tr.callV rfl rfl rfl rfl Body103 (hm1) (fun _ _ => trivial) ?_
 refine Tr.alloc (cs := (bytesV (List.replicate 32 0))) rfl Zr23 rfl ?_
 intro n6 hn6 hf6
 refine Tr.storeAll rfl rfl rfl rfl (by exact bytesV_cell _) Sz23 (by (simp [hK1l]; done)) (by exact mem0) (by (simp; done)) (by exact upd0) ?_
 refine Tr.nil (at_n (Sat.seq (Sat.region ?_)))
 refine Tr.fld rfl rfl rfl Tryz.underlying114 rfl Sz23 dE _ rfl ?_
 refine Tr.sliceArr rfl rfl rfl Tryz.underlying23 Sz5 ?_
 refine Tr.move rfl rfl rfl ?_
 refine Tr.mkRow2 (z := .slice none 0 0) [.slice (some ⟨n5, 32, none⟩) 32 32, sb.v] [.slice (some ⟨n5, 32, none⟩) 32 32, sb.v] rfl rfl Tryz.underlying133 Sz39 Zr39 rfl rfl (by intro v hv; simp only [List.mem_cons, List.not_mem_nil, or_false] at hv; rcases hv with rfl | rfl <;> rfl) dE rfl ?_
 intro q19
 refine Tr.callV rfl rfl rfl rfl Body105 (sign_residueR (some ⟨q19, 0, none⟩) 2 2 [⟨some ⟨n5, 32, none⟩, 32, 32⟩, sb] [sc.fRest, bb] rfl rfl (fun j hj => (by
   rcases (show j = 0 ∨ j = 1 by omega) with rfl | rfl
   · exact ⟨by show 32 = List.length _; exact hrl.symm, fun e => by cases e⟩
   · exact ⟨by show sb.n = bb.length; exact hW.len.symm, fun e => by have h1 := hW.nil e; have h2 := hW.cap; show sb.n = 0; omega⟩)) (sc.fRest ++ bb) sP (by simp [hrl]; omega) dE s1 hs1 r1 hr1) (fun w h => ⟨SeesP.of (sees_own h (by exact mem0)), (fun j hj => (by
   rcases (show j = 0 ∨ j = 1 by omega) with rfl | rfl
   · exact SeesP.of (by have h9 := sees_subC (sees_own h (by exact mem2)) (secrets.see_fRest hok); exact h9)
   · exact seesP_ext h rfl hW.see))⟩) ?_
 refine Tr.alloc (cs := (bytesV (List.replicate 32 0))) rfl Zr77 rfl ?_
 intro n7 hn7 hf7
 refine Tr.storeAll rfl rfl rfl rfl (by exact bytesV_cell _) Sz77 (by (simp [hr1l]; done)) (by exact mem0) (by (simp; done)) (by exact upd0) ?_
 refine Tr.nil (at_n (Sat.seq (Sat.region ?_)))
 refine Tr.loadAll rfl rfl rfl Tryz.underlying77 rfl Sz77 (by exact mem0) (by (simp [hr1l]; done)) ?_
 refine Tr.callV rfl rfl rfl rfl Body103 (hm2) (fun _ _ => trivial) ?_
 refine Tr.alloc (cs := (bytesV (List.replicate 32 0))) rfl Zr23 rfl ?_
 intro n8 hn8 hf8
 refine Tr.storeAll rfl rfl rfl rfl (by exact bytesV_cell _) Sz23 (by (simp [hF1l]; done)) (by exact mem0) (by (simp; done)) (by exact upd0) ?_
 refine Tr.nil (at_n (Sat.seq ?_))
 refine Sat.draw [(0, 0), (0, 1), (0, 2), (0, 5), (1, 6), (1, 7), (2, 3), (3, 4), (3, 8), (2, 9), (4, 10)] Mixed (by kernel_rfl) ?_
 refine Tr.sliceArr rfl rfl rfl Tryz.underlying23 Sz5 ?_
 refine Tr.sliceArr rfl rfl rfl Tryz.underlying23 Sz5 ?_
 refine Tr.move rfl rfl rfl ?_
 refine Tr.fld rfl rfl rfl Tryz.underlying114 rfl Sz77 dE _ rfl ?_
 refine Tr.loadN (bytesV _) rfl rfl rfl Tryz.underlying77 rfl Sz77 (by exact mem4) (secrets.row_fNumber (by exact hok)) (secrets.rl_fNumber (by exact hok)) ?_
 refine Tr.loadAll rfl rfl rfl Tryz.underlying77 rfl Sz77 (by exact mem1) (by (simp [hr1l]; done)) ?_
 refine Tr.mkRow2 (z := .slice none 0 0) [.slice (some ⟨n8, 0, none⟩) 32 32, .slice (some ⟨n6, 0, none⟩) 32 32, sb.v] [.slice (some ⟨n8, 0, none⟩) 32 32, .slice (some ⟨n6, 0, none⟩) 32 32, sb.v] rfl rfl Tryz.underlying133 Sz39 Zr39 rfl rfl (by intro v hv; simp only [List.mem_cons, List.not_mem_nil, or_false] at hv; rcases hv with rfl | rfl | rfl <;> rfl) dE rfl ?_
 intro q26
 refine Tr.callV rfl rfl rfl rfl Body105 (sign_residueR (some ⟨q26, 0, none⟩) 3 3 [⟨some ⟨n8, 0, none⟩, 32, 32⟩, ⟨some ⟨n6, 0, none⟩, 32, 32⟩, sb] [F1, K1, bb] rfl rfl (fun j hj => (by
   rcases (show j = 0 ∨ j = 1 ∨ j = 2 by omega) with rfl | rfl | rfl
   · exact ⟨by show 32 = List.length _; exact hF1l.symm, fun e => by cases e⟩
   · exact ⟨by show 32 = List.length _; exact hK1l.symm, fun e => by cases e⟩
   · exact ⟨by show sb.n = bb.length; exact hW.len.symm, fun e => by have h1 := hW.nil e; have h2 := hW.cap; show sb.n = 0; omega⟩)) (F1 ++ (K1 ++ bb)) sP (by simp [hF1l, hK1l]; omega) dE s2 hs2 r2 hr2) (fun w h => ⟨SeesP.of (sees_own h (by exact mem0)), (fun j hj => (by
   rcases (show j = 0 ∨ j = 1 ∨ j = 2 by omega) with rfl | rfl | rfl
   · exact SeesP.of (sees_own (cs := bytesV F1) h (by exact mem1))
   · exact SeesP.of (sees_own (cs := bytesV K1) h (by exact mem4))
   · exact seesP_ext h rfl hW.see))⟩) ?_
 refine Tr.callV rfl rfl rfl rfl Body106 (hma) (fun _ _ => trivial) ?_
 refine Tr.alloc (cs := (bytesV (List.replicate 32 0))) rfl Zr77 rfl ?_
 intro n9 hn9 hf9
 refine Tr.storeAll rfl rfl rfl rfl (by exact bytesV_cell _) Sz77 (by (simp [hSl]; done)) (by exact mem0) (by (simp; done)) (by exact upd0) ?_
 refine Tr.nil (at_n (Sat.seq (Sat.region ?_)))
 refine Tr.alloc (cs := (bytesV (List.replicate 64 0))) rfl Zr27 rfl ?_
 intro n10 hn10 hf10
 refine Tr.nil (at_n (Sat.seq ?_))
 refine Sat.draw [(0, 0), (0, 1), (4, 2)] Mixed (by kernel_rfl) ?_
 refine Tr.sliceArrHi 32 rfl rfl rfl rfl rfl dE dE Tryz.underlying27 Sz5 ?_
 refine Tr.sliceArr rfl rfl rfl Tryz.underlying23 Sz5 ?_
 refine Tr.copyP (bytesV F1) 32 rfl rfl rfl rfl rfl Tryz.underlying39 Sz5 (fun w h => SeesP.of (sees_own h (by exact mem3))) (fun e => by cases e) (by rw [bytesV, List.length_map]; exact hF1l) rfl (by rw [bytesV, ← List.map_take, List.take_of_length_le (Nat.le_of_eq hF1l)]) (bytesV_cell _) (by exact mem0) (by (simp; done)) (by exact upd_first hF1l) (by exact upd0) ?_
 refine Tr.nil (at_n (Sat.seq ?_))
 refine Sat.draw [(0, 0), (0, 1), (4, 2)] Mixed (by kernel_rfl) ?_
 refine Tr.sliceArrLo 32 rfl rfl rfl rfl rfl dE Tryz.underlying27 Sz5 ?_
 refine Tr.sliceArr rfl rfl rfl Tryz.underlying77 Sz5 ?_
 refine Tr.copyP (bytesV S1) 32 rfl rfl rfl rfl rfl Tryz.underlying39 Sz5 (fun w h => SeesP.of (sees_own h (by exact mem1))) (fun e => by cases e) (by rw [bytesV, List.length_map]; exact hSl) rfl (by rw [bytesV, ← List.map_take, List.take_of_length_le (Nat.le_of_eq hSl)]) (bytesV_cell _) (by exact mem0) (by (simp; omega)) (by exact upd_last hF1l hSl) (by exact upd0) ?_
 refine Tr.nil (at_n (Sat.seq (Sat.region ?_)))
 refine Tr.loadAll rfl rfl rfl Tryz.underlying27 rfl Sz27 (by exact mem0) (by (simp [hF1l, hSl]; done)) ?_
 refine Tr.storeAll rfl rfl rfl rfl (by exact bytesV_cell _) Sz27 (by (simp [hF1l, hSl]; done)) (by (repeat (first | exact List.mem_cons_self | refine List.mem_cons_of_mem _ ?_))) (by (simp; done)) (by (repeat (first | exact upd0 | apply Upd.tail))) ?_
 refine Tr.nil (at_n (Sat.ret (en_r ?_)))
 refine ⟨_, [], res_cell rfl rfl Tryz.underlying27 rfl Sz27 (by (repeat (first | exact List.mem_cons_self | refine List.mem_cons_of_mem _ ?_))) (by simp [hF1l, hSl]), sP, sP, ?_, rfl⟩
 rfl

theorem curve_Read_none (b : List UInt8) (hb : b.length = 32) (h : rdP b = none) : Meets Tryz.prog 108 [agg (bytesV b)] [] (fun _ => True) (fun v out => v = .tuple #[agg Point.zero.cells, i64 4] ∧ out = []) := by
  have := curve_Read b hb
  rwa [rdV_none h] at this
theorem curve_Read_some (b : List UInt8) (P : Pt Fp) (hb : b.length = 32) (h : rdP b = some P) : Meets Tryz.prog 108 [agg (bytesV b)] [] (fun _ => True) (fun v out => v = .tuple #[agg (ptc P).cells, i64 0] ∧ out = []) := by
  have := curve_Read b hb
  rwa [rdV_some h] at this
open Classical in
noncomputable def goodB (k bb sg : List UInt8) : Bool := decide (le (sg.drop 32) < L ∧ ∃ A R, rdP k = some A ∧ rdP (sg.take 32) = some R ∧ cv.lin (le (sg.drop 32)) (le (sgR (sha512 (sg.take 32 ++ (k ++ bb))))) bP (neg A) = R)
theorem good_dec {k bb sg : List UInt8} {A R Q : Pt Fp} (h1 : le (sg.drop 32) < L) (h2 : rdP k = some A) (h3 : rdP (sg.take 32) = some R) (h4 : cv.lin (le (sg.drop 32)) (le (sgR (sha512 (sg.take 32 ++ (k ++ bb))))) bP (neg A) = Q) : @decide (ptc Q = ptc R) (Classical.propDecidable _) = goodB k bb sg := by
  rw [goodB, Bool.eq_iff_iff]
  simp only [decide_eq_true_eq, ptc_inj]
  constructor
  · intro h
    exact ⟨h1, A, R, h2, h3, h4.trans h⟩
  · rintro ⟨_, A', R', e1, e2, e3⟩
    rw [h2] at e1; rw [h3] at e2
    cases e1; cases e2
    exact h4.symm.trans e3
theorem good_no {k bb sg : List UInt8} (h : ¬ (le (sg.drop 32) < L ∧ (∃ A, rdP k = some A) ∧ ∃ R, rdP (sg.take 32) = some R)) : goodB k bb sg = false := by
  rw [goodB, decide_eq_false_iff_not]
  intro e
  refine h ?_
  obtain ⟨h1, A, R, h2, h3, _⟩ := e
  exact ⟨h1, ⟨A, h2⟩, ⟨R, h3⟩⟩

set_option maxRecDepth 100000 in
set_option maxHeartbeats 8000000 in
theorem sign_Good_c (k : List UInt8) (hk : k.length = 32) (sb : Sl) (bb : List UInt8) (hbn : bb.length ≤ 80000) (sg : List UInt8) (hsg : sg.length = 64) (hc : ¬ le (sg.drop 32) < L) : Meets Tryz.prog 60 [agg (bytesV k), sb.v, agg (bytesV sg)] [] (fun W => BytesAt W sb bb) (fun v out => v = .bool false ∧ out = []) := by
 intro W hW
 have hd32 : (sg.drop 32).length = 32 := by rw [List.length_drop, hsg]
 have ht32 : (sg.take 32).length = 32 := by rw [List.length_take, hsg]; rfl
 refine calls_of (hp0 := []) Tryz.func60 rfl 45 Tryz.ntmps60 rfl (HRep.nil _) ?_
 refine Sat.seq (Sat.region ?_)
 refine Tr.boxA rfl rfl ?_
 intro n3 hn3 hf3
 refine Tr.boxA rfl rfl ?_
 intro n5 hn5 hf5
 refine Tr.assign rfl rfl rfl ?_
 refine Tr.nil (at_n (Sat.seq (Sat.region ?_)))
 refine Tr.sliceArrLo 32 rfl rfl rfl rfl rfl dE Tryz.underlying27 Sz5 ?_
 refine Tr.s2a rfl rfl rfl Tryz.underlying77 oM ?_
 refine Tr.loadN (bytesV (sg.drop 32)) rfl rfl rfl Tryz.underlying77 rfl Sz77 (by exact mem0) (by show ((sg.map u8).drop 32).take 32 = _; rw [← List.map_drop, ← List.map_take, d64 hsg]) (by rw [List.length_map]; exact hd32) ?_
 refine Tr.alloc (cs := (bytesV (List.replicate 32 0))) rfl Zr77 rfl ?_
 intro n7 hn7 hf7
 refine Tr.storeAll rfl rfl rfl rfl (by exact bytesV_cell _) Sz77 (by (simp [hsg]; done)) (by exact mem0) (by (simp; done)) (by exact upd0) ?_
 refine Tr.nil (at_n (Sat.seq (Sat.seq (Sat.region ?_))))
 refine Tr.loadAll rfl rfl rfl Tryz.underlying77 rfl Sz77 (by exact mem0) (by (simp [hsg]; done)) ?_
 refine Tr.callV rfl rfl rfl rfl Body107 (scalar_canon (sg.drop 32) hd32) (fun _ _ => trivial) ?_
 refine Tr.not rfl rfl rfl ?_
 refine Tr.nil (at_n ?_)
 refine Sat.cond_t rfl (by rw [decide_eq_false hc]; rfl) ?_
 refine Sat.seq (Sat.region ?_)
 refine Tr.assign rfl rfl rfl ?_
 refine Tr.nil (at_n (Sat.ret (at_r (en_r ?_))))
 refine ⟨_, [], res_tmp rfl rfl, sP, sP, ?_, rfl⟩
 rfl

set_option maxRecDepth 100000 in
set_option maxHeartbeats 8000000 in
theorem sign_Good_k (k : List UInt8) (hk : k.length = 32) (sb : Sl) (bb : List UInt8) (hbn : bb.length ≤ 80000) (sg : List UInt8) (hsg : sg.length = 64) (hc : le (sg.drop 32) < L) (h1 : rdP k = none) : Meets Tryz.prog 60 [agg (bytesV k), sb.v, agg (bytesV sg)] [] (fun W => BytesAt W sb bb) (fun v out => v = .bool false ∧ out = []) := by
 intro W hW
 have hd32 : (sg.drop 32).length = 32 := by rw [List.length_drop, hsg]
 have ht32 : (sg.take 32).length = 32 := by rw [List.length_take, hsg]; rfl
 refine calls_of (hp0 := []) Tryz.func60 rfl 45 Tryz.ntmps60 rfl (HRep.nil _) ?_
 refine Sat.seq (Sat.region ?_)
 refine Tr.boxA rfl rfl ?_
 intro n3 hn3 hf3
 refine Tr.boxA rfl rfl ?_
 intro n5 hn5 hf5
 refine Tr.assign rfl rfl rfl ?_
 refine Tr.nil (at_n (Sat.seq (Sat.region ?_)))
 refine Tr.sliceArrLo 32 rfl rfl rfl rfl rfl dE Tryz.underlying27 Sz5 ?_
 refine Tr.s2a rfl rfl rfl Tryz.underlying77 oM ?_
 refine Tr.loadN (bytesV (sg.drop 32)) rfl rfl rfl Tryz.underlying77 rfl Sz77 (by exact mem0) (by show ((sg.map u8).drop 32).take 32 = _; rw [← List.map_drop, ← List.map_take, d64 hsg]) (by rw [List.length_map]; exact hd32) ?_
 refine Tr.alloc (cs := (bytesV (List.replicate 32 0))) rfl Zr77 rfl ?_
 intro n7 hn7 hf7
 refine Tr.storeAll rfl rfl rfl rfl (by exact bytesV_cell _) Sz77 (by (simp [hsg]; done)) (by exact mem0) (by (simp; done)) (by exact upd0) ?_
 refine Tr.nil (at_n (Sat.seq (Sat.seq (Sat.region ?_))))
 refine Tr.loadAll rfl rfl rfl Tryz.underlying77 rfl Sz77 (by exact mem0) (by (simp [hsg]; done)) ?_
 refine Tr.callV rfl rfl rfl rfl Body107 (scalar_canon (sg.drop 32) hd32) (fun _ _ => trivial) ?_
 refine Tr.not rfl rfl rfl ?_
 refine Tr.nil (at_n ?_)
 refine Sat.cond_f rfl (by rw [decide_eq_true hc]; rfl) ?_
 refine Sat.skip (at_n (Sat.seq (Sat.region ?_)))
 refine Tr.loadAll rfl rfl rfl Tryz.underlying25 rfl Sz25 (by exact mem2) (by (simp [hk]; done)) ?_
 refine Tr.callV rfl rfl rfl rfl Body108 (curve_Read_none k hk h1) (fun _ _ => trivial) ?_
 refine Tr.move rfl rfl rfl ?_
 refine Tr.extract rfl rfl rfl rfl ?_
 refine Tr.extract rfl rfl rfl rfl ?_
 refine Tr.alloc (cs := Point.zero.cells) rfl Point.zr rfl ?_
 intro n8 hn8 hf8
 refine Tr.storeAll rfl rfl rfl rfl (Point.isCell (by exact Point.zero_ok)) Sz79 (Point.length (by exact Point.zero_ok)) (by exact mem0) (Point.length (by exact Point.zero_ok)) (by exact upd0) ?_
 refine Tr.assign rfl rfl rfl ?_
 refine Tr.nil (at_n (Sat.seq (Sat.seq (Sat.region ?_))))
 refine Tr.move rfl rfl rfl ?_
 refine Tr.nei rfl rfl rfl rfl (show (!decide _) = true from congrArg not (decide_eq_false dE)) ?_
 refine Tr.nil (at_n ?_)
 refine Sat.cond_t rfl (rfl) ?_
 refine Sat.seq (Sat.region ?_)
 refine Tr.assign rfl rfl rfl ?_
 refine Tr.nil (at_n (Sat.ret (at_r (en_r ?_))))
 refine ⟨_, [], res_tmp rfl rfl, sP, sP, ?_, rfl⟩
 rfl

set_option maxRecDepth 100000 in
set_option maxHeartbeats 8000000 in
theorem sign_Good_r (k : List UInt8) (hk : k.length = 32) (sb : Sl) (bb : List UInt8) (hbn : bb.length ≤ 80000) (sg : List UInt8) (hsg : sg.length = 64) (hc : le (sg.drop 32) < L) (A : Pt Fp) (h1 : rdP k = some A) (h2 : rdP (sg.take 32) = none) : Meets Tryz.prog 60 [agg (bytesV k), sb.v, agg (bytesV sg)] [] (fun W => BytesAt W sb bb) (fun v out => v = .bool false ∧ out = []) := by
 intro W hW
 have hd32 : (sg.drop 32).length = 32 := by rw [List.length_drop, hsg]
 have ht32 : (sg.take 32).length = 32 := by rw [List.length_take, hsg]; rfl
 refine calls_of (hp0 := []) Tryz.func60 rfl 45 Tryz.ntmps60 rfl (HRep.nil _) ?_
 refine Sat.seq (Sat.region ?_)
 refine Tr.boxA rfl rfl ?_
 intro n3 hn3 hf3
 refine Tr.boxA rfl rfl ?_
 intro n5 hn5 hf5
 refine Tr.assign rfl rfl rfl ?_
 refine Tr.nil (at_n (Sat.seq (Sat.region ?_)))
 refine Tr.sliceArrLo 32 rfl rfl rfl rfl rfl dE Tryz.underlying27 Sz5 ?_
 refine Tr.s2a rfl rfl rfl Tryz.underlying77 oM ?_
 refine Tr.loadN (bytesV (sg.drop 32)) rfl rfl rfl Tryz.underlying77 rfl Sz77 (by exact mem0) (by show ((sg.map u8).drop 32).take 32 = _; rw [← List.map_drop, ← List.map_take, d64 hsg]) (by rw [List.length_map]; exact hd32) ?_
 refine Tr.alloc (cs := (bytesV (List.replicate 32 0))) rfl Zr77 rfl ?_
 intro n7 hn7 hf7
 refine Tr.storeAll rfl rfl rfl rfl (by exact bytesV_cell _) Sz77 (by (simp [hsg]; done)) (by exact mem0) (by (simp; done)) (by exact upd0) ?_
 refine Tr.nil (at_n (Sat.seq (Sat.seq (Sat.region ?_))))
 refine Tr.loadAll rfl rfl rfl Tryz.underlying77 rfl Sz77 (by exact mem0) (by (simp [hsg]; done)) ?_
 refine Tr.callV rfl rfl rfl rfl Body107 (scalar_canon (sg.drop 32) hd32) (fun _ _ => trivial) ?_
 refine Tr.not rfl rfl rfl ?_
 refine Tr.nil (at_n ?_)
 refine Sat.cond_f rfl (by rw [decide_eq_true hc]; rfl) ?_
 refine Sat.skip (at_n (Sat.seq (Sat.region ?_)))
 refine Tr.loadAll rfl rfl rfl Tryz.underlying25 rfl Sz25 (by exact mem2) (by (simp [hk]; done)) ?_
 refine Tr.callV rfl rfl rfl rfl Body108 (curve_Read_some k A hk h1) (fun _ _ => trivial) ?_
 refine Tr.move rfl rfl rfl ?_
 refine Tr.extract rfl rfl rfl rfl ?_
 refine Tr.extract rfl rfl rfl rfl ?_
 refine Tr.alloc (cs := Point.zero.cells) rfl Point.zr rfl ?_
 intro n8 hn8 hf8
 refine Tr.storeAll rfl rfl rfl rfl (Point.isCell (by exact ptc_ok _)) Sz79 (Point.length (by exact ptc_ok _)) (by exact mem0) (Point.length (by exact Point.zero_ok)) (by exact upd0) ?_
 refine Tr.assign rfl rfl rfl ?_
 refine Tr.nil (at_n (Sat.seq (Sat.seq (Sat.region ?_))))
 refine Tr.move rfl rfl rfl ?_
 refine Tr.nei rfl rfl rfl rfl (show (!decide _) = false from congrArg not (decide_eq_true (rfl))) ?_
 refine Tr.nil (at_n ?_)
 refine Sat.cond_f rfl (rfl) ?_
 refine Sat.skip (at_n (Sat.seq (Sat.region ?_)))
 refine Tr.sliceArrHi 32 rfl rfl rfl rfl rfl dE dE Tryz.underlying27 Sz5 ?_
 refine Tr.s2a rfl rfl rfl Tryz.underlying23 oM ?_
 refine Tr.loadN (bytesV (sg.take 32)) rfl rfl rfl Tryz.underlying23 rfl Sz23 (by exact mem2) (by rw [List.drop_zero, ← List.map_take]) (by rw [List.length_map]; exact ht32) ?_
 refine Tr.callV rfl rfl rfl rfl Body108 (curve_Read_none (sg.take 32) ht32 h2) (fun _ _ => trivial) ?_
 refine Tr.move rfl rfl rfl ?_
 refine Tr.extract rfl rfl rfl rfl ?_
 refine Tr.extract rfl rfl rfl rfl ?_
 refine Tr.alloc (cs := Point.zero.cells) rfl Point.zr rfl ?_
 intro n10 hn10 hf10
 refine Tr.storeAll rfl rfl rfl rfl (Point.isCell (by exact Point.zero_ok)) Sz79 (Point.length (by exact Point.zero_ok)) (by exact mem0) (Point.length (by exact Point.zero_ok)) (by exact upd0) ?_
 refine Tr.assign rfl rfl rfl ?_
 refine Tr.nil (at_n (Sat.seq (Sat.seq (Sat.region ?_))))
 refine Tr.move rfl rfl rfl ?_
 refine Tr.nei rfl rfl rfl rfl (show (!decide _) = true from congrArg not (decide_eq_false dE)) ?_
 refine Tr.nil (at_n ?_)
 refine Sat.cond_t rfl (rfl) ?_
 refine Sat.seq (Sat.region ?_)
 refine Tr.assign rfl rfl rfl ?_
 refine Tr.nil (at_n (Sat.ret (at_r (en_r ?_))))
 refine ⟨_, [], res_tmp rfl rfl, sP, sP, ?_, rfl⟩
 rfl

set_option maxRecDepth 100000 in
set_option maxHeartbeats 8000000 in
theorem sign_Good_ok (k : List UInt8) (hk : k.length = 32) (sb : Sl) (bb : List UInt8) (hbn : bb.length ≤ 80000) (sg : List UInt8) (hsg : sg.length = 64) (hc : le (sg.drop 32) < L) (A R : Pt Fp) (h1 : rdP k = some A) (h2 : rdP (sg.take 32) = some R) (s r : List UInt8) (hs : Hid (sha512 (sg.take 32 ++ (k ++ bb)) = s)) (hr : Hid (sgR s = r)) (hrl : r.length = 32) : Meets Tryz.prog 60 [agg (bytesV k), sb.v, agg (bytesV sg)] [] (fun W => BytesAt W sb bb) (fun v out => v = .bool (goodB k bb sg) ∧ out = []) := by
 intro W hW
 have hd32 : (sg.drop 32).length = 32 := by rw [List.length_drop, hsg]
 have ht32 : (sg.take 32).length = 32 := by rw [List.length_take, hsg]; rfl
 have hA := rdP_on h1
 obtain ⟨Q, hQ⟩ : ∃ Q, cv.lin (le (sg.drop 32)) (le (sgR (sha512 (sg.take 32 ++ (k ++ bb))))) bP (neg A) = Q := ⟨_, rfl⟩
 have hmul := curve_Mul2 (sg.drop 32) r bP (neg A) hd32 hrl bP_on (cv.on_neg hA)
 rw [show cv.lin (le (sg.drop 32)) (le r) bP (neg A) = Q from by rw [← hr.out, ← hs.out]; exact hQ] at hmul
 refine calls_of (hp0 := []) Tryz.func60 rfl 45 Tryz.ntmps60 rfl (HRep.nil _) ?_
 refine Sat.seq (Sat.region ?_)
 refine Tr.boxA rfl rfl ?_
 intro n3 hn3 hf3
 refine Tr.boxA rfl rfl ?_
 intro n5 hn5 hf5
 refine Tr.assign rfl rfl rfl ?_
 refine Tr.nil (at_n (Sat.seq (Sat.region ?_)))
 refine Tr.sliceArrLo 32 rfl rfl rfl rfl rfl dE Tryz.underlying27 Sz5 ?_
 refine Tr.s2a rfl rfl rfl Tryz.underlying77 oM ?_
 refine Tr.loadN (bytesV (sg.drop 32)) rfl rfl rfl Tryz.underlying77 rfl Sz77 (by exact mem0) (by show ((sg.map u8).drop 32).take 32 = _; rw [← List.map_drop, ← List.map_take, d64 hsg]) (by rw [List.length_map]; exact hd32) ?_
 refine Tr.alloc (cs := (bytesV (List.replicate 32 0))) rfl Zr77 rfl ?_
 intro n7 hn7 hf7
 refine Tr.storeAll rfl rfl rfl rfl (by exact bytesV_cell _) Sz77 (by (simp [hsg]; done)) (by exact mem0) (by (simp; done)) (by exact upd0) ?_
 refine Tr.nil (at_n (Sat.seq (Sat.seq (Sat.region ?_))))
 refine Tr.loadAll rfl rfl rfl Tryz.underlying77 rfl Sz77 (by exact mem0) (by (simp [hsg]; done)) ?_
 refine Tr.callV rfl rfl rfl rfl Body107 (scalar_canon (sg.drop 32) hd32) (fun _ _ => trivial) ?_
 refine Tr.not rfl rfl rfl ?_
 refine Tr.nil (at_n ?_)
 refine Sat.cond_f rfl (by rw [decide_eq_true hc]; rfl) ?_
 refine Sat.skip (at_n (Sat.seq (Sat.region ?_)))
 refine Tr.loadAll rfl rfl rfl Tryz.underlying25 rfl Sz25 (by exact mem2) (by (simp [hk]; done)) ?_
 refine Tr.callV rfl rfl rfl rfl Body108 (curve_Read_some k A hk h1) (fun _ _ => trivial) ?_
 refine Tr.move rfl rfl rfl ?_
 refine Tr.extract rfl rfl rfl rfl ?_
 refine Tr.extract rfl rfl rfl rfl ?_
 refine Tr.alloc (cs := Point.zero.cells) rfl Point.zr rfl ?_
 intro n8 hn8 hf8
 refine Tr.storeAll rfl rfl rfl rfl (Point.isCell (by exact ptc_ok _)) Sz79 (Point.length (by exact ptc_ok _)) (by exact mem0) (Point.length (by exact Point.zero_ok)) (by exact upd0) ?_
 refine Tr.assign rfl rfl rfl ?_
 refine Tr.nil (at_n (Sat.seq (Sat.seq (Sat.region ?_))))
 refine Tr.move rfl rfl rfl ?_
 refine Tr.nei rfl rfl rfl rfl (show (!decide _) = false from congrArg not (decide_eq_true (rfl))) ?_
 refine Tr.nil (at_n ?_)
 refine Sat.cond_f rfl (rfl) ?_
 refine Sat.skip (at_n (Sat.seq (Sat.region ?_)))
 refine Tr.sliceArrHi 32 rfl rfl rfl rfl rfl dE dE Tryz.underlying27 Sz5 ?_
 refine Tr.s2a rfl rfl rfl Tryz.underlying23 oM ?_
 refine Tr.loadN (bytesV (sg.take 32)) rfl rfl rfl Tryz.underlying23 rfl Sz23 (by exact mem2) (by rw [List.drop_zero, ← List.map_take]) (by rw [List.length_map]; exact ht32) ?_
 refine Tr.callV rfl rfl rfl rfl Body108 (curve_Read_some (sg.take 32) R ht32 h2) (fun _ _ => trivial) ?_
 refine Tr.move rfl rfl rfl ?_
 refine Tr.extract rfl rfl rfl rfl ?_
 refine Tr.extract rfl rfl rfl rfl ?_
 refine Tr.alloc (cs := Point.zero.cells) rfl Point.zr rfl ?_
 intro n10 hn10 hf10
 refine Tr.storeAll rfl rfl rfl rfl (Point.isCell (by exact ptc_ok _)) Sz79 (Point.length (by exact ptc_ok _)) (by exact mem0) (Point.length (by exact Point.zero_ok)) (by exact upd0) ?_
 refine Tr.assign rfl rfl rfl ?_
 refine Tr.nil (at_n (Sat.seq (Sat.seq (Sat.region ?_))))
 refine Tr.move rfl rfl rfl ?_
 refine Tr.nei rfl rfl rfl rfl (show (!decide _) = false from congrArg not (decide_eq_true (rfl))) ?_
 refine Tr.nil (at_n ?_)
 refine Sat.cond_f rfl (rfl) ?_
 refine Sat.skip (at_n (Sat.seq ?_))
 refine Sat.draw [(1, 0), (0, 2), (0, 3), (0, 4), (1, 7), (1, 10), (3, 1), (2, 5), (3, 6), (3, 8), (3, 9), (0, 11), (0, 12)] Mixed (by kernel_rfl) ?_
 refine Tr.loadAll rfl rfl rfl Tryz.underlying77 rfl Sz77 (by exact mem2) (by (simp [hsg]; done)) ?_
 refine Tr.sliceArrHi 32 rfl rfl rfl rfl rfl dE dE Tryz.underlying27 Sz5 ?_
 refine Tr.sliceArr rfl rfl rfl Tryz.underlying25 Sz5 ?_
 refine Tr.move rfl rfl rfl ?_
 refine Tr.loadAll rfl rfl rfl Tryz.underlying79 rfl Sz79 (by exact mem1) (Point.length (by exact ptc_ok _)) ?_
 refine Tr.loadAll rfl rfl rfl Tryz.underlying79 rfl Sz79 (by exact mem0) (Point.length (by exact ptc_ok _)) ?_
 refine Tr.callV rfl rfl rfl rfl Body110 (curve_Base) (fun _ _ => trivial) ?_
 refine Tr.mkRow2 (z := .slice none 0 0) [.slice (some ⟨n5, 0, none⟩) 32 64, .slice (some ⟨n3, 0, none⟩) 32 32, sb.v] [.slice (some ⟨n5, 0, none⟩) 32 64, .slice (some ⟨n3, 0, none⟩) 32 32, sb.v] rfl rfl Tryz.underlying133 Sz39 Zr39 rfl rfl (by intro v hv; simp only [List.mem_cons, List.not_mem_nil, or_false] at hv; rcases hv with rfl | rfl | rfl <;> rfl) dE rfl ?_
 intro q38
 refine Tr.callV rfl rfl rfl rfl Body105 (sign_residueR (some ⟨q38, 0, none⟩) 3 3 [⟨some ⟨n5, 0, none⟩, 32, 64⟩, ⟨some ⟨n3, 0, none⟩, 32, 32⟩, sb] [sg.take 32, k, bb] rfl rfl (fun j hj => (by
   rcases (show j = 0 ∨ j = 1 ∨ j = 2 by omega) with rfl | rfl | rfl
   · exact ⟨by show 32 = List.length _; exact ht32.symm, fun e => by cases e⟩
   · exact ⟨by show 32 = List.length _; exact hk.symm, fun e => by cases e⟩
   · exact ⟨by show sb.n = bb.length; exact hW.len.symm, fun e => by have h1 := hW.nil e; have h2 := hW.cap; show sb.n = 0; omega⟩)) (sg.take 32 ++ (k ++ bb)) sP (by simp [hsg, hk]; omega) dE s hs r hr) (fun w h => ⟨SeesP.of (sees_own h (by exact mem0)), (fun j hj => (by
   rcases (show j = 0 ∨ j = 1 ∨ j = 2 by omega) with rfl | rfl | rfl
   · exact SeesP.of (by have h9 := sees_own (cs := bytesV sg) h (by exact mem4); exact fun i v hv => h9 i v (take_sees hv))
   · exact SeesP.of (sees_own (cs := bytesV k) h (by exact mem5))
   · exact seesP_ext h rfl hW.see))⟩) ?_
 refine Tr.callV rfl rfl rfl rfl Body111 (curve_Neg A hA) (fun _ _ => trivial) ?_
 refine Tr.callV rfl rfl rfl rfl Body109 (hmul) (fun _ _ => trivial) ?_
 refine Tr.eql_rec rfl rfl rfl rfl Point.eg (fun w => Point.eq_runC (ptc_ok _) (ptc_ok _) w) (good_dec hc h1 h2 hQ) ?_
 refine Tr.assign rfl rfl rfl ?_
 refine Tr.nil (at_n (Sat.ret (en_r ?_)))
 refine ⟨_, [], res_tmp rfl rfl, sP, sP, ?_, rfl⟩
 rfl

theorem sign_Good (k : List UInt8) (hk : k.length = 32) (sb : Sl) (bb : List UInt8) (hbn : bb.length ≤ 80000) (sg : List UInt8) (hsg : sg.length = 64) : Meets Tryz.prog 60 [agg (bytesV k), sb.v, agg (bytesV sg)] [] (fun W => BytesAt W sb bb) (fun v out => v = .bool (goodB k bb sg) ∧ out = []) := by
  by_cases hc : le (sg.drop 32) < L
  · cases h1 : rdP k with
    | none =>
      rw [good_no (fun e => by obtain ⟨_, ⟨A, h⟩, _⟩ := e; rw [h1] at h; cases h)]
      exact sign_Good_k k hk sb bb hbn sg hsg hc h1
    | some A =>
      cases h2 : rdP (sg.take 32) with
      | none =>
        rw [good_no (fun e => by obtain ⟨_, _, ⟨R, h⟩⟩ := e; rw [h2] at h; cases h)]
        exact sign_Good_r k hk sb bb hbn sg hsg hc A h1 h2
      | some R => exact sign_Good_ok k hk sb bb hbn sg hsg hc A R h1 h2 _ _ ⟨rfl⟩ ⟨rfl⟩ (sgR_length _)
  · rw [good_no (fun e => hc e.1)]
    exact sign_Good_c k hk sb bb hbn sg hsg hc
end Go.Proofs.YtpacobmjjjillaaGreat
end

section
namespace Hw
open Go
set_option linter.unusedSimpArgs false
set_option linter.unusedVariables false
set_option maxRecDepth 100000

/-- the low k bytes of a number, and zeros up to N -/
def padW (N n k : Nat) : List UInt8 := leb k n ++ List.replicate (N - k) 0
theorem padW_length (N n k : Nat) (h : k ≤ N) : (padW N n k).length = N := by simp [padW, leb_length]; omega
theorem padW_zero (N n : Nat) : padW N n 0 = List.replicate N 0 := by simp [padW, leb]
theorem leb_getD (k n i : Nat) (h : i < k) : (leb k n).getD i 0 = UInt8.ofNat (n / 256 ^ i) := by
  rw [List.getD_eq_getElem?_getD, leb_get k n i h]; rfl
theorem ofNat8 {m n : Nat} (h : m % 256 = n % 256) : UInt8.ofNat m = UInt8.ofNat n := by
  apply UInt8.toNat_inj.1
  rw [UInt8.toNat_ofNat', UInt8.toNat_ofNat']; exact h
theorem byte_low (A m k i : Nat) (h : i < k) : (A + 256 ^ k * m) / 256 ^ i % 256 = A / 256 ^ i % 256 := by
  have e : 256 ^ k * m = 256 ^ i * (256 * (256 ^ (k - i - 1) * m)) := by
    rw [← Nat.mul_assoc, ← Nat.mul_assoc, ← Nat.pow_succ, ← Nat.pow_add]
    congr 2; omega
  rw [e, Nat.add_mul_div_left _ _ (Nat.pow_pos dE), Nat.add_mul_mod_self_left]
theorem leb_succ' (k n : Nat) : leb (k + 1) n = leb k n ++ [UInt8.ofNat (n / 256 ^ k)] := by
  apply List.ext_getElem?
  intro i
  rcases Nat.lt_trichotomy i k with h | h | h
  · rw [leb_get _ _ i oM, List.getElem?_append_left (by rw [leb_length]; exact h), leb_get _ _ i h]
  · subst h
    rw [leb_get _ _ i oM, List.getElem?_append_right (by rw [leb_length]; omega), leb_length, Nat.sub_self]; rfl
  · rw [List.getElem?_eq_none (by rw [leb_length]; omega), List.getElem?_eq_none (by simp [leb_length]; omega)]
theorem byteOf_nat (n : Nat) : byteOf (n : Int) = UInt8.ofNat n := by
  apply ofNat8
  omega
theorem set_end {α : Type} (l : List α) (x y : α) (r : List α) (k : Nat) (h : l.length = k) : (l ++ x :: r).set k y = l ++ [y] ++ r := by
  subst h; simp
theorem wordOf_id (n : Int) (h : 0 ≤ n ∧ n < 18446744073709551616) : ((wordOf n).toNat : Int) = n := by
  rw [wordOf, UInt64.toNat_ofNat']; omega
theorem zero_set (n : UInt64) (k : Nat) (hk : k < 8) : (padW 32 n.toNat k).set k (shr64 n (8 * k)).toUInt8 = padW 32 n.toNat (k + 1) := by
  have e : List.replicate (32 - k) (0 : UInt8) = 0 :: List.replicate (32 - (k + 1)) 0 := by
    rw [show 32 - k = (32 - (k + 1)) + 1 by omega]; rfl
  rw [padW, e, set_end _ _ _ _ _ (leb_length k _), padW, leb_succ']
  congr 3
  apply UInt8.toNat_inj.1
  rw [UInt64.toNat_toUInt8, shr64_toNat, UInt8.toNat_ofNat', pow256]
theorem pad_small (n : UInt64) : padW 32 n.toNat 8 = leb 32 n.toNat := by
  have h := n.toNat_lt
  apply List.ext_getElem?
  intro i
  rw [padW]
  rcases Nat.lt_or_ge i 8 with hi | hi
  · rw [List.getElem?_append_left (by rw [leb_length]; exact hi), leb_get _ _ _ hi, leb_get _ _ _ oM]
  · rw [List.getElem?_append_right (by rw [leb_length]; exact hi), leb_length]
    rcases Nat.lt_or_ge i 32 with h2 | h2
    · rw [leb_get _ _ _ h2, List.getElem?_replicate, if_pos oM, Nat.div_eq_of_lt]; rfl
      refine Nat.lt_of_lt_of_le h ?_
      rw [pow256]; exact Nat.pow_le_pow_right dE oM
    · rw [List.getElem?_replicate, if_neg oM, List.getElem?_eq_none (by rw [leb_length]; exact h2)]
theorem leb_zero32 : leb 32 0 = List.replicate 32 0 := by decide
theorem mod_bit (n k : Nat) : n % 2 ^ (k + 1) = n % 2 ^ k + (if n.testBit k then 2 ^ k else 0) := by
  rw [Nat.pow_succ, Nat.mod_mul, Nat.testBit_eq_decide_div_mod_eq]
  by_cases h : n / 2 ^ k % 2 = 1
  · rw [if_pos (decide_eq_true h), h, Nat.mul_one]
  · rw [if_neg (by simpa using h), show n / 2 ^ k % 2 = 0 by omega, Nat.mul_zero]
end Hw
end

section
namespace Ed
open Hw Go
set_option linter.unusedVariables false

def BB : Nat := 115792089237316195423570985008687907853269984665640564039457584007913129639936
def pk (x y z t : Nat) : Nat := (x + BB * (y + BB * (z + BB * t))) + 1
def ux (s : Nat) : Nat := (s - 1) % BB
def uy (s : Nat) : Nat := (s - 1) / BB % BB
def uz (s : Nat) : Nat := (s - 1) / BB / BB % BB
def ut (s : Nat) : Nat := (s - 1) / BB / BB / BB
def wdN (s : Nat) : Wd Fp := ⟨fe (ux s), fe (uy s), fe (uz s), fe (ut s)⟩
def subN (a b : Nat) : Nat := (a + (PF - b % PF)) % PF
def finN (e f g h : Nat) : Nat := pk (e * f % PF) (g * h % PF) (f * g % PF) (e * h % PF)
def dblN (s : Nat) : Nat :=
  finN (subN (ux s * ux s + uy s * uy s) ((ux s + uy s) * (ux s + uy s))) ((uz s * uz s + uz s * uz s + subN (ux s * ux s) (uy s * uy s)) % PF) (subN (ux s * ux s) (uy s * uy s)) ((ux s * ux s + uy s * uy s) % PF)
def twoDN : Nat := 2 * fD.val
def addN (s p : Nat) : Nat :=
  finN (subN ((uy s + ux s) * (uy p + ux p)) (subN (uy s) (ux s) * subN (uy p) (ux p))) (subN (uz s * uz p + uz s * uz p) (ut s * twoDN % PF * ut p)) ((uz s * uz p + uz s * uz p + ut s * twoDN % PF * ut p) % PF) (((uy s + ux s) * (uy p + ux p) + subN (uy s) (ux s) * subN (uy p) (ux p)) % PF)
theorem fe_neg (n : Nat) : fe (PF - n % PF) = - fe n := by
  have h : fe (PF - n % PF) + fe n = 0 := by
    rw [← fe_add]
    refine Fin.ext ?_
    rw [fe_val]
    show _ = 0
    have h1 : n % PF < PF := Nat.mod_lt _ dE
    have e : (PF - n % PF + n) = PF * (n / PF + 1) := by
      have := Nat.mod_add_div n PF
      rw [Nat.mul_add, Nat.mul_one]
      generalize PF * (n / PF) = q at *
      omega
    rw [e, Nat.mul_mod_right]
  grind
theorem fe_subN (a b : Nat) : fe (subN a b) = fe a - fe b := by
  rw [subN, fe_mod, fe_add, fe_neg]; grind
theorem pk_lt (e : Nat) : e % PF < BB := Nat.lt_trans (Nat.mod_lt _ dE) dE
theorem wd_pk (x y z t : Nat) (hx : x < BB) (hy : y < BB) (hz : z < BB) : wdN (pk x y z t) = ⟨fe x, fe y, fe z, fe t⟩ := by
  have e1 : ux (pk x y z t) = x := by
    rw [ux, pk, Nat.add_sub_cancel, Nat.add_mul_mod_self_left, Nat.mod_eq_of_lt hx]
  have d1 : (pk x y z t - 1) / BB = y + BB * (z + BB * t) := by
    rw [pk, Nat.add_sub_cancel, Nat.add_mul_div_left _ _ dE, Nat.div_eq_of_lt hx, Nat.zero_add]
  have d2 : (pk x y z t - 1) / BB / BB = z + BB * t := by
    rw [d1, Nat.add_mul_div_left _ _ dE, Nat.div_eq_of_lt hy, Nat.zero_add]
  have e2 : uy (pk x y z t) = y := by rw [uy, d1, Nat.add_mul_mod_self_left, Nat.mod_eq_of_lt hy]
  have e3 : uz (pk x y z t) = z := by rw [uz, d2, Nat.add_mul_mod_self_left, Nat.mod_eq_of_lt hz]
  have e4 : ut (pk x y z t) = t := by rw [ut, d2, Nat.add_mul_div_left _ _ dE, Nat.div_eq_of_lt hz, Nat.zero_add]
  rw [wdN, e1, e2, e3, e4]
theorem wd_fin (e f g h : Nat) : wdN (finN e f g h) = Wd.fin (fe e) (fe f) (fe g) (fe h) := by
  rw [finN, wd_pk _ _ _ _ (pk_lt _) (pk_lt _) (pk_lt _)]
  simp only [Wd.fin, fe_mod, fe_mul]
theorem wd_dbl (s : Nat) : wdN (dblN s) = Wd.dbl (wdN s) := by
  rw [dblN, wd_fin]
  simp only [Wd.dbl, wdN, fe_subN, fe_mod, fe_add, fe_mul]
theorem fe_twoD : fe twoDN = fD + fD := by
  rw [twoDN, Nat.two_mul, fe_add, fe_of]
theorem wd_add (s p : Nat) : wdN (addN s p) = Wd.add fD (wdN s) (wdN p) := by
  rw [addN, wd_fin]
  simp only [Wd.add, wdN, fe_subN, fe_mod, fe_add, fe_mul, fe_twoD]
def force (s : Nat) (f : Nat → Nat) : Nat := Nat.casesOn (motive := fun _ => Nat) s (f 0) (fun m => f (m + 1))
theorem force_eq (s : Nat) (f : Nat → Nat) : force s f = f s := by cases s <;> rfl
def stepN (p : Nat) (s : Nat) (b : Bool) : Nat := force s fun s => bif b then addN (dblN s) p else dblN s
def loopN (p : Nat) (bs : List Bool) (s : Nat) : Nat := bs.foldl (stepN p) s
theorem stepN_t (p s : Nat) : stepN p s true = addN (dblN s) p := by rw [stepN, force_eq]; rfl
theorem stepN_f (p s : Nat) : stepN p s false = dblN s := by rw [stepN, force_eq]; rfl
theorem loopN_eq (p : Nat) (bs : List Bool) : ∀ s : Nat, wdN (loopN p bs s) = mulW fD (wdN p) bs (wdN s) := by
  induction bs with
  | nil => intro s; rfl
  | cons b bs ih =>
    intro s
    rw [loopN, List.foldl_cons, ← loopN, ih]
    cases b
    · rw [stepN_f, wd_dbl, mulW_f]
    · rw [stepN_t, wd_add, wd_dbl, mulW_t]
/-- the base point, packed -/
def bN : Nat := pk bP.x.val bP.y.val 1 (bP.x * bP.y).val
theorem bN_wd : wdN bN = Wd.of bP := by
  rw [bN, wd_pk _ _ _ _ (Nat.lt_trans bP.x.isLt dE) (Nat.lt_trans bP.y.isLt dE) dE, fe_of, fe_of, fe_of]
  rfl
def zN : Nat := pk 0 1 1 0
theorem zN_wd : wdN zN = Wd.of zero := by
  rw [zN, wd_pk _ _ _ _ dE dE dE]
  have e : (Wd.of zero : Wd Fp) = ⟨0, 1, 1, 0 * 1⟩ := rfl
  rw [e]
  have h : (0 : Fp) * 1 = 0 := by kernel_rfl
  rw [h]; rfl
/-- n times the base point, packed -/
def fastN (n : Nat) : Nat := loopN bN (toBits 256 n) zN
theorem fastN_rep {n : Nat} (hn : n < 2 ^ 256) : (wdN (fastN n)).rep (cv.mul n bP) := by
  have h0 : (wdN zN).rep (cv.mul 0 bP) := by rw [zN_wd]; exact cv.rep_of zero
  have h := cv.mulW_rep bP_on (cv.rep_of bP) (toBits 256 n) (wdN zN) 0 h0
  rw [toBits_v, Nat.zero_mul, Nat.zero_add, Nat.mod_eq_of_lt hn] at h
  have e : wdN (fastN n) = mulW cv.d (Wd.of bP) (toBits 256 n) (wdN zN) := by
    rw [fastN, loopN_eq, bN_wd]; rfl
  rw [e]; exact h
theorem order_x : ux (fastN L) % PF = 0 := by kernel_rfl
theorem order_y : uy (fastN L) = uz (fastN L) := by kernel_rfl
theorem bP_order : cv.mul L bP = zero := by
  have h := fastN_rep (n := L) dE
  have h1 : fe (ux (fastN L)) = (cv.mul L bP).x * fe (uz (fastN L)) := h.x
  have h2 : fe (uy (fastN L)) = (cv.mul L bP).y * fe (uz (fastN L)) := h.y
  have h3 : fe (uz (fastN L)) ≠ 0 := h.z
  have hx : fe (ux (fastN L)) = 0 := Fin.ext order_x
  rw [hx] at h1
  rw [order_y] at h2
  generalize fe (uz (fastN L)) = z at *
  generalize cv.mul L bP = Q at *
  obtain ⟨x, y⟩ := Q
  simp only at h1 h2
  have e1 : x = 0 := by
    rcases cv.zero_or h1.symm with e | e
    · exact e
    · exact absurd e h3
  have e2 : y = 1 := by
    refine cv.cancel h3 ?_
    have e3 : z * y = y * z := by grind
    have e4 : z * 1 = z := by grind
    rw [e3, e4]; exact h2.symm
  rw [e1, e2]; rfl
theorem fp_cases {a : Fp} (h : a * a = 1) : a = 1 ∨ a = -1 := by
  have h1 : (a - 1) * (a + 1) = 0 := by grind
  rcases cv.zero_or h1 with e | e
  · exact .inl (by grind)
  · exact .inr (by grind)
theorem sq_cases {a b : Fp} (h : a * a = b * b) : a = b ∨ a = -b := by
  have h1 : (a - b) * (a + b) = 0 := by grind
  rcases cv.zero_or h1 with e | e
  · exact .inl (by grind)
  · exact .inr (by grind)
def unit2 : Fp := fpow (fe 2) ((PF - 1) / 4)
theorem unit2_sq : unit2 * unit2 = -1 := by kernel_rfl
theorem fpow_one' (a : Fp) : fpow a 1 = a := by
  rw [show (1 : Nat) = 0 + 1 from rfl, fpow_succ dE, fpow_zero]; grind
theorem fpow_sq2 (x : Fp) : x * x = fpow x 2 := by
  rw [show (2 : Nat) = 2 * 1 from rfl, fpow_two dE, fpow_one']
theorem root_pow (x : Fp) : fpow (x * x) ((PF + 3) / 8) * fpow (x * x) ((PF + 3) / 8) = x * x * fpow x ((PF - 1) / 2) := by
  rw [← fpow_two dE, fpow_sq2, fpow_mul dE dE dE, ← fpow_add dE]
  rfl
theorem half_cases {x : Fp} (h : x ≠ 0) : fpow x ((PF - 1) / 2) = 1 ∨ fpow x ((PF - 1) / 2) = -1 := by
  refine fp_cases ?_
  rw [← fpow_two dE]
  exact ferm h
theorem fRoot1_sq (x : Fp) : fRoot1 (x * x) * fRoot1 (x * x) = x * x := by
  have h0 := root_pow x
  have hu := unit2_sq
  unfold fRoot1
  change (if fpow (x * x) ((PF + 3) / 8) * fpow (x * x) ((PF + 3) / 8) = x * x then fpow (x * x) ((PF + 3) / 8) else fpow (x * x) ((PF + 3) / 8) * unit2) * (if fpow (x * x) ((PF + 3) / 8) * fpow (x * x) ((PF + 3) / 8) = x * x then fpow (x * x) ((PF + 3) / 8) else fpow (x * x) ((PF + 3) / 8) * unit2) = x * x
  have hc : fpow (x * x) ((PF + 3) / 8) * fpow (x * x) ((PF + 3) / 8) = x * x ∨ fpow (x * x) ((PF + 3) / 8) * fpow (x * x) ((PF + 3) / 8) = -(x * x) := by
    by_cases hx : x = 0
    · left
      rw [h0, hx]; grind
    · rcases half_cases hx with e | e
      · left; rw [h0, e]; grind
      · right; rw [h0, e]; grind
  revert hc
  generalize fpow (x * x) ((PF + 3) / 8) = r
  generalize unit2 = u at *
  intro hc
  clear h0
  by_cases h1 : r * r = x * x
  · rw [if_pos h1]; exact h1
  · rw [if_neg h1]
    rcases hc with e | e
    · exact absurd e h1
    · have : r * u * (r * u) = r * r * (u * u) := by grind
      rw [this, e, hu]; grind
theorem val_neg {x : Fp} (h : x ≠ 0) : (-x).val + x.val = PF := by
  have h1 : fe ((-x).val + x.val) = 0 := by
    rw [fe_add, fe_of, fe_of]; grind
  have h2 : ((-x).val + x.val) % PF = 0 := congrArg Fin.val h1
  have h3 := (-x).isLt
  have h4 := x.isLt
  have h5 : x.val ≠ 0 := fun e => h (Fin.ext e)
  have h6 : PF ∣ (-x).val + x.val := Nat.dvd_of_mod_eq_zero h2
  obtain ⟨k, hk⟩ := h6
  generalize (-x).val = a at *
  generalize x.val = b at *
  clear h h1 h2
  have hP : 0 < PF := by decide
  generalize PF = q at *
  have h7 : k = 1 := by
    rcases Nat.lt_or_ge k 1 with h | h
    · obtain rfl : k = 0 := by omega
      rw [Nat.mul_zero] at hk; omega
    · rcases Nat.lt_or_ge 1 k with h9 | h9
      · have : q * 2 ≤ q * k := Nat.mul_le_mul_left _ h9
        omega
      · omega
  rw [h7, Nat.mul_one] at hk
  exact hk
theorem neg_neg' (x : Fp) : - -x = x := by grind
/-- the even one of x and -x -/
theorem fRoot_eq (x : Fp) : fRoot (x * x) = ((if x.val % 2 = 1 then -x else x), true) := by
  have h1 := fRoot1_sq x
  have h2 := sq_cases h1
  unfold fRoot
  generalize fRoot1 (x * x) = r at *
  rw [if_pos h1]
  congr 1
  by_cases hx : x = 0
  · have : r = 0 := by rcases h2 with e | e <;> rw [e, hx] <;> grind
    rw [this, hx]
  · have hv := val_neg hx
    have hodd : PF % 2 = 1 := by decide
    rcases h2 with e | e
    · rw [e]
    · rw [e]
      have hn : -x ≠ 0 := fun e2 => hx (by grind)
      by_cases h3 : x.val % 2 = 1
      · rw [if_pos h3, if_neg oM]
      · rw [if_neg h3, if_pos oM, neg_neg']
theorem on_xsq {x y : Fp} (h : cv.on ⟨x, y⟩) : (y * y - 1) * finv (fD * (y * y) + 1) = x * x := by
  have h1 := finv_mul (cv.below_ne y)
  have h2 := (cv.on_iff ⟨x, y⟩).1 h
  have h3 : y * y - x * x = 1 + fD * (x * x * (y * y)) := h2
  have h4 : (cv.d * (y * y) + 1) * finv (cv.d * (y * y) + 1) = 1 := h1
  change (fD * (y * y) + 1) * finv (fD * (y * y) + 1) = 1 at h4
  generalize finv (fD * (y * y) + 1) = u at *
  generalize fD = d at *
  have h5 : y * y - 1 = x * x * (d * (y * y) + 1) := by grind
  rw [h5]
  have : x * x * (d * (y * y) + 1) * u = x * x * ((d * (y * y) + 1) * u) := by grind
  rw [this, h4]; grind
theorem xOf_eq {x y : Fp} (h : cv.on ⟨x, y⟩) : xOf y = ((if x.val % 2 = 1 then -x else x), true) := by
  rw [xOf, on_xsq h, fRoot_eq]
theorem fb_top (x : Fp) : ((fb x).getD 31 0).toNat < 128 := by
  have h : (fb x).getD 31 0 = UInt8.ofNat (x.val / 256 ^ 31) := leb_getD 32 x.val 31 dE
  have h1 := x.isLt
  have h2 : x.val / 256 ^ 31 < 128 := by
    rw [Nat.div_lt_iff_lt_mul dE]
    exact Nat.lt_of_lt_of_le h1 dE
  rw [h, UInt8.toNat_ofNat']
  omega
theorem byte_clear : ∀ b : UInt8, b.toNat < 128 → (b &&& 127) = b ∧ ((b ||| 128) &&& 127) = b ∧ (b &&& 128) = 0 ∧ ((b ||| 128) &&& 128) = 128 := by
  intro b hb
  have h : ∀ n, n < 128 → ((UInt8.ofNat n) &&& 127) = UInt8.ofNat n ∧ ((UInt8.ofNat n ||| 128) &&& 127) = UInt8.ofNat n ∧ (UInt8.ofNat n &&& 128) = 0 ∧ ((UInt8.ofNat n ||| 128) &&& 128) = 128 := by decide
  have h2 := h b.toNat hb
  rwa [UInt8.ofNat_toNat] at h2
theorem set_same (l : List UInt8) (i : Nat) (hi : i < l.length) : l.set i (l.getD i 0) = l := by
  apply List.ext_getElem sP
  intro j h1 h2
  rw [List.getElem_set]
  split
  · rename_i e
    subst e
    rw [List.getD_eq_getElem?_getD, List.getElem?_eq_getElem hi]; rfl
  · rfl
theorem getD_set (l : List UInt8) (i : Nat) (v : UInt8) (hi : i < l.length) : (l.set i v).getD i 0 = v := by
  rw [List.getD_eq_getElem?_getD, List.getElem?_set_self hi, Option.getD_some]
theorem lowB_pb (P : Pt Fp) : lowB (pb P) = fb P.y := by
  have h := byte_clear _ (fb_top P.y)
  have hl := fb_length P.y
  unfold lowB pb
  split
  · rw [getD_set _ _ _ oM, h.2.1, List.set_set, set_same _ _ oM]
  · rw [h.1, set_same _ _ oM]
theorem topB_pb (P : Pt Fp) : topB (pb P) = decide (P.x.val % 2 = 1) := by
  have h := byte_clear _ (fb_top P.y)
  have hl := fb_length P.y
  unfold topB pb
  split
  · rename_i e
    rw [getD_set _ _ _ oM, h.2.2.2, decide_eq_true e]; rfl
  · rename_i e
    rw [h.2.2.1, decide_eq_false e]; rfl
theorem rdP_pb {P : Pt Fp} (h : cv.on P) : rdP (pb P) = some P := by
  obtain ⟨x, y⟩ := P
  have hx := xOf_eq h
  unfold rdP
  rw [lowB_pb, topB_pb, fe_fb, if_pos rfl, hx]
  simp only
  by_cases h1 : x.val % 2 = 1
  · have hx0 : x ≠ 0 := fun e => by rw [e] at h1; revert h1; decide
    have hn : -x ≠ 0 := fun e2 => hx0 (by grind)
    rw [if_pos h1, if_pos ⟨trivial, fun e => hn e.2⟩, if_pos (decide_eq_true h1), neg_neg']
  · rw [if_neg h1, if_pos ⟨trivial, fun e => h1 (of_decide_eq_true e.1)⟩, if_neg (fun e => h1 (of_decide_eq_true e))]
end Ed
end

section
namespace Go.Proofs.YtpacobmjjjillaaGreat
open Go Hw Ed
set_option linter.unusedVariables false
set_option maxRecDepth 100000
theorem sgK_read (s : List UInt8) : rdP (sgK s) = some (cv.mul (le (clampB (s.take 32))) bP) := rdP_pb (cv.on_mul bP_on _)
theorem sgF_read (s : List UInt8) : rdP (sgF s) = some (cv.mul (le (sgR s)) bP) := rdP_pb (cv.on_mul bP_on _)
theorem sgS_lt (s s1 s2 : List UInt8) : le (sgS s s1 s2) < L := by
  have h := Nat.mod_lt (le (sgR s2) * le (clampB (s.take 32)) + le (sgR s1)) L_pos
  rw [sgS, le_leb32 (Nat.lt_trans h L_lt)]; exact h
theorem sgS_eq (s s1 s2 : List UInt8) : le (sgS s s1 s2) = (le (sgR s2) * le (clampB (s.take 32)) + le (sgR s1)) % L := by
  have h := Nat.mod_lt (le (sgR s2) * le (clampB (s.take 32)) + le (sgR s1)) L_pos
  rw [sgS, le_leb32 (Nat.lt_trans h L_lt)]
theorem lin_self (k n r : Nat) : cv.lin ((k * n + r) % L) k bP (neg (cv.mul n bP)) = cv.mul r bP := by
  have hn := cv.on_mul bP_on n
  have hk := cv.on_mul hn k
  have hr := cv.on_mul bP_on r
  rw [Cv.lin, cv.mul_order bP_on bP_order, Nat.add_comm, cv.mul_add bP_on, cv.mul_mul bP_on, cv.mul_neg hn, cv.add_assoc hr hk (cv.on_neg hk), cv.add_neg hk, cv.add_zero]
theorem sg_take (s s1 s2 : List UInt8) : (sgF s1 ++ sgS s s1 s2).take 32 = sgF s1 := by
  rw [List.take_left' (sgF_length s1)]
theorem sg_drop (s s1 s2 : List UInt8) : (sgF s1 ++ sgS s s1 s2).drop 32 = sgS s s1 s2 := by
  rw [List.drop_left' (sgF_length s1)]
theorem good_self (s s1 bb : List UInt8) {s2 : List UInt8} (h : sha512 (sgF s1 ++ (sgK s ++ bb)) = s2) : goodB (sgK s) bb (sgF s1 ++ sgS s s1 s2) = true := by
  unfold goodB
  simp only [decide_eq_true_eq]
  rw [sg_take, sg_drop, h]
  refine ⟨sgS_lt s s1 s2, _, _, sgK_read s, sgF_read s1, ?_⟩
  rw [sgS_eq]
  exact lin_self _ _ _
end Go.Proofs.YtpacobmjjjillaaGreat
end

section
namespace Go.Proofs.YtpacobmjjjillaaGreat
open Go Hw
set_option linter.unusedVariables false
set_option linter.unusedSimpArgs false

open Ed

def vtag : List UInt8 := [118, 111, 116, 101]
/-- what is signed of a vote -/
def vtxt (V : Vote) : List UInt8 := vtag ++ voteT V
theorem vtxt_length {V : Vote} (h : V.ok) : (vtxt V).length = 4 + voteN V := by rw [vtxt, List.length_append, voteT_length h]; rfl
theorem own_bytes {W : World} {q n c : Nat} {l : List UInt8} (hs : SeesP W (some ⟨q, 0, none⟩) (bytesV l)) (hl : l.length = n) (hc : n ≤ c) (hm : n ≤ maxLen) : BytesAt W ⟨some ⟨q, 0, none⟩, n, c⟩ l := ⟨hl, hc, hs, hm, fun e => by cases e⟩
theorem own_vtxt {W : World} {q c : Nat} {V : Vote} (hV : V.ok) (hs : SeesP W (some ⟨q, 0, none⟩) (bytesV (vtxt V))) (hc : (vtxt V).length ≤ c) : BytesAt W ⟨some ⟨q, 0, none⟩, (vtxt V).length, c⟩ (vtxt V) :=
  own_bytes hs rfl hc (by have h1 := vtxt_length hV; have h2 := voteN_le V; unfold maxLen; omega)
/-- a vote that is signed -/
def vsg (V : Vote) (K G : List UInt8) : Vote := { V with fVoter := K, fSig := G }
theorem vsg_ok {V : Vote} (h : V.ok) {K G : List UInt8} (hK : K.length = 32) (hG : G.length = 64) : (vsg V K G).ok := ⟨h.l_fValue, hK, hG⟩
theorem vcheck_vsg (V : Vote) (K G : List UInt8) : vcheck (vsg V K G) = vcheck V := rfl
theorem acc_made {q c : Nat} {l : List UInt8} {n : Nat} {E : TypeId} (hl : l.length = n) (hc : n ≤ c) : Hw.Acc ⟨some ⟨q, 0, none⟩, n, c⟩ [⟨q, bytesV l, E, c * 1⟩] (bytesV l) E n 1 := Acc.some hc (by rw [bytesV, List.length_map, hl, Nat.mul_one])

set_option maxRecDepth 100000 in
set_option maxHeartbeats 4000000 in
theorem vote_text (V : Vote) (hV : V.ok) : Meets Tryz.prog 20 [agg V.cells] [] (fun _ => True) (fun v out => FreshRow v out (bytesV (vtxt V)) 5 (vtxt V).length 1) := by
 intro W hW
 have hvl := vtxt_length hV
 have hvn := voteN_le V
 refine calls_of (hp0 := []) Tryz.func20 rfl 7 Tryz.ntmps20 rfl (HRep.nil _) ?_
 refine Sat.seq (Sat.region ?_)
 refine Tr.boxA rfl rfl ?_
 intro n1 hn1 hf1
 refine Tr.assign rfl rfl rfl ?_
 refine Tr.nil (at_n (Sat.seq (Sat.region ?_)))
 refine Tr.mkRow (z := u8 0) [u8 118, u8 111, u8 116, u8 101] (bytesV vtag) rfl rfl rfl Tryz.underlying72 Sz5 Zr5 rfl rfl (by intro v hv; simp only [List.mem_cons, List.not_mem_nil, or_false] at hv; rcases hv with rfl | rfl | rfl | rfl <;> rfl) dE rfl ?_
 intro q3
 refine Tr.constB rfl rfl rfl rfl Tryz.underlying72 Tryz.underlying5 (by exact mem0) ?_
 refine Tr.loadAll rfl rfl rfl Tryz.underlying29 rfl Sz29 (by exact mem1) (Vote.length (by assumption)) ?_
 refine Tr.callL (L := [⟨q3, bytesV vtag, 5, 4 * 1⟩]) rfl rfl rfl rfl rfl Body62 (text_vote ⟨some ⟨q3, 0, none⟩, 4, 4⟩ [⟨q3, bytesV vtag, 5, 4 * 1⟩] vtag 4 (acc_made rfl (Nat.le_refl 4)) dE V hV) (pm_consE (by repeat (exact rem_here)) rfl rfl pm_nil) (lent_ok rfl) (fun w h => fun b hb => (by rw [List.mem_singleton.1 hb]; exact own_blk h (by exact mem0))) ?_
 rintro v6 out6 ⟨s6, rfl, hac6⟩
 refine Tr.assign rfl rfl rfl ?_
 refine Tr.nil (at_n (Sat.ret (en_r ?_)))
 refine end_perm (out := (out6 ++ [])) (res_tmp rfl rfl) (pm_seg (by repeat (exact sg_here)) pm_nil) ?_
 obtain ⟨q9, c9, rfl, hc9, rfl⟩ := acc_pos hac6 oM
 rw [List.append_nil]
 exact ⟨q9, c9, by rw [hvl]; rfl, by rw [hvl]; exact hc9, rfl⟩

set_option maxRecDepth 100000 in
set_option maxHeartbeats 4000000 in
theorem vote_sign_bad (seed : List UInt8) (h32 : seed.length = 32) (V : Vote) (hV : V.ok) (hc : ¬ vcheck V = 0) : Meets Tryz.prog 11 [agg (bytesV seed), agg V.cells] [] (fun _ => True) (fun v out => v = .tuple #[agg Vote.zero.cells, i64 (vcheck V)] ∧ out = []) := by
 intro W hW
 refine calls_of (hp0 := []) Tryz.func11 rfl 22 Tryz.ntmps11 rfl (HRep.nil _) ?_
 refine Sat.seq (Sat.region ?_)
 refine Tr.boxA rfl rfl ?_
 intro n2 hn2 hf2
 refine Tr.boxA rfl rfl ?_
 intro n3 hn3 hf3
 refine Tr.alloc (cs := Vote.zero.cells) rfl Vote.zr rfl ?_
 intro n4 hn4 hf4
 refine Tr.assign rfl rfl rfl ?_
 refine Tr.nil (at_n (Sat.seq (Sat.seq (Sat.region ?_))))
 refine Tr.loadAll rfl rfl rfl Tryz.underlying29 rfl Sz29 (by exact mem1) (Vote.length (by assumption)) ?_
 refine Tr.callV rfl rfl rfl rfl Body13 (vote_check V hV) (fun _ _ => trivial) ?_
 refine Tr.assign rfl rfl rfl ?_
 refine Tr.nil (at_n (Sat.seq (Sat.region ?_)))
 refine Tr.move rfl rfl rfl ?_
 refine Tr.nei rfl rfl rfl rfl rfl ?_
 refine Tr.nil (at_n ?_)
 refine Sat.cond_t rfl (by simpa using hc) ?_
 refine Sat.seq (Sat.region ?_)
 refine Tr.build (cs := Vote.zero.cells) rfl rfl rfl (fun w => by kernel_rfl) ?_
 refine Tr.move rfl rfl rfl ?_
 refine Tr.storeAll rfl rfl rfl rfl (Vote.isCell (by exact Vote.zero_ok)) Sz29 (Vote.length (by exact Vote.zero_ok)) (by exact mem0) (Vote.length (by exact Vote.zero_ok)) (by exact upd0) ?_
 refine Tr.assign rfl rfl rfl ?_
 refine Tr.nil (at_n (Sat.ret (at_r (en_r ?_))))
 refine ⟨_, [], res_cell_tmp rfl rfl rfl Tryz.underlying29 rfl Sz29 (by exact mem0) (by exact Vote.length (by exact Vote.zero_ok)), sP, sP, ?_, rfl⟩
 rfl

set_option maxRecDepth 100000 in
set_option maxHeartbeats 8000000 in
theorem vote_sign (seed : List UInt8) (h32 : seed.length = 32) (V : Vote) (hV : V.ok) (s s1 s2 : List UInt8) (hs : Hid (sha512 seed = s)) (hs1 : Hid (sha512 (s.drop 32 ++ vtxt (vsg V (sgK s) V.fSig)) = s1)) (hs2 : Hid (sha512 (sgF s1 ++ (sgK s ++ vtxt (vsg V (sgK s) V.fSig))) = s2)) (hc : vcheck V = 0) : Meets Tryz.prog 11 [agg (bytesV seed), agg V.cells] [] (fun _ => True) (fun v out => v = .tuple #[agg (vsg V (sgK s) (sgF s1 ++ sgS s s1 s2)).cells, i64 0] ∧ out = []) := by
 intro W hW
 have lK := sgK_length s
 have lG : (sgF s1 ++ sgS s s1 s2).length = 64 := by rw [List.length_append, sgF_length, sgS_length]
 have hX : (vsg V (sgK s) V.fSig).ok := vsg_ok hV lK hV.l_fSig
 have hG : (vsg V (sgK s) (sgF s1 ++ sgS s s1 s2)).ok := vsg_ok hV lK lG
 have hvl := vtxt_length hX
 have hvn := voteN_le (vsg V (sgK s) V.fSig)
 have cK : Meets Tryz.prog 58 [agg (bytesV seed)] [] (fun _ => True) (fun v out => v = agg (bytesV (sgK s)) ∧ out = []) := sign_Key seed h32 s hs
 have cS := fun (x : Sl) => sign_Sign seed h32 x (vtxt (vsg V (sgK s) V.fSig)) oM s s1 s2 hs hs1 hs2
 have cT := vote_text (vsg V (sgK s) V.fSig) hX
 have cC := vote_check V hV
 rw [hc] at cC
 clear hs1 hs2
 revert lK lG hX hG hvl hvn cK cS cT
 unfold vsg
 generalize sgF s1 ++ sgS s s1 s2 = G
 generalize sgK s = K
 intro lK lG hX hG hvl hvn cK cS cT
 refine calls_of (hp0 := []) Tryz.func11 rfl 22 Tryz.ntmps11 rfl (HRep.nil _) ?_
 refine Sat.seq (Sat.region ?_)
 refine Tr.boxA rfl rfl ?_
 intro n2 hn2 hf2
 refine Tr.boxA rfl rfl ?_
 intro n3 hn3 hf3
 refine Tr.alloc (cs := Vote.zero.cells) rfl Vote.zr rfl ?_
 intro n4 hn4 hf4
 refine Tr.assign rfl rfl rfl ?_
 refine Tr.nil (at_n (Sat.seq (Sat.seq (Sat.region ?_))))
 refine Tr.loadAll rfl rfl rfl Tryz.underlying29 rfl Sz29 (by exact mem1) (Vote.length (by assumption)) ?_
 refine Tr.callV rfl rfl rfl rfl Body13 (cC) (fun _ _ => trivial) ?_
 refine Tr.assign rfl rfl rfl ?_
 refine Tr.nil (at_n (Sat.seq (Sat.region ?_)))
 refine Tr.move rfl rfl rfl ?_
 refine Tr.nei rfl rfl rfl rfl rfl ?_
 refine Tr.nil (at_n ?_)
 refine Sat.cond_f rfl (rfl) ?_
 refine Sat.skip (at_n (Sat.seq (Sat.region ?_)))
 refine Tr.loadAll rfl rfl rfl Tryz.underlying23 rfl Sz23 (by exact mem2) (by (simp [h32]; done)) ?_
 refine Tr.callV rfl rfl rfl rfl Body58 (cK) (fun _ _ => trivial) ?_
 refine Tr.fld rfl rfl rfl Tryz.underlying29 rfl Sz25 dE _ rfl ?_
 refine Tr.storeN (bytesV _) rfl rfl rfl rfl rfl (by exact bytesV_cell _) Sz25 (by simp [lK]) (by exact mem1) (by rw [Vote.length (by assumption)]; simp [lK]) (Vote.upd_fVoter (by assumption) _ (by simp [lK])) (by exact upd1) ?_
 refine Tr.nil (at_n (Sat.seq ?_))
 refine Sat.draw [(1, 0), (1, 1), (3, 2), (3, 3), (0, 4), (4, 5)] Mixed (by kernel_rfl) ?_
 refine Tr.loadAll rfl rfl rfl Tryz.underlying23 rfl Sz23 (by exact mem2) (by (simp [h32]; done)) ?_
 refine Tr.loadAll rfl rfl rfl Tryz.underlying29 rfl Sz29 (by exact mem1) (Vote.length (by assumption)) ?_
 refine Tr.call rfl rfl rfl rfl Body20 (cT) (FreshRow.loose _ _ _ _) (fun _ _ => trivial) ?_
 rintro v18 out18 ⟨q18, c18, rfl, hc18, rfl⟩
 refine Tr.callV rfl rfl rfl rfl Body59 (cS ⟨some ⟨q18, 0, none⟩, _, c18⟩) (fun w h => own_vtxt hX (SeesP.of (sees_own h (by exact mem0))) hc18) ?_
 refine Tr.fld rfl rfl rfl Tryz.underlying29 rfl Sz27 dE _ rfl ?_
 refine Tr.storeN (bytesV _) rfl rfl rfl rfl rfl (by exact bytesV_cell _) Sz27 (by simp [lG]) (by exact mem2) (by rw [Vote.length (by assumption)]; simp [lG]) (Vote.upd_fSig (by assumption) _ (by simp [lG])) (by exact upd2) ?_
 refine Tr.nil (at_n (Sat.seq (Sat.region ?_)))
 refine Tr.loadAll rfl rfl rfl Tryz.underlying29 rfl Sz29 (by exact mem2) (Vote.length (by assumption)) ?_
 refine Tr.storeAll rfl rfl rfl rfl (Vote.isCell (by assumption)) Sz29 (Vote.length (by assumption)) (by exact mem1) (Vote.length (by exact Vote.zero_ok)) (by exact upd1) ?_
 refine Tr.assign rfl rfl rfl ?_
 refine Tr.nil (at_n (Sat.ret (en_r ?_)))
 refine ⟨_, [], res_cell_tmp rfl rfl rfl Tryz.underlying29 rfl Sz29 (by exact mem1) (by exact Vote.length (by assumption)), sP, sP, ?_, rfl⟩
 rfl

/-- what Good says of a vote -/
noncomputable def vgood (V : Vote) : Int := if vcheck V = 0 then (if goodB V.fVoter (vtxt V) V.fSig = true then 0 else 9) else vcheck V

set_option maxRecDepth 100000 in
set_option maxHeartbeats 8000000 in
theorem vote_good (V : Vote) (hV : V.ok) : Meets Tryz.prog 14 [agg V.cells] [] (fun _ => True) (fun v out => v = i64 (vgood V) ∧ out = []) := by
 intro W hW
 have hvl := vtxt_length hV
 have hvn := voteN_le V
 refine calls_of (hp0 := []) Tryz.func14 rfl 17 Tryz.ntmps14 rfl (HRep.nil _) ?_
 refine Sat.seq (Sat.region ?_)
 refine Tr.boxA rfl rfl ?_
 intro n1 hn1 hf1
 refine Tr.assign rfl rfl rfl ?_
 refine Tr.nil (at_n (Sat.seq (Sat.seq (Sat.region ?_))))
 refine Tr.loadAll rfl rfl rfl Tryz.underlying29 rfl Sz29 (by exact mem0) (Vote.length (by assumption)) ?_
 refine Tr.callV rfl rfl rfl rfl Body13 (vote_check V hV) (fun _ _ => trivial) ?_
 refine Tr.assign rfl rfl rfl ?_
 refine Tr.nil (at_n (Sat.seq (Sat.region ?_)))
 refine Tr.move rfl rfl rfl ?_
 refine Tr.nei rfl rfl rfl rfl rfl ?_
 refine Tr.nil (at_n ?_)
 refine Sat.condNP rfl (fun hc0 => ?_) (fun hc0 => ?_)
 ·
  refine Sat.seq (Sat.region ?_)
  refine Tr.move rfl rfl rfl ?_
  refine Tr.assign rfl rfl rfl ?_
  refine Tr.nil (at_n (Sat.ret (at_r (en_r ?_))))
  refine ⟨_, [], res_tmp rfl rfl, sP, sP, ?_, rfl⟩
  (unfold vgood; rw [if_neg hc0]; done)
 ·
  refine Sat.skip (at_n (Sat.seq (Sat.seq ?_)))
  refine Sat.draw [(0, 0), (1, 1), (1, 2), (0, 4), (1, 5), (3, 3), (3, 6), (0, 7)] Mixed (by kernel_rfl) ?_
  refine Tr.fld rfl rfl rfl Tryz.underlying29 rfl Sz25 dE _ rfl ?_
  refine Tr.loadN (bytesV _) rfl rfl rfl Tryz.underlying25 rfl Sz25 (by exact mem0) (Vote.row_fVoter (by assumption)) (Vote.rl_fVoter (by assumption)) ?_
  refine Tr.loadAll rfl rfl rfl Tryz.underlying29 rfl Sz29 (by exact mem0) (Vote.length (by assumption)) ?_
  refine Tr.fld rfl rfl rfl Tryz.underlying29 rfl Sz27 dE _ rfl ?_
  refine Tr.loadN (bytesV _) rfl rfl rfl Tryz.underlying27 rfl Sz27 (by exact mem0) (Vote.row_fSig (by assumption)) (Vote.rl_fSig (by assumption)) ?_
  refine Tr.call rfl rfl rfl rfl Body20 (vote_text V hV) (FreshRow.loose _ _ _ _) (fun _ _ => trivial) ?_
  rintro v12 out12 ⟨q12, c12, rfl, hc12, rfl⟩
  refine Tr.callV rfl rfl rfl rfl Body60 (sign_Good V.fVoter hV.l_fVoter ⟨some ⟨q12, 0, none⟩, _, c12⟩ (vtxt V) oM V.fSig hV.l_fSig) (fun w h => own_vtxt hV (SeesP.of (sees_own h (by exact mem0))) hc12) ?_
  refine Tr.not rfl rfl rfl ?_
  refine Tr.nil (at_n ?_)
  refine Sat.cond rfl (fun hc1 => ?_) (fun hc1 => ?_)
  ·
   refine Sat.seq (Sat.region ?_)
   refine Tr.assign rfl rfl rfl ?_
   refine Tr.nil (at_n (Sat.ret (at_r (en_r ?_))))
   refine ⟨_, [], res_tmp rfl rfl, sP, sP, ?_, rfl⟩
   (unfold vgood; rw [if_pos oM, if_neg (by intro e; rw [e] at hc1; cases hc1)]; done)
  ·
   refine Sat.skip (at_n (Sat.seq (Sat.region ?_)))
   refine Tr.assign rfl rfl rfl ?_
   refine Tr.nil (at_n (Sat.ret (en_r ?_)))
   refine ⟨_, [], res_tmp rfl rfl, sP, sP, ?_, rfl⟩
   (unfold vgood; rw [if_pos oM, if_pos (by simpa using hc1)]; done)

end Go.Proofs.YtpacobmjjjillaaGreat
end

section
namespace Go.Proofs.YtpacobmjjjillaaGreat
open Go Hw
set_option linter.unusedVariables false
set_option linter.unusedSimpArgs false

def vcmp (a b : Vote) : Int := orI [cmpI (a.fHeight.toNat : Int) (b.fHeight.toNat : Int), cmpI (a.fRound.toNat : Int) (b.fRound.toNat : Int), cmpI a.fPhase b.fPhase, cmpB a.fVoter b.fVoter, cmpB a.fValue b.fValue, cmpI (a.fProof.toNat : Int) (b.fProof.toNat : Int)]
set_option maxRecDepth 100000 in
set_option maxHeartbeats 1000000 in
theorem vote_cmp (a b : Vote) (ha : a.ok) (hb : b.ok) : Meets Tryz.prog 32 [agg a.cells, agg b.cells] [] (fun _ => True) (fun v out => v = i64 (vcmp a b) ∧ out = []) := by
 intro W hW
 refine calls_of (hp0 := []) Tryz.func32 rfl 39 Tryz.ntmps32 rfl (HRep.nil _) ?_
 refine Sat.seq (Sat.region ?_)
 refine Tr.boxA rfl rfl ?_
 intro n2 hn2 hf2
 refine Tr.boxA rfl rfl ?_
 intro n3 hn3 hf3
 refine Tr.assign rfl rfl rfl ?_
 refine Tr.nil (at_n (Sat.seq ?_))
 refine Sat.draw [(0, 0), (1, 1), (0, 2), (1, 3), (0, 5), (1, 6), (0, 7), (1, 8), (0, 10), (1, 11), (0, 12), (1, 13), (0, 15), (0, 16), (0, 17), (0, 18), (0, 20), (0, 21), (0, 22), (0, 23), (0, 25), (1, 26), (0, 27), (1, 28), (3, 4), (3, 9), (3, 14), (3, 19), (3, 24), (3, 29), (0, 30), (2, 31), (4, 32)] Mixed (by kernel_rfl) ?_
 refine Tr.fld rfl rfl rfl Tryz.underlying29 rfl Sz22 dE _ rfl ?_
 refine Tr.load1 rfl rfl rfl Tryz.underlying22 rfl (by exact mem1) (by exact Vote.get_fHeight (by assumption)) ?_
 refine Tr.fld rfl rfl rfl Tryz.underlying29 rfl Sz22 dE _ rfl ?_
 refine Tr.load1 rfl rfl rfl Tryz.underlying22 rfl (by exact mem0) (by exact Vote.get_fHeight (by assumption)) ?_
 refine Tr.fld rfl rfl rfl Tryz.underlying29 rfl Sz22 dE _ rfl ?_
 refine Tr.load1 rfl rfl rfl Tryz.underlying22 rfl (by exact mem1) (by exact Vote.get_fRound (by assumption)) ?_
 refine Tr.fld rfl rfl rfl Tryz.underlying29 rfl Sz22 dE _ rfl ?_
 refine Tr.load1 rfl rfl rfl Tryz.underlying22 rfl (by exact mem0) (by exact Vote.get_fRound (by assumption)) ?_
 refine Tr.fld rfl rfl rfl Tryz.underlying29 rfl Sz3 dE _ rfl ?_
 refine Tr.load1 rfl rfl rfl Tryz.underlying3 rfl (by exact mem1) (by exact Vote.get_fPhase (by assumption)) ?_
 refine Tr.fld rfl rfl rfl Tryz.underlying29 rfl Sz3 dE _ rfl ?_
 refine Tr.load1 rfl rfl rfl Tryz.underlying3 rfl (by exact mem0) (by exact Vote.get_fPhase (by assumption)) ?_
 refine Tr.fld rfl rfl rfl Tryz.underlying29 rfl Sz25 dE _ rfl ?_
 refine Tr.sliceArr rfl rfl rfl Tryz.underlying25 Sz5 ?_
 refine Tr.fld rfl rfl rfl Tryz.underlying29 rfl Sz25 dE _ rfl ?_
 refine Tr.sliceArr rfl rfl rfl Tryz.underlying25 Sz5 ?_
 refine Tr.fld rfl rfl rfl Tryz.underlying29 rfl Sz24 dE _ rfl ?_
 refine Tr.sliceArr rfl rfl rfl Tryz.underlying24 Sz5 ?_
 refine Tr.fld rfl rfl rfl Tryz.underlying29 rfl Sz24 dE _ rfl ?_
 refine Tr.sliceArr rfl rfl rfl Tryz.underlying24 Sz5 ?_
 refine Tr.fld rfl rfl rfl Tryz.underlying29 rfl Sz22 dE _ rfl ?_
 refine Tr.load1 rfl rfl rfl Tryz.underlying22 rfl (by exact mem1) (by exact Vote.get_fProof (by assumption)) ?_
 refine Tr.fld rfl rfl rfl Tryz.underlying29 rfl Sz22 dE _ rfl ?_
 refine Tr.load1 rfl rfl rfl Tryz.underlying22 rfl (by exact mem0) (by exact Vote.get_fProof (by assumption)) ?_
 refine Tr.callV rfl rfl rfl rfl Body82 (cmp_uint64 _ _) (fun _ _ => trivial) ?_
 refine Tr.callV rfl rfl rfl rfl Body82 (cmp_uint64 _ _) (fun _ _ => trivial) ?_
 refine Tr.callV rfl rfl rfl rfl Body83 (cmp_int _ _) (fun _ _ => trivial) ?_
 refine Tr.callV rfl rfl rfl rfl Body84 (bytes_cmp _ _ _ _ _ _ a.fVoter b.fVoter ha.l_fVoter hb.l_fVoter) (fun W2 W2h => ⟨(SeesP.of (sees_part W2h (by exact mem1) (Vote.see_fVoter ha))), (SeesP.of (sees_part W2h (by exact mem0) (Vote.see_fVoter hb)))⟩) ?_
 refine Tr.callV rfl rfl rfl rfl Body84 (bytes_cmp _ _ _ _ _ _ a.fValue b.fValue ha.l_fValue hb.l_fValue) (fun W2 W2h => ⟨(SeesP.of (sees_part W2h (by exact mem1) (Vote.see_fValue ha))), (SeesP.of (sees_part W2h (by exact mem0) (Vote.see_fValue hb)))⟩) ?_
 refine Tr.callV rfl rfl rfl rfl Body82 (cmp_uint64 _ _) (fun _ _ => trivial) ?_
 refine Tr.build (cs := intsV [cmpI (a.fHeight.toNat : Int) (b.fHeight.toNat : Int), cmpI (a.fRound.toNat : Int) (b.fRound.toNat : Int), cmpI a.fPhase b.fPhase, cmpB a.fVoter b.fVoter, cmpB a.fValue b.fValue, cmpI (a.fProof.toNat : Int) (b.fProof.toNat : Int)]) rfl rfl rfl (fun w => by kernel_rfl) ?_
 refine Tr.alloc (cs := (intsV (List.replicate 6 0))) rfl Zr94 rfl ?_
 intro n5 hn5 hf5
 refine Tr.storeAll rfl rfl rfl rfl (by simp [isCell]) Sz94 (by (simp; done)) (by exact mem0) (by (simp; done)) (by exact upd0) ?_
 refine Tr.nil (at_n (Sat.seq (Sat.region ?_)))
 refine Tr.sliceArr rfl rfl rfl Tryz.underlying94 Sz3 ?_
 refine Tr.callV rfl rfl rfl rfl Body85 (cmp_or _ _ _ 6 _ rfl dE) (fun W2 h => sees_own h (by exact mem0)) ?_
 refine Tr.assign rfl rfl rfl ?_
 refine Tr.nil (at_n (Sat.ret (en_r ?_)))
 refine ⟨_, [], res_tmp rfl rfl, sP, sP, ?_, rfl⟩
 rfl

set_option maxRecDepth 100000 in
set_option maxHeartbeats 1000000 in
theorem law20_lives  : Meets Tryz.prog 10 [] [] (fun _ => True) (fun v out => v = .bool true ∧ out = []) := by
 intro W hW
 refine calls_of (hp0 := []) Tryz.func10 rfl 26 Tryz.ntmps10 rfl (HRep.nil _) ?_
 refine Sat.seq (Sat.region ?_)
 refine Tr.assign rfl rfl rfl ?_
 refine Tr.nil (at_n (Sat.seq (Sat.region ?_)))
 refine Tr.build (cs := (⟨1, 0, 2, List.replicate 32 0, 0, List.replicate 32 0, List.replicate 64 0⟩ : Vote).cells) rfl rfl rfl (fun w => by kernel_rfl) ?_
 refine Tr.callV rfl rfl rfl rfl Body13 (vote_check (⟨1, 0, 2, List.replicate 32 0, 0, List.replicate 32 0, List.replicate 64 0⟩ : Vote) ⟨rfl, rfl, rfl⟩) (fun _ _ => trivial) ?_
 refine Tr.eqi rfl rfl rfl rfl (decide_eq_true dE) ?_
 refine Tr.move rfl rfl rfl ?_
 refine Tr.build (cs := (⟨1, 0, 1, List.replicate 32 0, 0, List.replicate 32 0, List.replicate 64 0⟩ : Vote).cells) rfl rfl rfl (fun w => by kernel_rfl) ?_
 refine Tr.callV rfl rfl rfl rfl Body13 (vote_check (⟨1, 0, 1, List.replicate 32 0, 0, List.replicate 32 0, List.replicate 64 0⟩ : Vote) ⟨rfl, rfl, rfl⟩) (fun _ _ => trivial) ?_
 refine Tr.eqi rfl rfl rfl rfl (decide_eq_true dE) ?_
 refine Tr.pick rfl rfl rfl rfl rfl rfl ?_
 refine Tr.move rfl rfl rfl ?_
 refine Tr.build (cs := (⟨1, 0, 2, List.replicate 32 0, 1, List.replicate 32 0, List.replicate 64 0⟩ : Vote).cells) rfl rfl rfl (fun w => by kernel_rfl) ?_
 refine Tr.callV rfl rfl rfl rfl Body13 (vote_check (⟨1, 0, 2, List.replicate 32 0, 1, List.replicate 32 0, List.replicate 64 0⟩ : Vote) ⟨rfl, rfl, rfl⟩) (fun _ _ => trivial) ?_
 refine Tr.eqi rfl rfl rfl rfl (decide_eq_true dE) ?_
 refine Tr.pick rfl rfl rfl rfl rfl rfl ?_
 refine Tr.move rfl rfl rfl ?_
 refine Tr.build (cs := bytesV (1 :: List.replicate 31 0)) rfl rfl rfl (fun w => by kernel_rfl) ?_
 refine Tr.build (cs := (⟨1, 1, 1, (1 :: List.replicate 31 0), 2, List.replicate 32 0, List.replicate 64 0⟩ : Vote).cells) rfl rfl rfl (fun w => by kernel_rfl) ?_
 refine Tr.callV rfl rfl rfl rfl Body13 (vote_check (⟨1, 1, 1, (1 :: List.replicate 31 0), 2, List.replicate 32 0, List.replicate 64 0⟩ : Vote) ⟨rfl, rfl, rfl⟩) (fun _ _ => trivial) ?_
 refine Tr.eqi rfl rfl rfl rfl (decide_eq_true dE) ?_
 refine Tr.pick rfl rfl rfl rfl rfl rfl ?_
 refine Tr.move rfl rfl rfl ?_
 refine Tr.build (cs := (⟨1, 0, 0, List.replicate 32 0, 0, List.replicate 32 0, List.replicate 64 0⟩ : Vote).cells) rfl rfl rfl (fun w => by kernel_rfl) ?_
 refine Tr.build (cs := (⟨2, 0, 0, List.replicate 32 0, 0, List.replicate 32 0, List.replicate 64 0⟩ : Vote).cells) rfl rfl rfl (fun w => by kernel_rfl) ?_
 refine Tr.callV rfl rfl rfl rfl Body32 (vote_cmp (⟨1, 0, 0, List.replicate 32 0, 0, List.replicate 32 0, List.replicate 64 0⟩ : Vote) (⟨2, 0, 0, List.replicate 32 0, 0, List.replicate 32 0, List.replicate 64 0⟩ : Vote) ⟨rfl, rfl, rfl⟩ ⟨rfl, rfl, rfl⟩) (fun _ _ => trivial) ?_
 refine Tr.eqi rfl rfl rfl rfl (decide_eq_true dE) ?_
 refine Tr.pick rfl rfl rfl rfl rfl rfl ?_
 refine Tr.assign rfl rfl rfl ?_
 refine Tr.nil (at_n (Sat.ret (en_r ?_)))
 refine ⟨_, [], res_tmp rfl rfl, sP, sP, ?_, rfl⟩
 rfl

end Go.Proofs.YtpacobmjjjillaaGreat
end

section
namespace Hw
open Go
set_option linter.unusedSimpArgs false
set_option linter.unusedVariables false

/-- the first byte that a count and the top bits have -/
def headOf (s h : Nat) : UInt8 := shl8 255 (9 - s) ||| UInt8.ofNat h
theorem head_facts : ∀ s, s < 10 → 1 ≤ s → ∀ h, h < 2 ^ (8 - s) → (s = 9 → h = 0) → cntB (headOf s h) = s ∧ (headV (headOf s h)).toNat = h := by
  decide +kernel
theorem head_back : ∀ n, n < 256 → 1 ≤ cntB (UInt8.ofNat n) ∧ cntB (UInt8.ofNat n) ≤ 9 ∧ (headV (UInt8.ofNat n)).toNat < 2 ^ (8 - cntB (UInt8.ofNat n)) ∧ (cntB (UInt8.ofNat n) = 9 → (headV (UInt8.ofNat n)).toNat = 0) ∧ headOf (cntB (UInt8.ofNat n)) (headV (UInt8.ofNat n)).toNat = UInt8.ofNat n := by
  decide +kernel
theorem head_of (f : UInt8) : 1 ≤ cntB f ∧ cntB f ≤ 9 ∧ (headV f).toNat < 2 ^ (8 - cntB f) ∧ (cntB f = 9 → (headV f).toNat = 0) ∧ headOf (cntB f) (headV f).toNat = f := by
  have h := head_back f.toNat f.toNat_lt
  rwa [UInt8.ofNat_toNat] at h

/-- the number of bytes, the high one first -/
def beN : List UInt8 → Nat
  | [] => 0
  | b :: l => b.toNat * 256 ^ l.length + beN l
theorem beN_lt : ∀ l, beN l < 256 ^ l.length
  | [] => by simp [beN]
  | b :: l => by
    have h1 := beN_lt l
    have h2 := b.toNat_lt
    rw [beN, List.length_cons, Nat.pow_succ]
    have : b.toNat * 256 ^ l.length + 256 ^ l.length ≤ 256 ^ l.length * 256 := by
      rw [← Nat.succ_mul, Nat.mul_comm]
      exact Nat.mul_le_mul_left _ oM
    omega
theorem beN_inj : ∀ (a b : List UInt8), a.length = b.length → beN a = beN b → a = b
  | [], [], _, _ => rfl
  | x :: a, y :: b, hl, h => by
    simp only [List.length_cons, Nat.add_right_cancel_iff] at hl
    rw [beN, beN, hl] at h
    have h1 := beN_lt a
    have h2 := beN_lt b
    rw [hl] at h1
    have hp : 0 < 256 ^ b.length := Nat.pow_pos dE
    have e1 : x.toNat = y.toNat := by
      have d1 : (x.toNat * 256 ^ b.length + beN a) / 256 ^ b.length = x.toNat := by rw [Nat.mul_comm, Nat.mul_add_div hp, Nat.div_eq_of_lt h1, Nat.add_zero]
      have d2 : (y.toNat * 256 ^ b.length + beN b) / 256 ^ b.length = y.toNat := by rw [Nat.mul_comm, Nat.mul_add_div hp, Nat.div_eq_of_lt h2, Nat.add_zero]
      rw [← d1, ← d2, h]
    rw [e1] at h
    rw [UInt8.toNat_inj.1 e1, beN_inj a b hl oM]
theorem beN_tail (x : UInt64) : ∀ k, k ≤ 8 → beN (tailB x k) = x.toNat % 256 ^ k
  | 0, _ => by simp [tailB, beN, Nat.mod_one]
  | k + 1, hk => by
    have hp : 0 < 256 ^ k := Nat.pow_pos dE
    have e : (2 : Nat) ^ (8 * k) = 256 ^ k := by rw [Nat.pow_mul]
    rw [tailB, beN, tailB_length, beN_tail x k oM, UInt64.toNat_toUInt8]
    have e1 : (shr64 x (8 * k)).toNat = x.toNat / 256 ^ k := by
      have h : x.toNat / 2 ^ (8 * k) ≤ x.toNat := Nat.div_le_self _ _
      have := x.toNat_lt
      rw [shr64, UInt64.toNat_ofNat', Nat.mod_eq_of_lt oM, e]
    rw [e1]
    have h3 := Nat.mod_mul (a := 256 ^ k) (b := 256) (x := x.toNat)
    have e2 : (256 : Nat) ^ (k + 1) = 256 ^ k * 256 := Nat.pow_succ ..
    have e3 : (2 : Nat) ^ 8 = 256 := by decide
    rw [e2, h3, e3, Nat.mul_comm (256 ^ k)]
    omega
theorem foldB_nat : ∀ (l : List UInt8) (a : UInt64), a.toNat * 256 ^ l.length + beN l < 2 ^ 64 → (foldB a l).toNat = a.toNat * 256 ^ l.length + beN l
  | [], a, _ => by simp [foldB, beN]
  | b :: l, a, h => by
    rw [beN, List.length_cons, Nat.pow_succ] at h
    have hb := b.toNat_lt
    have hp : 0 < 256 ^ l.length := Nat.pow_pos dE
    have e : a.toNat * (256 ^ l.length * 256) + (b.toNat * 256 ^ l.length + beN l) = (a.toNat * 256 + b.toNat) * 256 ^ l.length + beN l := by
      rw [Nat.add_mul, Nat.mul_assoc, Nat.mul_comm 256, Nat.add_assoc]
    rw [e] at h
    have h1 : a.toNat * 256 + b.toNat < 18446744073709551616 := by
      rw [show (2 : Nat) ^ 64 = 18446744073709551616 by decide] at h
      have : (a.toNat * 256 + b.toNat) * 1 ≤ (a.toNat * 256 + b.toNat) * 256 ^ l.length := Nat.mul_le_mul_left _ hp
      omega
    have hs : (shl64 a 8).toNat = a.toNat * 256 := by
      have e0 : a.toNat * 2 ^ 8 = a.toNat * 256 := rfl
      rw [shl64, UInt64.toNat_ofNat', e0, Nat.mod_eq_of_lt (Nat.lt_of_le_of_lt (Nat.le_add_right _ b.toNat) h1)]
    have ho : (shl64 a 8 ||| b.toUInt64).toNat = a.toNat * 256 + b.toNat := by
      rw [UInt64.toNat_or, hs, show b.toUInt64.toNat = b.toNat from by simp]
      rw [show a.toNat * 256 = 2 ^ 8 * a.toNat by omega, Nat.two_pow_add_eq_or_of_lt oM]
    rw [foldB, foldB_nat l _ (by rw [ho]; exact h), ho, beN, List.length_cons, Nat.pow_succ, e]

theorem or_one (x : Nat) : x ||| 1 = if x % 2 = 0 then x + 1 else x := by
  have h := Nat.or_mod_two_pow (a := x) (b := 1) (n := 1)
  have h2 := Nat.or_div_two_pow (a := x) (b := 1) (n := 1)
  simp only [Nat.pow_one] at h h2
  have e : x % 2 = 0 ∨ x % 2 = 1 := by omega
  have hm : (x ||| 1) % 2 = 1 := by
    rw [h]
    rcases e with e | e <;> rw [e] <;> rfl
  have hd : (x ||| 1) / 2 = x / 2 := by rw [h2]; simp
  split <;> omega
theorem or_one_lt {x k : Nat} (hk : 1 ≤ k) : (x ||| 1) < 2 ^ k ↔ x < 2 ^ k := by
  rw [or_one]
  have : 2 ^ k = 2 * 2 ^ (k - 1) := by rw [← Nat.pow_succ']; congr 1; omega
  split <;> omega
theorem szN_le {x s : Nat} (hs : 1 ≤ s) (h8 : s ≤ 8) : szN x ≤ s ↔ x < 2 ^ (7 * s) := by
  rw [← or_one_lt oM, ← bLen_le]
  unfold szN
  omega
theorem szN_hi {x : Nat} (hs : szN x ≤ 8) : x < 2 ^ (7 * szN x) := (szN_le (szN_pos x).1 hs).1 (Nat.le_refl _)

theorem headB_of (x : UInt64) : ∃ h, headB x = headOf (szN x.toNat) h ∧ h < 2 ^ (8 - szN x.toNat) ∧ (szN x.toNat = 9 → h = 0) ∧ x.toNat = h * 256 ^ (szN x.toNat - 1) + x.toNat % 256 ^ (szN x.toNat - 1) := by
  have hp := szN_pos x.toNat
  have hx := x.toNat_lt
  have e : (2 : Nat) ^ (8 * (szN x.toNat - 1)) = 256 ^ (szN x.toNat - 1) := by rw [Nat.pow_mul]
  have e1 : (shr64 x (8 * (szN x.toNat - 1))).toNat = x.toNat / 256 ^ (szN x.toNat - 1) := by
    have h : x.toNat / 2 ^ (8 * (szN x.toNat - 1)) ≤ x.toNat := Nat.div_le_self _ _
    rw [shr64, UInt64.toNat_ofNat', Nat.mod_eq_of_lt oM, e]
  have hlt : x.toNat / 256 ^ (szN x.toNat - 1) < 2 ^ (8 - szN x.toNat) ∧ (szN x.toNat = 9 → x.toNat / 256 ^ (szN x.toNat - 1) = 0) := by
    by_cases h9 : szN x.toNat = 9
    · rw [h9]
      have : x.toNat / 256 ^ (9 - 1) = 0 := Nat.div_eq_of_lt (by rw [show (256 : Nat) ^ (9 - 1) = 2 ^ 64 by decide]; exact hx)
      rw [this]
      exact ⟨by decide, fun _ => rfl⟩
    · refine ⟨?_, fun h => absurd h h9⟩
      rw [Nat.div_lt_iff_lt_mul (Nat.pow_pos dE), ← e, ← Nat.pow_add]
      have := szN_hi (x := x.toNat) oM
      rwa [show 8 - szN x.toNat + 8 * (szN x.toNat - 1) = 7 * szN x.toNat by omega]
  refine ⟨x.toNat / 256 ^ (szN x.toNat - 1), ?_, hlt.1, hlt.2, (Nat.div_add_mod' _ _).symm⟩
  unfold headB headOf
  congr 1
  apply UInt8.toNat_inj.1
  rw [UInt64.toNat_toUInt8, e1, UInt8.toNat_ofNat']

/-- what numB has written -/
theorem num_back (x : UInt64) : cntB (headB x) = szN x.toNat ∧ foldB (headV (headB x)) (tailB x (szN x.toNat - 1)) = x := by
  obtain ⟨h, h1, h2, h3, h4⟩ := headB_of x
  have hp := szN_pos x.toNat
  have hf := head_facts (szN x.toNat) oM hp.1 h h2 h3
  rw [h1]
  refine ⟨hf.1, UInt64.toNat_inj.1 ?_⟩
  have hb := beN_tail x (szN x.toNat - 1) oM
  rw [foldB_nat _ _ (by rw [tailB_length, hf.2, hb, ← h4]; exact x.toNat_lt), tailB_length, hf.2, hb, ← h4]

/-- what is read as a number, with as many bytes as it has, are its bytes -/
theorem num_only {f : UInt8} {l : List UInt8} (hl : l.length = cntB f - 1) (hs : szN (foldB (headV f) l).toNat = cntB f) : numB (foldB (headV f) l) = f :: l := by
  obtain ⟨h1, h2, h3, h4, h5⟩ := head_of f
  have hb := beN_lt l
  rw [hl] at hb
  have hbound : (headV f).toNat * 256 ^ l.length + beN l < 2 ^ 64 := by
    rw [hl]
    have e8 : (256 : Nat) ^ (cntB f - 1) = 2 ^ (8 * (cntB f - 1)) := by rw [Nat.pow_mul]
    by_cases h9 : cntB f = 9
    · have e9 : (256 : Nat) ^ (cntB f - 1) = 2 ^ 64 := by rw [h9]
      rw [h4 h9, Nat.zero_mul, Nat.zero_add, ← e9]
      exact hb
    · have h6 : (headV f).toNat * 256 ^ (cntB f - 1) + 256 ^ (cntB f - 1) ≤ 2 ^ (8 - cntB f) * 256 ^ (cntB f - 1) := by
        rw [← Nat.succ_mul]; exact Nat.mul_le_mul_right _ h3
      have h7 : 2 ^ (8 - cntB f) * 256 ^ (cntB f - 1) = 2 ^ (7 * cntB f) := by
        rw [e8, ← Nat.pow_add]; congr 1; omega
      have h8 : 2 ^ (7 * cntB f) ≤ 2 ^ 64 := Nat.pow_le_pow_right dE oM
      omega
  have hv := foldB_nat l (headV f) hbound
  obtain ⟨x, hx⟩ : ∃ x, foldB (headV f) l = x := ⟨_, rfl⟩
  rw [hx] at hs hv ⊢
  rw [hl] at hv
  have hp : 0 < 256 ^ (cntB f - 1) := Nat.pow_pos dE
  have hdiv : x.toNat / 256 ^ (cntB f - 1) = (headV f).toNat := by
    rw [hv, Nat.mul_comm, Nat.mul_add_div hp, Nat.div_eq_of_lt hb, Nat.add_zero]
  have hmod : x.toNat % 256 ^ (cntB f - 1) = beN l := by
    rw [hv, Nat.mul_comm, Nat.mul_add_mod, Nat.mod_eq_of_lt hb]
  obtain ⟨h, g1, g2, g3, g4⟩ := headB_of x
  rw [hs] at g1 g2 g3 g4
  have hh : h = (headV f).toNat := by
    rw [← hdiv]
    have hm := Nat.mod_lt x.toNat hp
    rw [g4, Nat.mul_comm, Nat.mul_add_div hp, Nat.div_eq_of_lt hm, Nat.add_zero]
  unfold numB
  rw [g1, hh, h5, hs]
  congr 1
  apply beN_inj
  · rw [tailB_length, hl]
  · rw [beN_tail x _ oM, hmod]
end Hw
end

section
namespace Go.Proofs.YtpacobmjjjillaaGreat
open Go Hw
set_option linter.unusedVariables false
set_option linter.unusedSimpArgs false

theorem drop_cons {xs l : List UInt8} {a : Nat} {f : UInt8} (h : xs.drop a = f :: l) : a < xs.length ∧ xs.getD a 0 = f ∧ xs.drop (a + 1) = l := by
  have hlt : a < xs.length := by
    rcases Nat.lt_or_ge a xs.length with h1 | h1
    · exact h1
    · rw [List.drop_eq_nil_of_le h1] at h; cases h
  rw [List.drop_eq_getElem_cons hlt] at h
  injection h with h1 h2
  exact ⟨hlt, by rw [List.getD_eq_getElem?_getD, List.getElem?_eq_getElem hlt]; exact h1, h2⟩
theorem drop_split {xs p t : List UInt8} {a : Nat} (h : xs.drop a = p ++ t) (hp : 0 < p.length) : a + p.length ≤ xs.length ∧ (xs.drop a).take p.length = p ∧ xs.drop (a + p.length) = t := by
  have h1 := congrArg List.length h
  rw [List.length_drop, List.length_append] at h1
  refine ⟨by omega, by rw [h]; simp, ?_⟩
  rw [← List.drop_drop, h]; simp
theorem dig_fwd {xs d t : List UInt8} {a : Nat} (h : xs.drop a = d ++ t) (hd : d.length = 32) : digR xs a 0 = (d, a + 32, 0) ∧ xs.drop (a + 32) = t := by
  obtain ⟨h1, h2, h3⟩ := drop_split h oM
  rw [hd] at h1 h2 h3
  unfold digR
  rw [if_neg sP, if_neg oM, h2]
  exact ⟨rfl, h3⟩
theorem num_fwd {xs t : List UInt8} {a : Nat} {x : UInt64} (h : xs.drop a = numB x ++ t) : numR xs a 0 = (x, a + szN x.toNat, 0) ∧ xs.drop (a + szN x.toNat) = t := by
  have hp := szN_pos x.toNat
  have hl := numB_length x
  obtain ⟨h1, h2, h3⟩ := drop_split h oM
  rw [hl] at h1 h2 h3
  rw [numB, List.cons_append] at h
  obtain ⟨g1, g2, g3⟩ := drop_cons h
  obtain ⟨n1, n2⟩ := num_back x
  have hv : numV xs a = x := by
    rw [numV, g2, g3, n1, List.take_left' (tailB_length x _)]
    exact n2
  unfold numR
  rw [if_neg sP, if_neg oM, hv, g2, n1, if_neg oM, if_pos rfl]
  exact ⟨rfl, h3⟩
theorem blk_fwd {xs ds t : List UInt8} {a : Nat} (hn : ds.length ≤ 1000000) (h : xs.drop a = numB (UInt64.ofNat ds.length) ++ ds ++ t) : blkR xs a 0 = (some ds, a + szN ds.length + ds.length, 0) ∧ xs.drop (a + szN ds.length + ds.length) = t := by
  rw [List.append_assoc] at h
  have hx : (UInt64.ofNat ds.length).toNat = ds.length := ofNat_nat hn
  obtain ⟨h1, h2⟩ := num_fwd h
  rw [hx] at h1 h2
  unfold blkR
  rw [h1]
  simp only [hx]
  rw [if_neg sP]
  have hl := congrArg List.length h2
  rw [List.length_drop, List.length_append] at hl
  have hz := szN_pos ds.length
  have hle : a + szN ds.length ≤ xs.length := by
    have := congrArg List.length h
    rw [List.length_drop, List.length_append, numB_length, hx] at this
    omega
  rw [if_neg oM, h2]
  refine ⟨by simp, ?_⟩
  rw [← List.drop_drop, h2]; simp
theorem tak_fwd {xs d t : List UInt8} {a m : Nat} (h : xs.drop a = d ++ t) (hd : d.length = m) (hm : 0 < m) : takR xs m a 0 = (d, a + m, 0) ∧ xs.drop (a + m) = t := by
  obtain ⟨h1, h2, h3⟩ := drop_split h oM
  rw [hd] at h1 h2 h3
  unfold takR
  rw [if_neg sP, if_neg oM, h2]
  exact ⟨rfl, h3⟩
theorem digs_fwd {xs t : List UInt8} {ls : List (List UInt8)} {a : Nat} (hls : ∀ l ∈ ls, l.length = 32) (h : xs.drop a = ls.flatten ++ t) : ∀ j, j ≤ ls.length → digsR xs j a 0 = (ls.take j, a + 32 * j, 0) ∧ xs.drop (a + 32 * j) = (ls.drop j).flatten ++ t
  | 0, _ => ⟨rfl, by simpa using h⟩
  | j + 1, hj => by
    obtain ⟨h1, h2⟩ := digs_fwd hls h j oM
    rw [List.drop_eq_getElem_cons (l := ls) (i := j) oM, List.flatten_cons, List.append_assoc] at h2
    obtain ⟨h3, h4⟩ := dig_fwd h2 (hls _ (List.getElem_mem oM))
    refine ⟨?_, by rw [show a + 32 * (j + 1) = a + 32 * j + 32 by omega]; exact h4⟩
    rw [digsR, h1]
    simp only [h3]
    rw [List.take_succ_eq_append_getElem oM]
    rfl
theorem dig_bwd {xs d : List UInt8} {a a1 : Nat} {e : Int} (h : digR xs a e = (d, a1, 0)) : e = 0 ∧ a1 = a + 32 ∧ a + 32 ≤ xs.length ∧ xs.drop a = d ++ xs.drop a1 := by
  unfold digR at h
  by_cases he : e = 0
  · rw [if_neg (by simp [he])] at h
    by_cases h1 : xs.length < a + 32
    · rw [if_pos h1] at h; simp at h
    · rw [if_neg h1] at h
      obtain ⟨rfl, rfl⟩ : (xs.drop a).take 32 = d ∧ a + 32 = a1 := by simpa using h
      exact ⟨he, rfl, by omega, by rw [← List.drop_drop, List.take_append_drop]⟩
  · rw [if_pos he] at h
    simp at h; exact absurd h.2.2 he
theorem num_bwd {xs : List UInt8} {x : UInt64} {a a1 : Nat} {e : Int} (h : numR xs a e = (x, a1, 0)) : e = 0 ∧ a1 = a + szN x.toNat ∧ a1 ≤ xs.length ∧ xs.drop a = numB x ++ xs.drop a1 := by
  unfold numR at h
  by_cases he : e = 0
  · rw [if_neg (by simp [he])] at h
    by_cases h1 : xs.length ≤ a
    · rw [if_pos h1] at h; simp at h
    rw [if_neg h1] at h
    by_cases h2 : xs.length < a + cntB (xs.getD a 0)
    · rw [if_pos h2] at h; simp at h
    rw [if_neg h2] at h
    by_cases h3 : szN (numV xs a).toNat = cntB (xs.getD a 0)
    · rw [if_pos h3] at h
      obtain ⟨h4, h5⟩ : numV xs a = x ∧ a + cntB (xs.getD a 0) = a1 := by simpa using h
      have hc := (head_of (xs.getD a 0)).1
      have hl : ((xs.drop (a + 1)).take (cntB (xs.getD a 0) - 1)).length = cntB (xs.getD a 0) - 1 := by rw [List.length_take, List.length_drop]; omega
      have hb := num_only hl h3
      rw [show foldB (headV (xs.getD a 0)) ((xs.drop (a + 1)).take (cntB (xs.getD a 0) - 1)) = x from h4] at hb
      rw [h4] at h3
      refine ⟨he, by omega, by omega, ?_⟩
      have e3 : xs.drop a1 = (xs.drop (a + 1)).drop (cntB (xs.getD a 0) - 1) := by rw [List.drop_drop]; congr 1; omega
      rw [hb, e3, List.cons_append, List.take_append_drop, List.drop_eq_getElem_cons (l := xs) (i := a) oM]
      congr 1
      rw [List.getD_eq_getElem?_getD, List.getElem?_eq_getElem oM]; rfl
    · rw [if_neg h3] at h; simp at h
  · rw [if_pos he] at h
    simp at h; exact absurd h.2.2 he
theorem tak_bwd {xs d : List UInt8} {a a1 m : Nat} {e : Int} (h : takR xs m a e = (d, a1, 0)) : e = 0 ∧ a1 = a + m ∧ a1 ≤ xs.length ∧ d.length = m ∧ xs.drop a = d ++ xs.drop a1 := by
  unfold takR at h
  by_cases he : e = 0
  · rw [if_neg (by simp [he])] at h
    by_cases h1 : xs.length < a + m
    · rw [if_pos h1] at h; simp at h
    · rw [if_neg h1] at h
      obtain ⟨rfl, rfl⟩ : (xs.drop a).take m = d ∧ a + m = a1 := by simpa using h
      exact ⟨he, rfl, by omega, by simp; omega, by rw [← List.drop_drop, List.take_append_drop]⟩
  · rw [if_pos he] at h
    simp at h; exact absurd h.2.2 he
theorem readP_bytes {D : DB} (h : D.ok) (hc : D.check = 0) (t : List UInt8) : readP (D.bytes ++ t) = (D, D.bytes.length, 0) := by
  have hs := D.head_small hc
  have hl1 : (UInt64.ofNat D.ls.length).toNat = D.ls.length := ofNat_nat oM
  obtain ⟨xs, hxs⟩ : ∃ xs, D.bytes ++ t = xs := ⟨_, rfl⟩
  rw [hxs]
  have h0 : xs.drop 0 = D.w ++ (numB D.seq ++ (D.prev ++ (numB (UInt64.ofNat D.ls.length) ++ (D.ls.flatten ++ (numB (UInt64.ofNat D.ds.length) ++ D.ds ++ (D.sg ++ t)))))) := by
    rw [List.drop_zero, ← hxs]
    simp only [DB.bytes, DB.body, List.append_assoc]
  obtain ⟨r1, h1⟩ := dig_fwd h0 h.w
  obtain ⟨r2, h2⟩ := num_fwd h1
  obtain ⟨r3, h3⟩ := dig_fwd h2 h.prev
  obtain ⟨r4, h4⟩ := num_fwd h3
  rw [hl1] at r4 h4
  obtain ⟨r5, h5⟩ := digs_fwd h.ls h4 D.ls.length (Nat.le_refl _)
  rw [List.take_length] at r5
  rw [List.drop_length, List.flatten_nil, List.nil_append] at h5
  obtain ⟨r6, h6⟩ := blk_fwd oM h5
  obtain ⟨r7, h7⟩ := tak_fwd h6 h.sg dE
  have hk : min (UInt64.ofNat D.ls.length).toNat 17 = D.ls.length := by omega
  have hlen : D.bytes.length = 0 + 32 + szN D.seq.toNat + 32 + szN D.ls.length + 32 * D.ls.length + szN D.ds.length + D.ds.length + 64 := by
    have hfl := flatten_take_len h.ls (Nat.le_refl D.ls.length)
    rw [List.take_length] at hfl
    simp only [DB.bytes, DB.body, List.length_append, numB_length, h.w, h.prev, h.sg, hfl, hl1, ofNat_nat (n := D.ds.length) oM]
    omega
  simp only [readP, r1, r2, r3, r4, hk, r5, r6, r7, Option.getD_some]
  rw [h.sg, hlen, List.drop_of_length_le sP, List.append_nil]
theorem readD_bytes {D : DB} (h : D.ok) (hc : D.check = 0) : readD D.bytes = (D, 0) := by
  have hr := readP_bytes h hc []
  rw [List.append_nil] at hr
  rw [readD_ok (by rw [hr]; exact ⟨by simp [endR], hc⟩), hr]
theorem bytes_inj {D E : DB} (hD : D.ok) (hE : E.ok) (cD : D.check = 0) (cE : E.check = 0) : D.bytes = E.bytes ↔ D = E := by
  constructor
  · intro h
    have h1 := readD_bytes hD cD
    rw [h, readD_bytes hE cE] at h1
    exact (congrArg Prod.fst h1).symm
  · intro h; rw [h]
end Go.Proofs.YtpacobmjjjillaaGreat
end

section
namespace Go.Proofs.YtpacobmjjjillaaGreat
open Go Hw
set_option linter.unusedVariables false
set_option linter.unusedSimpArgs false

theorem byteOf_small {x : Int} (h0 : 0 ≤ x) (h4 : x < 256) : (Hw.byteOf x).toUInt64.toNat = x.toNat := by
  simp only [Hw.byteOf]
  rw [UInt8.toNat_toUInt64, UInt8.toNat_ofNat']
  omega
theorem vcheck_phase {V : Vote} (h : vcheck V = 0) : 1 ≤ V.fPhase ∧ V.fPhase ≤ 3 := by
  have h2 : vokB V = true := by
    cases e : vokB V
    · unfold vcheck at h
      rw [e] at h
      split at h <;> cases h
    · rfl
  unfold vokB at h2
  by_cases h3 : V.fPhase = 1
  · omega
  · rw [if_neg h3] at h2
    by_cases h4 : V.fPhase = 2 ∨ V.fPhase = 3
    · omega
    · rw [if_neg h4] at h2; cases h2
theorem voteP_bytes {V : Vote} (hV : V.ok) (hc : vcheck V = 0) : voteP (voteT V ++ V.fSig) = (V, (voteT V ++ V.fSig).length, 0) := by
  have hph := vcheck_phase hc
  have hb := byteOf_small (x := V.fPhase) oM oM
  have h0 : (voteT V ++ V.fSig).drop 0 = numB V.fHeight ++ (numB V.fRound ++ (numB (Hw.byteOf V.fPhase).toUInt64 ++ (V.fValue ++ (numB V.fProof ++ (V.fVoter ++ (V.fSig ++ [])))))) := by
    simp [voteT, List.append_assoc]
  obtain ⟨g1, h1⟩ := num_fwd h0
  obtain ⟨g2, h2⟩ := num_fwd h1
  obtain ⟨g3, h3⟩ := num_fwd h2
  obtain ⟨g4, h4⟩ := dig_fwd h3 hV.l_fValue
  obtain ⟨g5, h5⟩ := num_fwd h4
  obtain ⟨g6, h6⟩ := dig_fwd h5 hV.l_fVoter
  obtain ⟨g7, h7⟩ := tak_fwd h6 hV.l_fSig dE
  have hm : ((min V.fPhase.toNat 4 : Nat) : Int) = V.fPhase := by omega
  have hl : (voteT V ++ V.fSig).length = voteN V + 64 := by rw [List.length_append, voteT_length hV, hV.l_fSig]
  simp only [voteP, g1, g2, g3, g4, g5, g6, g7]
  simp only [hb, hm, hl, hV.l_fSig]
  have e : V.fSig ++ (List.replicate 64 (0 : UInt8)).drop 64 = V.fSig := by simp
  rw [e]
  congr 2
  unfold voteN
  rw [hb]
  omega
theorem voteRd_bytes {V : Vote} (hV : V.ok) (hc : vcheck V = 0) : voteRd (voteBy V) = (V, 0) := by
  have h := voteP_bytes hV hc
  rw [show voteBy V = voteT V ++ V.fSig from if_pos hc]
  rw [voteRd_ok (by rw [h]; exact ⟨by simp [endR], hc⟩), h]

theorem voteP_tail {V : Vote} (hV : V.ok) (hc : vcheck V = 0) (t : List UInt8) : voteP ((voteT V ++ V.fSig) ++ t) = (V, (voteT V ++ V.fSig).length, 0) := by
  have hph := vcheck_phase hc
  have hb := byteOf_small (x := V.fPhase) oM oM
  have h0 : ((voteT V ++ V.fSig) ++ t).drop 0 = numB V.fHeight ++ (numB V.fRound ++ (numB (Hw.byteOf V.fPhase).toUInt64 ++ (V.fValue ++ (numB V.fProof ++ (V.fVoter ++ (V.fSig ++ t)))))) := by
    simp [voteT, List.append_assoc]
  obtain ⟨g1, h1⟩ := num_fwd h0
  obtain ⟨g2, h2⟩ := num_fwd h1
  obtain ⟨g3, h3⟩ := num_fwd h2
  obtain ⟨g4, h4⟩ := dig_fwd h3 hV.l_fValue
  obtain ⟨g5, h5⟩ := num_fwd h4
  obtain ⟨g6, h6⟩ := dig_fwd h5 hV.l_fVoter
  obtain ⟨g7, h7⟩ := tak_fwd h6 hV.l_fSig dE
  have hm : ((min V.fPhase.toNat 4 : Nat) : Int) = V.fPhase := by omega
  have hl : (voteT V ++ V.fSig).length = voteN V + 64 := by rw [List.length_append, voteT_length hV, hV.l_fSig]
  simp only [voteP, g1, g2, g3, g4, g5, g6, g7]
  simp only [hb, hm, hl, hV.l_fSig]
  have e : V.fSig ++ (List.replicate 64 (0 : UInt8)).drop 64 = V.fSig := by simp
  rw [e]
  congr 2
  unfold voteN
  rw [hb]
  omega
theorem voteRd_more {V : Vote} (hV : V.ok) (hc : vcheck V = 0) (b : UInt8) : voteRd (voteBy V ++ [b]) = (Vote.zero, 4) := by
  have h := voteP_tail hV hc [b]
  rw [show voteBy V = voteT V ++ V.fSig from if_pos hc]
  rw [voteRd_bad]
  rw [h]
  intro h1
  have := h1.1
  simp only [endR, if_true] at this
  rw [List.length_append (bs := [b]), List.length_singleton, if_pos oM] at this
  cases this
theorem voteRd_two (xs : List UInt8) : (voteRd xs).2 = 0 ∨ voteRd xs = (Vote.zero, 4) := by
  by_cases hg : endR xs.length (voteP xs).2.1 (voteP xs).2.2 = 0 ∧ vcheck (voteP xs).1 = 0
  · left; rw [voteRd_ok hg]
  · right; exact voteRd_bad hg
theorem voteRd_only {xs : List UInt8} (h : (voteRd xs).2 = 0) : vcheck (voteRd xs).1 = 0 ∧ voteBy (voteRd xs).1 = xs ∧ (voteRd xs).1.ok := by
  by_cases hg : endR xs.length (voteP xs).2.1 (voteP xs).2.2 = 0 ∧ vcheck (voteP xs).1 = 0
  case neg => rw [voteRd_bad hg] at h; cases h
  rw [voteRd_ok hg]
  refine ⟨hg.2, ?_⟩
  obtain ⟨he, hc⟩ := hg
  have e0 : (voteP xs).2.2 = 0 ∧ ¬ (0 : Int) < (xs.length : Int) - ((voteP xs).2.1 : Int) := by
    unfold endR at he
    split at he
    · rename_i h1
      exact ⟨h1, fun h2 => by rw [if_pos h2] at he; cases he⟩
    · rename_i h1; exact absurd he h1
  obtain ⟨e1, e2⟩ := e0
  rw [show voteBy (voteP xs).1 = voteT (voteP xs).1 ++ (voteP xs).1.fSig from if_pos hc]
  simp only [voteP] at e1 e2 hc ⊢
  obtain ⟨x1, p1, h1⟩ : ∃ l r, numR xs 0 0 = (l, r) := ⟨_, _, rfl⟩
  obtain ⟨a1, d1⟩ := p1
  rw [h1] at e1 e2 hc ⊢
  simp only at e1 e2 hc ⊢
  obtain ⟨x2, p2, h2⟩ : ∃ l r, numR xs a1 d1 = (l, r) := ⟨_, _, rfl⟩
  obtain ⟨a2, d2⟩ := p2
  rw [h2] at e1 e2 hc ⊢
  simp only at e1 e2 hc ⊢
  obtain ⟨x3, p3, h3⟩ : ∃ l r, numR xs a2 d2 = (l, r) := ⟨_, _, rfl⟩
  obtain ⟨a3, d3⟩ := p3
  rw [h3] at e1 e2 hc ⊢
  simp only at e1 e2 hc ⊢
  obtain ⟨l4, p4, h4⟩ : ∃ l r, digR xs a3 d3 = (l, r) := ⟨_, _, rfl⟩
  obtain ⟨a4, d4⟩ := p4
  rw [h4] at e1 e2 hc ⊢
  simp only at e1 e2 hc ⊢
  obtain ⟨x5, p5, h5⟩ : ∃ l r, numR xs a4 d4 = (l, r) := ⟨_, _, rfl⟩
  obtain ⟨a5, d5⟩ := p5
  rw [h5] at e1 e2 hc ⊢
  simp only at e1 e2 hc ⊢
  obtain ⟨l6, p6, h6⟩ : ∃ l r, digR xs a5 d5 = (l, r) := ⟨_, _, rfl⟩
  obtain ⟨a6, d6⟩ := p6
  rw [h6] at e1 e2 hc ⊢
  simp only at e1 e2 hc ⊢
  obtain ⟨l7, p7, h7⟩ : ∃ l r, takR xs 64 a6 d6 = (l, r) := ⟨_, _, rfl⟩
  obtain ⟨a7, d7⟩ := p7
  rw [h7] at e1 e2 hc ⊢
  simp only at e1 e2 hc ⊢
  subst e1
  obtain ⟨z6, ea7, ha7, hl7, hx7⟩ := tak_bwd h7
  subst z6
  obtain ⟨z5, ea6, ha6, hx6⟩ := dig_bwd h6
  subst z5
  obtain ⟨z4, ea5, ha5, hx5⟩ := num_bwd h5
  subst z4
  obtain ⟨z3, ea4, ha4, hx4⟩ := dig_bwd h4
  subst z3
  obtain ⟨z2, ea3, ha3, hx3⟩ := num_bwd h3
  subst z2
  obtain ⟨z1, ea2, ha2, hx2⟩ := num_bwd h2
  subst z1
  obtain ⟨_, ea1, ha1, hx1⟩ := num_bwd h1
  have d4 := (digR_at xs a3 0 oM).2
  have d6 := (digR_at xs a5 0 oM).2
  rw [h4] at d4
  rw [h6] at d6
  have e7 : l7 ++ (List.replicate 64 (0 : UInt8)).drop l7.length = l7 := by rw [hl7]; simp
  have hend : xs.drop a7 = [] := List.drop_of_length_le oM
  rw [e7] at hc ⊢
  have hph := vcheck_phase hc
  simp only at hph
  have hx : (Hw.byteOf ((min x3.toNat 4 : Nat) : Int)).toUInt64 = x3 := by
    apply UInt64.toNat_inj.1
    rw [byteOf_small oM oM]
    omega
  refine ⟨?_, ⟨d4, d6, hl7⟩⟩
  simp only [voteT]
  rw [hx]
  rw [List.drop_zero] at hx1
  rw [hx1, hx2, hx3, hx4, hx5, hx6, hx7, hend]
  simp [List.append_assoc]
theorem voteRd_less {V : Vote} (hV : V.ok) (hc : vcheck V = 0) : voteRd ((voteBy V).take ((voteBy V).length - 1)) = (Vote.zero, 4) := by
  rcases voteRd_two ((voteBy V).take ((voteBy V).length - 1)) with h | h
  · exfalso
    obtain ⟨h1, h2, h3⟩ := voteRd_only h
    have hl : 0 < (voteBy V).length := by
      rw [show voteBy V = voteT V ++ V.fSig from if_pos hc, List.length_append, hV.l_fSig]; omega
    obtain ⟨b, hb⟩ : ∃ b, voteBy V = (voteBy V).take ((voteBy V).length - 1) ++ [b] := by
      refine ⟨(voteBy V)[(voteBy V).length - 1]'oM, ?_⟩
      have := List.take_succ_eq_append_getElem (l := voteBy V) (i := (voteBy V).length - 1) oM
      rw [show (voteBy V).length - 1 + 1 = (voteBy V).length by omega, List.take_length] at this
      exact this
    have h4 := voteRd_more h3 h1 b
    rw [h2, ← hb, voteRd_bytes hV hc] at h4
    have := congrArg Prod.snd h4
    cases this
  · exact h

end Go.Proofs.YtpacobmjjjillaaGreat
end

section
namespace Hw
open Go Go.RowKit
set_option linter.unusedSimpArgs false
set_option linter.unusedVariables false

/-- words as the program holds them -/
def wdsV (w : List Nat) : List Value := intsV (w.map Int.ofNat)
theorem wdsV_length (w : List Nat) : (wdsV w).length = w.length := by simp [wdsV, intsV]
theorem get_wds {w : List Nat} {o : Nat} (h : o < w.length) : (wdsV w)[o]? = some (i64 ((w.getD o 0 : Nat) : Int)) := by
  rw [wdsV, get_ints (by simpa using h)]
  congr 2
  rw [List.getD_eq_getElem?_getD, List.getD_eq_getElem?_getD, List.getElem?_map, List.getElem?_eq_getElem h]
  rfl
theorem set_wds (w : List Nat) (o v : Nat) : (wdsV w).set o (i64 (v : Int)) = wdsV (w.set o v) := by
  simp [wdsV, intsV, List.map_set]
theorem wdsV_cell (w : List Nat) : ∀ u ∈ wdsV w, isCell u = true := by
  intro u hu
  simp only [wdsV, intsV, List.mem_map] at hu
  obtain ⟨x, _, rfl⟩ := hu
  rfl
section
variable {C : Cx} {ops : Array Oper} {rest : List (Nat × Oper)} {sl : List (Nat × Value)} {hp : List Blk} {Q : St → Prop} {c d : Nat} {ty : TypeId} {pos : String} {af : Array Edge} {g : Option (Nat × Bool)}
variable {xT yT : TypeId} {x y : Operand}
theorem Tr.addN (a b : Nat) (hg : guardOk ops sl g = true) (hk : okD c d C.N = true) (hx : evIn sl x = some (i64 (a : Int))) (hy : evIn sl y = some (i64 (b : Int))) (hr : a + b ≤ 9223372036854775807)
    (k : Tr C ops rest ⟨(d, i64 ((a + b : Nat) : Int)) :: sl, hp⟩ Q) : Tr C ops ((c, ⟨some d, .binOp .add xT x y yT, ty, pos, af, g⟩) :: rest) ⟨sl, hp⟩ Q := by
  refine .add_i64 hg hk hx hy oM ?_
  rwa [show ((a : Int) + b) = ((a + b : Nat) : Int) by omega]
theorem Tr.subN (a b : Nat) (hg : guardOk ops sl g = true) (hk : okD c d C.N = true) (hx : evIn sl x = some (i64 (a : Int))) (hy : evIn sl y = some (i64 (b : Int))) (hr : b ≤ a ∧ a ≤ 9223372036854775807)
    (k : Tr C ops rest ⟨(d, i64 ((a - b : Nat) : Int)) :: sl, hp⟩ Q) : Tr C ops ((c, ⟨some d, .binOp .sub xT x y yT, ty, pos, af, g⟩) :: rest) ⟨sl, hp⟩ Q := by
  refine .sub_i64 hg hk hx hy oM ?_
  rwa [show ((a : Int) - b) = ((a - b : Nat) : Int) by omega]
theorem Tr.mulN (a b : Nat) (hg : guardOk ops sl g = true) (hk : okD c d C.N = true) (hx : evIn sl x = some (i64 (a : Int))) (hy : evIn sl y = some (i64 (b : Int))) (hr : a * b ≤ 9223372036854775807)
    (k : Tr C ops rest ⟨(d, i64 ((a * b : Nat) : Int)) :: sl, hp⟩ Q) : Tr C ops ((c, ⟨some d, .binOp .mul xT x y yT, ty, pos, af, g⟩) :: rest) ⟨sl, hp⟩ Q := by
  have e : ((a : Int) * b) = ((a * b : Nat) : Int) := (Int.natCast_mul a b).symm
  refine .mul_i64 hg hk hx hy (by rw [e]; omega) ?_
  rwa [e]
theorem Tr.remN (a b : Nat) (hg : guardOk ops sl g = true) (hk : okD c d C.N = true) (hx : evIn sl x = some (i64 (a : Int))) (hy : evIn sl y = some (i64 (b : Int))) (hr : 1 ≤ b)
    (k : Tr C ops rest ⟨(d, i64 ((a % b : Nat) : Int)) :: sl, hp⟩ Q) : Tr C ops ((c, ⟨some d, .binOp .rem xT x y yT, ty, pos, af, g⟩) :: rest) ⟨sl, hp⟩ Q := by
  refine .rem_i64 hg hk hx hy oM ?_
  rwa [show ((a : Int) % b) = ((a % b : Nat) : Int) from rfl]
theorem Tr.quoN (a b : Nat) (hg : guardOk ops sl g = true) (hk : okD c d C.N = true) (hx : evIn sl x = some (i64 (a : Int))) (hy : evIn sl y = some (i64 (b : Int))) (hr : 1 ≤ b ∧ a ≤ 9223372036854775807)
    (k : Tr C ops rest ⟨(d, i64 ((a / b : Nat) : Int)) :: sl, hp⟩ Q) : Tr C ops ((c, ⟨some d, .binOp .quo xT x y yT, ty, pos, af, g⟩) :: rest) ⟨sl, hp⟩ Q := by
  refine .quo_i64 hg hk hx hy oM ?_
  rwa [show ((a : Int) / b) = ((a / b : Nat) : Int) from rfl]
theorem Tr.shrN (a n : Nat) {ky : IntKind} {b : Int} (hg : guardOk ops sl g = true) (hk : okD c d C.N = true) (hx : evIn sl x = some (i64 (a : Int))) (hy : evIn sl y = some (.int ky b)) (hn : b = n) (hr : n ≤ 64)
    (k : Tr C ops rest ⟨(d, i64 ((a / 2 ^ n : Nat) : Int)) :: sl, hp⟩ Q) : Tr C ops ((c, ⟨some d, .binOp .shr xT x y yT, ty, pos, af, g⟩) :: rest) ⟨sl, hp⟩ Q :=
  .bin hg hk hx hy (fun w => by
    subst hn
    simp only [binOp, Op.shift, IntKind.bits]
    rw [if_neg oM, Int.toNat_natCast, Nat.min_eq_left hr]
    have e : ((2 : Int) ^ n) = ((2 ^ n : Nat) : Int) := by simp
    rw [e, Int.fdiv_eq_ediv_of_nonneg _ (Int.natCast_nonneg _)]
    rfl) k
theorem Tr.shlN (a n : Nat) {ky : IntKind} {b : Int} (hg : guardOk ops sl g = true) (hk : okD c d C.N = true) (hx : evIn sl x = some (i64 (a : Int))) (hy : evIn sl y = some (.int ky b)) (hn : b = n) (hn2 : n ≤ 64) (hr : a * 2 ^ n ≤ 9223372036854775807)
    (k : Tr C ops rest ⟨(d, i64 ((a * 2 ^ n : Nat) : Int)) :: sl, hp⟩ Q) : Tr C ops ((c, ⟨some d, .binOp .shl xT x y yT, ty, pos, af, g⟩) :: rest) ⟨sl, hp⟩ Q :=
  .bin hg hk hx hy (fun w => by
    subst hn
    simp only [binOp, Op.shift, IntKind.bits]
    rw [if_neg oM, Int.toNat_natCast, Nat.min_eq_left hn2]
    have e : ((a : Int) * 2 ^ n) = ((a * 2 ^ n : Nat) : Int) := by simp
    rw [e, i64_wrap oM]; rfl) k
theorem Tr.quo_u8 {p : UInt8} {b : Int} (hg : guardOk ops sl g = true) (hk : okD c d C.N = true) (hx : evIn sl x = some (u8 p)) (hy : evIn sl y = some (.int .u8 b)) (n : Nat) (hn : b = n) (h0 : 0 < n)
    (k : Tr C ops rest ⟨(d, u8 (UInt8.ofNat (p.toNat / n))) :: sl, hp⟩ Q) : Tr C ops ((c, ⟨some d, .binOp .quo xT x y yT, ty, pos, af, g⟩) :: rest) ⟨sl, hp⟩ Q :=
  .bin hg hk hx hy (fun w => by
    subst hn
    simp [binOp, Op.intDiv, show ¬ n = 0 by omega]
    exact IntKind.wrap_u8 _) k
end
end Hw
end
