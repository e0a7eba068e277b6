/- Contracts of functions of the loaded program, and the lemmas that they need (part 2). It proves no statement by itself; it has no conditions. -/
import Derived.WalkKit
import Derived.Orders
import Derived.Deep.LoopGhost
import Derived.IntWalk
import Derived.Laws.StructEq
import Derived.Test.YtmddgelpllffoaaGreatRows
import Derived.KernelRfl
import Derived.Laws.MathBits
import Derived.ArgAppend
import Derived.Deep.AppendSrc
import Derived.Lib.Bytealg
import Derived.Lib.BytesEntry
import Derived.Laws.IdiomStrings
import Derived.WideKeyArr2
import Derived.ProofKit
import Derived.OpenShut
import Derived.Deep.Slices
import Derived.Laws.Pointers
import Derived.Laws.Cover3
import Derived.LaidEqlPtr
import Derived.LoopN
import Derived.Laws.Externs
import Derived.RangeFuncLeaves
import Derived.RangeFuncSeq
import Derived.OrdersIn
import Derived.ChangeOld
import Derived.Below
import Derived.Test.YtmddgelpllffoaaGreatS3C1
section
namespace Ed
open Hw Go
set_option linter.unusedVariables false

theorem PF_prm : Prm PF := prm_field
instance : NeZero PF := ⟨by decide⟩
abbrev Fp := Fin PF
/-- a number's residue -/
def fe (n : Nat) : Fp := Fin.ofNat PF n
theorem fe_val (n : Nat) : (fe n).val = n % PF := rfl
theorem fe_mod (n : Nat) : fe (n % PF) = fe n := Fin.ext (by simp [fe_val])
theorem fe_of (a : Fp) : fe a.val = a := Fin.ext (by rw [fe_val]; exact Nat.mod_eq_of_lt a.isLt)
theorem fe_add (m n : Nat) : fe (m + n) = fe m + fe n := Fin.ext (by rw [fe_val, Fin.val_add, fe_val, fe_val, ← Nat.add_mod])
theorem fe_mul (m n : Nat) : fe (m * n) = fe m * fe n := Fin.ext (by rw [fe_val, Fin.val_mul, fe_val, fe_val, ← Nat.mul_mod])
theorem fe_eq {m n : Nat} : fe m = fe n ↔ m % PF = n % PF := ⟨fun h => congrArg Fin.val h, fun h => Fin.ext h⟩
/-- powers -/
def fpow (a : Fp) (e : Nat) : Fp := fe (pwm PF 256 a.val e)
theorem fpow_val (a : Fp) {e : Nat} (h : e < 2 ^ 256) : (fpow a e).val = a.val ^ e % PF := by rw [fpow, fe_val, pwm_eq PF 256 a.val e h, Nat.mod_mod]
theorem fpow_zero (a : Fp) : fpow a 0 = 1 := Fin.ext (by rw [fpow_val a dE]; rfl)
theorem fpow_two {a : Fp} {e : Nat} (h : 2 * e < 2 ^ 256) : fpow a (2 * e) = fpow a e * fpow a e := Fin.ext (by
  rw [fpow_val a h, Fin.val_mul, fpow_val a oM, ← Nat.mul_mod, ← Nat.pow_add, Nat.two_mul])
theorem fpow_succ {a : Fp} {e : Nat} (h : e + 1 < 2 ^ 256) : fpow a (e + 1) = fpow a e * a := Fin.ext (by
  rw [fpow_val a h, Fin.val_mul, fpow_val a oM, Nat.pow_succ, Nat.mul_mod (a.val ^ e % PF), Nat.mod_mod, ← Nat.mul_mod])
theorem fpow_add {a : Fp} {m n : Nat} (h : m + n < 2 ^ 256) : fpow a (m + n) = fpow a m * fpow a n := Fin.ext (by
  rw [fpow_val a h, Fin.val_mul, fpow_val a oM, fpow_val a oM, ← Nat.mul_mod, ← Nat.pow_add])
theorem fpow_mul {a : Fp} {m n : Nat} (hm : m < 2 ^ 256) (hn : n < 2 ^ 256) (h : m * n < 2 ^ 256) : fpow (fpow a m) n = fpow a (m * n) := Fin.ext (by
  rw [fpow_val _ hn, fpow_val a hm, fpow_val a h, ← Nat.pow_mod, ← Nat.pow_mul])
theorem mulpow {a b : Fp} {n : Nat} (hn : n < 2 ^ 256) : fpow (a * b) n = fpow a n * fpow b n := Fin.ext (by
  rw [fpow_val _ hn, Fin.val_mul, Fin.val_mul, fpow_val a hn, fpow_val b hn, ← Nat.mul_mod, ← Nat.pow_mod, Nat.mul_pow])
theorem ferm {a : Fp} (h : a ≠ 0) : fpow a (PF - 1) = 1 := Fin.ext (by
  rw [fpow_val a dE]
  exact PF_prm.fermat fun hd => h (Fin.ext (Nat.eq_zero_of_dvd_of_lt hd a.isLt)))
def finv (a : Fp) : Fp := fpow a (PF - 2)
theorem finv_mul {a : Fp} (h : a ≠ 0) : a * finv a = 1 := by
  have h1 := ferm h
  rw [show PF - 1 = (PF - 2) + 1 from by decide, fpow_succ dE] at h1
  rw [finv]; grind
theorem finv_zero : finv 0 = 0 := by kernel_rfl
def fD : Fp := fe 37095705934669439343138083508754565189542113879843219016388785533085940283555
def fI : Fp := fe 19681161376707505956807079304988542015446066515923890162744021073123829784752
theorem half {z : Fp} (h : z ≠ 0) : fpow (z * z) ((PF - 1) / 2) = 1 := by
  rw [show z * z = fpow z 2 from by rw [show (2 : Nat) = 2 * 1 from rfl, fpow_two dE, show (1 : Nat) = 0 + 1 from rfl, fpow_succ dE, fpow_zero]; grind, fpow_mul dE dE dE]
  exact ferm h
theorem fD_half : (decide (fpow fD ((PF - 1) / 2) = 1)) = false := by kernel_rfl
theorem fI_sq : fI * fI = -1 := by kernel_rfl
theorem fone : (1 : Fp) ≠ 0 := by
  intro h
  have := congrArg Fin.val h
  revert this
  decide
theorem ftwo : (1 : Fp) + 1 ≠ 0 := by
  intro h
  have := congrArg Fin.val h
  revert this
  decide
/-- the curve -/
def cv : Cv Fp where
  d := fD
  i := fI
  inv := finv
  one_ne := fone
  two_ne := ftwo
  mul_inv := fun _ h => finv_mul h
  inv_zero := finv_zero
  i_sq := fI_sq
  nsq := fun z h => by
    by_cases hz : z = 0
    · rw [hz] at h
      have := congrArg Fin.val h
      revert this
      decide
    · have h1 := half hz
      rw [h] at h1
      have := fD_half
      rw [h1] at this
      simp at this

/-- a residue as bytes -/
def fb (x : Fp) : List UInt8 := leb 32 x.val
theorem fb_length (x : Fp) : (fb x).length = 32 := leb_length _ _
theorem le_fb (x : Fp) : le (fb x) = x.val := by rw [fb, le_leb]; exact Nat.mod_eq_of_lt (Nat.lt_trans x.isLt dE)
theorem fe_fb (x : Fp) : fe (le (fb x)) = x := by rw [le_fb, fe_of]
theorem fb_inj {x y : Fp} : fb x = fb y ↔ x = y := ⟨fun h => by rw [← fe_fb x, h, fe_fb], fun h => by rw [h]⟩
theorem fb_fe (n : Nat) : fb (fe n) = leb 32 (n % PF) := rfl
theorem mulF_fe {a b : W5} (ha : a.fit) (hb : b.fit) : fe (mulF a b).v = fe a.v * fe b.v := by rw [← fe_mul]; exact fe_eq.2 (mulF_v ha hb)
theorem fe_four : fe (4 * PF) = 0 := by kernel_rfl
theorem subF_fe {x y : W5} (hx : x.lt 2251799813685248 4503599627370496) (hy : y.lt 2251799813685248 4503599627370496) : fe (subF x y).v = fe x.v - fe y.v := by
  have h := congrArg fe (subF_v hx hy)
  rw [fe_add, fe_add, fe_four] at h
  grind
theorem fe_small (n : UInt64) : fb (fe n.toNat) = leb 32 n.toNat := by
  have := n.toNat_lt
  rw [fb_fe, Nat.mod_eq_of_lt (Nat.lt_trans this dE)]
theorem addF_fe {a b : List UInt8} (ha : a.length = 32) (hb : b.length = 32) : fe (addF (ldN a) (ldN b)).v = fe (le a) + fe (le b) := by rw [addF_v (ldN_lt a) (ldN_lt b), ldN_v ha, ldN_v hb, fe_add]
theorem subL_fe {a b : List UInt8} (ha : a.length = 32) (hb : b.length = 32) : fe (subF (ldN a) (ldN b)).v = fe (le a) - fe (le b) := by rw [subF_fe (ldN_lt a) (ldN_lt b), ldN_v ha, ldN_v hb]
theorem mulL_fe {a b : List UInt8} (ha : a.length = 32) (hb : b.length = 32) : fe (mulF (ldN a) (ldN b)).v = fe (le a) * fe (le b) := by rw [mulF_fe (ldN_lt a).fit (ldN_lt b).fit, ldN_v ha, ldN_v hb]
structure PowI (E : Nat) (X : Fp) (k : Nat) (p : W5) (a b c d : UInt64) : Prop where
  le : k ≤ 256
  fit : p.fit
  val : fe p.v = fpow X (E / 2 ^ (256 - k))
  q : q4 a b c d = E * 2 ^ k % 2 ^ 256
theorem PowI.first {e : List UInt8} (h : e.length = 32) (X : Fp) : PowI (Hw.le e) X 0 ⟨1, 0, 0, 0, 0⟩ (qw e 0) (qw e 1) (qw e 2) (qw e 3) := by
  have hl := le_lt e
  rw [h] at hl
  refine ⟨by decide, ⟨by decide, by decide, by decide, by decide, by decide⟩, ?_, ?_⟩
  · rw [show 256 - 0 = 256 from rfl, Nat.div_eq_of_lt (Nat.lt_of_lt_of_le hl dE), fpow_zero]; rfl
  · rw [q4, qw_le h, Nat.pow_zero, Nat.mul_one, Nat.mod_eq_of_lt (Nat.lt_of_lt_of_le hl dE)]
theorem top_bit (E k : Nat) (hk : k < 256) : E * 2 ^ k % 2 ^ 256 / 2 ^ 255 = E / 2 ^ (255 - k) % 2 := by
  have e : (2 : Nat) ^ 256 = 2 ^ k * (2 ^ (255 - k) * 2) := by rw [← Nat.pow_succ, ← Nat.pow_add]; congr 1; omega
  have e2 : (2 : Nat) ^ 255 = 2 ^ k * 2 ^ (255 - k) := by rw [← Nat.pow_add]; congr 1; omega
  rw [e, e2, Nat.mul_comm E, Nat.mul_mod_mul_left, ← Nat.div_div_eq_div_mul, Nat.mul_div_cancel_left _ (Nat.pow_pos dE)]
  rw [Nat.mod_mul_right_div_self]
theorem next_div (E k : Nat) (hk : k < 256) : E / 2 ^ (256 - (k + 1)) = 2 * (E / 2 ^ (256 - k)) + E / 2 ^ (255 - k) % 2 := by
  rw [show 256 - (k + 1) = 255 - k by omega, show 256 - k = (255 - k) + 1 by omega, Nat.pow_succ, ← Nat.div_div_eq_div_mul]
  omega
section
variable {E : Nat} {X : Fp} {k : Nat} {p x : W5} {a b c d : UInt64}
theorem PowI.bit (h : PowI E X k p a b c d) (hk : k < 256) : (shr64 d 63).toNat = E / 2 ^ (255 - k) % 2 := by
  rw [q4_top a b c d, h.q, ← top_bit E k hk]
theorem PowI.q' (h : PowI E X k p a b c d) : q4 (shl64 a 1) (shl64 b 1 ||| shr64 a 63) (shl64 c 1 ||| shr64 b 63) (shl64 d 1 ||| shr64 c 63) = E * 2 ^ (k + 1) % 2 ^ 256 := by
  have e : E * 2 ^ (k + 1) = 2 * (E * 2 ^ k) := by rw [Nat.pow_succ, ← Nat.mul_assoc, Nat.mul_comm]
  rw [q4_shift, h.q, e]
  generalize E * 2 ^ k = m
  omega
theorem mulF_fit (p x : W5) : (mulF p x).fit := (carF_small _).fit
theorem PowI.even (h : PowI E X k p a b c d) (hE : E < 2 ^ 256) (hk : k < 256) (hb : ¬ (shr64 d 63).toNat = 1) : PowI E X (k + 1) (mulF p p) (shl64 a 1) (shl64 b 1 ||| shr64 a 63) (shl64 c 1 ||| shr64 b 63) (shl64 d 1 ||| shr64 c 63) := by
  have h1 := h.bit hk
  have h2 : E / 2 ^ (256 - (k + 1)) ≤ E := Nat.div_le_self _ _
  refine ⟨hk, mulF_fit _ _, ?_, h.q'⟩
  rw [next_div E k hk] at h2 ⊢
  rw [show E / 2 ^ (255 - k) % 2 = 0 by omega] at h2 ⊢
  rw [mulF_fe h.fit h.fit, h.val, Nat.add_zero, fpow_two oM]
theorem PowI.odd (h : PowI E X k p a b c d) (hE : E < 2 ^ 256) (hk : k < 256) (hx : x.fit) (hX : fe x.v = X) (hb : (shr64 d 63).toNat = 1) : PowI E X (k + 1) (mulF (mulF p p) x) (shl64 a 1) (shl64 b 1 ||| shr64 a 63) (shl64 c 1 ||| shr64 b 63) (shl64 d 1 ||| shr64 c 63) := by
  have h1 := h.bit hk
  have h2 : E / 2 ^ (256 - (k + 1)) ≤ E := Nat.div_le_self _ _
  refine ⟨hk, mulF_fit _ _, ?_, h.q'⟩
  rw [next_div E k hk] at h2 ⊢
  rw [show E / 2 ^ (255 - k) % 2 = 1 by omega] at h2 ⊢
  rw [mulF_fe (mulF_fit _ _) hx, mulF_fe h.fit h.fit, h.val, hX, fpow_succ oM, fpow_two oM]
theorem PowI.last (h : PowI E X 256 p a b c d) : fe p.v = fpow X E := by have := h.val; rwa [Nat.sub_self, Nat.pow_zero, Nat.div_one] at this
end
def onesB (f l : UInt8) : List UInt8 := ((List.replicate 32 255).set 0 f).set 31 l
theorem onesB_length (f l : UInt8) : (onesB f l).length = 32 := by simp [onesB]
theorem ones_step {k : Nat} (h : k < 32) : (List.replicate k (255 : UInt8) ++ List.replicate (32 - k) 0).set k 255 = List.replicate (k + 1) 255 ++ List.replicate (32 - (k + 1)) 0 := by
  rw [show 32 - k = (32 - (k + 1)) + 1 by omega, List.replicate_succ, List.set_append_right _ _ sP]
  simp [List.replicate_succ']
theorem ones_inv : Hw.le (onesB 235 127) = PF - 2 := by kernel_rfl
theorem ones_root : Hw.le (onesB 254 15) = (PF + 3) / 8 := by kernel_rfl
theorem ones_unit : Hw.le (onesB 251 31) = (PF - 1) / 4 := by kernel_rfl
def fRoot1 (X : Fp) : Fp := if fpow X ((PF + 3) / 8) * fpow X ((PF + 3) / 8) = X then fpow X ((PF + 3) / 8) else fpow X ((PF + 3) / 8) * fpow (fe 2) ((PF - 1) / 4)
def fRoot (X : Fp) : Fp × Bool := if fRoot1 X * fRoot1 X = X then ((if (fRoot1 X).val % 2 = 1 then -fRoot1 X else fRoot1 X), true) else (0, false)
theorem fb_zero : fb 0 = List.replicate 32 0 := by kernel_rfl
theorem fb_head (x : Fp) : (fb x).getD 0 0 = UInt8.ofNat x.val := rfl
theorem odd_byte (x : Fp) : decide ((((fb x).getD 0 0 &&& 1).toNat : Int) = 1) = decide (x.val % 2 = 1) := by
  have e : ((fb x).getD 0 0 &&& 1).toNat = x.val % 2 := by
    rw [fb_head, UInt8.toNat_and, show (1 : UInt8).toNat = 2 ^ 1 - 1 from rfl, Nat.and_two_pow_sub_one_eq_mod, UInt8.toNat_ofNat']
    omega
  rw [e]
  congr 1
  exact propext ⟨fun h => by omega, fun h => by omega⟩
theorem fb_dec (x y : Fp) : decide (fb x = fb y) = decide (x = y) := by
  rw [Bool.eq_iff_iff]; simp [fb_inj]
end Ed
end

section
namespace Hw
open Go Go.RowKit
set_option linter.unusedSimpArgs false
set_option linter.unusedVariables false

def shr8 (x : UInt8) (n : Nat) : UInt8 := UInt8.ofNat (x.toNat / 2 ^ n)
theorem shr8_toNat (x : UInt8) (n : Nat) : (shr8 x n).toNat = x.toNat / 2 ^ n := by
  have h : x.toNat / 2 ^ n ≤ x.toNat := Nat.div_le_self _ _
  have := x.toNat_lt
  rw [shr8, UInt8.toNat_ofNat', Nat.mod_eq_of_lt oM]
theorem shr8_eq (x : UInt8) (n : Nat) : ((x.toNat : Int).fdiv (2 ^ n)) = ((shr8 x n).toNat : Int) := by
  rw [shr8_toNat]
  have e : ((2 : Int) ^ n) = ((2 ^ n : Nat) : Int) := by simp
  rw [e, Int.fdiv_eq_ediv_of_nonneg _ (Int.natCast_nonneg _)]
  simp
theorem rem8_eq (x : UInt8) (n : Nat) (h : 0 < n) : ((x.toNat : Int).tmod (n : Int)) = ((UInt8.ofNat (x.toNat % n)).toNat : Int) := by
  have := x.toNat_lt
  have h2 : x.toNat % n ≤ x.toNat := Nat.mod_le _ _
  rw [Int.tmod_eq_emod_of_nonneg (Int.natCast_nonneg _), UInt8.toNat_ofNat', Nat.mod_eq_of_lt oM]
  simp
theorem sub8_eq (x y : UInt8) : IntKind.u8.wrap ((x.toNat : Int) - y.toNat) = ((x - y).toNat : Int) := by
  have := x.toNat_lt; have := y.toNat_lt
  rw [IntKind.wrap_u8, UInt8.toNat_sub]; omega
section
variable {C : Cx} {ops : Array Oper} {rest : List (Nat × Oper)} {sl : List (Nat × Value)} {hp : List Blk} {Q : St → Prop} {c d : Nat} {ty : TypeId} {pos : String} {af : Array Edge} {g : Option (Nat × Bool)}
variable {xT yT : TypeId} {x y : Operand} {a b : Int} {p q : UInt8}
theorem Tr.shr_u8 {ky : IntKind} (hg : guardOk ops sl g = true) (hk : okD c d C.N = true) (hx : evIn sl x = some (u8 p)) (hy : evIn sl y = some (.int ky b)) (n : Nat) (hn : b = n) (hr : n ≤ 8)
    (k : Tr C ops rest ⟨(d, u8 (shr8 p n)) :: sl, hp⟩ Q) : Tr C ops ((c, ⟨some d, .binOp .shr xT x y yT, ty, pos, af, g⟩) :: rest) ⟨sl, hp⟩ Q :=
  .bin hg hk hx hy (fun w => by
    subst hn
    simp only [binOp, Op.shift, IntKind.bits]; rw [if_neg oM, Int.toNat_natCast, Nat.min_eq_left hr, shr8_eq]; rfl) k
theorem Tr.and_u8 (hg : guardOk ops sl g = true) (hk : okD c d C.N = true) (hx : evIn sl x = some (u8 p)) (hy : evIn sl y = some (u8 q))
    (k : Tr C ops rest ⟨(d, u8 (p &&& q)) :: sl, hp⟩ Q) : Tr C ops ((c, ⟨some d, .binOp .and xT x y yT, ty, pos, af, g⟩) :: rest) ⟨sl, hp⟩ Q :=
  .bin hg hk hx hy (fun w => congrArg (fun n => Result.ok (Value.int .u8 n) w) (bits8 (· &&& ·) (· &&& ·) (fun _ _ => rfl) p q)) k
theorem Tr.rem_u8 (hg : guardOk ops sl g = true) (hk : okD c d C.N = true) (hx : evIn sl x = some (u8 p)) (hy : evIn sl y = some (.int .u8 b)) (n : Nat) (hn : b = n) (h0 : 0 < n)
    (k : Tr C ops rest ⟨(d, u8 (UInt8.ofNat (p.toNat % n))) :: sl, hp⟩ Q) : Tr C ops ((c, ⟨some d, .binOp .rem xT x y yT, ty, pos, af, g⟩) :: rest) ⟨sl, hp⟩ Q :=
  .bin hg hk hx hy (fun w => by
    subst hn
    simp [binOp, Op.intDiv, show ¬ n = 0 by omega]
    exact rem8_eq p n h0) k
theorem Tr.sub_u8 (hg : guardOk ops sl g = true) (hk : okD c d C.N = true) (hx : evIn sl x = some (u8 p)) (hy : evIn sl y = some (u8 q))
    (k : Tr C ops rest ⟨(d, u8 (p - q)) :: sl, hp⟩ Q) : Tr C ops ((c, ⟨some d, .binOp .sub xT x y yT, ty, pos, af, g⟩) :: rest) ⟨sl, hp⟩ Q :=
  .bin hg hk hx hy (fun w => by simp only [binOp, Op.intArith, sub8_eq]; rfl) k
end
end Hw
end

section
namespace Hw
open Go Go.RowKit
set_option linter.unusedSimpArgs false
set_option linter.unusedVariables false

def By (P : Program) (T : TypeId) (n : Nat) : Prop := (P.info? T).map (·.bytes) = some n

theorem Ret.push {w : World} (cs : List Value) (T : TypeId) : Ret [] [blk w.heap.size cs T] w { w with heap := w.heap.push (.cells cs.toArray T) } := by
  refine ⟨⟨rfl, rfl, rfl, by simp, fun k hk _ => ?_⟩, fun b hb => ?_, by simp, fun b hb => ?_⟩
  · simp only [Array.getElem?_push]
    rw [if_neg oM]
  · obtain rfl := List.mem_singleton.1 hb
    exact ⟨cs.toArray, (0, 0), by simp, by simp, by simp, free0⟩
  · obtain rfl := List.mem_singleton.1 hb
    exact .inl (Nat.le_refl _)
section
variable {C : Cx} {ops : Array Oper} {rest : List (Nat × Oper)} {sl : List (Nat × Value)} {hp : List Blk} {Q : St → Prop} {c d : Nat} {ty : TypeId} {pos : String} {af : Array Edge} {g : Option (Nat × Bool)} {op : Op}

theorem Tr.newB {cs : List Value} {T : TypeId} (val : Nat → Value) (hk : okN c d C.N = true) (hn : Known sl ⟨some d, op, ty, pos, af, none⟩)
    (hr : ∀ ρ, Fits sl ⟨some d, op, ty, pos, af, none⟩ ρ → ∀ w, (execOp ρ ⟨some d, op, ty, pos, af, none⟩).run C.P w = .ok (.value (val w.heap.size)) { w with heap := w.heap.push (.cells cs.toArray T) })
    (k : ∀ n, Tr C ops rest ⟨(d, val n) :: sl, blk n cs T :: hp⟩ Q) : Tr C ops ((c, ⟨some d, op, ty, pos, af, none⟩) :: rest) ⟨sl, hp⟩ Q := by
  simp only [okN, Bool.and_eq_true, Bool.or_eq_true] at hk
  exact .new val cs T (hk.1.imp nbeq' nbeq') rfl (dst_some (nblt hk.2)) ⟨hn, hr⟩ fun n _ _ => k n
theorem Tr.growB {cs : List Value} {T : TypeId} (val : Nat → Value) (hg : guardOk ops sl g = true) (hk : okG c d C.N = true) (hn : Known sl ⟨some d, op, ty, pos, af, g⟩)
    (hr : ∀ ρ, Fits sl ⟨some d, op, ty, pos, af, g⟩ ρ → ∀ w, (execOp ρ ⟨some d, op, ty, pos, af, g⟩).run C.P w = .ok (.value (val w.heap.size)) { w with heap := w.heap.push (.cells cs.toArray T) })
    (k : ∀ n, Tr C ops rest ⟨(d, val n) :: sl, blk n cs T :: hp⟩ Q) : Tr C ops ((c, ⟨some d, op, ty, pos, af, g⟩) :: rest) ⟨sl, hp⟩ Q := by
  simp only [okG, Bool.and_eq_true, Bool.or_eq_true] at hk
  refine Tr.grow (ρ := Nat) (fun _ => True) val (fun n => [blk n cs T]) (hk.1.imp nbeq' nbeq') (wantS_of_guardOk hg) (dst_some (nblt hk.2)) ⟨hn, fun l hl => ?_, fun a w hf hh => ?_⟩ (fun n _ => k n)
  · obtain ⟨n, _, hf⟩ := fresh_is 0 l
    refine ⟨n, trivial, ?_⟩
    simp only [List.singleton_append, List.map_cons, List.nodup_cons]
    exact ⟨fun h => by obtain ⟨b, hb, e⟩ := List.mem_map.1 h; exact hf b hb e, hl⟩
  · unfold Oper.wp
    rw [hr a.eval hf w]
    exact ⟨w.heap.size, trivial, rfl, Ret.push cs T⟩

theorem row_eq (n : Nat) (z : Value) (hz : z.cells = #[z]) : (Array.range n).map (fun j => z.cells[j % z.cells.size]!) = Array.replicate n z := by
  apply Array.ext
  · simp
  · intro i h1 h2
    simp [hz, Nat.mod_one]

theorem Tr.mkSlice {T E : TypeId} {x y : Operand} {kx ky : IntKind} {z : Value} {by' : Nat} (n : Nat) (hg : guardOk ops sl g = true) (hk : okG c d C.N = true) (hx : evIn sl x = some (.int kx (n : Int))) (hy : evIn sl y = some (.int ky (n : Int)))
    (hu : C.P.underlying T = some (.slice E)) (hs : Sz C.P E 1) (hz : Zr C.P E z) (hb : By C.P E by') (hc : z.cells = #[z]) (h0 : 0 < n) (hn : n ≤ 1000000) (hby : by' ≤ 64)
    (k : ∀ m, Tr C ops rest ⟨(d, .slice (some ⟨m, 0, none⟩) n n) :: sl, blk m (List.replicate n z) E :: hp⟩ Q) : Tr C ops ((c, ⟨some d, .makeSlice T x y, ty, pos, af, g⟩) :: rest) ⟨sl, hp⟩ Q := by
  refine Tr.growB (fun m => .slice (some ⟨m, 0, none⟩) n n) hg hk (known2 hx hy) (fun ρ hf w => ?_) k
  have h1 := hf x (by simp [Op.operands]); rw [hx] at h1
  have h2 := hf y (by simp [Op.operands]); rw [hy] at h2
  simp only [Option.some.injEq] at h1 h2
  have rs := run_sz hs
  unfold Sz at hs; unfold Zr at hz; unfold By at hb
  cases hi : C.P.info? E with
  | none => rw [hi] at hs; simp at hs
  | some i =>
    rw [hi] at hs hz hb
    simp only [Option.map_some, Option.some.injEq, Option.bind_some] at hs hz hb
    have wn : IntKind.i64.wrap (n : Int) = n := i64_wrap oM
    have hm : by' * n ≤ 64 * 1000000 := Nat.mul_le_mul hby hn
    have hm2 : ((by' : Int) * n) = ((by' * n : Nat) : Int) := by simp
    have n1 : ¬ ((n : Int) < 0) := by omega
    have n2 : ¬ (281474976710656 < (i.bytes : Int) * n) := by rw [hb, hm2]; omega
    have n5 : ¬ (140737488355328 < n * i.bytes) := by rw [hb, Nat.mul_comm]; omega
    have n6 : ¬ (n = 0) := by omega
    simp [execOp, Instr.makeSlice, run_underlying hu, asInt, asIntOf, typeInfo, hi, rs, zeroValue, hz, ← h1, ← h2, wn, n1, n2, n5, n6, newRow, newObj, askRoom, roomBytes, row_eq n z hc]
    simp [Sem.run]

variable {x lo hi : Operand} {b o n cap j : Nat} {T E : TypeId} {kl : IntKind} {l : Int}
end
end Hw
end

section
namespace Hw
open Go Go.RowKit
set_option linter.unusedSimpArgs false
set_option linter.unusedVariables false

theorem rem_here {B : Blk} {l : List Blk} : (B :: l).Perm (B :: l) := List.Perm.refl _
theorem rem_there {B x : Blk} {l l' : List Blk} (h : l.Perm (B :: l')) : (x :: l).Perm (B :: x :: l') := (List.Perm.cons x h).trans (List.Perm.swap B x l')

theorem Ret.pushD {w : World} (cs : List Value) (full : Array Value) (T : TypeId) (m : Nat) (hm : full.size = m) (hp : cs <+: full.toList) : Ret [] [⟨w.heap.size, cs, T, m⟩] w (w.drew.alloc (.cells full T)) := by
  refine ⟨⟨rfl, rfl, rfl, by show w.heap.size ≤ (w.heap.push _).size; simp, fun k hk _ => ?_⟩, fun b hb => ?_, by simp, fun b hb => ?_⟩
  · show (w.heap.push _)[k]? = w.heap[k]?
    rw [Array.getElem?_push, if_neg oM]
  · obtain rfl := List.mem_singleton.1 hb
    exact ⟨full, (0, 0), by show (w.heap.push _)[w.heap.size]? = _; simp, hm, hp, free0⟩
  · obtain rfl := List.mem_singleton.1 hb
    exact .inl (Nat.le_refl _)

theorem zeroCells_one (z : Value) (hz : z.cells = #[z]) (n : Nat) : Builtin.zeroCells z.cells n = (List.replicate n z).toArray := by
  unfold Builtin.zeroCells
  apply Array.ext
  · simp [hz]
  · intro i h1 h2
    simp [hz, Nat.mod_one]

section
variable {C : Cx} {ops : Array Oper} {rest : List (Nat × Oper)} {sl : List (Nat × Value)} {hp hp' : List Blk} {Q : St → Prop} {c d : Nat} {ty : TypeId} {pos : String} {af : Array Edge} {g : Option (Nat × Bool)}

theorem Tr.appendCore {x y : Operand} {b n cap m size cm : Nat} {T tx E : TypeId} {v : Value} {zs : Nat → Array Value} {olds news : List Value} (hg : guardOk ops sl g = true) (hc : Nat.beq c 4 = true) (hd : Nat.blt d C.N = true)
    (hx : evIn sl x = some (.slice (some ⟨b, 0, none⟩) n cap)) (hy : evIn sl y = some v) (hzs : ∀ k, (zs k).size = k * size)
    (hp1 : hp.Perm (⟨b, olds, E, cm⟩ :: hp')) (hcm : cm = cap * size) (hol : olds.length = n * size) (hnl : news.length = m * size) (hnc : n ≤ cap)
    (hroom : ∀ w full fr, HRep C hp w → w.heap[b]? = some (.cells full E fr) → full.size = cap * size → Free fr (cap * size) → n + m ≤ cap → (Builtin.append_ #[T, tx] ty #[.slice (some ⟨b, 0, none⟩) n cap, v]).run C.P w = .ok (.slice (some ⟨b, 0, none⟩) (n + m) cap) (setBlk w b (putAll full (n * size) news) E fr))
    (hgrow : ∀ w, HRep C hp w → cap < n + m → (Builtin.append_ #[T, tx] ty #[.slice (some ⟨b, 0, none⟩) n cap, v]).run C.P w = .ok (.slice (some ⟨w.heap.size, 0, none⟩) (n + m) (grownCap w (n + m) cap E)) (w.drew.alloc (.cells ((olds ++ news).toArray ++ zs (grownCap w (n + m) cap E - (n + m))) E)))
    (k : ∀ q cap', n + m ≤ cap' → Tr C ops rest ⟨(d, .slice (some ⟨q, 0, none⟩) (n + m) cap') :: sl, ⟨q, olds ++ news, E, cap' * size⟩ :: hp'⟩ Q) :
    Tr C ops ((c, ⟨some d, .call { callee := .builtin .append, args := #[x, y], argTypes := #[T, tx] }, ty, pos, af, g⟩) :: rest) ⟨sl, hp⟩ Q := by
  subst hcm
  refine Tr.act (ρ := Nat × Nat) (fun r => n + m ≤ r.2) (fun r => .slice (some ⟨r.1, 0, none⟩) (n + m) r.2) (fun r => ⟨r.1, olds ++ news, E, r.2 * size⟩ :: hp') (nbeq' hc) (wantS_of_guardOk hg) (dst_some (nblt hd))
    ⟨by simpa [Known, Op.operands, Call.operands] using known2 hx hy, fun a w hf hh => ?_⟩ (fun r hr => k r.1 r.2 hr)
  have h1 := hf x (by simp [Op.operands, Call.operands]); rw [hx] at h1
  have h2 := hf y (by simp [Op.operands, Call.operands]); rw [hy] at h2
  simp only [Option.some.injEq] at h1 h2
  have hh' := hh.perm hp1
  obtain ⟨full, fr, hbk⟩ := hh'.cells _ List.mem_cons_self
  have hlt := (hh'.cells _ List.mem_cons_self).lt
  have hnm : (n + m) * size = n * size + m * size := Nat.add_mul _ _ _
  unfold Oper.wp
  rcases Nat.lt_or_ge cap (n + m) with hr | hr
  · have hex : (execOp a.eval ⟨some d, .call { callee := .builtin .append, args := #[x, y], argTypes := #[T, tx] }, ty, pos, af, g⟩).run C.P w = .ok (.value (.slice (some ⟨w.heap.size, 0, none⟩) (n + m) (grownCap w (n + m) cap E))) (w.drew.alloc (.cells ((olds ++ news).toArray ++ zs (grownCap w (n + m) cap E - (n + m))) E)) := by
      simp [execOp, resolve, invoke, builtin, ← h1, ← h2, hgrow w hh hr]
    rw [hex]
    have hge := grownCap_ge w (n + m) cap E
    refine ⟨(w.heap.size, grownCap w (n + m) cap E), hge, rfl, ?_⟩
    have hnd : (hp'.map (·.n)).Nodup := by
      have := hh'.nodup
      simp only [List.map_cons, List.nodup_cons] at this
      exact this.2
    refine HRep.grown (out := [_]) (hh'.sub (fun x hx => List.mem_cons_of_mem _ hx) hnd) (Ret.pushD _ _ _ _ ?_ ?_)
    · have e : grownCap w (n + m) cap E * size = (n + m) * size + (grownCap w (n + m) cap E - (n + m)) * size := by rw [← Nat.add_mul]; congr 1; omega
      simp only [Array.size_append, List.size_toArray, List.length_append, hzs, hol, hnl, e, hnm]
    · simp
  · have hex : (execOp a.eval ⟨some d, .call { callee := .builtin .append, args := #[x, y], argTypes := #[T, tx] }, ty, pos, af, g⟩).run C.P w = .ok (.value (.slice (some ⟨b, 0, none⟩) (n + m) cap)) (setBlk w b (putAll full (n * size) news) E fr) := by
      simp [execOp, resolve, invoke, builtin, ← h1, ← h2, hroom w full fr hh hbk.heap hbk.size hbk.free hr]
    rw [hex]
    have hms : (n + m) * size ≤ cap * size := Nat.mul_le_mul_right _ hr
    have hsz := hbk.size
    simp only at hsz
    refine ⟨(b, cap), hr, rfl, hh'.upd (.head (cs := olds)) hlt (by rw [putAll_size]; exact hsz) ?_ hbk.free⟩
    refine prefix_iff.2 fun j u hj => ?_
    rw [Array.getElem?_toList, putAll_get _ _ _ _ oM]
    rcases Nat.lt_or_ge j (n * size) with hjn | hjn
    · rw [if_neg oM]
      rw [List.getElem?_append_left oM] at hj
      simpa using prefix_iff.1 hbk.pre j u hj
    · rw [List.getElem?_append_right oM, hol] at hj
      have : j - n * size < news.length := by
        rcases Nat.lt_or_ge (j - n * size) news.length with h | h
        · exact h
        · rw [List.getElem?_eq_none h] at hj; cases hj
      rw [if_pos oM]
      exact hj

/-- whatever it yields, appended to an own row -/
theorem Tr.appendOwn {x y : Operand} {b n cap m size cm by' : Nat} {T tx E : TypeId} {v z : Value} {olds news : List Value} (hg : guardOk ops sl g = true) (hc : Nat.beq c 4 = true) (hd : Nat.blt d C.N = true)
    (hx : evIn sl x = some (.slice (some ⟨b, 0, none⟩) n cap)) (hy : evIn sl y = some v) (hu : C.P.underlying T = some (.slice E)) (hs : Sz C.P E size) (hz : Zr C.P E z) (hb : By C.P E by') (hzc : z.cells.size = size)
    (hsrc : ∀ w, HRep C hp w → Src C.P size tx v m news w) (hcell : ∀ u ∈ news, isCell u = true)
    (hp1 : hp.Perm (⟨b, olds, E, cm⟩ :: hp')) (hcm : cm = cap * size) (hol : olds.length = n * size) (hnc : n ≤ cap) (hbig : n + m ≤ 1000000) (hfit : (n + m) * by' ≤ 140737488355328)
    (hnl : news.length = m * size)
    (k : ∀ q cap', n + m ≤ cap' → Tr C ops rest ⟨(d, .slice (some ⟨q, 0, none⟩) (n + m) cap') :: sl, ⟨q, olds ++ news, E, cap' * size⟩ :: hp'⟩ Q) :
    Tr C ops ((c, ⟨some d, .call { callee := .builtin .append, args := #[x, y], argTypes := #[T, tx] }, ty, pos, af, g⟩) :: rest) ⟨sl, hp⟩ Q := by
  unfold Sz at hs; unfold Zr at hz; unfold By at hb
  cases hi : C.P.info? E with
  | none => rw [hi] at hs; simp at hs
  | some i =>
    rw [hi] at hs hz hb
    simp only [Option.map_some, Option.some.injEq, Option.bind_some] at hs hz hb
    subst hs
    refine Tr.appendCore (zs := fun k => Builtin.zeroCells z.cells k) hg hc hd hx hy (fun k => by simp [Builtin.zeroCells, hzc]) hp1 hcm hol hnl hnc (fun w full fr hh hbk hsz hfr hr => ?_) (fun w hh hr => ?_) k
    · have hS := hsrc w hh
      have hms : (n + m) * i.size ≤ cap * i.size := Nat.mul_le_mul_right _ hr
      have hnm : (n + m) * i.size = n * i.size + m * i.size := Nat.add_mul _ _ _
      have hst := run_storeCells (P := C.P) (b := b) (o := n * i.size) news 0 w full hbk oM (by rw [hsz]; exact hfr) hcell
      simp only [Nat.add_zero] at hst
      rcases hS.kind with ⟨e', hk⟩ | hk <;> simp [Builtin.append_, run_underlying hu, run_underlying hk, Go.sizeOf, typeInfo, hi, hS.len, hr, hS.cells, add_addr, hst]
    · have hS := hsrc w hh
      have hold : (Builtin.firstCells i.size n (.slice (some ⟨b, 0, none⟩) n cap)).run C.P w.drew = .ok olds.toArray w.drew := by
        refine run_firstCells_some w.drew i.size n ⟨b, 0, none⟩ n cap olds hol (fun j u hj => ?_)
        rw [add_addr]
        have := ((hh.perm hp1).cells _ List.mem_cons_self).cell (o := 0 + j) (v := u) (by simpa using hj)
        simpa using this
      exact run_append_grow_src (P := C.P) w T tx ty E i z hu hi hz (some ⟨b, 0, none⟩) n cap olds hold v m news hS hr oM (growslice_fits hr (by rw [hb]; exact hfit))

theorem one_of_cell {u : Value} (h : isCell u = true) : u.oneCell' = true := by cases u <;> simp [isCell] at h <;> rfl

/-- made zeros, elements of one cell, appended to an own row -/
theorem Tr.appendMade {x y : Operand} {b n cap m cm by' : Nat} {T tx E : TypeId} {kt kv : IntKind} {z : Value} {olds : List Value} {mi : Int} (hg : guardOk ops sl g = true) (hc : Nat.beq c 4 = true) (hd : Nat.blt d C.N = true)
    (hx : evIn sl x = some (.slice (some ⟨b, 0, none⟩) n cap)) (hy : evIn sl y = some (.int kv mi)) (hmi : mi = m) (hu : C.P.underlying T = some (.slice E)) (hut : C.P.underlying tx = some (.int kt)) (hs : Sz C.P E 1) (hz : Zr C.P E z) (hb : By C.P E by') (hzc : z.cells = #[z]) (hcell : isCell z = true)
    (hp1 : hp.Perm (⟨b, olds, E, cm⟩ :: hp')) (hcm : cm = cap) (hol : olds.length = n) (hnc : n ≤ cap) (hbig : n + m ≤ 1000000) (hby : by' ≤ 64)
    (k : ∀ q cap', n + m ≤ cap' → Tr C ops rest ⟨(d, .slice (some ⟨q, 0, none⟩) (n + m) cap') :: sl, ⟨q, olds ++ List.replicate m z, E, cap'⟩ :: hp'⟩ Q) :
    Tr C ops ((c, ⟨some d, .call { callee := .builtin .append, args := #[x, y], argTypes := #[T, tx] }, ty, pos, af, g⟩) :: rest) ⟨sl, hp⟩ Q := by
  subst hmi
  unfold Sz at hs; unfold Zr at hz; unfold By at hb
  cases hi : C.P.info? E with
  | none => rw [hi] at hs; simp at hs
  | some i =>
    rw [hi] at hs hz hb
    simp only [Option.map_some, Option.some.injEq, Option.bind_some] at hs hz hb
    have wm : IntKind.i64.wrap (m : Int) = m := i64_wrap oM
    have hm : by' * m ≤ 64 * 1000000 := Nat.mul_le_mul hby oM
    have hm2 : (m : Int) * by' = ((by' * m : Nat) : Int) := by rw [Int.mul_comm]; simp
    have n1 : ¬ ((m : Int) < 0) := by omega
    have n2 : ¬ (281474976710656 < (m : Int) * i.bytes) := by rw [hb, hm2]; omega
    have rz := zeroCells_one z hzc
    refine Tr.appendCore (size := 1) (news := List.replicate m z) (m := m) (zs := fun k => Builtin.zeroCells z.cells k) hg hc hd hx hy (fun k => by simp [Builtin.zeroCells, hzc]) hp1 oM oM sP hnc (fun w full fr hh hbk hsz hfr hr => ?_) (fun w hh hr => ?_) (fun q cap' h => by simpa using k q cap' h)
    · have hst := run_storeCells (P := C.P) (b := b) (o := n) (List.replicate m z) 0 w full hbk (by simp; omega) (by rw [hsz]; exact hfr) (fun u hu => by rw [List.eq_of_mem_replicate hu]; exact hcell)
      simp only [Nat.add_zero] at hst
      by_cases h0 : m = 0
      · subst h0
        simp [storeCells] at hst
        have w0 : IntKind.i64.wrap 0 = 0 := by decide
        simp [Builtin.append_, run_underlying hu, run_underlying hut, Go.sizeOf, typeInfo, hi, hs, asInt, asIntOf, w0, n1, n2, hnc, add_addr, storeCells, putAll]
        exact hst
      · simp [Builtin.append_, run_underlying hu, run_underlying hut, Go.sizeOf, typeInfo, hi, hs, asInt, asIntOf, wm, n1, n2, hr, add_addr, zeroValue, hz, h0, rz, hst]
    · have hold : (Builtin.firstCells 1 n (.slice (some ⟨b, 0, none⟩) n cap)).run C.P w.drew = .ok olds.toArray w.drew := by
        refine run_firstCells_some w.drew 1 n ⟨b, 0, none⟩ n cap olds oM (fun j u hj => ?_)
        rw [add_addr]
        have := ((hh.perm hp1).cells _ List.mem_cons_self).cell (o := 0 + j) (v := u) (by simpa using hj)
        simpa using this
      have h0 : ¬ m = 0 := by omega
      have hn : ¬ (n + m ≤ cap) := by omega
      have hfit := growslice_fits (bytes := i.bytes) hr (by
        have : (n + m) * i.bytes ≤ 1000000 * 64 := Nat.mul_le_mul hbig oM
        omega)
      have h63' : ¬ (9223372036854775807 < ((n : Int) + (m : Int))) := by omega
      have h48' : ¬ (281474976710656 < Builtin.nextslicecap (n + m) cap * i.bytes) := by omega
      simp [Builtin.append_, run_underlying hu, run_underlying hut, Go.sizeOf, typeInfo, hi, hs, asInt, asIntOf, wm, n1, n2, hn, add_addr, zeroValue, hz, h0, rz, h63', h48', Question.forced, hold, newRow, grownCap]
      congr 2
      apply Array.ext'
      simp [List.append_assoc]
end
end Hw
end

section
namespace Hw
open Go Go.RowKit
set_option linter.unusedSimpArgs false
set_option linter.unusedVariables false

theorem two {c : Bool} {K : Bool → Prop} {G : Prop} (rule : ∀ r, c = r → K r → G) (t : c = true → K true) (f : c = false → K false) : G := by
  cases h : c
  · exact rule false h (f h)
  · exact rule true h (t h)
theorem nd_t {p : Prop} [Decidable p] (h : (!decide p) = true) : ¬ p := by simpa using h
theorem nd_f {p : Prop} [Decidable p] (h : (!decide p) = false) : p := by simpa using h

/-- a slice's header -/
structure Sl where
  p : Option Addr
  n : Nat
  c : Nat
def Sl.v (s : Sl) : Value := .slice s.p s.n s.c
def Sl.nil : Sl := ⟨none, 0, 0⟩
/-- the cells behind an address that may be nil -/
def SeesP (w : World) (p : Option Addr) (cs : List Value) : Prop := ∀ (j : Nat) (v : Value), cs[j]? = some v → ∃ b o, p = some ⟨b, o, none⟩ ∧ w.cell? ⟨b, o + j, none⟩ = some v
theorem SeesP.of {w : World} {b o : Nat} {cs : List Value} (h : Sees w b o cs) : SeesP w (some ⟨b, o, none⟩) cs := fun j v hj => ⟨b, o, rfl, h j v hj⟩
theorem SeesP.nil {w : World} {p : Option Addr} : SeesP w p [] := fun j v hj => by simp at hj
theorem SeesP.at {w : World} {p : Option Addr} {cs : List Value} (h : SeesP w p cs) (hl : 0 < cs.length) : ∃ b o, p = some ⟨b, o, none⟩ ∧ Sees w b o cs := by
  obtain ⟨b, o, rfl, _⟩ := h 0 _ (List.getElem?_eq_getElem hl)
  refine ⟨b, o, rfl, fun j v hj => ?_⟩
  obtain ⟨b', o', e, hc⟩ := h j v hj
  simp only [Option.some.injEq, Addr.mk.injEq] at e
  obtain ⟨rfl, rfl, _⟩ := e
  exact hc
theorem seesP_ext {C : Cx} {hp : List Blk} {w : World} {p : Option Addr} {cs : List Value} (h : HRep C hp w) (hl : C.lent = []) (hs : SeesP C.W0 p cs) : SeesP w p cs := fun j v hj => by
  obtain ⟨b, o, rfl, hc⟩ := hs j v hj
  exact ⟨b, o, rfl, h.keeps.cell (by rw [hl]; simp) hc⟩

def str (l : List UInt8) : Value := .string ⟨l.toArray⟩

section
variable {C : Cx} {ops : Array Oper} {rest : List (Nat × Oper)} {sl : List (Nat × Value)} {hp : List Blk} {Q : St → Prop} {c d : Nat} {ty : TypeId} {pos : String} {af : Array Edge} {g : Option (Nat × Bool)}

theorem Tr.callB {f : Operand} {fid : FuncId} {ars : List Operand} {ats : Array TypeId} {vs : List Value} {Pre : World → Prop} {b : Bool} (hg : guardOk ops sl g = true) (hk : okG c d C.N = true) (hfn : evIn sl f = some (.func (.func fid) #[] #[])) (hargs : evs sl ars = some vs) (hb : Body C.P fid)
    (hc : Meets C.P fid vs [] Pre fun v out => v = .bool b ∧ out = []) (hpre : ∀ w, HRep C hp w → Pre w)
    (kt : b = true → Tr C ops rest ⟨(d, .bool true) :: sl, hp⟩ Q) (kf : b = false → Tr C ops rest ⟨(d, .bool false) :: sl, hp⟩ Q) : Tr C ops ((c, ⟨some d, .call ⟨.value f, ars.toArray, ats⟩, ty, pos, af, g⟩) :: rest) ⟨sl, hp⟩ Q := by
  cases b
  · exact .callV hg hk hfn hargs hb hc hpre (kf rfl)
  · exact .callV hg hk hfn hargs hb hc hpre (kt rfl)

/-- an element's place, of a slice whose address is told apart -/
theorem Tr.idxSlP {xT E : TypeId} {x y : Operand} {ki : IntKind} {i : Int} {p : Option Addr} {b o n cap : Nat} (sz : Nat) (hg : guardOk ops sl g = true) (hk : okD c d C.N = true) (hx : evIn sl x = some (.slice p n cap)) (hp' : p = some ⟨b, o, none⟩) (hy : evIn sl y = some (.int ki i)) (hu : C.P.underlying xT = some (.slice E)) (hs : Sz C.P E sz) (j : Nat) (hj : i = j) (hlt : j < n)
    (k : Tr C ops rest ⟨(d, ptr b (o + j * sz)) :: sl, hp⟩ Q) : Tr C ops ((c, ⟨some d, .indexAddr xT x y, ty, pos, af, g⟩) :: rest) ⟨sl, hp⟩ Q := by
  subst hp'
  exact .idxSl sz hg hk hx hy hu hs j hj hlt k

theorem Tr.toStr {T D E : TypeId} {x : Operand} {p : Option Addr} {n cap : Nat} {l : List UInt8} (hg : guardOk ops sl g = true) (hk : okL c d C.N = true) (hx : evIn sl x = some (.slice p n cap)) (hu : C.P.underlying T = some (.slice E)) (he : C.P.underlying E = some (.int .u8)) (hd : C.P.underlying D = some .string)
    (hsee : ∀ w, HRep C hp w → SeesP w p (bytesV l)) (hl : l.length = n)
    (k : Tr C ops rest ⟨(d, str l) :: sl, hp⟩ Q) : Tr C ops ((c, ⟨some d, .convert T D x, ty, pos, af, g⟩) :: rest) ⟨sl, hp⟩ Q :=
  .ld hg hk ⟨known1 hx, fun ρ hf w hh => by
    have h1 := hf x (by simp [Op.operands]); rw [hx] at h1
    simp only [Option.some.injEq] at h1
    have hS := hsee w hh
    subst hl
    cases p with
    | none =>
      have : l = [] := by
        cases l with
        | nil => rfl
        | cons a l => obtain ⟨b, o, e, _⟩ := hS 0 (u8 a) (by simp [bytesV]); cases e
      subst this
      have this : (convert T D (.slice none 0 cap)).run C.P w = .ok (str []) w := by rw [run_convert_bytes_string w T D E none 0 cap hu he hd]; rfl
      simp only [execOp, ← h1, Sem.run_bind, List.length_nil, this, Result.andThen]
      rfl
    | some a =>
      have := run_convert_bytes_back (P := C.P) w T D E a cap l hu he hd (fun j hj => by
        obtain ⟨b, o, e, hc⟩ := hS j (u8 l[j]) (by simp [bytesV, hj])
        simp only [Option.some.injEq] at e
        subst e
        rw [add_addr]; exact hc)
      simp only [execOp, ← h1, Sem.run_bind, this, Result.andThen]
      rfl⟩ k

theorem toList_mk (a : List UInt8) : (ByteArray.mk a.toArray).toList = a := by rw [ByteArray.toList_eq]

end

theorem run_part1 {P : Program} {w : World} {T : TypeId} {td : TypeDesc} {xs : List Value} {o : Nat} {v : Value} (hu : P.underlying T = some td) (hp : plainDesc td = true) (hx : xs[o]? = some v) : (part T xs.toArray o).run P w = .ok v w := by
  simp [part, run_isAgg_plain hu hp, hx]
theorem run_partN {P : Program} {w : World} {T : TypeId} {td : TypeDesc} {xs row : List Value} {o n : Nat} (hu : P.underlying T = some td) (hp : plainDesc td = false) (hs : Sz P T n) (hr : (xs.drop o).take n = row) : (part T xs.toArray o).run P w = .ok (agg row) w := by
  subst hr
  simp [part, run_isAgg_arr hu hp, run_sz hs]
theorem eqFields_step {P : Program} {w : World} {d : Nat} {xs ys : Array Value} {f : Field} {fs : List Field} {u v : Value} {r s : Bool} (hn : f.name ≠ "_") (hu : (part f.type xs f.offset).run P w = .ok u w) (hv : (part f.type ys f.offset).run P w = .ok v w)
    (he : (Op.equalIn d f.type u v).run P w = .ok r w) (hs : (Op.eqFields d xs ys fs).run P w = .ok s w) : (Op.eqFields d xs ys (f :: fs)).run P w = .ok (r && s) w := by
  unfold Op.eqFields
  rw [if_pos hn]
  simp only [Sem.run_bind, hu, hv, he, Result.andThen_ok]
  cases r
  · simp
  · simpa using hs
theorem eqFields_nil {P : Program} {w : World} {d : Nat} {xs ys : Array Value} : (Op.eqFields d xs ys []).run P w = .ok true w := by simp [Op.eqFields]
theorem eq_bytesA {P : Program} {w : World} {d n : Nat} {T E : TypeId} {a b : List UInt8} (ht : P.underlying T = some (.array n E)) (he : P.underlying E = some (.int .u8)) (hs : Sz P E 1) (ha : a.length = n) (hb : b.length = n) : (Op.equalIn (d + 2) T (agg (bytesV a)) (agg (bytesV b))).run P w = .ok (decide (a = b)) w := by
  have := run_equalIn_ints (P := P) (k := .u8) w d ht he hs (a.map fun b => (b.toNat : Int)) (b.map fun b => (b.toNat : Int)) (by simp [ha]) (by simp [hb])
  rw [← bytes_ints, ← bytes_ints] at this
  rw [this]
  simp only [bytes_inj]
section
variable {C : Cx} {ops : Array Oper} {rest : List (Nat × Oper)} {sl : List (Nat × Value)} {hp : List Blk} {Q : St → Prop} {c d : Nat} {ty : TypeId} {pos : String} {af : Array Edge} {g : Option (Nat × Bool)} {xT yT : TypeId} {x y : Operand} {xs ys : List Value} {q : Bool}
theorem Tr.eql_rec (hg : guardOk ops sl g = true) (hk : okD c d C.N = true) (hx : evIn sl x = some (agg xs)) (hy : evIn sl y = some (agg ys)) (hm : C.P.eqGuardType C.P.depth xT = false)
    (he : ∀ w, (Op.equalIn 10000 xT (agg xs) (agg ys)).run C.P w = .ok q w) {r : Bool} (hr : q = r)
    (k : Tr C ops rest ⟨(d, .bool r) :: sl, hp⟩ Q) : Tr C ops ((c, ⟨some d, .binOp .eql xT x y yT, ty, pos, af, g⟩) :: rest) ⟨sl, hp⟩ Q :=
  .binAny hg hk hx hy (fun w => run_eqGuard_agg w .eql xT x y _ _ hm) (fun w => by subst hr; rw [run_eql_struct, he]; rfl) k
end
end Hw
end

section
namespace Hw
open Go Go.RowKit Go.ChangeShapes Go.WideShapes
set_option linter.unusedSimpArgs false
set_option linter.unusedVariables false
section
variable {H : Type} {enc : TypeId × Value → H} {P : Program} {k e : TypeId} {n : Nat} {W : World} {base : Nat} {sp : Nat → Bool} {held : Bool}

theorem mapM_all {α β : Type} {f : α → Option β} : ∀ (L : List α) (ys : List β), L.mapM f = some ys → ∀ x ∈ L, ∃ y, f x = some y
  | [], _, _, x, hx => by simp at hx
  | a :: L, ys, h, x, hx => by
    rw [List.mapM_cons] at h
    simp only [bind, Option.bind_eq_some_iff, pure, Option.some.injEq] at h
    obtain ⟨y, hy, ys', hys, _⟩ := h
    rcases List.mem_cons.1 hx with rfl | hx
    · exact ⟨y, hy⟩
    · exact mapM_all L ys' hys x hx

theorem bytes_of : ∀ (cs : List Value), (∀ v ∈ cs, ∃ a, v = .int .u8 a ∧ (Lit.int .u8 a).wf = true) → ∃ l : List UInt8, cs = bytesV l
  | [], _ => ⟨[], rfl⟩
  | v :: cs, h => by
    obtain ⟨a, rfl, wa⟩ := h v sP
    obtain ⟨l, rfl⟩ := bytes_of cs fun v hv => h v (by simp [hv])
    refine ⟨byteOf a :: l, ?_⟩
    have e : IntKind.u8.wrap a = a := by
      have := wa
      simp [Lit.wf] at this
      have m0 : IntKind.u8.min = 0 := by decide
      have m1 : IntKind.u8.max = 255 := by decide
      rw [IntKind.wrap_u8]; omega
    rw [wrap_u8] at e
    simp [bytesV, u8, e]

theorem open_bytes (hu : P.underlying k = some (.array n e)) (he : P.underlying e = some (.int .u8)) (hc : P.cellsOf e = 1) (hk : P.cellsOf k = n) {r : Reach} {b0 : Nat} {v : Value} {d : DataW H} {ps : List MemPlace}
    (hval : Value.okWide P W r b0 k v) (hd : DataW.Trod enc P W base sp held k v d ps) : ∃ l : List UInt8, v = agg (bytesV l) ∧ l.length = n := by
  simp only [Value.okWide, hu] at hval
  obtain ⟨cs, rfl, h2, _⟩ := hval
  obtain ⟨fuel, hf⟩ := hd
  cases fuel with
  | zero => simp [DataW.trod] at hf
  | succ m =>
    rw [DataW.trod_step] at hf
    unfold DataW.trodStep at hf
    simp only [hu, Value.cells] at hf
    rw [if_pos (by rw [hk]; rw [hk] at h2; simpa using h2)] at hf
    simp only [Option.map_eq_some_iff] at hf
    obtain ⟨ys, hy, e1⟩ := hf
    have hall := mapM_all _ _ hy
    obtain ⟨l, hl⟩ := bytes_of cs.toList fun v hv => by
      obtain ⟨i, hi, rfl⟩ := List.mem_iff_getElem.1 hv
      obtain ⟨y, hy⟩ := hall i (by rw [hk] at h2; simp at hi ⊢; omega)
      rw [hc] at hy
      obtain ⟨a, ea, _, wa⟩ := DataW.trod_int he hy
      refine ⟨a, ?_, wa⟩
      rw [Nat.mul_one, List.drop_eq_getElem_cons hi] at ea
      simpa using ea
    refine ⟨l, ?_, ?_⟩
    · rw [← hl]
    · have := congrArg List.length hl
      rw [hk] at h2
      simp at this
      omega

theorem list_of_cells (w : World) (b o : Nat) : ∀ n : Nat, (∀ i, i < n → ∃ a, w.cell? ⟨b, o + i, none⟩ = some (.int .u8 a) ∧ (Lit.int .u8 a).wf = true) → ∃ l : List UInt8, l.length = n ∧ Sees w b o (bytesV l)
  | 0, _ => ⟨[], rfl, fun j v hj => by simp [bytesV] at hj⟩
  | n + 1, h => by
    obtain ⟨l, hl, hs⟩ := list_of_cells w b o n fun i hi => h i oM
    obtain ⟨a, ha, wa⟩ := h n oM
    refine ⟨l ++ [byteOf a], by simp [hl], fun j v hj => ?_⟩
    have e : IntKind.u8.wrap a = a := by
      simp [Lit.wf] at wa
      have m0 : IntKind.u8.min = 0 := by decide
      have m1 : IntKind.u8.max = 255 := by decide
      rw [IntKind.wrap_u8]; omega
    rw [wrap_u8] at e
    simp only [bytesV, List.map_append, List.map_cons, List.map_nil] at hj
    rcases Nat.lt_or_ge j n with h1 | h1
    · rw [List.getElem?_append_left (by simp [hl]; exact h1)] at hj
      exact hs j v hj
    · rw [List.getElem?_append_right (by simp [hl]; exact h1)] at hj
      simp only [List.length_map, hl] at hj
      by_cases hjn : j = n
      · subst hjn
        rw [Nat.sub_self] at hj
        simp only [List.getElem?_cons_zero, Option.some.injEq] at hj
        rw [ha, ← hj]
        simp [u8, e]
      · rw [List.getElem?_eq_none (by simp; omega)] at hj; cases hj

theorem u8_back {a : Int} (h : (Lit.int .u8 a).wf = true) : ∃ x : UInt8, a = (x.toNat : Int) := by
  simp [Lit.wf] at h
  have m0 : IntKind.u8.min = 0 := by decide
  have m1 : IntKind.u8.max = 255 := by decide
  rw [m0, m1] at h
  refine ⟨UInt8.ofNat a.toNat, ?_⟩
  rw [UInt8.toNat_ofNat']
  omega

theorem cat {cs seg rest : List Value} {o n : Nat} (o' : Nat) (h : (cs.drop o).take n = seg) (ho : o + n = o') (hr : cs.drop o' = rest) : cs.drop o = seg ++ rest := by
  subst ho
  rw [← h, ← hr, ← List.drop_drop, List.take_append_drop]
theorem cat_last {cs seg : List Value} {o n : Nat} (h : (cs.drop o).take n = seg) (hl : cs.length = o + n) : cs.drop o = seg := by
  rw [← h, List.take_of_length_le (by rw [List.length_drop]; omega)]

theorem open_bytesT (hu : P.underlying k = some (.array n e)) (he : P.underlying e = some (.int .u8)) (hc : P.cellsOf e = 1) (hk : P.cellsOf k = n) {fuel : Nat} {cs : List Value} {y : DataW H × List MemPlace}
    (h : DataW.trod enc P W base sp held fuel k cs = some y) : ∃ l : List UInt8, cs = bytesV l ∧ l.length = n := by
  cases fuel with
  | zero => simp [DataW.trod] at h
  | succ m =>
    rw [DataW.trod_step] at h
    unfold DataW.trodStep at h
    simp only [hu] at h
    by_cases hl : cs.length = P.cellsOf k
    · rw [if_pos hl] at h
      simp only [Option.map_eq_some_iff] at h
      obtain ⟨ys, hy, e1⟩ := h
      have hall := mapM_all _ _ hy
      obtain ⟨l, rfl⟩ := bytes_of cs fun v hv => by
        obtain ⟨i, hi, rfl⟩ := List.mem_iff_getElem.1 hv
        obtain ⟨y, hy⟩ := hall i (by rw [hk] at hl; simp; omega)
        rw [hc] at hy
        obtain ⟨a, ea, _, wa⟩ := DataW.trod_int he hy
        refine ⟨a, ?_, wa⟩
        rw [Nat.mul_one, List.drop_eq_getElem_cons hi] at ea
        simp only [List.take_succ_cons, List.take_zero, List.cons.injEq, and_true] at ea
        exact ea
      exact ⟨l, rfl, by rw [hk] at hl; simpa [bytesV] using hl⟩
    · rw [if_neg hl] at h; cases h

/-- a slice of bytes, and what is there -/
structure BytesAt (W : World) (s : Sl) (l : List UInt8) : Prop where
  len : l.length = s.n
  cap : s.n ≤ s.c
  see : SeesP W s.p (bytesV l)
  max : s.n ≤ maxLen
  nil : s.p = none → s.c = 0

/-- a slice of rows of m bytes each, and what is there -/
structure RowsAt (W : World) (s : Sl) (m : Nat) (ls : List (List UInt8)) : Prop where
  len : ls.length = s.n
  row : ∀ l ∈ ls, l.length = m
  cap : s.n ≤ s.c
  see : SeesP W s.p (ls.map bytesV).flatten
  max : s.n ≤ maxLen
  nil : s.p = none → s.c = 0

theorem open_sliceT {t : TypeId} (hu : P.underlying t = some (.slice e)) {fuel : Nat} {cs : List Value} {y : DataW H × List MemPlace} (h : DataW.trod enc P W base sp held fuel t cs = some y) : ∃ s : Sl, cs = [s.v] ∧ s.n ≤ s.c ∧ s.c ≤ maxLen ∧ (s.p = none → s.c = 0) ∧
    ∀ i, i < s.n → ∃ a, s.p = some a ∧ ∃ cs' n y', W.cells? base (a.add (i * P.cellsOf e)) (P.cellsOf e) = some cs' ∧ DataW.trod enc P W base sp held n e cs' = some y' := by
  rcases Go.Deep.open_slice hu h with ⟨rfl, _⟩ | ⟨a, len, cap, m, n, D, Pl, rfl, _, hl, hm, hmm, _, hx⟩
  · exact ⟨⟨none, 0, 0⟩, rfl, Nat.le_refl _, by simp [maxLen], fun _ => rfl, fun i hi => by simp at hi⟩
  · refine ⟨⟨some a, len, cap⟩, rfl, hl, hm, (fun e => by cases e), fun i hi => ?_⟩
    obtain ⟨cs', h1, h2⟩ := hx i (by subst hmm; simp only at hi; split <;> omega)
    exact ⟨a, rfl, cs', n, _, h1, h2⟩

theorem cells_at {a : Addr} {n : Nat} {cs : List Value} (h : W.cells? base a n = some cs) : cs.length = n ∧ ∀ (j : Nat) (v : Value), cs[j]? = some v → W.cell? (a.add j) = some v := by
  obtain ⟨h1, h2, h3⟩ := World.cells?_some h
  refine ⟨h2, fun j v hj => ?_⟩
  have hjn : j < n := by rw [← h2]; exact (List.getElem?_eq_some_iff.1 hj).1
  have := h3 j hjn
  rw [this]; exact hj

theorem open_bytesS {t : TypeId} (hu : P.underlying t = some (.slice e)) (he : P.underlying e = some (.int .u8)) (hc : P.cellsOf e = 1) {fuel : Nat} {cs : List Value} {y : DataW H × List MemPlace} (h : DataW.trod enc P W base sp held fuel t cs = some y) :
    ∃ s l, cs = [s.v] ∧ BytesAt W s l := by
  obtain ⟨s, rfl, h1, h2, h3, hx⟩ := open_sliceT hu h
  by_cases h0 : s.n = 0
  · exact ⟨s, [], rfl, by simp [h0], h1, SeesP.nil, Nat.le_trans h1 h2, h3⟩
  · obtain ⟨⟨b, o, sp'⟩, hp, _⟩ := hx 0 oM
    have hx' : ∀ i, i < s.n → ∃ v, W.cell? ((⟨b, o, sp'⟩ : Addr).add i) = some v ∧ ∃ a, v = .int .u8 a ∧ (Lit.int .u8 a).wf = true := fun i hi => by
      obtain ⟨a', hp', cs', n, y', hcs, ht⟩ := hx i hi
      rw [hp] at hp'
      obtain rfl : a' = ⟨b, o, sp'⟩ := by injection hp'.symm
      rw [hc, Nat.mul_one] at hcs
      obtain ⟨a, ea, _, wa⟩ := DataW.trod_int he ht
      subst ea
      have h9 := (cells_at hcs).2 0 _ rfl
      have e0 : ∀ x : Addr, x.add 0 = x := fun x => by simp [Addr.add]
      rw [e0] at h9
      exact ⟨_, h9, a, rfl, wa⟩
    obtain rfl : sp' = none := by
      obtain ⟨v, hv, _⟩ := hx' 0 oM
      simpa [Addr.add] using World.cell?_spot hv
    obtain ⟨l, hl, hs⟩ := list_of_cells W b o s.n fun i hi => by
      obtain ⟨v, hv, a, rfl, wa⟩ := hx' i hi
      rw [add_addr] at hv
      exact ⟨a, hv, wa⟩
    exact ⟨s, l, rfl, hl, h1, by rw [hp]; exact SeesP.of hs, Nat.le_trans h1 h2, h3⟩

end
end Hw
end

section
namespace Hw
open Go Go.RowKit
set_option linter.unusedSimpArgs false
set_option linter.unusedVariables false

theorem fold_put (off : Nat) : ∀ (l : List Value) (s : Nat) (cells : Array Value), (l.zipIdx s).foldl (fun cs (p : Value × Nat) => cs.setIfInBounds (off + p.2) p.1) cells = putAll cells (off + s) l
  | [], _, _ => rfl
  | v :: l, s, cells => by
    rw [List.zipIdx_cons, List.foldl_cons, putAll, fold_put off l (s + 1)]
    rfl

theorem fill_seq (size : Nat) : ∀ (vals : List Value) (i : Nat) (cells : Array Value), (∀ v ∈ vals, v.cells.size = size) → (i + vals.length) * size ≤ cells.size →
    Instr.fill (fun i => some (i * size, size)) cells ((vals.zipIdx i).map fun p => (p.2, p.1)) = some (putAll cells (i * size) (vals.map fun v => v.cells.toList).flatten)
  | [], i, cells, _, _ => by simp [Instr.fill, putAll]
  | v :: vals, i, cells, hv, hl => by
    have h0 := hv v sP
    have h1 : (i + 1 + vals.length) * size ≤ cells.size := by
      rw [List.length_cons, show i + (vals.length + 1) = i + 1 + vals.length by omega] at hl; exact hl
    have h2 : (i + 1) * size ≤ cells.size := Nat.le_trans (Nat.mul_le_mul_right _ oM) h1
    rw [Nat.add_mul, Nat.one_mul] at h2
    have hf : (v.cells.zipIdx.foldl (fun cs (p : Value × Nat) => cs.setIfInBounds (i * size + p.2) p.1) cells) = putAll cells (i * size) v.cells.toList := by
      rw [← Array.foldl_toList, Array.toList_zipIdx]
      exact fold_put (i * size) v.cells.toList 0 cells
    rw [List.zipIdx_cons, List.map_cons, Instr.fill]
    simp only [h0]
    rw [if_neg (by simp; omega)]
    rw [show (v.cells.zipIdx.foldl (fun cs (x : Value × Nat) => match x with | (c, j) => cs.setIfInBounds (i * size + j) c) cells) = putAll cells (i * size) v.cells.toList from hf]
    rw [fill_seq size vals (i + 1) _ (fun x hx => hv x (by simp [hx])) (by rw [putAll_size]; exact h1), List.map_cons, List.flatten_cons]
    congr 1
    have app : ∀ (a b : List Value) (c : Array Value) (k : Nat), putAll c k (a ++ b) = putAll (putAll c k a) (k + a.length) b := by
      intro a
      induction a with
      | nil => intro b c k; rfl
      | cons x a ih => intro b c k; rw [List.cons_append, putAll, putAll, ih, List.length_cons]; congr 1; omega
    rw [app, Array.length_toList, h0, Nat.add_mul, Nat.one_mul]

theorem putAll_all (cells : Array Value) (vs : List Value) (h : vs.length = cells.size) : putAll cells 0 vs = vs.toArray := by
  apply Array.ext_getElem?
  intro j
  rw [putAll_get _ _ _ _ oM]
  by_cases hj : j < vs.length
  · rw [if_pos oM]; simp
  · rw [if_neg oM, Array.getElem?_eq_none oM]; simp; omega

theorem flat_length {size : Nat} : ∀ (vals : List Value), (∀ v ∈ vals, v.cells.size = size) → (vals.map fun v => v.cells.toList).flatten.length = vals.length * size
  | [], _ => by simp
  | v :: vals, h => by
    rw [List.map_cons, List.flatten_cons, List.length_append, flat_length vals fun x hx => h x (by simp [hx]), Array.length_toList, h v sP, List.length_cons, Nat.add_mul]; omega

section
variable {C : Cx} {ops : Array Oper} {rest : List (Nat × Oper)} {sl : List (Nat × Value)} {hp hp' : List Blk} {Q : St → Prop} {c d : Nat} {ty : TypeId} {pos : String} {af : Array Edge} {g : Option (Nat × Bool)}

theorem Tr.mkRow {T E : TypeId} {len size : Nat} {ps : List (Nat × Operand)} {vs : List (Nat × Value)} {z : Value} (vals : List Value) (cs : List Value) (hg : guardOk ops sl g = true) (hk : okG c d C.N = true) (hv : evp sl ps = some vs)
    (hu : C.P.underlying T = some (.slice E)) (hs : Sz C.P E size) (hz : Zr C.P E z) (hvs : vs = (vals.zipIdx 0).map fun p => (p.2, p.1)) (hlen : vals.length = len) (hsz : ∀ v ∈ vals, v.cells.size = size) (hbig : len * size ≤ 16777216) (hcs : (vals.map fun v => v.cells.toList).flatten = cs)
    (k : ∀ q, Tr C ops rest ⟨(d, .slice (some ⟨q, 0, none⟩) len len) :: sl, blk q cs E :: hp⟩ Q) : Tr C ops ((c, ⟨some d, .buildSlice T len ps.toArray, ty, pos, af, g⟩) :: rest) ⟨sl, hp⟩ Q :=
  Tr.growB (fun m => .slice (some ⟨m, 0, none⟩) len len) hg hk (fun x hx => by
    simp [Op.operands] at hx
    obtain ⟨i, hm⟩ := hx
    exact evp_known hv _ hm) (fun ρ hf w => by
    have h2 := evp_map hv fun p hp => hf p.2 (by simp [Op.operands]; exact ⟨p.1, hp⟩)
    have e : (ps.toArray.map fun (i, x) => (i, ρ x)) = vs.toArray := by
      rw [← h2]; simp
    have rs := run_sz hs
    unfold Zr at hz
    unfold Sz at hs
    cases hi : C.P.info? E with
    | none => rw [hi] at hs; simp at hs
    | some i =>
      rw [hi] at hz
      simp only [Option.bind_some] at hz
      have hfl := flat_length vals hsz
      have hnb : ¬ (16777216 < len * size) := by omega
      have hrun : (Instr.buildSlice T len vs.toArray).run C.P w = .ok (.slice (some ⟨w.heap.size, 0, none⟩) len len) { w with heap := w.heap.push (.cells cs.toArray E) } := by
        subst hcs
        subst hlen
        by_cases h0 : vals.length * size = 0
        · simp only [Instr.buildSlice, Sem.run_bind, run_underlying hu, Result.andThen_ok, rs]
          rw [hvs]
          have := fill_seq size vals 0 #[] hsz (by simp [h0])
          have hnil : (vals.map fun v => v.cells.toList).flatten = [] := List.eq_nil_of_length_eq_zero (by rw [hfl]; exact h0)
          rw [hnil] at this ⊢
          have e0 : Array.map (fun _ => (default : Value)) (Array.range 0) = #[] := Array.eq_empty_of_size_eq_zero sP
          simp [h0, newRow, newObj, e0, this, putAll]
          simp [Sem.run]
        · simp only [Instr.buildSlice, Sem.run_bind, run_underlying hu, Result.andThen_ok, rs]
          rw [hvs]
          have := fill_seq size vals 0 ((Array.range (vals.length * size)).map (z.cells[· % z.cells.size]!)) hsz sP
          rw [Nat.zero_mul, putAll_all _ _ (by simp [hfl])] at this
          simp [h0, hnb, typeInfo, zeroValue, hi, hz, this, newRow, newObj]
          simp [Sem.run]
      simp only [execOp, Sem.run_bind, e, hrun, Result.andThen]
      rfl) k

/-- the same, as an operation that changes places with calls -/
theorem Tr.mkRow2 {T E : TypeId} {len size : Nat} {ps : List (Nat × Operand)} {vs : List (Nat × Value)} {z : Value} (vals : List Value) (cs : List Value) (hk : okN c d C.N = true) (hv : evp sl ps = some vs)
    (hu : C.P.underlying T = some (.slice E)) (hs : Sz C.P E size) (hz : Zr C.P E z) (hvs : vs = (vals.zipIdx 0).map fun p => (p.2, p.1)) (hlen : vals.length = len) (hsz : ∀ v ∈ vals, v.cells.size = size) (hbig : len * size ≤ 16777216) (hcs : (vals.map fun v => v.cells.toList).flatten = cs)
    (k : ∀ q, Tr C ops rest ⟨(d, .slice (some ⟨q, 0, none⟩) len len) :: sl, blk q cs E :: hp⟩ Q) : Tr C ops ((c, ⟨some d, .buildSlice T len ps.toArray, ty, pos, af, none⟩) :: rest) ⟨sl, hp⟩ Q :=
  Tr.newB (fun m => .slice (some ⟨m, 0, none⟩) len len) hk (fun x hx => by
    simp [Op.operands] at hx
    obtain ⟨i, hm⟩ := hx
    exact evp_known hv _ hm) (fun ρ hf w => by
    have h2 := evp_map hv fun p hp => hf p.2 (by simp [Op.operands]; exact ⟨p.1, hp⟩)
    have e : (ps.toArray.map fun (i, x) => (i, ρ x)) = vs.toArray := by
      rw [← h2]; simp
    have rs := run_sz hs
    unfold Zr at hz
    unfold Sz at hs
    cases hi : C.P.info? E with
    | none => rw [hi] at hs; simp at hs
    | some i =>
      rw [hi] at hz
      simp only [Option.bind_some] at hz
      have hfl := flat_length vals hsz
      have hnb : ¬ (16777216 < len * size) := by omega
      have hrun : (Instr.buildSlice T len vs.toArray).run C.P w = .ok (.slice (some ⟨w.heap.size, 0, none⟩) len len) { w with heap := w.heap.push (.cells cs.toArray E) } := by
        subst hcs
        subst hlen
        by_cases h0 : vals.length * size = 0
        · simp only [Instr.buildSlice, Sem.run_bind, run_underlying hu, Result.andThen_ok, rs]
          rw [hvs]
          have := fill_seq size vals 0 #[] hsz (by simp [h0])
          have hnil : (vals.map fun v => v.cells.toList).flatten = [] := List.eq_nil_of_length_eq_zero (by rw [hfl]; exact h0)
          rw [hnil] at this ⊢
          have e0 : Array.map (fun _ => (default : Value)) (Array.range 0) = #[] := Array.eq_empty_of_size_eq_zero sP
          simp [h0, newRow, newObj, e0, this, putAll]
          simp [Sem.run]
        · simp only [Instr.buildSlice, Sem.run_bind, run_underlying hu, Result.andThen_ok, rs]
          rw [hvs]
          have := fill_seq size vals 0 ((Array.range (vals.length * size)).map (z.cells[· % z.cells.size]!)) hsz sP
          rw [Nat.zero_mul, putAll_all _ _ (by simp [hfl])] at this
          simp [h0, hnb, typeInfo, zeroValue, hi, hz, this, newRow, newObj]
          simp [Sem.run]
      simp only [execOp, Sem.run_bind, e, hrun, Result.andThen]
      rfl) k

theorem Src.ofP {w : World} {size : Nat} {tx e' : TypeId} {p : Option Addr} {n cp : Nat} {news : List Value} (hk : C.P.underlying tx = some (.slice e')) (hs : SeesP w p news) (hn : p = none → n = 0) (hl : news.length = n * size) (h1 : ∀ u ∈ news, isCell u = true) : Src C.P size tx (.slice p n cp) n news w := by
  cases p with
  | none =>
    have := hn rfl
    subst this
    have : news = [] := List.eq_nil_of_length_eq_zero (by rw [hl]; simp)
    subst this
    exact Src.ofNil w hk cp
  | some a =>
    refine Src.ofSlice w hk a n cp news hl (fun j u hj => ?_) fun u hu => one_of_cell (h1 u hu)
    obtain ⟨b, o, e, hc⟩ := hs j u hj
    simp only [Option.some.injEq] at e
    subst e
    rw [add_addr]; exact hc

theorem Tr.appendSl {x y : Operand} {b n cap m size cm by' c2 : Nat} {T tx E E2 : TypeId} {z : Value} {olds : List Value} {p : Option Addr} (news : List Value) (hg : guardOk ops sl g = true) (hc : Nat.beq c 4 = true) (hd : Nat.blt d C.N = true)
    (hx : evIn sl x = some (.slice (some ⟨b, 0, none⟩) n cap)) (hy : evIn sl y = some (.slice p m c2)) (hu : C.P.underlying T = some (.slice E)) (hut : C.P.underlying tx = some (.slice E2)) (hs : Sz C.P E size) (hz : Zr C.P E z) (hb : By C.P E by') (hzc : z.cells.size = size)
    (hsee : ∀ w, HRep C hp w → SeesP w p news) (hpn : p = none → m = 0) (hcell : ∀ u ∈ news, isCell u = true)
    (hp1 : hp.Perm (⟨b, olds, E, cm⟩ :: hp')) (hcm : cm = cap * size) (hol : olds.length = n * size) (hnc : n ≤ cap) (hbig : n + m ≤ 1000000) (hfit : (n + m) * by' ≤ 140737488355328)
    (hnl : news.length = m * size)
    (k : ∀ q cap', n + m ≤ cap' → Tr C ops rest ⟨(d, .slice (some ⟨q, 0, none⟩) (n + m) cap') :: sl, ⟨q, olds ++ news, E, cap' * size⟩ :: hp'⟩ Q) :
    Tr C ops ((c, ⟨some d, .call { callee := .builtin .append, args := #[x, y], argTypes := #[T, tx] }, ty, pos, af, g⟩) :: rest) ⟨sl, hp⟩ Q :=
  .appendOwn hg hc hd hx hy hu hs hz hb hzc (fun w hh => Src.ofP hut (hsee w hh) hpn hnl hcell) hcell hp1 hcm hol hnc hbig hfit hnl k

theorem Tr.sliceLoN {x lo : Operand} {b o n cap : Nat} {T E : TypeId} {kl : IntKind} {l : Int} {sz : Nat} (j : Nat) (hg : guardOk ops sl g = true) (hk : okD c d C.N = true) (hx : evIn sl x = some (.slice (some ⟨b, o, none⟩) n cap)) (hl : evIn sl lo = some (.int kl l)) (hj : l = j) (hjn : j ≤ n) (hnc : n ≤ cap)
    (hu : C.P.underlying T = some (.slice E)) (hs : Sz C.P E sz)
    (k : Tr C ops rest ⟨(d, .slice (some ⟨b, if cap = j then o else o + j * sz, none⟩) (n - j) (cap - j)) :: sl, hp⟩ Q) : Tr C ops ((c, ⟨some d, .slice T x (some lo) none none, ty, pos, af, g⟩) :: rest) ⟨sl, hp⟩ Q :=
  .pv hg hk ⟨by simpa [Known, Op.operands] using known2 hx hl, fun ρ hfi w => by
    have h1 := hfi x (by simp [Op.operands]); rw [hx] at h1
    have h2 := hfi lo (by simp [Op.operands]); rw [hl] at h2
    simp only [Option.some.injEq] at h1 h2
    subst hj
    by_cases e : cap = j <;> simp [execOp, Instr.sliceAt, Instr.slice, ← h1, ← h2, run_underlying hu, Instr.sliceBounds, Instr.sliceBound, asIntOf, run_sz hs, add_addr, e, hjn]⟩ k

end

theorem flatten_len {α : Type} (m : Nat) : ∀ (ls : List (List α)), (∀ l ∈ ls, l.length = m) → ls.flatten.length = ls.length * m
  | [], _ => by simp
  | x :: ls, h => by rw [List.flatten_cons, List.length_append, flatten_len m ls fun y hy => h y (by simp [hy]), h x sP, List.length_cons, Nat.add_mul]; omega

abbrev flatB (ls : List (List UInt8)) : List Value := (ls.map bytesV).flatten
theorem flatB_all {m : Nat} {ls : List (List UInt8)} (h : ∀ l ∈ ls, l.length = m) : ∀ l ∈ ls.map bytesV, l.length = m := fun l hl => by
  obtain ⟨x, hx, rfl⟩ := List.mem_map.1 hl
  simp [bytesV, h x hx]
theorem flatB_length {m : Nat} {ls : List (List UInt8)} (h : ∀ l ∈ ls, l.length = m) : (flatB ls).length = ls.length * m := by
  rw [flatB, flatten_len m _ (flatB_all h), List.length_map]
/-- a new row of a call -/
def FreshRow (v : Value) (out : List Blk) (cells : List Value) (T : TypeId) (n size : Nat) : Prop := ∃ q c, v = .slice (some ⟨q, 0, none⟩) n c ∧ n ≤ c ∧ out = [⟨q, cells, T, c * size⟩]
theorem FreshRow.loose (cells : List Value) (T : TypeId) (n size : Nat) : Loose fun v out => FreshRow v out cells T n size := fun l hl => by
  obtain ⟨q, _, hq⟩ := fresh_is 0 l
  refine ⟨_, _, ⟨q, n, rfl, Nat.le_refl _, rfl⟩, ?_⟩
  simp only [List.singleton_append, List.map_cons, List.nodup_cons]
  exact ⟨fun h => by obtain ⟨b, hb, e⟩ := List.mem_map.1 h; exact hq b hb e, hl⟩
theorem nodup1 {l : List Blk} {b : Blk} : (l.map (·.n)).Nodup → ([b].map (·.n)).Nodup := fun _ => by simp
end Hw
end

section
namespace Hw
open Go Go.RowKit
set_option linter.unusedSimpArgs false
set_option linter.unusedVariables false

section
variable {C : Cx} {ops : Array Oper} {rest : List (Nat × Oper)} {sl : List (Nat × Value)} {hp : List Blk} {Q : St → Prop} {c d : Nat} {ty : TypeId} {pos : String} {af : Array Edge} {g : Option (Nat × Bool)}
variable {f : Operand} {fid : FuncId} {ars : List Operand} {ats : Array TypeId} {vs : List Value}

/-- a call that is lent the blocks L -/
theorem Tr.callL {Pre : World → Prop} {R : Value → List Blk → Prop} {lent : List Nat} {L keep : List Blk} (hg : guardOk ops sl g = true) (hk : Nat.beq c 4 = true) (hd : Nat.blt d C.N = true) (hfn : evIn sl f = some (.func (.func fid) #[] #[])) (hargs : evs sl ars = some vs) (hb : Body C.P fid)
    (hc : Meets C.P fid vs lent Pre R) (hsp : hp.Perm (L ++ keep)) (hl : ∀ n ∈ lent, ∃ b ∈ L, b.n = n) (hpre : ∀ w, HRep C hp w → Pre w)
    (k : ∀ v out, R v out → Tr C ops rest ⟨(d, v) :: sl, out ++ keep⟩ Q) : Tr C ops ((c, ⟨some d, .call ⟨.value f, ars.toArray, ats⟩, ty, pos, af, g⟩) :: rest) ⟨sl, hp⟩ Q := by
  refine Tr.act (ρ := Value × List Blk) (fun r => R r.1 r.2) (·.1) (fun r => r.2 ++ keep) (nbeq' hk) (wantS_of_guardOk hg) (dst_some (nblt hd)) ⟨known_call hfn hargs, fun a w hf hh => ?_⟩ (fun r hr => k r.1 r.2 hr)
  unfold Oper.wp
  rw [run_call hfn hargs hf, hb]
  refine (hc w (hpre w hh)).mono fun e w' ⟨v, out, he, hR, hret⟩ => ?_
  subst he
  exact ⟨(v, out), hR, rfl, hh.lentRet hsp hl hret⟩
end

section
variable {C : Cx} {ops : Array Oper} {rest : List (Nat × Oper)} {sl : List (Nat × Value)} {hp : List Blk} {Q : St → Prop} {c d : Nat} {ty : TypeId} {pos : String} {af : Array Edge} {g : Option (Nat × Bool)}
variable {f : Operand} {fid : FuncId} {ars : List Operand} {ats : Array TypeId} {vs : List Value}
end

section
variable {C : Cx} {ops : Array Oper} {rest : List (Nat × Oper)} {sl : List (Nat × Value)} {hp : List Blk} {Q : St → Prop} {c d : Nat} {ty : TypeId} {pos : String} {af : Array Edge} {g : Option (Nat × Bool)}
variable {f : Operand} {fid : FuncId} {ars : List Operand} {ats : Array TypeId} {vs us : List Value} {fst cap : Array Value}

theorem Tr.makeFunc {fn : Fn} {ars bs : List Operand} {us vs : List Value} (hg : guardOk ops sl g = true) (hk : okD c d C.N = true) (ha : evs sl ars = some us) (hb : evs sl bs = some vs)
    (k : Tr C ops rest ⟨(d, .func fn us.toArray vs.toArray) :: sl, hp⟩ Q) : Tr C ops ((c, ⟨some d, .makeFunc fn ars.toArray bs.toArray, ty, pos, af, g⟩) :: rest) ⟨sl, hp⟩ Q :=
  .pv hg hk ⟨fun x hx => by
    simp [Op.operands] at hx
    rcases hx with hx | hx
    · exact evs_known ha x hx
    · exact evs_known hb x hx, fun ρ hf w => by
    have h1 := evs_map ha fun x hx => hf x (by simp [Op.operands, hx])
    have h2 := evs_map hb fun x hx => hf x (by simp [Op.operands, hx])
    simp [execOp, Instr.makeFunc, h1, h2]⟩ k
end

/-- the state that a lent call begins with -/
theorem HRep.one {P : Program} {W : World} {N : Nat} {B : Blk} (h : BlkOk W B) : HRep ⟨P, W, N, [B.n], [], []⟩ [B] W :=
  ⟨fun b hb => by rw [List.mem_singleton.1 hb]; exact h, by simp, fun b hb => by rw [List.mem_singleton.1 hb]; exact .inr List.mem_cons_self, Keeps.refl _ _, fun _ h => (by cases h), fun _ _ _ h => (by cases h)⟩
theorem own_blk {C : Cx} {hp : List Blk} {w : World} {B : Blk} (h : HRep C hp w) (hb : B ∈ hp) : BlkOk w B := h.cells B hb
end Hw
end

section
namespace Hw
open Go Go.RowKit
set_option linter.unusedSimpArgs false
set_option linter.unusedVariables false
section
variable {C : Cx} {ops : Array Oper} {rest : List (Nat × Oper)} {sl : List (Nat × Value)} {hp : List Blk} {Q : St → Prop} {c d : Nat} {ty : TypeId} {pos : String} {af : Array Edge} {g : Option (Nat × Bool)}
variable {xT yT : TypeId} {x y : Operand} {p q : UInt8}

theorem Tr.min2 {ats : Array TypeId} {k1 k2 : IntKind} {a b : Int} {v : Value} (hg : guardOk ops sl g = true) (hk : okD c d C.N = true) (hx : evIn sl x = some (.int k1 a)) (hy : evIn sl y = some (.int k2 b)) (hv : Value.int k1 (if b < a then b else a) = v)
    (k : Tr C ops rest ⟨(d, v) :: sl, hp⟩ Q) : Tr C ops ((c, ⟨some d, .call { callee := .builtin .min, args := #[x, y], argTypes := ats }, ty, pos, af, g⟩) :: rest) ⟨sl, hp⟩ Q :=
  .pv hg hk ⟨by simpa [Known, Op.operands, Call.operands] using known2 hx hy, fun ρ hf w => by
    have h1 := hf x (by simp [Op.operands, Call.operands]); rw [hx] at h1
    have h2 := hf y (by simp [Op.operands, Call.operands]); rw [hy] at h2
    simp only [Option.some.injEq] at h1 h2
    subst hv
    simp [execOp, resolve, invoke, builtin, ← h1, ← h2, Builtin.min_, Builtin.min2]⟩ k
theorem Tr.nilChk {a : Addr} (hg : guardOk ops sl g = true) (hk : okD c d C.N = true) (hx : evIn sl x = some (.pointer (some a)))
    (k : Tr C ops rest ⟨(d, .pointer (some a)) :: sl, hp⟩ Q) : Tr C ops ((c, ⟨some d, .nilCheck x, ty, pos, af, g⟩) :: rest) ⟨sl, hp⟩ Q :=
  .pv hg hk ⟨known1 hx, fun ρ hf w => by
    have h1 := hf x (by simp [Op.operands]); rw [hx] at h1
    simp only [Option.some.injEq] at h1
    simp [execOp, ← h1]⟩ k

theorem Tr.eql_str {a b : List UInt8} (hg : guardOk ops sl g = true) (hk : okD c d C.N = true) (hx : evIn sl x = some (str a)) (hy : evIn sl y = some (str b)) {r : Bool} (hr : decide (a = b) = r)
    (k : Tr C ops rest ⟨(d, .bool r) :: sl, hp⟩ Q) : Tr C ops ((c, ⟨some d, .binOp .eql xT x y yT, ty, pos, af, g⟩) :: rest) ⟨sl, hp⟩ Q :=
  .binAny hg hk hx hy (fun w => by simp [eqGuard, str]) (fun w => by
    subst hr
    rw [show (binOp .eql xT (str a) (str b)) = Op.stringOp .eql ⟨a.toArray⟩ ⟨b.toArray⟩ from rfl]
    simp [Op.stringOp, toList_mk]
    rw [Bool.eq_iff_iff]; simp) k

theorem Tr.or_u8 (hg : guardOk ops sl g = true) (hk : okD c d C.N = true) (hx : evIn sl x = some (u8 p)) (hy : evIn sl y = some (u8 q))
    (k : Tr C ops rest ⟨(d, u8 (p ||| q)) :: sl, hp⟩ Q) : Tr C ops ((c, ⟨some d, .binOp .or xT x y yT, ty, pos, af, g⟩) :: rest) ⟨sl, hp⟩ Q :=
  .bin hg hk hx hy (fun w => congrArg (fun n => Result.ok (Value.int .u8 n) w) (bits8 (· ||| ·) (· ||| ·) (fun _ _ => rfl) p q)) k
theorem Tr.xor_u8 (hg : guardOk ops sl g = true) (hk : okD c d C.N = true) (hx : evIn sl x = some (u8 p)) (hy : evIn sl y = some (u8 q))
    (k : Tr C ops rest ⟨(d, u8 (p ^^^ q)) :: sl, hp⟩ Q) : Tr C ops ((c, ⟨some d, .binOp .xor xT x y yT, ty, pos, af, g⟩) :: rest) ⟨sl, hp⟩ Q :=
  .bin hg hk hx hy (fun w => congrArg (fun n => Result.ok (Value.int .u8 n) w) (bits8 (· ^^^ ·) (· ^^^ ·) (fun _ _ => rfl) p q)) k
def shl8 (x : UInt8) (n : Nat) : UInt8 := UInt8.ofNat (x.toNat * 2 ^ n)
theorem shl8_eq (x : UInt8) (n : Nat) : IntKind.u8.wrap ((x.toNat : Int) * 2 ^ n) = ((shl8 x n).toNat : Int) := by
  rw [IntKind.wrap_u8, shl8, UInt8.toNat_ofNat']
  have : ((x.toNat : Int) * 2 ^ n) = ((x.toNat * 2 ^ n : Nat) : Int) := by simp
  rw [this]; omega
theorem Tr.shl_u8 {ky : IntKind} {b : Int} (hg : guardOk ops sl g = true) (hk : okD c d C.N = true) (hx : evIn sl x = some (u8 p)) (hy : evIn sl y = some (.int ky b)) (n : Nat) (hn : b = n) (hr : n ≤ 8)
    (k : Tr C ops rest ⟨(d, u8 (shl8 p n)) :: sl, hp⟩ Q) : Tr C ops ((c, ⟨some d, .binOp .shl xT x y yT, ty, pos, af, g⟩) :: rest) ⟨sl, hp⟩ Q :=
  .bin hg hk hx hy (fun w => by
    subst hn
    simp only [binOp, Op.shift, IntKind.bits]; rw [if_neg oM, Int.toNat_natCast, Nat.min_eq_left hr, shl8_eq]; rfl) k
theorem Tr.not_u64 {p : UInt64} (hg : guardOk ops sl g = true) (hk : okD c d C.N = true) (hx : evIn sl x = some (u64 p))
    (k : Tr C ops rest ⟨(d, u64 (18446744073709551615 ^^^ p)) :: sl, hp⟩ Q) : Tr C ops ((c, ⟨some d, .unOp .xor xT x, ty, pos, af, g⟩) :: rest) ⟨sl, hp⟩ Q :=
  .pv hg hk ⟨known1 hx, fun ρ hf w => by
    have h1 := hf x (by simp [Op.operands]); rw [hx] at h1
    simp only [Option.some.injEq] at h1
    have h2 := bits64 (· ^^^ ·) (· ^^^ ·) (fun _ _ => rfl) 18446744073709551615 p
    simp only [execOp, ← h1]
    have e : (Op.unary .xor (u64 p)).run C.P w = .ok (u64 (18446744073709551615 ^^^ p)) w := congrArg (fun n => Result.ok (Value.int .u64 n) w) h2
    simp [e]⟩ k

theorem Tr.idxA1 {cs : List Value} {ki : IntKind} {i : Int} {v : Value} {n : Nat} {E : TypeId} {td : TypeDesc} (hg : guardOk ops sl g = true) (hk : okD c d C.N = true) (hx : evIn sl x = some (agg cs)) (hy : evIn sl y = some (.int ki i)) (hu : C.P.underlying xT = some (.array n E)) (hs : Sz C.P E 1) (he : C.P.underlying E = some td) (hp' : plainDesc td = true) (j : Nat) (hj : i = j) (hjn : j < n) (hv : cs[j]? = some v)
    (k : Tr C ops rest ⟨(d, v) :: sl, hp⟩ Q) : Tr C ops ((c, ⟨some d, .index xT x y, ty, pos, af, g⟩) :: rest) ⟨sl, hp⟩ Q :=
  .pv hg hk ⟨known2 hx hy, fun ρ hf w => by
    have h1 := hf x (by simp [Op.operands]); rw [hx] at h1
    have h2 := hf y (by simp [Op.operands]); rw [hy] at h2
    simp only [Option.some.injEq] at h1 h2
    subst hj
    have h3 := run_part1 (w := w) he hp' hv
    simp [execOp, Instr.index, ← h1, ← h2, asIntOf, run_underlying hu, run_sz hs, hjn, agg, h3]⟩ k
theorem Tr.s2a {arr E : TypeId} {a : Addr} {n len cap : Nat} (hg : guardOk ops sl g = true) (hk : okD c d C.N = true) (hx : evIn sl x = some (.slice (some a) len cap)) (hu : C.P.underlying arr = some (.array n E)) (hn : n ≤ len)
    (k : Tr C ops rest ⟨(d, .pointer (some a)) :: sl, hp⟩ Q) : Tr C ops ((c, ⟨some d, .sliceToArrayPointer arr x, ty, pos, af, g⟩) :: rest) ⟨sl, hp⟩ Q :=
  .pv hg hk ⟨known1 hx, fun ρ hf w => by
    have h1 := hf x (by simp [Op.operands]); rw [hx] at h1
    simp only [Option.some.injEq] at h1
    simp [execOp, Instr.arrayAt, ← h1, run_underlying hu, show ¬ len < n by omega]⟩ k

theorem Tr.sliceLoHiN {lo hi : Operand} {b o n cap : Nat} {T E : TypeId} {kl kh : IntKind} {l h : Int} {sz : Nat} (i j : Nat) (hg : guardOk ops sl g = true) (hk : okD c d C.N = true) (hx : evIn sl x = some (.slice (some ⟨b, o, none⟩) n cap)) (hl : evIn sl lo = some (.int kl l)) (hh : evIn sl hi = some (.int kh h)) (hi' : l = i) (hj : h = j) (hij : i ≤ j) (hjc : j ≤ cap)
    (hu : C.P.underlying T = some (.slice E)) (hs : Sz C.P E sz)
    (k : Tr C ops rest ⟨(d, .slice (some ⟨b, if cap = i then o else o + i * sz, none⟩) (j - i) (cap - i)) :: sl, hp⟩ Q) : Tr C ops ((c, ⟨some d, .slice T x (some lo) (some hi) none, ty, pos, af, g⟩) :: rest) ⟨sl, hp⟩ Q :=
  .pv hg hk ⟨fun z hz => by
    simp [Op.operands] at hz
    rcases hz with rfl | rfl | rfl
    · simp [hx]
    · simp [hl]
    · simp [hh], fun ρ hfi w => by
    have h1 := hfi x (by simp [Op.operands]); rw [hx] at h1
    have h2 := hfi lo (by simp [Op.operands]); rw [hl] at h2
    have h3 := hfi hi (by simp [Op.operands]); rw [hh] at h3
    simp only [Option.some.injEq] at h1 h2 h3
    subst hi'
    subst hj
    by_cases e : cap = i
    · subst e
      simp [execOp, Instr.sliceAt, Instr.slice, ← h1, ← h2, ← h3, run_underlying hu, Instr.sliceBounds, Instr.sliceBound, asIntOf, run_sz hs, add_addr, hjc, hij]
    · simp [execOp, Instr.sliceAt, Instr.slice, ← h1, ← h2, ← h3, run_underlying hu, Instr.sliceBounds, Instr.sliceBound, asIntOf, run_sz hs, add_addr, e, hjc, hij]⟩ k

/-- a new row of length 0, with room -/
theorem Tr.mkRoom {T E : TypeId} {kx ky : IntKind} {z : Value} {by' : Nat} {mi : Int} (m : Nat) (hg : guardOk ops sl g = true) (hk : okG c d C.N = true) (hx : evIn sl x = some (.int kx 0)) (hy : evIn sl y = some (.int ky mi)) (hmi : mi = m)
    (hu : C.P.underlying T = some (.slice E)) (hs : Sz C.P E 1) (hz : Zr C.P E z) (hb : By C.P E by') (hc : z.cells = #[z]) (hn : m ≤ 1000000) (hby : by' ≤ 64)
    (k : ∀ q, Tr C ops rest ⟨(d, .slice (some ⟨q, 0, none⟩) 0 m) :: sl, ⟨q, [], E, m⟩ :: hp⟩ Q) : Tr C ops ((c, ⟨some d, .makeSlice T x y, ty, pos, af, g⟩) :: rest) ⟨sl, hp⟩ Q := by
  subst hmi
  have hk2 := hk
  simp only [okG, Bool.and_eq_true, Bool.or_eq_true] at hk
  refine Tr.grow (ρ := Nat) (fun _ => True) (fun q => .slice (some ⟨q, 0, none⟩) 0 m) (fun q => [⟨q, [], E, m⟩]) (hk.1.imp nbeq' nbeq') (wantS_of_guardOk hg) (dst_some (nblt hk.2)) ⟨known2 hx hy, fun l hl => ?_, fun a w hf hh => ?_⟩ (fun q _ => k q)
  · obtain ⟨q, _, hq⟩ := fresh_is 0 l
    refine ⟨q, trivial, ?_⟩
    simp only [List.singleton_append, List.map_cons, List.nodup_cons]
    exact ⟨fun h => by obtain ⟨b, hb, e⟩ := List.mem_map.1 h; exact hq b hb e, hl⟩
  · have h1 := hf x (by simp [Op.operands]); rw [hx] at h1
    have h2 := hf y (by simp [Op.operands]); rw [hy] at h2
    simp only [Option.some.injEq] at h1 h2
    have rs := run_sz hs
    unfold Sz at hs; unfold Zr at hz; unfold By at hb
    cases hi : C.P.info? E with
    | none => rw [hi] at hs; simp at hs
    | some i =>
      rw [hi] at hs hz hb
      simp only [Option.map_some, Option.some.injEq, Option.bind_some] at hs hz hb
      have wn : IntKind.i64.wrap (m : Int) = m := i64_wrap oM
      have w0 : IntKind.i64.wrap 0 = 0 := by decide
      have hm : by' * m ≤ 64 * 1000000 := Nat.mul_le_mul hby hn
      have hm2 : ((by' : Int) * m) = ((by' * m : Nat) : Int) := by simp
      have n1 : ¬ ((m : Int) < 0) := by omega
      have n2 : ¬ (281474976710656 < (i.bytes : Int) * m) := by rw [hb, hm2]; omega
      have n5 : ¬ (140737488355328 < m * i.bytes) := by rw [hb, Nat.mul_comm]; omega
      have hrun : (execOp a.eval ⟨some d, .makeSlice T x y, ty, pos, af, g⟩).run C.P w = .ok (.value (.slice (some ⟨w.heap.size, 0, none⟩) 0 m)) { w with heap := w.heap.push (.cells (Array.replicate m z) E) } := by
        by_cases h0 : m = 0
        · subst h0
          simp [execOp, Instr.makeSlice, run_underlying hu, asInt, asIntOf, typeInfo, hi, rs, zeroValue, hz, ← h1, ← h2, w0, newRow, newObj, askRoom, roomBytes]
          simp [Sem.run]
          have e0 : Array.map (fun _ => (default : Value)) (Array.range 0) = #[] := Array.eq_empty_of_size_eq_zero sP
          rw [e0]
        · simp [execOp, Instr.makeSlice, run_underlying hu, asInt, asIntOf, typeInfo, hi, rs, zeroValue, hz, ← h1, ← h2, wn, w0, n1, n2, n5, h0, newRow, newObj, askRoom, roomBytes, row_eq m z hc]
          simp [Sem.run]
      unfold Oper.wp
      rw [hrun]
      refine ⟨w.heap.size, trivial, rfl, ⟨⟨rfl, rfl, rfl, by simp, fun k hk _ => ?_⟩, fun b hb => ?_, by simp, fun b hb => ?_⟩⟩
      · simp only [Array.getElem?_push]
        rw [if_neg oM]
      · obtain rfl := List.mem_singleton.1 hb
        exact ⟨Array.replicate m z, (0, 0), by simp, by simp, by simp, free0⟩
      · obtain rfl := List.mem_singleton.1 hb
        exact .inl (Nat.le_refl _)
end
end Hw
end

section
namespace Hw
open Go Go.RowKit
set_option linter.unusedSimpArgs false
set_option linter.unusedVariables false

def SRounds (C : Cx) (body : Code) (Q : Exit → St → Prop) : Nat → St → Prop
  | 0, _ => False
  | n + 1, s => Sat C body s (thenQ (SRounds C body Q n) Q)
theorem SRounds.more {C : Cx} {body : Code} {Q : Exit → St → Prop} {n : Nat} {s : St} (h : Sat C body s (thenQ (SRounds C body Q n) Q)) : SRounds C body Q (n + 1) s := h
theorem Sat.rounds {C : Cx} {body : Code} {Q : Exit → St → Prop} (n : Nat) {s : St} (h : SRounds C body Q n s) : Sat C (.loop body) s Q := by
  intro a w r
  refine wp_loop_rounds n ?_
  induction n generalizing s a w with
  | zero => exact h.elim
  | succ n ih =>
    rw [rounds_succ]
    refine wp_mono (h a w r) fun e a' w' ⟨s', r', q⟩ => ?_
    cases e with
    | normal => exact ih q a' w' r'
    | _ => exact ⟨s', r', q⟩

theorem lent_ok {L : List Blk} {lent : List Nat} (h : L.map (·.n) = lent) : ∀ n ∈ lent, ∃ b ∈ L, b.n = n := fun n hn => by
  subst h
  obtain ⟨b, hb, rfl⟩ := List.mem_map.1 hn
  exact ⟨b, hb, rfl⟩
theorem HRep.two {P : Program} {W : World} {N : Nat} {A B : Blk} (ha : BlkOk W A) (hb : BlkOk W B) (hn : A.n ≠ B.n) : HRep ⟨P, W, N, [A.n, B.n], [], []⟩ [A, B] W := by
  refine ⟨fun b h => ?_, by simpa using hn, fun b h => ?_, Keeps.refl _ _, fun _ h => (by cases h), fun _ _ _ h => (by cases h)⟩
  · rcases List.mem_cons.1 h with rfl | h
    · exact ha
    · rw [List.mem_singleton.1 h]; exact hb
  · rcases List.mem_cons.1 h with rfl | h
    · exact .inr List.mem_cons_self
    · rw [List.mem_singleton.1 h]; exact .inr (List.mem_cons_of_mem _ List.mem_cons_self)
end Hw
end

section
namespace Hw
open Go Go.RowKit
set_option linter.unusedSimpArgs false
set_option linter.unusedVariables false

section
variable {X Y l l' l'' hp hp1 R : List Blk} {x B : Blk} {n : Nat} {cs cs' : List Value} {T : TypeId} {m m' : Nat}
theorem rem_seg (h : l.Perm (B :: l')) : (X ++ l).Perm (B :: (X ++ l')) := (List.Perm.append_left X h).trans List.perm_middle
theorem sg_here : (X ++ l).Perm (X ++ l) := .refl _
theorem sg_there (h : l.Perm (X ++ l')) : (x :: l).Perm (X ++ (x :: l')) := (List.Perm.cons x h).trans List.perm_middle.symm
theorem sg_seg (h : l.Perm (X ++ l')) : (Y ++ l).Perm (X ++ (Y ++ l')) := by
  refine (List.Perm.append_left Y h).trans ?_
  rw [← List.append_assoc, ← List.append_assoc]
  exact List.Perm.append_right l' List.perm_append_comm
theorem sg_end : X.Perm (X ++ []) := by rw [List.append_nil]
theorem pm_nil : hp.Perm ([] ++ hp) := .refl _
theorem pm_cons (h : hp.Perm (x :: hp1)) (k : hp1.Perm (l ++ R)) : hp.Perm ((x :: l) ++ R) := h.trans (.cons x k)
theorem pm_consE (h : hp.Perm (⟨n, cs, T, m⟩ :: hp1)) (e : cs = cs') (e2 : m = m') (k : hp1.Perm (l ++ R)) : hp.Perm ((⟨n, cs', T, m'⟩ :: l) ++ R) := by subst e; subst e2; exact pm_cons h k
theorem pm_seg (h : hp.Perm (X ++ hp1)) (k : hp1.Perm (l ++ R)) : hp.Perm ((X ++ l) ++ R) := by
  rw [List.append_assoc]
  exact h.trans (List.Perm.append_left X k)
theorem pm_none (h : hp.Perm (l ++ R)) : hp.Perm (([] ++ l) ++ R) := h
theorem mem_seg (h : B ∈ l) : B ∈ X ++ l := List.mem_append_right _ h
theorem in_here : ∀ b ∈ X, b ∈ X ++ l := fun b hb => List.mem_append_left _ hb
theorem in_all : ∀ b ∈ X, b ∈ X := fun b hb => hb
theorem in_there (h : ∀ b ∈ X, b ∈ l) : ∀ b ∈ X, b ∈ x :: l := fun b hb => List.mem_cons_of_mem _ (h b hb)
theorem in_seg (h : ∀ b ∈ X, b ∈ l) : ∀ b ∈ X, b ∈ Y ++ l := fun b hb => List.mem_append_right _ (h b hb)
theorem Upd.seg {b : Nat} (h : Upd l b cs T m cs' l') : Upd (X ++ l) b cs T m cs' (X ++ l') := by
  induction X with
  | nil => exact h
  | cons x X ih => exact .tail ih
end
theorem weak_perm {sl sl' : List (Nat × Value)} {hp hp' R : List Blk} (h1 : wkl sl sl') (h2 : hp.Perm (hp' ++ R)) : Weak ⟨sl, hp⟩ ⟨sl', hp'⟩ :=
  ⟨wkl_mem h1, fun b hb => h2.symm.subset (List.mem_append_left _ hb), fun h => by
    have := (h2.map (·.n)).nodup_iff.1 h
    rw [List.map_append, List.nodup_append] at this
    exact this.1⟩
theorem end_perm {C : Cx} {fn : Func} {R : Value → List Blk → Prop} {s : St} {v : Value} {out K : List Blk} (hr : Res C fn s v) (hp : s.hp.Perm (out ++ K)) (h : R v out) : endAt C fn R s :=
  ⟨v, out, hr, fun b hb => hp.symm.subset (List.mem_append_left _ hb), fun hn => by
    have := (hp.map (·.n)).nodup_iff.1 hn
    rw [List.map_append, List.nodup_append] at this
    exact this.1, h⟩

theorem Meets.imp {P : Program} {f : FuncId} {args : List Value} {lent : List Nat} {Pre Pre' : World → Prop} {R R' : Value → List Blk → Prop} (h : Meets P f args lent Pre R) (hp : ∀ w, Pre' w → Pre w) (hr : ∀ v out, R v out → R' v out) : Meets P f args lent Pre' R' :=
  fun W hW => (h W (hp W hW)).mono fun e W' ⟨v, out, h1, h2, h3⟩ => ⟨v, out, h1, hr v out h2, h3⟩

/-- a fact that omega does not look into -/
structure Hid (p : Prop) : Prop where
  out : p

/-- whatever holds where these blocks lie -/
def Lies (bl : List Blk) (w : World) : Prop := ∀ b ∈ bl, BlkOk w b
theorem Lies.of {C : Cx} {hp bl : List Blk} {w : World} (h : HRep C hp w) (hb : ∀ b ∈ bl, b ∈ hp) : Lies bl w := fun b hb' => h.cells b (hb b hb')
theorem Lies.sub {bl bl' : List Blk} {w : World} (h : Lies bl w) (hb : ∀ b ∈ bl', b ∈ bl) : Lies bl' w := fun b hb' => h b (hb b hb')
theorem Lies.keep {bl : List Blk} {ex : List Nat} {w w' : World} (h : Lies bl w) (k : Keeps ex w w') (hn : ∀ b ∈ bl, b.n ∉ ex) : Lies bl w' := fun b hb => (h b hb).of_heap (k.block b.n (h b hb).lt (hn b hb))

/-- a row under construction: nil, or a block of one's own -/
def Acc (s : Sl) (bl : List Blk) (cells : List Value) (E : TypeId) (n size : Nat) : Prop :=
  (s = Sl.nil ∧ bl = [] ∧ cells = [] ∧ n = 0) ∨ ∃ q c, s = ⟨some ⟨q, 0, none⟩, n, c⟩ ∧ n ≤ c ∧ cells.length = n * size ∧ bl = [⟨q, cells, E, c * size⟩]
section
variable {s : Sl} {bl : List Blk} {cells : List Value} {E : TypeId} {n size : Nat}
theorem Acc.none : Acc Sl.nil [] [] E 0 size := .inl ⟨rfl, rfl, rfl, rfl⟩
theorem Acc.some {q c : Nat} (h : n ≤ c) (hl : cells.length = n * size) : Acc ⟨.some ⟨q, 0, .none⟩, n, c⟩ [⟨q, cells, E, c * size⟩] cells E n size := .inr ⟨q, c, rfl, h, hl, rfl⟩
theorem Acc.num (h : Acc s bl cells E n size) : s.n = n := by rcases h with ⟨rfl, _, _, rfl⟩ | ⟨q, c, rfl, _⟩ <;> rfl
theorem Acc.len (h : Acc s bl cells E n size) : cells.length = n * size := by rcases h with ⟨_, _, rfl, rfl⟩ | ⟨q, c, _, _, h, _⟩; simp; exact h
theorem Acc.cap (h : Acc s bl cells E n size) : s.n ≤ s.c := by rcases h with ⟨rfl, _⟩ | ⟨q, c, rfl, h, _⟩; exact Nat.le_refl _; exact h
theorem Acc.nil (h : Acc s bl cells E n size) (hp : s.p = .none) : s.n = 0 := by rcases h with ⟨rfl, _⟩ | ⟨q, c, rfl, _⟩; rfl; cases hp
theorem Acc.nilc (h : Acc s bl cells E n size) (hp : s.p = .none) : s.c = 0 := by rcases h with ⟨rfl, _⟩ | ⟨q, c, rfl, _⟩; rfl; cases hp
theorem Acc.see (h : Acc s bl cells E n size) {w : World} (hw : Lies bl w) : SeesP w s.p cells := by
  rcases h with ⟨_, _, rfl, _⟩ | ⟨q, c, rfl, _, _, rfl⟩
  · exact SeesP.nil
  · refine SeesP.of fun j v hj => ?_
    have := (hw _ (List.mem_singleton.2 rfl)).cell (o := 0 + j) (v := v) (by simpa using hj)
    simpa using this
end

section
variable {C : Cx} {ops : Array Oper} {rest : List (Nat × Oper)} {sl : List (Nat × Value)} {hp hp' : List Blk} {Q : St → Prop} {c d : Nat} {ty : TypeId} {pos : String} {af : Array Edge} {g : Option (Nat × Bool)}

/-- append to a row under construction -/
theorem Tr.appendAcc {x y : Operand} {s : Sl} {bl : List Blk} {n m size by' c2 : Nat} {T tx E E2 : TypeId} {z : Value} {olds : List Value} {p : Option Addr} (news : List Value) (hg : guardOk ops sl g = true) (hc : Nat.beq c 4 = true) (hd : Nat.blt d C.N = true)
    (hx : evIn sl x = some s.v) (hy : evIn sl y = some (.slice p m c2)) (hu : C.P.underlying T = some (.slice E)) (hut : C.P.underlying tx = some (.slice E2)) (hs : Sz C.P E size) (hz : Zr C.P E z) (hb : By C.P E by') (hzc : z.cells.size = size)
    (hacc : Acc s bl olds E n size) (hp1 : hp.Perm (bl ++ hp')) (hsee : ∀ w, HRep C hp w → SeesP w p news) (hpn : p = none → m = 0) (hcell : ∀ u ∈ news, isCell u = true)
    (hbig : n + m ≤ 1000000) (hfit : (n + m) * by' ≤ 140737488355328) (hnl : news.length = m * size)
    (k : ∀ s' bl', Acc s' bl' (olds ++ news) E (n + m) size → Tr C ops rest ⟨(d, s'.v) :: sl, bl' ++ hp'⟩ Q) :
    Tr C ops ((c, ⟨some d, .call { callee := .builtin .append, args := #[x, y], argTypes := #[T, tx] }, ty, pos, af, g⟩) :: rest) ⟨sl, hp⟩ Q := by
  rcases hacc with ⟨rfl, rfl, rfl, rfl⟩ | ⟨q, cp, rfl, hnc, hol, rfl⟩
  · rw [List.nil_append] at hp1
    simp only [Nat.zero_add, List.nil_append] at k hbig hfit
    by_cases hm : m = 0
    · subst hm
      have hnil : news = [] := by simpa using hnl
      subst hnil
      refine Tr.act (ρ := Unit) (fun _ => True) (fun _ => .slice none 0 0) (fun _ => hp') (nbeq' hc) (wantS_of_guardOk hg) (dst_some (nblt hd)) ⟨by simpa [Known, Op.operands, Call.operands] using known2 hx hy, fun a w hf hh => ?_⟩ (fun _ _ => k Sl.nil [] Acc.none)
      have h1 := hf x (by simp [Op.operands, Call.operands]); rw [hx] at h1
      have h2 := hf y (by simp [Op.operands, Call.operands]); rw [hy] at h2
      simp only [Option.some.injEq, Sl.v, Sl.nil] at h1 h2
      have rs := run_sz hs
      unfold Oper.wp
      have hex : (execOp a.eval ⟨some d, .call { callee := .builtin .append, args := #[x, y], argTypes := #[T, tx] }, ty, pos, af, g⟩).run C.P w = .ok (.value (.slice none 0 0)) w := by
        cases p <;> simp [execOp, resolve, invoke, builtin, ← h1, ← h2, Builtin.append_, run_underlying hu, run_underlying hut, rs, Builtin.lenOf, Builtin.firstCells, loadCells, loadCellsFrom, storeCells]
      rw [hex]
      exact ⟨(), trivial, rfl, hh.perm hp1⟩
    · refine Tr.act (ρ := Nat × Nat) (fun r => m ≤ r.2) (fun r => .slice (some ⟨r.1, 0, none⟩) m r.2) (fun r => ⟨r.1, news, E, r.2 * size⟩ :: hp') (nbeq' hc) (wantS_of_guardOk hg) (dst_some (nblt hd))
        ⟨by simpa [Known, Op.operands, Call.operands] using known2 hx hy, fun a w hf hh => ?_⟩ (fun r hr => k ⟨some ⟨r.1, 0, none⟩, m, r.2⟩ _ (Acc.some hr hnl))
      have h1 := hf x (by simp [Op.operands, Call.operands]); rw [hx] at h1
      have h2 := hf y (by simp [Op.operands, Call.operands]); rw [hy] at h2
      simp only [Option.some.injEq, Sl.v, Sl.nil] at h1 h2
      have hsz := hs
      unfold Sz at hs; unfold Zr at hz; unfold By at hb
      cases hi : C.P.info? E with
      | none => rw [hi] at hs; simp at hs
      | some i =>
        rw [hi] at hs hz hb
        simp only [Option.map_some, Option.some.injEq, Option.bind_some] at hs hz hb
        subst hs
        have hS : Src C.P i.size tx (.slice p m c2) m news w := Src.ofP hut (hsee w hh) hpn hnl hcell
        have hrun := run_append_grow_src (P := C.P) w T tx ty E i z hu hi hz none 0 0 [] (by simp [Builtin.firstCells]) _ m news hS oM oM (growslice_fits oM (by rw [hb]; simpa using hfit))
        simp only [Nat.zero_add, List.nil_append] at hrun
        have hge := grownCap_ge w m 0 E
        unfold Oper.wp
        have hex : (execOp a.eval ⟨some d, .call { callee := .builtin .append, args := #[x, y], argTypes := #[T, tx] }, ty, pos, af, g⟩).run C.P w = .ok (.value (.slice (some ⟨w.heap.size, 0, none⟩) m (grownCap w m 0 E))) (w.drew.alloc (.cells (news.toArray ++ Builtin.zeroCells z.cells (grownCap w m 0 E - m)) E)) := by
          simp [execOp, resolve, invoke, builtin, ← h1, ← h2, hrun]
        rw [hex]
        refine ⟨(w.heap.size, grownCap w m 0 E), hge, rfl, ?_⟩
        have hret : Ret [] [⟨w.heap.size, news, E, grownCap w m 0 E * i.size⟩] w (w.drew.alloc (.cells (news.toArray ++ Builtin.zeroCells z.cells (grownCap w m 0 E - m)) E)) := Ret.pushD _ _ _ _ (by
          have e : grownCap w m 0 E * i.size = m * i.size + (grownCap w m 0 E - m) * i.size := by rw [← Nat.add_mul]; congr 1; omega
          simp [Builtin.zeroCells, hnl, hzc, e]) sP
        exact (hh.perm hp1).grown hret
  · refine Tr.appendSl (z := z) (by' := by') news hg hc hd hx hy hu hut hs hz hb hzc hsee hpn hcell hp1 rfl hol hnc hbig hfit hnl (fun q' c' hq => ?_)
    exact k ⟨some ⟨q', 0, none⟩, n + m, c'⟩ _ (Acc.some hq (by rw [List.length_append, hol, hnl, Nat.add_mul]))

/-- the builtin copy, into an own block, elements of one cell, as many as both hold -/
theorem Tr.copyP {x y : Operand} {b o n cap1 m2 c2 : Nat} {p : Option Addr} {cs vs cs' : List Value} {BT T T2 E : TypeId} {m : Nat} (src : List Value) (k0 : Nat) (hg : guardOk ops sl g = true) (hc : Nat.beq c 4 = true) (hd : Nat.blt d C.N = true)
    (hx : evIn sl x = some (.slice (some ⟨b, o, none⟩) n cap1)) (hy : evIn sl y = some (.slice p m2 c2)) (hu : C.P.underlying T = some (.slice E)) (hs : Sz C.P E 1)
    (hsee : ∀ w, HRep C hp w → SeesP w p src) (hpn : p = none → m2 = 0) (hsl : src.length = m2) (hk0 : min n m2 = k0) (hvs : src.take k0 = vs) (hcell : ∀ u ∈ src, isCell u = true) (hb : (⟨b, cs, BT, m⟩ : Blk) ∈ hp) (hl : o + k0 ≤ cs.length) (hcs : upd cs o vs = cs') (hup : Upd hp b cs BT m cs' hp')
    (k : Tr C ops rest ⟨(d, i64 (k0 : Int)) :: sl, hp'⟩ Q) : Tr C ops ((c, ⟨some d, .call { callee := .builtin .copy, args := #[x, y], argTypes := #[T, T2] }, ty, pos, af, g⟩) :: rest) ⟨sl, hp⟩ Q := by
  refine Tr.act (ρ := Unit) (fun _ => True) (fun _ => i64 (k0 : Int)) (fun _ => hp') (nbeq' hc) (wantS_of_guardOk hg) (dst_some (nblt hd)) ⟨by simpa [Known, Op.operands, Call.operands] using known2 hx hy, fun a w hf hh => ?_⟩ (fun _ _ => k)
  have h1 := hf x (by simp [Op.operands, Call.operands]); rw [hx] at h1
  have h2 := hf y (by simp [Op.operands, Call.operands]); rw [hy] at h2
  simp only [Option.some.injEq] at h1 h2
  have hvl : vs.length = k0 := by rw [← hvs, List.length_take, hsl]; omega
  obtain ⟨full, fr, hbk⟩ := hh.cells _ hup.mem
  have hpl := hbk.pre.length_le
  simp only [Array.length_toList] at hpl
  have hlt := (hh.cells _ hup.mem).lt
  have hfc : (Builtin.firstCells 1 k0 (.slice p m2 c2)).run C.P w = .ok vs.toArray w := by
    cases p with
    | none =>
      have := hpn rfl
      subst this
      have : vs = [] := List.eq_nil_of_length_eq_zero oM
      subst this
      simp [Builtin.firstCells, ← hk0, loadCells, loadCellsFrom]
    | some ad =>
      refine run_firstCells_some w 1 k0 ad m2 c2 vs (by rw [hvl, Nat.mul_one]) fun j v hj => ?_
      have hj' : src[j]? = some v := by
        rw [← hvs, List.getElem?_take] at hj
        split at hj
        · exact hj
        · cases hj
      obtain ⟨b2, o2, e, hcc⟩ := hsee w hh j v hj'
      simp only [Option.some.injEq] at e
      subst e
      rw [add_addr]; exact hcc
  have hk1 : m2.min n = k0 := by rw [← hk0]; exact Nat.min_comm m2 n
  have hst := run_storeCells (P := C.P) (b := b) (o := o) vs 0 w full hbk.heap oM (by rw [hbk.size]; exact hbk.free) (fun u hu => hcell u (by rw [← hvs] at hu; exact List.mem_of_mem_take hu))
  have hrun : (execOp a.eval ⟨some d, .call { callee := .builtin .copy, args := #[x, y], argTypes := #[T, T2] }, ty, pos, af, g⟩).run C.P w = .ok (.value (i64 (k0 : Int))) (setBlk w b (putAll full o vs) BT fr) := by
    simp [execOp, resolve, invoke, builtin, Builtin.copy_, ← h1, ← h2, run_underlying hu, Builtin.lenOf, run_sz hs, hk1, hfc, hst, goInt]
  unfold Oper.wp
  rw [hrun]
  refine ⟨(), trivial, rfl, hh.upd hup hlt (by rw [putAll_size]; exact hbk.size) ?_ hbk.free⟩
  rw [← hcs]
  exact upd_pre hbk.pre (by rw [hvl]; exact hl)

variable {f : Operand} {fid : FuncId} {ars : List Operand} {ats : Array TypeId} {vs us : List Value} {fst cap : Array Value}
/-- a call in the text's order -/
theorem Tr.call4 {Pre : World → Prop} {R : Value → List Blk → Prop} (hg : guardOk ops sl g = true) (hk : Nat.beq c 4 = true) (hd : Nat.blt d C.N = true) (hfn : evIn sl f = some (.func (.func fid) #[] #[])) (hargs : evs sl ars = some vs) (hb : Body C.P fid)
    (hc : Meets C.P fid vs [] Pre R) (hpre : ∀ w, HRep C hp w → Pre w)
    (k : ∀ v out, R v out → Tr C ops rest ⟨(d, v) :: sl, out ++ hp⟩ Q) : Tr C ops ((c, ⟨some d, .call ⟨.value f, ars.toArray, ats⟩, ty, pos, af, g⟩) :: rest) ⟨sl, hp⟩ Q := by
  refine Tr.act (ρ := Value × List Blk) (fun r => R r.1 r.2) (·.1) (fun r => r.2 ++ hp) (nbeq' hk) (wantS_of_guardOk hg) (dst_some (nblt hd)) ⟨known_call hfn hargs, fun a w hf hh => ?_⟩ (fun r hr => k r.1 r.2 hr)
  unfold Oper.wp
  rw [run_call hfn hargs hf, hb]
  refine (hc w (hpre w hh)).mono fun e w' ⟨v, out, he, hR, hret⟩ => ?_
  subst he
  exact ⟨(v, out), hR, rfl, hh.grown hret⟩
end
end Hw
end

section
namespace Hw
open Go Go.RowKit
set_option linter.unusedSimpArgs false
set_option linter.unusedVariables false

theorem add8_eq (x y : UInt8) : IntKind.u8.wrap ((x.toNat : Int) + y.toNat) = ((x + y).toNat : Int) := by
  have := x.toNat_lt; have := y.toNat_lt
  rw [IntKind.wrap_u8, UInt8.toNat_add]; omega
theorem res_none {C : Cx} {fn : Func} {s : St} (hr : fn.results = #[]) : Res C fn s (.tuple #[]) := by
  intro a w r
  simp [results, hr]
section
variable {C : Cx} {ops : Array Oper} {rest : List (Nat × Oper)} {sl : List (Nat × Value)} {hp : List Blk} {Q : St → Prop} {c d : Nat} {ty : TypeId} {pos : String} {af : Array Edge} {g : Option (Nat × Bool)}
variable {xT yT : TypeId} {x y : Operand} {a b : Int} {p q : UInt8}
theorem Tr.add_u8 (hg : guardOk ops sl g = true) (hk : okD c d C.N = true) (hx : evIn sl x = some (u8 p)) (hy : evIn sl y = some (u8 q))
    (k : Tr C ops rest ⟨(d, u8 (p + q)) :: sl, hp⟩ Q) : Tr C ops ((c, ⟨some d, .binOp .add xT x y yT, ty, pos, af, g⟩) :: rest) ⟨sl, hp⟩ Q :=
  .bin hg hk hx hy (fun w => by simp only [binOp, Op.intArith, add8_eq]; rfl) k
variable {lo hi : Operand} {o i0 len : Nat} {E : TypeId}
/-- a part of an array, as a slice -/
theorem Tr.sliceArrLH {kl kh : IntKind} {l h : Int} {bb : Nat} (i j : Nat) (hg : guardOk ops sl g = true) (hk : okD c d C.N = true) (hx : evIn sl x = some (ptr bb o)) (hlo : evIn sl lo = some (.int kl l)) (hhi : evIn sl hi = some (.int kh h)) (hi' : l = i) (hj : h = j) (hij : i ≤ j) (hjl : j ≤ len) (hil : i < len) (hu : C.P.underlying xT = some (.array len E)) {sz : Nat} (hs : Sz C.P E sz)
    (k : Tr C ops rest ⟨(d, .slice (some ⟨bb, o + i * sz, none⟩) (j - i) (len - i)) :: sl, hp⟩ Q) : Tr C ops ((c, ⟨some d, .slice xT x (some lo) (some hi) none, ty, pos, af, g⟩) :: rest) ⟨sl, hp⟩ Q :=
  .pv hg hk ⟨by simpa [Known, Op.operands] using known3 hx hlo hhi, fun ρ hfi w => by
    have h1 := hfi x (by simp [Op.operands]); rw [hx] at h1
    have h2 := hfi lo (by simp [Op.operands]); rw [hlo] at h2
    have h3 := hfi hi (by simp [Op.operands]); rw [hhi] at h3
    simp only [Option.some.injEq] at h1 h2 h3
    subst hi'; subst hj
    have e : ¬ (len = i) := by omega
    have e1 : i ≤ len := by omega
    simp [execOp, Instr.sliceAt, ← h1, ← h2, ← h3, run_underlying hu, Instr.sureAddr, Instr.sliceBounds, Instr.sliceBound, asIntOf, run_sz hs, add_addr, e, e1, hij, hjl]⟩ k
/-- a field of a struct value that is an array or a struct -/
theorem Tr.fieldN {fs : Array Field} {f n : Nat} {fd : Field} {td : TypeDesc} {cs : List Value} (r : List Value) (hg : guardOk ops sl g = true) (hk : okD c d C.N = true) (hx : evIn sl x = some (agg cs)) (hu : C.P.underlying xT = some (.struct fs)) (hf : fs[f]? = some fd) (hft : C.P.underlying fd.type = some td) (hp' : plainDesc td = false) (hs : Sz C.P fd.type n) (hr : (cs.drop fd.offset).take n = r)
    (k : Tr C ops rest ⟨(d, agg r) :: sl, hp⟩ Q) : Tr C ops ((c, ⟨some d, .field xT x f, ty, pos, af, g⟩) :: rest) ⟨sl, hp⟩ Q :=
  .pv hg hk ⟨known1 hx, fun ρ hfi w => by
    have h1 := hfi x (by simp [Op.operands]); rw [hx] at h1
    simp only [Option.some.injEq] at h1
    have h2 := run_partN (w := w) hft hp' hs hr
    simp [execOp, Instr.field, ← h1, run_underlying hu, hf, agg, asAgg, h2]⟩ k
end
end Hw
end

section
namespace Hw
open Go Go.RowKit
set_option linter.unusedSimpArgs false
set_option linter.unusedVariables false
section
variable {C : Cx} {fn : Func} {s : St}
end

/-- a row of one's own, from some place of its block on -/
def AccO (s : Sl) (bl : List Blk) (cells : List Value) (E : TypeId) (n : Nat) : Prop :=
  (s = Sl.nil ∧ bl = [] ∧ cells = [] ∧ n = 0) ∨ ∃ q o c m pre post, s = ⟨some ⟨q, o, none⟩, n, c⟩ ∧ n ≤ c ∧ cells.length = n ∧ pre.length = o ∧ (post = [] ∨ n = c) ∧ o + c ≤ m ∧ bl = [⟨q, pre ++ cells ++ post, E, m⟩]
section
variable {s : Sl} {bl : List Blk} {cells : List Value} {E : TypeId} {n : Nat}
theorem AccO.none : AccO Sl.nil [] [] E 0 := .inl ⟨rfl, rfl, rfl, rfl⟩
theorem AccO.num (h : AccO s bl cells E n) : s.n = n := by rcases h with ⟨rfl, _, _, rfl⟩ | ⟨q, o, c, m, pre, post, rfl, _⟩ <;> rfl
theorem AccO.len (h : AccO s bl cells E n) : cells.length = n := by rcases h with ⟨_, _, rfl, rfl⟩ | ⟨q, o, c, m, pre, post, _, _, h, _⟩; rfl; exact h
theorem AccO.cap (h : AccO s bl cells E n) : s.n ≤ s.c := by rcases h with ⟨rfl, _⟩ | ⟨q, o, c, m, pre, post, rfl, h, _⟩; exact Nat.le_refl _; exact h
theorem AccO.nilc (h : AccO s bl cells E n) (hp : s.p = .none) : s.c = 0 := by rcases h with ⟨rfl, _⟩ | ⟨q, o, c, m, pre, post, rfl, _⟩; rfl; cases hp
theorem AccO.see (h : AccO s bl cells E n) {w : World} (hw : Lies bl w) : SeesP w s.p cells := by
  rcases h with ⟨_, _, rfl, _⟩ | ⟨q, o, c, m, pre, post, rfl, _, h3, h4, _, _, rfl⟩
  · exact SeesP.nil
  · refine SeesP.of fun j v hj => ?_
    refine (hw _ (List.mem_singleton.2 rfl)).cell (o := o + j) (v := v) ?_
    show (pre ++ cells ++ post)[o + j]? = some v
    have hlt := (List.getElem?_eq_some_iff.1 hj).1
    rw [List.append_assoc, List.getElem?_append_right oM, h4, Nat.add_sub_cancel_left, List.getElem?_append_left hlt]
    exact hj
theorem AccO.pos (h : AccO s bl cells E n) (hn : 0 < n) : ∃ q o c m pre post, s = ⟨some ⟨q, o, .none⟩, n, c⟩ ∧ n ≤ c ∧ cells.length = n ∧ pre.length = o ∧ (post = [] ∨ n = c) ∧ o + c ≤ m ∧ bl = [⟨q, pre ++ cells ++ post, E, m⟩] := by
  rcases h with ⟨_, _, _, rfl⟩ | h
  · exact absurd hn dE
  · exact h
theorem Acc.off {c : Nat} (h : Acc s bl cells E n 1) : AccO s bl cells E n := by
  rcases h with ⟨rfl, rfl, rfl, rfl⟩ | ⟨q, c, rfl, h1, h2, rfl⟩
  · exact .inl ⟨rfl, rfl, rfl, rfl⟩
  · exact .inr ⟨q, 0, c, c * 1, [], [], rfl, h1, by omega, rfl, .inl rfl, by omega, by simp⟩
end
section
variable {C : Cx} {ops : Array Oper} {rest : List (Nat × Oper)} {sl : List (Nat × Value)} {hp hp' : List Blk} {Q : St → Prop} {c d : Nat} {ty : TypeId} {pos : String} {af : Array Edge} {g : Option (Nat × Bool)}
/-- a truth value that is taken out of a tuple: both ways -/
theorem Tr.extractB {x : Operand} {vs : Array Value} {i : Nat} {b : Bool} (hg : guardOk ops sl g = true) (hk : okD c d C.N = true) (hx : evIn sl x = some (.tuple vs)) (hv : vs[i]? = some (.bool b))
    (kt : b = true → Tr C ops rest ⟨(d, .bool true) :: sl, hp⟩ Q) (kf : b = false → Tr C ops rest ⟨(d, .bool false) :: sl, hp⟩ Q) : Tr C ops ((c, ⟨some d, .extract x i, ty, pos, af, g⟩) :: rest) ⟨sl, hp⟩ Q := by
  cases b
  · exact .extract hg hk hx hv (kf rfl)
  · exact .extract hg hk hx hv (kt rfl)
end
end Hw
end

section
namespace Go.Proofs.YtmddgelpllffoaaGreat
open Go Hw
set_option linter.unusedVariables false
set_option linter.unusedSimpArgs false

set_option maxRecDepth 100000 in
set_option maxHeartbeats 1000000 in
theorem scalar_modulus  : Meets Tryz.prog 70 [] [] (fun _ => True) (fun v out => v = agg (wordsV modW) ∧ out = []) := by
  intro W hW
  refine calls_of (hp0 := []) Tryz.func70 rfl 2 Tryz.ntmps70 rfl (HRep.nil _) ?_
  refine Sat.seq ?_
  refine Sat.region ?_
  refine Tr.alloc (cs := (wordsV (List.replicate 4 0))) rfl Zr93 rfl ?_
  intro n0 hn0 hf0
  refine Tr.nil ?_
  refine at_n ?_
  refine Sat.seq ?_
  refine Sat.region ?_
  refine Tr.build (cs := wordsV modW) rfl rfl rfl (fun w => by kernel_rfl) ?_
  refine Tr.storeAll rfl rfl rfl rfl (by simp [isCell]) Sz93 (by (simp [modW_length]; done)) (by exact mem0) (by (simp; done)) (by exact upd0) ?_
  refine Tr.nil ?_
  refine at_n ?_
  refine Sat.ret ?_
  refine en_r ?_
  refine ⟨_, [], res_cell rfl rfl Tryz.underlying93 rfl Sz93 (by exact mem0) (by simp [modW_length]), sP, sP, ?_, rfl⟩
  rfl

set_option maxRecDepth 100000 in
set_option maxHeartbeats 1000000 in
theorem scalar_doubled (w : List UInt64) (b : UInt64) (hw : w.length = 4) : Meets Tryz.prog 125 [agg (wordsV w), u64 b] [] (fun _ => True) (fun v out => v = agg (wordsV (dblW w b)) ∧ out = []) := by
  intro W hW
  refine calls_of (hp0 := []) Tryz.func125 rfl 32 Tryz.ntmps125 rfl (HRep.nil _) ?_
  refine Sat.seq ?_
  refine Sat.region ?_
  refine Tr.boxA rfl rfl ?_
  intro n2 hn2 hf2
  refine Tr.alloc (cs := (wordsV (List.replicate 4 0))) rfl Zr93 rfl ?_
  intro n4 hn4 hf4
  refine Tr.nil ?_
  refine at_n ?_
  refine Sat.seq ?_
  refine Sat.region ?_
  refine Tr.idxArr1 rfl rfl rfl rfl Tryz.underlying93 Sz71 0 rfl dE ?_
  refine Tr.load1 rfl rfl rfl Tryz.underlying71 rfl (by exact mem1) (by exact get_words oM) ?_
  refine Tr.shl_u64 rfl rfl rfl rfl 1 rfl dE ?_
  refine Tr.idxArr1 rfl rfl rfl rfl Tryz.underlying93 Sz71 1 rfl dE ?_
  refine Tr.load1 rfl rfl rfl Tryz.underlying71 rfl (by exact mem1) (by exact get_words oM) ?_
  refine Tr.shr_u64 rfl rfl rfl rfl 63 rfl dE ?_
  refine Tr.or_u64 rfl rfl rfl rfl ?_
  refine Tr.idxArr1 rfl rfl rfl rfl Tryz.underlying93 Sz71 1 rfl dE ?_
  refine Tr.load1 rfl rfl rfl Tryz.underlying71 rfl (by exact mem1) (by exact get_words oM) ?_
  refine Tr.shl_u64 rfl rfl rfl rfl 1 rfl dE ?_
  refine Tr.idxArr1 rfl rfl rfl rfl Tryz.underlying93 Sz71 2 rfl dE ?_
  refine Tr.load1 rfl rfl rfl Tryz.underlying71 rfl (by exact mem1) (by exact get_words oM) ?_
  refine Tr.shr_u64 rfl rfl rfl rfl 63 rfl dE ?_
  refine Tr.or_u64 rfl rfl rfl rfl ?_
  refine Tr.idxArr1 rfl rfl rfl rfl Tryz.underlying93 Sz71 2 rfl dE ?_
  refine Tr.load1 rfl rfl rfl Tryz.underlying71 rfl (by exact mem1) (by exact get_words oM) ?_
  refine Tr.shl_u64 rfl rfl rfl rfl 1 rfl dE ?_
  refine Tr.idxArr1 rfl rfl rfl rfl Tryz.underlying93 Sz71 3 rfl dE ?_
  refine Tr.load1 rfl rfl rfl Tryz.underlying71 rfl (by exact mem1) (by exact get_words oM) ?_
  refine Tr.shr_u64 rfl rfl rfl rfl 63 rfl dE ?_
  refine Tr.or_u64 rfl rfl rfl rfl ?_
  refine Tr.idxArr1 rfl rfl rfl rfl Tryz.underlying93 Sz71 3 rfl dE ?_
  refine Tr.load1 rfl rfl rfl Tryz.underlying71 rfl (by exact mem1) (by exact get_words oM) ?_
  refine Tr.shl_u64 rfl rfl rfl rfl 1 rfl dE ?_
  refine Tr.move rfl rfl rfl ?_
  refine Tr.or_u64 rfl rfl rfl rfl ?_
  refine Tr.build (cs := wordsV (dblW w b)) rfl rfl rfl (fun w => by kernel_rfl) ?_
  refine Tr.storeAll rfl rfl rfl rfl (by simp [isCell]) Sz93 (by (simp [dblW_length]; done)) (by exact mem0) (by (simp; done)) (by exact upd0) ?_
  refine Tr.nil ?_
  refine at_n ?_
  refine Sat.ret ?_
  refine en_r ?_
  refine ⟨_, [], res_cell rfl rfl Tryz.underlying93 rfl Sz93 (by exact mem0) (by simp [dblW_length]), sP, sP, ?_, rfl⟩
  rfl

set_option maxRecDepth 100000 in
set_option maxHeartbeats 1000000 in
theorem scalar_load (a : List UInt8) (ha : a.length = 32) : Meets Tryz.prog 68 [agg (bytesV a)] [] (fun _ => True) (fun v out => v = agg (wordsV (ldW a 32)) ∧ out = []) := by
  intro W hW
  refine calls_of (hp0 := []) Tryz.func68 rfl 24 Tryz.ntmps68 rfl (HRep.nil _) ?_
  refine Sat.seq ?_
  refine Sat.region ?_
  refine Tr.boxA rfl rfl ?_
  intro n1 hn1 hf1
  refine Tr.alloc (cs := (wordsV (List.replicate 4 0))) rfl Zr93 rfl ?_
  intro n2 hn2 hf2
  refine Tr.nil ?_
  refine at_n ?_
  refine Sat.seq ?_
  refine Sat.region ?_
  refine Tr.alloc (cs := (wordsV (List.replicate 4 0))) rfl Zr93 rfl ?_
  intro n3 hn3 hf3
  refine Tr.nil ?_
  refine at_n ?_
  refine Sat.seq ?_
  refine Sat.seq ?_
  refine Sat.region ?_
  refine Tr.move rfl rfl rfl ?_
  refine Tr.nil ?_
  refine at_n ?_
  refine Sat.block ?_
  refine Sat.loop (ι := Nat) (fun k => ⟨[(1, ptr n1 0), (2, ptr n2 0), (3, ptr n3 0), (5, i64 (k : Int))], [⟨n3, wordsV (ldW a k), 93, 4⟩, ⟨n2, wordsV (List.replicate 4 0), 93, 4⟩, ⟨n1, bytesV a, 32, (bytesV a).length⟩]⟩) (fun k => k ≤ 32) (fun k => 32 - k) (0) ?_ ?_ ?_
  · omega
  · exact weak_of (wk1 rfl (wk1 rfl (wk1 rfl (wk1 rfl wk0)))) (wh1 (by exact mem0) (wh1 (by exact mem1) (wh1 (by exact mem2) wh0))) (by repeat (first | exact ns_nil | refine ns_keep rfl ?_))
  ·
    rintro k hi
    have hlk := ldW_length a k
    refine Sat.seq ?_
    refine Sat.region ?_
    refine Tr.lss rfl rfl rfl rfl rfl ?_
    refine Tr.nil ?_
    refine at_n ?_
    refine Sat.seq ?_
    refine Sat.condP rfl (fun hc0 => ?_) (fun hc0 => ?_)
    ·
      refine Sat.skip ?_
      refine at_n ?_
      refine Sat.seq ?_
      refine Sat.block ?_
      refine Sat.seq ?_
      refine Sat.region ?_
      refine Tr.move rfl rfl rfl ?_
      refine Tr.assign rfl rfl rfl ?_
      refine Tr.nil ?_
      refine at_n ?_
      refine Sat.draw [(0, 0), (0, 1), (0, 2), (0, 3), (0, 4), (1, 5), (0, 6), (0, 7), (0, 8), (0, 9), (1, 10), (0, 11), (0, 12), (0, 13), (4, 14)] Mixed (by kernel_rfl) ?_
      refine Tr.move rfl rfl rfl ?_
      refine Tr.quo_i64 rfl rfl rfl rfl oM ?_
      refine Tr.move rfl rfl rfl ?_
      refine Tr.quo_i64 rfl rfl rfl rfl oM ?_
      refine Tr.idxArr1 rfl rfl rfl rfl Tryz.underlying93 Sz71 (k / 8) oM oM ?_
      refine Tr.load1 rfl rfl rfl Tryz.underlying71 rfl (by exact mem0) (by exact get_words oM) ?_
      refine Tr.shl_u64 rfl rfl rfl rfl 8 rfl dE ?_
      refine Tr.move rfl rfl rfl ?_
      refine Tr.sub_i64 rfl rfl rfl rfl oM ?_
      refine Tr.idxArr1 rfl rfl rfl rfl Tryz.underlying32 Sz5 (31 - k) oM oM ?_
      refine Tr.load1 rfl rfl rfl Tryz.underlying5 rfl (by exact mem2) (by exact get_bytes oM) ?_
      refine Tr.conv rfl rfl rfl Tryz.underlying5 Tryz.underlying71 (cv_u8_u64 _) ?_
      refine Tr.or_u64 rfl rfl rfl rfl ?_
      refine Tr.idxArr1 rfl rfl rfl rfl Tryz.underlying93 Sz71 (k / 8) oM oM ?_
      refine Tr.store1 rfl rfl rfl rfl rfl Sz71 (by exact mem0) (by (simp [ldW_length]; omega)) (by exact set_words _ _ _) (by exact upd0) ?_
      refine Tr.nil ?_
      refine bl_n ?_
      refine at_n ?_
      refine Sat.region ?_
      refine Tr.add_i64 rfl rfl rfl rfl oM ?_
      refine Tr.move rfl rfl rfl ?_
      refine Tr.nil ?_
      refine at_n ?_
      exact ⟨k + 1, by omega, by omega, weak_of (wk1 rfl (wk1 rfl (wk1 rfl (wk1 rfl wk0)))) (wh1 (by exact mem0) (wh1 (by exact mem1) (wh1 (by exact mem2) wh0))) (by repeat (first | exact ns_nil | refine ns_keep rfl ?_))⟩
    ·
      obtain rfl : k = 32 := by omega
      refine Sat.exit ?_
      refine at_x ?_
      refine at_x ?_
      refine bl_h ?_
      refine at_n ?_
      refine Sat.seq ?_
      refine Sat.region ?_
      refine Tr.loadAll rfl rfl rfl Tryz.underlying93 rfl Sz93 (by exact mem0) (by (simp [ldW_length]; done)) ?_
      refine Tr.storeAll rfl rfl rfl rfl (by simp [isCell]) Sz93 (by (simp [ldW_length]; done)) (by exact mem1) (by (simp; done)) (by exact upd1) ?_
      refine Tr.nil ?_
      refine at_n ?_
      refine Sat.ret ?_
      refine en_r ?_
      refine ⟨_, [], res_cell rfl rfl Tryz.underlying93 rfl Sz93 (by exact mem1) (by simp [ldW_length]), sP, sP, ?_, rfl⟩
      rfl

set_option maxRecDepth 100000 in
set_option maxHeartbeats 1000000 in
theorem scalar_store (w : List UInt64) (hw : w.length = 4) : Meets Tryz.prog 127 [agg (wordsV w)] [] (fun _ => True) (fun v out => v = agg (bytesV (stB w 32)) ∧ out = []) := by
  intro W hW
  refine calls_of (hp0 := []) Tryz.func127 rfl 23 Tryz.ntmps127 rfl (HRep.nil _) ?_
  refine Sat.seq ?_
  refine Sat.region ?_
  refine Tr.boxA rfl rfl ?_
  intro n1 hn1 hf1
  refine Tr.alloc (cs := (bytesV (List.replicate 32 0))) rfl Zr32 rfl ?_
  intro n2 hn2 hf2
  refine Tr.nil ?_
  refine at_n ?_
  refine Sat.seq ?_
  refine Sat.region ?_
  refine Tr.alloc (cs := (bytesV (List.replicate 32 0))) rfl Zr32 rfl ?_
  intro n3 hn3 hf3
  refine Tr.nil ?_
  refine at_n ?_
  refine Sat.seq ?_
  refine Sat.seq ?_
  refine Sat.region ?_
  refine Tr.move rfl rfl rfl ?_
  refine Tr.nil ?_
  refine at_n ?_
  refine Sat.block ?_
  refine Sat.loop (ι := Nat) (fun k => ⟨[(1, ptr n1 0), (2, ptr n2 0), (3, ptr n3 0), (5, i64 (k : Int))], [⟨n3, bytesV (stB w k), 32, 32⟩, ⟨n2, bytesV (List.replicate 32 0), 32, 32⟩, ⟨n1, wordsV w, 93, (wordsV w).length⟩]⟩) (fun k => k ≤ 32) (fun k => 32 - k) (0) ?_ ?_ ?_
  · omega
  · exact weak_of (wk1 rfl (wk1 rfl (wk1 rfl (wk1 rfl wk0)))) (wh1 (by exact mem0) (wh1 (by exact mem1) (wh1 (by exact mem2) wh0))) (by repeat (first | exact ns_nil | refine ns_keep rfl ?_))
  ·
    rintro k hi
    have hlk := stB_length w k
    refine Sat.seq ?_
    refine Sat.region ?_
    refine Tr.lss rfl rfl rfl rfl rfl ?_
    refine Tr.nil ?_
    refine at_n ?_
    refine Sat.seq ?_
    refine Sat.condP rfl (fun hc0 => ?_) (fun hc0 => ?_)
    ·
      refine Sat.skip ?_
      refine at_n ?_
      refine Sat.seq ?_
      refine Sat.block ?_
      refine Sat.seq ?_
      refine Sat.region ?_
      refine Tr.move rfl rfl rfl ?_
      refine Tr.assign rfl rfl rfl ?_
      refine Tr.nil ?_
      refine at_n ?_
      refine Sat.region ?_
      refine Tr.move rfl rfl rfl ?_
      refine Tr.sub_i64 rfl rfl rfl rfl oM ?_
      refine Tr.move rfl rfl rfl ?_
      refine Tr.quo_i64 rfl rfl rfl rfl oM ?_
      refine Tr.idxArr1 rfl rfl rfl rfl Tryz.underlying93 Sz71 (k / 8) oM oM ?_
      refine Tr.load1 rfl rfl rfl Tryz.underlying71 rfl (by exact mem2) (by exact get_words oM) ?_
      refine Tr.move rfl rfl rfl ?_
      refine Tr.rem_i64 rfl rfl rfl rfl oM ?_
      refine Tr.mul_i64 rfl rfl rfl rfl oM ?_
      refine Tr.sub_i64 rfl rfl rfl rfl oM ?_
      refine Tr.shr_u64 rfl rfl rfl rfl (56 - 8 * (k % 8)) oM oM ?_
      refine Tr.conv rfl rfl rfl Tryz.underlying71 Tryz.underlying5 (cv_u64_u8 _) ?_
      refine Tr.idxArr1 rfl rfl rfl rfl Tryz.underlying32 Sz5 (31 - k) oM oM ?_
      refine Tr.store1 rfl rfl rfl rfl rfl Sz5 (by exact mem0) (by (simp [stB_length]; omega)) (by exact set_bytes _ _ _) (by exact upd0) ?_
      refine Tr.nil ?_
      refine bl_n ?_
      refine at_n ?_
      refine Sat.region ?_
      refine Tr.add_i64 rfl rfl rfl rfl oM ?_
      refine Tr.move rfl rfl rfl ?_
      refine Tr.nil ?_
      refine at_n ?_
      exact ⟨k + 1, by omega, by omega, weak_of (wk1 rfl (wk1 rfl (wk1 rfl (wk1 rfl wk0)))) (wh1 (by exact mem0) (wh1 (by exact mem1) (wh1 (by exact mem2) wh0))) (by repeat (first | exact ns_nil | refine ns_keep rfl ?_))⟩
    ·
      obtain rfl : k = 32 := by omega
      refine Sat.exit ?_
      refine at_x ?_
      refine at_x ?_
      refine bl_h ?_
      refine at_n ?_
      refine Sat.seq ?_
      refine Sat.region ?_
      refine Tr.loadAll rfl rfl rfl Tryz.underlying32 rfl Sz32 (by exact mem0) (by (simp [stB_length]; done)) ?_
      refine Tr.storeAll rfl rfl rfl rfl (by simp [isCell]) Sz32 (by (simp [stB_length]; done)) (by exact mem1) (by (simp; done)) (by exact upd1) ?_
      refine Tr.nil ?_
      refine at_n ?_
      refine Sat.ret ?_
      refine en_r ?_
      refine ⟨_, [], res_cell rfl rfl Tryz.underlying32 rfl Sz32 (by exact mem1) (by simp [stB_length]), sP, sP, ?_, rfl⟩
      rfl

theorem sub64_run (x y b : UInt64) (hb : b.toNat ≤ 1) (w : World) : (callFunc 139 [u64 x, u64 y, u64 b].toArray).run Tryz.prog w = .ok (.value (.tuple #[u64 (w64 (x.toNat + 2 ^ 64 - y.toNat - b.toNat)), u64 (if x.toNat < y.toNat + b.toNat then 1 else 0)])) w := by
  rw [run_callFunc_extern Tryz.func139 (by kernel_rfl) (by kernel_rfl) (by kernel_rfl) (e := sub64E) (by kernel_rfl)]
  have h : (sub64E [u64 x, u64 y, u64 b].toArray).run Tryz.prog w = .ok (.tuple #[.int .u64 (((x.toNat + 18446744073709551616 - y.toNat - b.toNat) % 18446744073709551616 : Nat) : Int), .int .u64 ((if x.toNat < y.toNat + b.toNat then 1 else 0 : Nat) : Int)]) w := by
    have : b.toNat = 0 ∨ b.toNat = 1 := by omega
    rcases this with h | h <;> simp only [u64, h] <;> rfl
  rw [h]
  simp only [Result.andThen, u64, w64_toNat]
  congr 5
  split <;> rfl
theorem add64_run (x y b : UInt64) (hb : b.toNat ≤ 1) (w : World) : (callFunc 100 [u64 x, u64 y, u64 b].toArray).run Tryz.prog w = .ok (.value (.tuple #[u64 (w64 (x.toNat + y.toNat + b.toNat)), u64 (w64 ((x.toNat + y.toNat + b.toNat) / 2 ^ 64))])) w := by
  rw [run_callFunc_extern Tryz.func100 (by kernel_rfl) (by kernel_rfl) (by kernel_rfl) (e := add64Entry) (by kernel_rfl)]
  have hx := x.toNat_lt; have hy := y.toNat_lt
  have h := run_add64 (P := Tryz.prog) (x.toNat : Int) y.toNat b.toNat oM oM oM oM w
  have e : [u64 x, u64 y, u64 b].toArray = #[.int .u64 x.toNat, .int .u64 y.toNat, .int .u64 b.toNat] := rfl
  have e1 : ((x.toNat : Int) + y.toNat + b.toNat) % 18446744073709551616 = ((w64 (x.toNat + y.toNat + b.toNat)).toNat : Int) := by rw [w64_toNat]; omega
  have e2 : ((x.toNat : Int) + y.toNat + b.toNat) / 18446744073709551616 = ((w64 ((x.toNat + y.toNat + b.toNat) / 2 ^ 64)).toNat : Int) := by rw [w64_toNat]; omega
  rw [e, h, e1, e2]
  rfl

set_option maxRecDepth 100000 in
set_option maxHeartbeats 1000000 in
theorem isNaN_u64 (x : UInt64) : Meets Tryz.prog 130 [u64 x] [] (fun _ => True) (fun v out => v = .bool false ∧ out = []) := by
  intro W hW
  refine calls_of (hp0 := []) Tryz.func130 rfl 6 Tryz.ntmps130 rfl (HRep.nil _) ?_
  refine Sat.seq ?_
  refine Sat.region ?_
  refine Tr.assign rfl rfl rfl ?_
  refine Tr.nil ?_
  refine at_n ?_
  refine Sat.seq ?_
  refine Sat.region ?_
  refine Tr.move rfl rfl rfl ?_
  refine Tr.move rfl rfl rfl ?_
  refine Tr.nei rfl rfl rfl rfl (show (!decide _) = false from congrArg not (decide_eq_true (rfl))) ?_
  refine Tr.assign rfl rfl rfl ?_
  refine Tr.nil ?_
  refine at_n ?_
  refine Sat.ret ?_
  refine en_r ?_
  refine ⟨_, [], res_tmp rfl rfl, sP, sP, ?_, rfl⟩
  rfl

set_option maxRecDepth 100000 in
set_option maxHeartbeats 1000000 in
theorem cmp_u64 (x y : UInt64) : Meets Tryz.prog 109 [u64 x, u64 y] [] (fun _ => True) (fun v out => v = i64 (cmp1 x y) ∧ out = []) := by
  intro W hW
  refine calls_of (hp0 := []) Tryz.func109 rfl 20 Tryz.ntmps109 rfl (HRep.nil _) ?_
  refine Sat.seq ?_
  refine Sat.region ?_
  refine Tr.assign rfl rfl rfl ?_
  refine Tr.nil ?_
  refine at_n ?_
  refine Sat.seq ?_
  refine Sat.region ?_
  refine Tr.move rfl rfl rfl ?_
  refine Tr.callV rfl rfl rfl rfl Body130 (isNaN_u64 _) (fun _ _ => trivial) ?_
  refine Tr.assign rfl rfl rfl ?_
  refine Tr.nil ?_
  refine at_n ?_
  refine Sat.seq ?_
  refine Sat.region ?_
  refine Tr.move rfl rfl rfl ?_
  refine Tr.callV rfl rfl rfl rfl Body130 (isNaN_u64 _) (fun _ _ => trivial) ?_
  refine Tr.assign rfl rfl rfl ?_
  refine Tr.nil ?_
  refine at_n ?_
  refine Sat.seq ?_
  refine Sat.seq ?_
  refine Sat.region ?_
  refine Tr.move rfl rfl rfl ?_
  refine Tr.nil ?_
  refine at_n ?_
  refine Sat.cond_f rfl (rfl) ?_
  refine Sat.skip ?_
  refine at_n ?_
  refine Sat.seq ?_
  refine Sat.seq ?_
  refine Sat.region ?_
  refine Tr.move rfl rfl rfl ?_
  refine Tr.nil ?_
  refine at_n ?_
  refine Sat.cond_f rfl (rfl) ?_
  refine Sat.skip ?_
  refine at_n ?_
  refine Sat.seq ?_
  refine Sat.seq ?_
  refine Sat.region ?_
  refine Tr.move rfl rfl rfl ?_
  refine Tr.move rfl rfl rfl ?_
  refine Tr.lss rfl rfl rfl rfl rfl ?_
  refine Tr.nil ?_
  refine at_n ?_
  refine Sat.condP rfl (fun hc3 => ?_) (fun hc3 => ?_)
  ·
    refine Sat.seq ?_
    refine Sat.region ?_
    refine Tr.assign rfl rfl rfl ?_
    refine Tr.nil ?_
    refine at_n ?_
    refine Sat.ret ?_
    refine at_r ?_
    refine en_r ?_
    refine ⟨_, [], res_tmp rfl rfl, sP, sP, ?_, rfl⟩
    unfold cmp1
    rw [if_pos oM]
  ·
    refine Sat.skip ?_
    refine at_n ?_
    refine Sat.seq ?_
    refine Sat.seq ?_
    refine Sat.region ?_
    refine Tr.move rfl rfl rfl ?_
    refine Tr.move rfl rfl rfl ?_
    refine Tr.gtr rfl rfl rfl rfl rfl ?_
    refine Tr.nil ?_
    refine at_n ?_
    refine Sat.condP rfl (fun hc4 => ?_) (fun hc4 => ?_)
    ·
      refine Sat.seq ?_
      refine Sat.region ?_
      refine Tr.assign rfl rfl rfl ?_
      refine Tr.nil ?_
      refine at_n ?_
      refine Sat.ret ?_
      refine at_r ?_
      refine en_r ?_
      refine ⟨_, [], res_tmp rfl rfl, sP, sP, ?_, rfl⟩
      unfold cmp1
      rw [if_neg oM, if_pos oM]
    ·
      refine Sat.skip ?_
      refine at_n ?_
      refine Sat.seq ?_
      refine Sat.region ?_
      refine Tr.assign rfl rfl rfl ?_
      refine Tr.nil ?_
      refine at_n ?_
      refine Sat.ret ?_
      refine en_r ?_
      refine ⟨_, [], res_tmp rfl rfl, sP, sP, ?_, rfl⟩
      unfold cmp1
      rw [if_neg oM, if_neg oM]

set_option maxRecDepth 100000 in
set_option maxHeartbeats 1000000 in
theorem cmpFunc_u64 (b1 o1 c1 b2 o2 c2 n : Nat) (xs ys : List UInt64) (hx : xs.length = n) (hy : ys.length = n) (hn : n ≤ 1000000) : Meets Tryz.prog 108 [.slice (some ⟨b1, o1, none⟩) n c1, .slice (some ⟨b2, o2, none⟩) n c2, .func (.func 109) #[] #[]] [] (fun W => Sees W b1 o1 (wordsV xs) ∧ Sees W b2 o2 (wordsV ys)) (fun v out => v = i64 (cmpW xs ys) ∧ out = []) := by
  intro W hW
  refine calls_of (hp0 := []) Tryz.func108 rfl 39 Tryz.ntmps108 rfl (HRep.nil _) ?_
  refine Sat.seq ?_
  refine Sat.region ?_
  refine Tr.assign rfl rfl rfl ?_
  refine Tr.nil ?_
  refine at_n ?_
  refine Sat.seq ?_
  refine Sat.seq ?_
  refine Sat.region ?_
  refine Tr.move rfl rfl rfl ?_
  refine Tr.lenSl rfl rfl rfl Tryz.underlying109 ?_
  refine Tr.move rfl rfl rfl ?_
  refine Tr.nil ?_
  refine at_n ?_
  refine Sat.block ?_
  refine Sat.loop (ι := Nat) (fun k => ⟨[(0, .slice (some ⟨b1, o1, none⟩) n c1), (1, .slice (some ⟨b2, o2, none⟩) n c2), (2, .func (.func 109) #[] #[]), (11, .slice (some ⟨b1, o1, none⟩) n c1), (12, i64 (n : Int)), (13, i64 (k : Int))], []⟩) (fun k => k ≤ n ∧ ∀ j, j < k → xs.getD j 0 = ys.getD j 0) (fun k => n - k) (0) ?_ ?_ ?_
  · exact ⟨by omega, fun j hj => by omega⟩
  · exact weak_of (wk1 rfl (wk1 rfl (wk1 rfl (wk1 rfl (wk1 rfl (wk1 rfl wk0)))))) wh0 (by repeat (exact ns_nil))
  ·
    rintro k ⟨hk, hi⟩
    refine Sat.seq ?_
    refine Sat.region ?_
    refine Tr.lss rfl rfl rfl rfl rfl ?_
    refine Tr.nil ?_
    refine at_n ?_
    refine Sat.seq ?_
    refine Sat.condP rfl (fun hc0 => ?_) (fun hc0 => ?_)
    ·
      refine Sat.skip ?_
      refine at_n ?_
      refine Sat.seq ?_
      refine Sat.block ?_
      refine Sat.seq ?_
      refine Sat.region ?_
      refine Tr.move rfl rfl rfl ?_
      refine Tr.idxSlO rfl rfl rfl rfl Tryz.underlying109 Sz71 _ rfl oM ?_
      refine Tr.loadE rfl rfl rfl Tryz.underlying71 rfl (by (simp; done)) (hW.1 _ _ (get_words oM)) ?_
      refine Tr.assign rfl rfl rfl ?_
      refine Tr.assign rfl rfl rfl ?_
      refine Tr.nil ?_
      refine at_n ?_
      refine Sat.seq ?_
      refine Sat.seq ?_
      refine Sat.region ?_
      refine Tr.move rfl rfl rfl ?_
      refine Tr.move rfl rfl rfl ?_
      refine Tr.lenSl rfl rfl rfl Tryz.underlying109 ?_
      refine Tr.geq rfl rfl rfl rfl rfl ?_
      refine Tr.nil ?_
      refine at_n ?_
      refine Sat.cond_f rfl (by simp; omega) ?_
      refine Sat.skip ?_
      refine at_n ?_
      refine Sat.seq ?_
      refine Sat.region ?_
      refine Tr.move rfl rfl rfl ?_
      refine Tr.move rfl rfl rfl ?_
      refine Tr.idxSlO rfl rfl rfl rfl Tryz.underlying109 Sz71 _ rfl oM ?_
      refine Tr.loadE rfl rfl rfl Tryz.underlying71 rfl (by (simp; done)) (hW.2 _ _ (get_words oM)) ?_
      refine Tr.assign rfl rfl rfl ?_
      refine Tr.nil ?_
      refine at_n ?_
      refine Sat.seq ?_
      refine Sat.region ?_
      refine Tr.move rfl rfl rfl ?_
      refine Tr.move rfl rfl rfl ?_
      refine Tr.move rfl rfl rfl ?_
      refine Tr.callV rfl rfl rfl rfl Body109 (cmp_u64 _ _) (fun _ _ => trivial) ?_
      refine Tr.assign rfl rfl rfl ?_
      refine Tr.nil ?_
      refine at_n ?_
      refine Sat.seq ?_
      refine Sat.region ?_
      refine Tr.move rfl rfl rfl ?_
      refine Tr.nei rfl rfl rfl rfl rfl ?_
      refine Tr.nil ?_
      refine at_n ?_
      refine Sat.condNP rfl (fun hc2 => ?_) (fun hc2 => ?_)
      ·
        refine Sat.seq ?_
        refine Sat.region ?_
        refine Tr.move rfl rfl rfl ?_
        refine Tr.assign rfl rfl rfl ?_
        refine Tr.nil ?_
        refine at_n ?_
        refine Sat.ret ?_
        refine bl_r ?_
        refine at_r ?_
        refine at_r ?_
        refine bl_r ?_
        refine at_r ?_
        refine en_r ?_
        refine ⟨_, [], res_tmp rfl rfl, sP, sP, ?_, rfl⟩
        exact congrArg i64 (cmpW_at _ _ _ hi oM oM hc2).symm
      ·
        refine Sat.skip ?_
        refine bl_n ?_
        refine at_n ?_
        refine Sat.region ?_
        refine Tr.add_i64 rfl rfl rfl rfl oM ?_
        refine Tr.move rfl rfl rfl ?_
        refine Tr.nil ?_
        refine at_n ?_
        exact ⟨k + 1, ⟨by omega, fun j hj => if h : j < k then hi j h else (show j = k by omega) ▸ cmp1_eq hc2⟩, by omega, weak_of (wk1 rfl (wk1 rfl (wk1 rfl (wk1 rfl (wk1 rfl (wk1 rfl wk0)))))) wh0 (by repeat (exact ns_nil))⟩
    ·
      obtain rfl : k = n := by omega
      refine Sat.exit ?_
      refine at_x ?_
      refine at_x ?_
      refine bl_h ?_
      refine at_n ?_
      refine Sat.seq ?_
      refine Sat.seq ?_
      refine Sat.region ?_
      refine Tr.move rfl rfl rfl ?_
      refine Tr.lenSl rfl rfl rfl Tryz.underlying109 ?_
      refine Tr.move rfl rfl rfl ?_
      refine Tr.lenSl rfl rfl rfl Tryz.underlying109 ?_
      refine Tr.lss rfl rfl rfl rfl rfl ?_
      refine Tr.nil ?_
      refine at_n ?_
      refine Sat.cond_f rfl sP ?_
      refine Sat.skip ?_
      refine at_n ?_
      refine Sat.seq ?_
      refine Sat.region ?_
      refine Tr.assign rfl rfl rfl ?_
      refine Tr.nil ?_
      refine at_n ?_
      refine Sat.ret ?_
      refine en_r ?_
      refine ⟨_, [], res_tmp rfl rfl, sP, sP, ?_, rfl⟩
      exact congrArg i64 (cmpW_all _ _ oM (by rw [hx]; exact hi)).symm

set_option maxRecDepth 100000 in
set_option maxHeartbeats 1000000 in
theorem scalar_below (w m : List UInt64) (hw : w.length = 4) (hm : m.length = 4) : Meets Tryz.prog 69 [agg (wordsV w), agg (wordsV m)] [] (fun _ => True) (fun v out => v = .bool (decide (wv w < wv m)) ∧ out = []) := by
  intro W hW
  refine calls_of (hp0 := []) Tryz.func69 rfl 9 Tryz.ntmps69 rfl (HRep.nil _) ?_
  refine Sat.seq ?_
  refine Sat.region ?_
  refine Tr.boxA rfl rfl ?_
  intro n2 hn2 hf2
  refine Tr.boxA rfl rfl ?_
  intro n3 hn3 hf3
  refine Tr.assign rfl rfl rfl ?_
  refine Tr.nil ?_
  refine at_n ?_
  refine Sat.seq ?_
  refine Sat.draw [(0, 0), (0, 1), (3, 2), (0, 3), (0, 4)] Mixed (by kernel_rfl) ?_
  refine Tr.sliceArr rfl rfl rfl Tryz.underlying93 Sz71 ?_
  refine Tr.sliceArr rfl rfl rfl Tryz.underlying93 Sz71 ?_
  refine Tr.callV rfl rfl rfl rfl Body108 (cmpFunc_u64 _ _ _ _ _ _ 4 w m hw hm oM) (fun W h => ⟨sees_own h (by exact mem1), sees_own h (by exact mem0)⟩) ?_
  refine Tr.lss rfl rfl rfl rfl rfl ?_
  refine Tr.assign rfl rfl rfl ?_
  refine Tr.nil ?_
  refine at_n ?_
  refine Sat.ret ?_
  refine en_r ?_
  refine ⟨_, [], res_tmp rfl rfl, sP, sP, ?_, rfl⟩
  exact congrArg Value.bool (by simp only [cmpW_lt hw hm])

set_option maxRecDepth 100000 in
set_option maxHeartbeats 1000000 in
theorem scalar_minus (w m : List UInt64) (hw : w.length = 4) (hm : m.length = 4) : Meets Tryz.prog 126 [agg (wordsV w), agg (wordsV m)] [] (fun _ => True) (fun v out => v = agg (wordsV (mnsW w m 4).1) ∧ out = []) := by
  intro W hW
  refine calls_of (hp0 := []) Tryz.func126 rfl 25 Tryz.ntmps126 rfl (HRep.nil _) ?_
  refine Sat.seq ?_
  refine Sat.region ?_
  refine Tr.boxA rfl rfl ?_
  intro n2 hn2 hf2
  refine Tr.boxA rfl rfl ?_
  intro n3 hn3 hf3
  refine Tr.alloc (cs := (wordsV (List.replicate 4 0))) rfl Zr93 rfl ?_
  intro n4 hn4 hf4
  refine Tr.nil ?_
  refine at_n ?_
  refine Sat.seq ?_
  refine Sat.region ?_
  refine Tr.assign rfl rfl (show evIn _ _ = some (u64 0) from rfl) ?_
  refine Tr.nil ?_
  refine at_n ?_
  refine Sat.seq ?_
  refine Sat.seq ?_
  refine Sat.region ?_
  refine Tr.assign rfl rfl rfl ?_
  refine Tr.nil ?_
  refine at_n ?_
  refine Sat.block ?_
  refine Sat.loop (ι := Nat) (fun k => ⟨[(2, ptr n2 0), (3, ptr n3 0), (4, ptr n4 0), (5, u64 (mnsW w m k).2), (6, i64 (3 - (k : Int)))], [⟨n4, wordsV (List.replicate 4 0), 93, 4⟩, ⟨n3, wordsV m, 93, (wordsV m).length⟩, ⟨n2, wordsV (mnsW w m k).1, 93, (wordsV w).length⟩]⟩) (fun k => k ≤ 4) (fun k => 4 - k) (0) ?_ ?_ ?_
  · omega
  · exact weak_of (wk1 rfl (wk1 rfl (wk1 rfl (wk1 rfl (wk1 rfl wk0))))) (wh1 (by exact mem0) (wh1 (by exact mem1) (wh1 (by exact mem2) wh0))) (by repeat (first | exact ns_nil | refine ns_keep rfl ?_))
  ·
    rintro k hi
    have hl := mnsW_length w m k
    refine Sat.seq ?_
    refine Sat.seq ?_
    refine Sat.region ?_
    refine Tr.move rfl rfl rfl ?_
    refine Tr.geq rfl rfl rfl rfl rfl ?_
    refine Tr.nil ?_
    refine at_n ?_
    refine Sat.condP rfl (fun hc0 => ?_) (fun hc0 => ?_)
    ·
      have hk4 : k < 4 := by omega
      refine Sat.skip ?_
      refine at_n ?_
      refine Sat.seq ?_
      refine Sat.block ?_
      refine Sat.draw [(0, 0), (0, 1), (0, 2), (1, 3), (0, 4), (0, 5), (1, 6), (0, 7), (0, 8), (0, 9), (0, 10), (0, 11), (0, 12), (4, 13), (0, 14)] Mixed (by kernel_rfl) ?_
      refine Tr.move rfl rfl rfl ?_
      refine Tr.move rfl rfl rfl ?_
      refine Tr.idxArr1 rfl rfl rfl rfl Tryz.underlying93 Sz71 (3 - k) oM oM ?_
      refine Tr.load1 rfl rfl rfl Tryz.underlying71 rfl (by exact mem2) (by exact get_words oM) ?_
      refine Tr.move rfl rfl rfl ?_
      refine Tr.idxArr1 rfl rfl rfl rfl Tryz.underlying93 Sz71 (3 - k) oM oM ?_
      refine Tr.load1 rfl rfl rfl Tryz.underlying71 rfl (by exact mem1) (by exact get_words oM) ?_
      refine Tr.move rfl rfl rfl ?_
      refine Tr.ext rfl rfl rfl rfl (sub64_run _ _ _ (mnsW_borrow w m k)) ?_
      refine Tr.move rfl rfl rfl ?_
      refine Tr.extract rfl rfl rfl rfl ?_
      refine Tr.extract rfl rfl rfl rfl ?_
      refine Tr.idxArr1 rfl rfl rfl rfl Tryz.underlying93 Sz71 (3 - k) oM oM ?_
      refine Tr.store1 rfl rfl rfl rfl rfl Sz71 (by exact mem2) (by (simp [mnsW_length, hw]; omega)) (by exact set_words _ _ _) (by exact upd2) ?_
      refine Tr.assign rfl rfl rfl ?_
      refine Tr.nil ?_
      refine bl_n ?_
      refine at_n ?_
      refine Sat.region ?_
      refine Tr.move rfl rfl rfl ?_
      refine Tr.sub_i64 rfl rfl rfl rfl oM ?_
      refine Tr.assign rfl rfl rfl ?_
      refine Tr.nil ?_
      refine at_n ?_
      exact ⟨k + 1, by omega, by omega, weak_of (wk1 rfl (wk1 rfl (wk1 rfl (wk1 rfl (wk1 (by rw [show (3 - ((k + 1 : Nat) : Int)) = 3 - (k : Int) - 1 by omega]; rfl) wk0))))) (wh1 (by exact mem0) (wh1 (by exact mem1) (wh1 (by exact mem2) wh0))) (by repeat (first | exact ns_nil | refine ns_keep rfl ?_))⟩
    ·
      obtain rfl : k = 4 := by omega
      refine Sat.exit ?_
      refine at_x ?_
      refine at_x ?_
      refine bl_h ?_
      refine at_n ?_
      refine Sat.seq ?_
      refine Sat.region ?_
      refine Tr.loadAll rfl rfl rfl Tryz.underlying93 rfl Sz93 (by exact mem2) (by (simp [mnsW_length, hw]; done)) ?_
      refine Tr.storeAll rfl rfl rfl rfl (by simp [isCell]) Sz93 (by (simp [mnsW_length, hw]; done)) (by exact mem0) (by (simp; done)) (by exact upd0) ?_
      refine Tr.nil ?_
      refine at_n ?_
      refine Sat.ret ?_
      refine en_r ?_
      refine ⟨_, [], res_cell rfl rfl Tryz.underlying93 rfl Sz93 (by exact mem0) (by simp [mnsW_length, hw]), sP, sP, ?_, rfl⟩
      rfl

set_option maxRecDepth 100000 in
set_option maxHeartbeats 1000000 in
theorem mul64_ok (x y : UInt64) : Meets Tryz.prog 99 [u64 x, u64 y] [] (fun _ => True) (fun v out => v = .tuple #[u64 (mulHi x y), u64 (x * y)] ∧ out = []) := by
  intro W hW
  refine calls_of (hp0 := []) Tryz.func99 rfl 51 Tryz.ntmps99 rfl (HRep.nil _) ?_
  refine Sat.seq ?_
  refine Sat.region ?_
  refine Tr.assign rfl rfl (show evIn _ _ = some (u64 0) from rfl) ?_
  refine Tr.assign rfl rfl (show evIn _ _ = some (u64 0) from rfl) ?_
  refine Tr.nil ?_
  refine at_n ?_
  refine Sat.seq ?_
  refine Sat.region ?_
  refine Tr.move rfl rfl rfl ?_
  refine Tr.and_u64 rfl rfl rfl (show evIn _ _ = some (u64 4294967295) from rfl) ?_
  refine Tr.assign rfl rfl rfl ?_
  refine Tr.nil ?_
  refine at_n ?_
  refine Sat.seq ?_
  refine Sat.region ?_
  refine Tr.move rfl rfl rfl ?_
  refine Tr.shr_u64 rfl rfl rfl rfl 32 rfl dE ?_
  refine Tr.assign rfl rfl rfl ?_
  refine Tr.nil ?_
  refine at_n ?_
  refine Sat.seq ?_
  refine Sat.region ?_
  refine Tr.move rfl rfl rfl ?_
  refine Tr.and_u64 rfl rfl rfl (show evIn _ _ = some (u64 4294967295) from rfl) ?_
  refine Tr.assign rfl rfl rfl ?_
  refine Tr.nil ?_
  refine at_n ?_
  refine Sat.seq ?_
  refine Sat.region ?_
  refine Tr.move rfl rfl rfl ?_
  refine Tr.shr_u64 rfl rfl rfl rfl 32 rfl dE ?_
  refine Tr.assign rfl rfl rfl ?_
  refine Tr.nil ?_
  refine at_n ?_
  refine Sat.seq ?_
  refine Sat.region ?_
  refine Tr.move rfl rfl rfl ?_
  refine Tr.move rfl rfl rfl ?_
  refine Tr.mul_u64 rfl rfl rfl rfl ?_
  refine Tr.assign rfl rfl rfl ?_
  refine Tr.nil ?_
  refine at_n ?_
  refine Sat.seq ?_
  refine Sat.region ?_
  refine Tr.move rfl rfl rfl ?_
  refine Tr.move rfl rfl rfl ?_
  refine Tr.mul_u64 rfl rfl rfl rfl ?_
  refine Tr.move rfl rfl rfl ?_
  refine Tr.shr_u64 rfl rfl rfl rfl 32 rfl dE ?_
  refine Tr.add_u64 rfl rfl rfl rfl ?_
  refine Tr.assign rfl rfl rfl ?_
  refine Tr.nil ?_
  refine at_n ?_
  refine Sat.seq ?_
  refine Sat.region ?_
  refine Tr.move rfl rfl rfl ?_
  refine Tr.and_u64 rfl rfl rfl (show evIn _ _ = some (u64 4294967295) from rfl) ?_
  refine Tr.assign rfl rfl rfl ?_
  refine Tr.nil ?_
  refine at_n ?_
  refine Sat.seq ?_
  refine Sat.region ?_
  refine Tr.move rfl rfl rfl ?_
  refine Tr.shr_u64 rfl rfl rfl rfl 32 rfl dE ?_
  refine Tr.assign rfl rfl rfl ?_
  refine Tr.nil ?_
  refine at_n ?_
  refine Sat.seq ?_
  refine Sat.region ?_
  refine Tr.move rfl rfl rfl ?_
  refine Tr.move rfl rfl rfl ?_
  refine Tr.move rfl rfl rfl ?_
  refine Tr.mul_u64 rfl rfl rfl rfl ?_
  refine Tr.add_u64 rfl rfl rfl rfl ?_
  refine Tr.assign rfl rfl rfl ?_
  refine Tr.nil ?_
  refine at_n ?_
  refine Sat.seq ?_
  refine Sat.region ?_
  refine Tr.move rfl rfl rfl ?_
  refine Tr.move rfl rfl rfl ?_
  refine Tr.mul_u64 rfl rfl rfl rfl ?_
  refine Tr.move rfl rfl rfl ?_
  refine Tr.add_u64 rfl rfl rfl rfl ?_
  refine Tr.move rfl rfl rfl ?_
  refine Tr.shr_u64 rfl rfl rfl rfl 32 rfl dE ?_
  refine Tr.add_u64 rfl rfl rfl rfl ?_
  refine Tr.assign rfl rfl rfl ?_
  refine Tr.nil ?_
  refine at_n ?_
  refine Sat.seq ?_
  refine Sat.region ?_
  refine Tr.move rfl rfl rfl ?_
  refine Tr.move rfl rfl rfl ?_
  refine Tr.mul_u64 rfl rfl rfl rfl ?_
  refine Tr.assign rfl rfl rfl ?_
  refine Tr.nil ?_
  refine at_n ?_
  refine Sat.ret ?_
  refine en_r ?_
  refine ⟨_, [], res_tmp2 rfl rfl rfl, sP, sP, ?_, rfl⟩
  rfl

theorem scalar_load_n (a : List UInt8) (ha : a.length = 32) : Meets Tryz.prog 68 [agg (bytesV a)] [] (fun _ => True) (fun v out => v = agg (wordsV (words4 (le a))) ∧ out = []) := by
  rw [← ldW_eq ha]; exact scalar_load a ha
theorem scalar_store_n (n : Nat) : Meets Tryz.prog 127 [agg (wordsV (words4 n))] [] (fun _ => True) (fun v out => v = agg (bytesV (leb 32 n)) ∧ out = []) := by
  rw [← stB_eq n]; exact scalar_store (words4 n) rfl
theorem scalar_modulus_n : Meets Tryz.prog 70 [] [] (fun _ => True) (fun v out => v = agg (wordsV (words4 L)) ∧ out = []) := by
  rw [← modW_eq]; exact scalar_modulus
theorem scalar_doubled_n (n : Nat) (b : UInt64) (hb : b.toNat ≤ 1) : Meets Tryz.prog 125 [agg (wordsV (words4 n)), u64 b] [] (fun _ => True) (fun v out => v = agg (wordsV (words4 (2 * n + b.toNat))) ∧ out = []) := by
  rw [← dblW_eq n b hb]; exact scalar_doubled (words4 n) b rfl
theorem scalar_below_n (n m : Nat) (hn : n < 2 ^ 256) (hm : m < 2 ^ 256) : Meets Tryz.prog 69 [agg (wordsV (words4 n)), agg (wordsV (words4 m))] [] (fun _ => True) (fun v out => v = .bool (decide (n < m)) ∧ out = []) := by
  have := scalar_below (words4 n) (words4 m) rfl rfl
  rw [wv_words4, wv_words4, Nat.mod_eq_of_lt hn, Nat.mod_eq_of_lt hm] at this
  exact this
theorem scalar_minus_n (n m : Nat) (hn : n < 2 ^ 256) (hm : m ≤ n) : Meets Tryz.prog 126 [agg (wordsV (words4 n)), agg (wordsV (words4 m))] [] (fun _ => True) (fun v out => v = agg (wordsV (words4 (n - m))) ∧ out = []) := by
  have := scalar_minus (words4 n) (words4 m) rfl rfl
  rw [mnsW_eq rfl rfl, wv_words4, wv_words4, Nat.mod_eq_of_lt hn, Nat.mod_eq_of_lt (Nat.lt_of_le_of_lt hm hn)] at this
  have e : words4 (n + 2 ^ 256 - m) = words4 (n - m) := by rw [← words4_mod, show (n + 2 ^ 256 - m) % 2 ^ 256 = (n - m) % 2 ^ 256 by omega, words4_mod]
  rw [← e, ← words4_mod n, Nat.mod_eq_of_lt hn]
  exact this
theorem bit_le (x : UInt64) (n : Nat) : (shr64 x n &&& 1).toNat = x.toNat / 2 ^ n % 2 := by
  rw [UInt64.toNat_and, shr64_toNat]
  exact Nat.and_two_pow_sub_one_eq_mod _ 1
theorem words4_start (xs : List UInt64) : words4 (wv (List.take 0 xs) % L) = List.replicate 4 0 := by
  rw [List.take_zero]; decide
theorem res_bd (m : Nat) (x : UInt64) (n : Nat) (h : m < L) : 2 * m + (shr64 x n &&& 1).toNat < 2 ^ 256 := by
  have hL : L < 2 ^ 254 := by decide
  rw [bit_le]; omega

set_option maxRecDepth 100000 in
set_option maxHeartbeats 1000000 in
theorem scalar_residue (b o c n : Nat) (xs : List UInt64) (hx : xs.length = n) (hn : n ≤ 1000000) : Meets Tryz.prog 101 [.slice (some ⟨b, o, none⟩) n c] [] (fun W => Sees W b o (wordsV xs)) (fun v out => v = agg (bytesV (leb 32 (wv xs % L))) ∧ out = []) := by
  intro W hW
  have hL : L < 2 ^ 256 := by decide
  refine calls_of (hp0 := []) Tryz.func101 rfl 35 Tryz.ntmps101 rfl (HRep.nil _) ?_
  refine Sat.seq ?_
  refine Sat.region ?_
  refine Tr.alloc (cs := (bytesV (List.replicate 32 0))) rfl Zr32 rfl ?_
  intro n2 hn2 hf2
  refine Tr.nil ?_
  refine at_n ?_
  refine Sat.seq ?_
  refine Sat.region ?_
  refine Tr.alloc (cs := (wordsV (List.replicate 4 0))) rfl Zr93 rfl ?_
  intro n3 hn3 hf3
  refine Tr.nil ?_
  refine at_n ?_
  refine Sat.seq ?_
  refine Sat.region ?_
  refine Tr.callV rfl rfl rfl rfl Body70 (scalar_modulus_n) (fun _ _ => trivial) ?_
  refine Tr.alloc (cs := (wordsV (List.replicate 4 0))) rfl Zr93 rfl ?_
  intro n4 hn4 hf4
  refine Tr.storeAll rfl rfl rfl rfl (by simp [isCell]) Sz93 (by (simp [words4_length]; done)) (by exact mem0) (by (simp; done)) (by exact upd0) ?_
  refine Tr.nil ?_
  refine at_n ?_
  refine Sat.seq ?_
  refine Sat.seq ?_
  refine Sat.region ?_
  refine Tr.move rfl rfl rfl ?_
  refine Tr.lenSl rfl rfl rfl Tryz.underlying109 ?_
  refine Tr.move rfl rfl rfl ?_
  refine Tr.nil ?_
  refine at_n ?_
  refine Sat.block ?_
  refine Sat.loop (ι := Nat) (fun k => ⟨[(2, ptr n2 0), (3, ptr n3 0), (4, ptr n4 0), (9, .slice (some ⟨b, o, none⟩) n c), (10, i64 (n : Int)), (11, i64 (k : Int))], [⟨n4, wordsV (words4 L), 93, 4⟩, ⟨n3, wordsV (words4 (wv (xs.take k) % L)), 93, 4⟩, ⟨n2, bytesV (List.replicate 32 0), 32, 32⟩]⟩) (fun k => k ≤ n) (fun k => n - k) (0) ?_ ?_ ?_
  · omega
  · exact weak_of (wk1 rfl (wk1 rfl (wk1 rfl (wk1 rfl (wk1 rfl (wk1 rfl wk0)))))) (wh1 (by exact mem0) (wh1 (by rw [words4_start]; exact mem1) (wh1 (by exact mem2) wh0))) (by repeat (first | exact ns_nil | refine ns_keep rfl ?_))
  ·
    rintro k hi
    refine Sat.seq ?_
    refine Sat.region ?_
    refine Tr.lss rfl rfl rfl rfl rfl ?_
    refine Tr.nil ?_
    refine at_n ?_
    refine Sat.seq ?_
    refine Sat.condP rfl (fun hc0 => ?_) (fun hc0 => ?_)
    ·
      refine Sat.skip ?_
      refine at_n ?_
      refine Sat.seq ?_
      refine Sat.block ?_
      refine Sat.seq ?_
      refine Sat.region ?_
      refine Tr.idxSlO rfl rfl rfl rfl Tryz.underlying109 Sz71 _ rfl oM ?_
      refine Tr.loadE rfl rfl rfl Tryz.underlying71 rfl (by (simp; done)) (hW _ _ (get_words oM)) ?_
      refine Tr.assign rfl rfl rfl ?_
      refine Tr.nil ?_
      refine at_n ?_
      refine Sat.seq ?_
      refine Sat.region ?_
      refine Tr.assign rfl rfl rfl ?_
      refine Tr.nil ?_
      refine at_n ?_
      refine Sat.block ?_
      refine Sat.loop (ι := Nat) (fun t => ⟨[(2, ptr n2 0), (3, ptr n3 0), (4, ptr n4 0), (6, u64 (xs.getD k 0)), (7, i64 (63 - (t : Int))), (9, .slice (some ⟨b, o, none⟩) n c), (10, i64 (n : Int)), (11, i64 (k : Int))], [⟨n4, wordsV (words4 L), 93, 4⟩, ⟨n3, wordsV (words4 ((wv (xs.take k) * 2 ^ (t) + (xs.getD k 0).toNat / 2 ^ (64 - (t))) % L)), 93, 4⟩, ⟨n2, bytesV (List.replicate 32 0), 32, 32⟩]⟩) (fun t => t ≤ 64) (fun t => 64 - t) (0) ?_ ?_ ?_
      · omega
      · exact weak_of (wk1 rfl (wk1 rfl (wk1 rfl (wk1 rfl (wk1 rfl (wk1 rfl (wk1 rfl (wk1 rfl wk0)))))))) (wh1 (by exact mem0) (wh1 (by rw [Nat.pow_zero, Nat.mul_one, Nat.div_eq_of_lt (UInt64.toNat_lt _), Nat.add_zero]; exact mem1) (wh1 (by exact mem2) wh0))) (by repeat (first | exact ns_nil | refine ns_keep rfl ?_))
      ·
        rintro t hi
        refine Sat.seq ?_
        refine Sat.seq ?_
        refine Sat.region ?_
        refine Tr.move rfl rfl rfl ?_
        refine Tr.geq rfl rfl rfl rfl rfl ?_
        refine Tr.nil ?_
        refine at_n ?_
        refine Sat.condP rfl (fun hc1 => ?_) (fun hc1 => ?_)
        ·
          have ht : t < 64 := by omega
          have hmL : (wv (xs.take k) * 2 ^ t + (xs.getD k 0).toNat / 2 ^ (64 - t)) % L < L := Nat.mod_lt _ dE
          refine Sat.skip ?_
          refine at_n ?_
          refine Sat.join (ι := Unit) (fun _u => ⟨[(2, ptr n2 0), (3, ptr n3 0), (4, ptr n4 0), (6, u64 (xs.getD k 0)), (7, i64 (63 - (t : Int))), (9, .slice (some ⟨b, o, none⟩) n c), (10, i64 (n : Int)), (11, i64 (k : Int))], [⟨n4, wordsV (words4 L), 93, 4⟩, ⟨n3, wordsV (words4 ((wv (xs.take k) * 2 ^ (t + 1) + (xs.getD k 0).toNat / 2 ^ (64 - (t + 1))) % L)), 93, 4⟩, ⟨n2, bytesV (List.replicate 32 0), 32, 32⟩]⟩) (fun _u => True) ?_ ?_
          ·
            refine Sat.block ?_
            refine Sat.seq ?_
            refine Sat.draw [(1, 0), (0, 1), (0, 2), (0, 3), (0, 4), (3, 5), (4, 6)] Mixed (by kernel_rfl) ?_
            refine Tr.loadAll rfl rfl rfl Tryz.underlying93 rfl Sz93 (by exact mem1) (by (simp [words4_length]; done)) ?_
            refine Tr.move rfl rfl rfl ?_
            refine Tr.move rfl rfl rfl ?_
            refine Tr.shr_u64 rfl rfl rfl rfl (63 - t) oM oM ?_
            refine Tr.and_u64 rfl rfl rfl (show evIn _ _ = some (u64 1) from rfl) ?_
            refine Tr.callV rfl rfl rfl rfl Body125 (scalar_doubled_n _ _ (by rw [bit_le]; omega)) (fun _ _ => trivial) ?_
            refine Tr.storeAll rfl rfl rfl rfl (by simp [isCell]) Sz93 (by (simp [words4_length]; done)) (by exact mem1) (by (simp [words4_length]; done)) (by exact upd1) ?_
            refine Tr.nil ?_
            refine at_n ?_
            refine Sat.seq ?_
            refine Sat.region ?_
            refine Tr.loadAll rfl rfl rfl Tryz.underlying93 rfl Sz93 (by exact mem1) (by (simp [words4_length]; done)) ?_
            refine Tr.loadAll rfl rfl rfl Tryz.underlying93 rfl Sz93 (by exact mem0) (by (simp [words4_length]; done)) ?_
            refine Tr.callV rfl rfl rfl rfl Body69 (scalar_below_n _ _ (res_bd _ _ _ hmL) hL) (fun _ _ => trivial) ?_
            refine Tr.not rfl rfl rfl ?_
            refine Tr.nil ?_
            refine at_n ?_
            refine Sat.condNP rfl (fun hc2 => ?_) (fun hc2 => ?_)
            ·
              refine Sat.region ?_
              refine Tr.loadAll rfl rfl rfl Tryz.underlying93 rfl Sz93 (by exact mem1) (by (simp [words4_length]; done)) ?_
              refine Tr.loadAll rfl rfl rfl Tryz.underlying93 rfl Sz93 (by exact mem0) (by (simp [words4_length]; done)) ?_
              refine Tr.callV rfl rfl rfl rfl Body126 (scalar_minus_n _ _ (res_bd _ _ _ hmL) (Nat.le_of_not_lt hc2)) (fun _ _ => trivial) ?_
              refine Tr.storeAll rfl rfl rfl rfl (by simp [isCell]) Sz93 (by (simp [words4_length]; done)) (by exact mem1) (by (simp [words4_length]; done)) (by exact upd1) ?_
              refine Tr.nil ?_
              refine bl_n ?_
              refine at_n ?_
              have hst := res_step (wv (xs.take k)) (xs.getD k 0).toNat t (UInt64.toNat_lt _) ht
              simp only [] at hst
              refine ⟨(), trivial, weak_of (wk1 rfl (wk1 rfl (wk1 rfl (wk1 rfl (wk1 rfl (wk1 rfl (wk1 rfl (wk1 rfl wk0)))))))) (wh1 (by exact mem0) (wh1 (by rw [show 64 - (t + 1) = 63 - t by omega, ← hst, ← bit_le]; simp only [hc2, if_true, if_false]; exact mem1) (wh1 (by exact mem2) wh0))) (by repeat (first | exact ns_nil | refine ns_keep rfl ?_))⟩
            ·
              refine Sat.skip ?_
              refine bl_n ?_
              refine at_n ?_
              have hst := res_step (wv (xs.take k)) (xs.getD k 0).toNat t (UInt64.toNat_lt _) ht
              simp only [] at hst
              refine ⟨(), trivial, weak_of (wk1 rfl (wk1 rfl (wk1 rfl (wk1 rfl (wk1 rfl (wk1 rfl (wk1 rfl (wk1 rfl wk0)))))))) (wh1 (by exact mem0) (wh1 (by rw [show 64 - (t + 1) = 63 - t by omega, ← hst, ← bit_le]; simp only [hc2, if_true, if_false]; exact mem1) (wh1 (by exact mem2) wh0))) (by repeat (first | exact ns_nil | refine ns_keep rfl ?_))⟩
          ·
            intro _u hj
            skip
            refine Sat.region ?_
            refine Tr.move rfl rfl rfl ?_
            refine Tr.sub_i64 rfl rfl rfl rfl oM ?_
            refine Tr.assign rfl rfl rfl ?_
            refine Tr.nil ?_
            refine at_n ?_
            exact ⟨t + 1, by omega, by omega, weak_of (wk1 rfl (wk1 rfl (wk1 rfl (wk1 rfl (wk1 (by rw [show (63 - ((t + 1 : Nat) : Int)) = 63 - (t : Int) - 1 by omega]; rfl) (wk1 rfl (wk1 rfl (wk1 rfl wk0)))))))) (wh1 (by exact mem0) (wh1 (by exact mem1) (wh1 (by exact mem2) wh0))) (by repeat (first | exact ns_nil | refine ns_keep rfl ?_))⟩
        ·
          obtain rfl : t = 64 := by omega
          refine Sat.exit ?_
          refine at_x ?_
          refine at_x ?_
          refine bl_h ?_
          refine bl_n ?_
          refine at_n ?_
          refine Sat.region ?_
          refine Tr.add_i64 rfl rfl rfl rfl oM ?_
          refine Tr.move rfl rfl rfl ?_
          refine Tr.nil ?_
          refine at_n ?_
          exact ⟨k + 1, by omega, by omega, weak_of (wk1 rfl (wk1 rfl (wk1 rfl (wk1 rfl (wk1 rfl (wk1 rfl wk0)))))) (wh1 (by exact mem0) (wh1 (by rw [wv_take_succ xs k oM, show (64 - 64 : Nat) = 0 from rfl, Nat.pow_zero, Nat.div_one]; exact mem1) (wh1 (by exact mem2) wh0))) (by repeat (first | exact ns_nil | refine ns_keep rfl ?_))⟩
    ·
      obtain rfl : k = n := by omega
      refine Sat.exit ?_
      refine at_x ?_
      refine at_x ?_
      refine bl_h ?_
      refine at_n ?_
      refine Sat.seq ?_
      refine Sat.region ?_
      refine Tr.loadAll rfl rfl rfl Tryz.underlying93 rfl Sz93 (by exact mem1) (by (simp [words4_length]; done)) ?_
      refine Tr.callV rfl rfl rfl rfl Body127 (scalar_store_n _) (fun _ _ => trivial) ?_
      refine Tr.storeAll rfl rfl rfl rfl (by simp [isCell]) Sz32 (by (simp [leb_length]; done)) (by exact mem2) (by (simp; done)) (by exact upd2) ?_
      refine Tr.nil ?_
      refine at_n ?_
      refine Sat.ret ?_
      refine en_r ?_
      refine ⟨_, [], res_cell rfl rfl Tryz.underlying32 rfl Sz32 (by exact mem2) (by simp [leb_length]), sP, sP, ?_, rfl⟩
      rw [List.take_of_length_le oM]

end Go.Proofs.YtmddgelpllffoaaGreat
end

section
namespace Go.Proofs.YtmddgelpllffoaaGreat
open Go Hw
set_option linter.unusedVariables false
set_option linter.unusedSimpArgs false

set_option maxRecDepth 100000 in
set_option maxHeartbeats 1000000 in
theorem scalar_muladd (a b c : List UInt8) (ha : a.length = 32) (hb : b.length = 32) (hc : c.length = 32) : Meets Tryz.prog 50 [agg (bytesV a), agg (bytesV b), agg (bytesV c)] [] (fun _ => True) (fun v out => v = agg (bytesV (leb 32 ((le a * le b + le c) % L))) ∧ out = []) := by
  intro W hW
  refine calls_of (hp0 := []) Tryz.func50 rfl 80 Tryz.ntmps50 rfl (HRep.nil _) ?_
  refine Sat.seq ?_
  refine Sat.region ?_
  refine Tr.boxA rfl rfl ?_
  intro n3 hn3 hf3
  refine Tr.boxA rfl rfl ?_
  intro n4 hn4 hf4
  refine Tr.boxA rfl rfl ?_
  intro n5 hn5 hf5
  refine Tr.alloc (cs := (bytesV (List.replicate 32 0))) rfl Zr32 rfl ?_
  intro n6 hn6 hf6
  refine Tr.nil ?_
  refine at_n ?_
  refine Sat.seq ?_
  refine Sat.draw [(1, 0), (1, 2), (1, 4), (3, 1), (3, 3), (3, 5), (2, 6), (2, 7), (2, 8), (4, 9), (4, 10), (4, 11)] Mixed (by kernel_rfl) ?_
  refine Tr.loadAll rfl rfl rfl Tryz.underlying32 rfl Sz32 (by exact mem3) (by (simp [ha]; done)) ?_
  refine Tr.loadAll rfl rfl rfl Tryz.underlying32 rfl Sz32 (by exact mem2) (by (simp [hb]; done)) ?_
  refine Tr.loadAll rfl rfl rfl Tryz.underlying32 rfl Sz32 (by exact mem1) (by (simp [hc]; done)) ?_
  refine Tr.callV rfl rfl rfl rfl Body68 (scalar_load_n _ (by simp [ha])) (fun _ _ => trivial) ?_
  refine Tr.callV rfl rfl rfl rfl Body68 (scalar_load_n _ (by simp [hb])) (fun _ _ => trivial) ?_
  refine Tr.callV rfl rfl rfl rfl Body68 (scalar_load_n _ (by simp [hc])) (fun _ _ => trivial) ?_
  refine Tr.alloc (cs := (wordsV (List.replicate 4 0))) rfl Zr93 rfl ?_
  intro n7 hn7 hf7
  refine Tr.alloc (cs := (wordsV (List.replicate 4 0))) rfl Zr93 rfl ?_
  intro n8 hn8 hf8
  refine Tr.alloc (cs := (wordsV (List.replicate 4 0))) rfl Zr93 rfl ?_
  intro n9 hn9 hf9
  refine Tr.storeAll rfl rfl rfl rfl (by simp [isCell]) Sz93 (by (simp [words4_length]; done)) (by exact mem2) (by (simp; done)) (by exact upd2) ?_
  refine Tr.storeAll rfl rfl rfl rfl (by simp [isCell]) Sz93 (by (simp [words4_length]; done)) (by exact mem1) (by (simp; done)) (by exact upd1) ?_
  refine Tr.storeAll rfl rfl rfl rfl (by simp [isCell]) Sz93 (by (simp [words4_length]; done)) (by exact mem0) (by (simp; done)) (by exact upd0) ?_
  refine Tr.nil ?_
  refine at_n ?_
  refine Sat.seq ?_
  refine Sat.region ?_
  refine Tr.alloc (cs := (wordsV (List.replicate 8 0))) rfl Zr87 rfl ?_
  intro n10 hn10 hf10
  refine Tr.nil ?_
  refine at_n ?_
  refine Sat.seq ?_
  refine Sat.draw [(0, 0), (0, 1), (4, 2)] Mixed (by kernel_rfl) ?_
  refine Tr.sliceArrLo 4 rfl rfl rfl rfl rfl dE Tryz.underlying87 Sz71 ?_
  refine Tr.sliceArr rfl rfl rfl Tryz.underlying93 Sz71 ?_
  refine Tr.copy1 (vs := wordsV (words4 (le c))) (cs' := wordsV ([0, 0, 0, 0] ++ words4 (le c))) rfl rfl rfl rfl rfl Tryz.underlying109 Sz71 (by exact mem1) (by exact rfl) (by simp [words4_length]) (by simp [isCell]) (by exact mem0) (by simp [words4_length]) (by exact rfl) (by exact upd0) ?_
  refine Tr.nil ?_
  refine at_n ?_
  refine Sat.seq ?_
  refine Sat.seq ?_
  refine Sat.region ?_
  refine Tr.assign rfl rfl rfl ?_
  refine Tr.nil ?_
  refine at_n ?_
  refine Sat.block ?_
  refine Sat.loop (ι := Nat) (fun p => ⟨[(6, ptr n6 0), (7, ptr n7 0), (8, ptr n8 0), (10, ptr n10 0), (11, i64 (3 - (p : Int)))], [⟨n10, wordsV (outM (words4 (le a)) (words4 (le b)) ([0, 0, 0, 0] ++ words4 (le c)) (p)), 87, 8⟩, ⟨n8, wordsV (words4 (le b)), 93, 4⟩, ⟨n7, wordsV (words4 (le a)), 93, 4⟩, ⟨n6, bytesV (List.replicate 32 0), 32, 32⟩]⟩) (fun p => p ≤ 4) (fun p => 4 - p) (0) ?_ ?_ ?_
  · omega
  · exact weak_of (wk1 rfl (wk1 rfl (wk1 rfl (wk1 rfl (wk1 rfl wk0))))) (wh1 (by exact mem0) (wh1 (by exact mem2) (wh1 (by exact mem3) (wh1 (by exact mem4) wh0)))) nD
  ·
    rintro p hp4
    have hol := outM_length (words4 (le a)) (words4 (le b)) ([0, 0, 0, 0] ++ words4 (le c)) p
    refine Sat.seq ?_
    refine Sat.seq ?_
    refine Sat.region ?_
    refine Tr.move rfl rfl rfl ?_
    refine Tr.geq rfl rfl rfl rfl rfl ?_
    refine Tr.nil ?_
    refine at_n ?_
    refine Sat.condP rfl (fun hc0 => ?_) (fun hc0 => ?_)
    ·
      have hp : p < 4 := by omega
      refine Sat.skip ?_
      refine at_n ?_
      refine Sat.seq ?_
      refine Sat.block ?_
      refine Sat.seq ?_
      refine Sat.region ?_
      refine Tr.assign rfl rfl (show evIn _ _ = some (u64 0) from rfl) ?_
      refine Tr.nil ?_
      refine at_n ?_
      refine Sat.seq ?_
      refine Sat.seq ?_
      refine Sat.region ?_
      refine Tr.assign rfl rfl rfl ?_
      refine Tr.nil ?_
      refine at_n ?_
      refine Sat.block ?_
      refine Sat.loop (ι := Nat) (fun q => ⟨[(6, ptr n6 0), (7, ptr n7 0), (8, ptr n8 0), (10, ptr n10 0), (11, i64 (3 - (p : Int))), (12, u64 (innM ((words4 (le a)).getD (3 - p) 0) (words4 (le b)) (3 - p) (outM (words4 (le a)) (words4 (le b)) ([0, 0, 0, 0] ++ words4 (le c)) (p)) (q)).2), (13, i64 (3 - (q : Int)))], [⟨n10, wordsV (innM ((words4 (le a)).getD (3 - p) 0) (words4 (le b)) (3 - p) (outM (words4 (le a)) (words4 (le b)) ([0, 0, 0, 0] ++ words4 (le c)) (p)) (q)).1, 87, 8⟩, ⟨n8, wordsV (words4 (le b)), 93, 4⟩, ⟨n7, wordsV (words4 (le a)), 93, 4⟩, ⟨n6, bytesV (List.replicate 32 0), 32, 32⟩]⟩) (fun q => q ≤ 4) (fun q => 4 - q) (0) ?_ ?_ ?_
      · omega
      · exact weak_of (wk1 rfl (wk1 rfl (wk1 rfl (wk1 rfl (wk1 rfl (wk1 rfl (wk1 rfl wk0))))))) (wh1 (by exact mem0) (wh1 (by exact mem1) (wh1 (by exact mem2) (wh1 (by exact mem3) wh0)))) (by repeat (first | exact ns_nil | refine ns_keep rfl ?_))
      ·
        rintro q hq4
        have hil := innM_length ((words4 (le a)).getD (3 - p) 0) (words4 (le b)) (3 - p) (outM (words4 (le a)) (words4 (le b)) ([0, 0, 0, 0] ++ words4 (le c)) (p)) q
        refine Sat.seq ?_
        refine Sat.seq ?_
        refine Sat.region ?_
        refine Tr.move rfl rfl rfl ?_
        refine Tr.geq rfl rfl rfl rfl rfl ?_
        refine Tr.nil ?_
        refine at_n ?_
        refine Sat.condP rfl (fun hc1 => ?_) (fun hc1 => ?_)
        ·
          have hq : q < 4 := by omega
          refine Sat.skip ?_
          refine at_n ?_
          refine Sat.seq ?_
          refine Sat.block ?_
          refine Sat.seq ?_
          refine Sat.draw [(0, 0), (0, 1), (1, 2), (0, 3), (0, 4), (1, 5), (3, 6), (0, 7), (0, 8), (0, 9), (0, 10), (0, 11)] Mixed (by kernel_rfl) ?_
          refine Tr.move rfl rfl rfl ?_
          refine Tr.idxArr1 rfl rfl rfl rfl Tryz.underlying93 Sz71 (3 - p) oM oM ?_
          refine Tr.load1 rfl rfl rfl Tryz.underlying71 rfl (by exact mem2) (by exact get_words (by (simp [words4_length]; omega))) ?_
          refine Tr.move rfl rfl rfl ?_
          refine Tr.idxArr1 rfl rfl rfl rfl Tryz.underlying93 Sz71 (3 - q) oM oM ?_
          refine Tr.load1 rfl rfl rfl Tryz.underlying71 rfl (by exact mem1) (by exact get_words (by (simp [words4_length]; omega))) ?_
          refine Tr.callV rfl rfl rfl rfl Body99 (mul64_ok _ _) (fun _ _ => trivial) ?_
          refine Tr.move rfl rfl rfl ?_
          refine Tr.extract rfl rfl rfl rfl ?_
          refine Tr.extract rfl rfl rfl rfl ?_
          refine Tr.assign rfl rfl rfl ?_
          refine Tr.assign rfl rfl rfl ?_
          refine Tr.nil ?_
          refine at_n ?_
          refine Sat.seq ?_
          refine Sat.region ?_
          refine Tr.move rfl rfl rfl ?_
          refine Tr.move rfl rfl rfl ?_
          refine Tr.move rfl rfl rfl ?_
          refine Tr.add_i64 rfl rfl rfl rfl oM ?_
          refine Tr.add_i64 rfl rfl rfl rfl oM ?_
          refine Tr.idxArr1 rfl rfl rfl rfl Tryz.underlying87 Sz71 (3 - p + (3 - q) + 1) oM oM ?_
          refine Tr.load1 rfl rfl rfl Tryz.underlying71 rfl (by exact mem0) (by exact get_words (by (simp [words4_length, innM_length, outM_length]; omega))) ?_
          refine Tr.ext rfl rfl rfl rfl (add64_run _ _ 0 dE) ?_
          refine Tr.move rfl rfl rfl ?_
          refine Tr.extract rfl rfl rfl rfl ?_
          refine Tr.extract rfl rfl rfl rfl ?_
          refine Tr.assign rfl rfl rfl ?_
          refine Tr.assign rfl rfl rfl ?_
          refine Tr.nil ?_
          refine at_n ?_
          refine Sat.seq ?_
          refine Sat.region ?_
          refine Tr.move rfl rfl rfl ?_
          refine Tr.move rfl rfl rfl ?_
          refine Tr.add_u64 rfl rfl rfl rfl ?_
          refine Tr.assign rfl rfl rfl ?_
          refine Tr.nil ?_
          refine at_n ?_
          refine Sat.seq ?_
          refine Sat.region ?_
          refine Tr.move rfl rfl rfl ?_
          refine Tr.move rfl rfl rfl ?_
          refine Tr.add_i64 rfl rfl rfl rfl oM ?_
          refine Tr.add_i64 rfl rfl rfl rfl oM ?_
          refine Tr.move rfl rfl rfl ?_
          refine Tr.move rfl rfl rfl ?_
          refine Tr.ext rfl rfl rfl rfl (add64_run _ _ 0 dE) ?_
          refine Tr.move rfl rfl rfl ?_
          refine Tr.extract rfl rfl rfl rfl ?_
          refine Tr.extract rfl rfl rfl rfl ?_
          refine Tr.idxArr1 rfl rfl rfl rfl Tryz.underlying87 Sz71 (3 - p + (3 - q) + 1) oM oM ?_
          refine Tr.store1 rfl rfl rfl rfl rfl Sz71 (by exact mem0) (by (simp [words4_length, innM_length, outM_length]; omega)) (by exact set_words _ _ _) (by exact upd0) ?_
          refine Tr.assign rfl rfl rfl ?_
          refine Tr.nil ?_
          refine at_n ?_
          refine Sat.region ?_
          refine Tr.move rfl rfl rfl ?_
          refine Tr.move rfl rfl rfl ?_
          refine Tr.add_u64 rfl rfl rfl rfl ?_
          refine Tr.assign rfl rfl rfl ?_
          refine Tr.nil ?_
          refine bl_n ?_
          refine at_n ?_
          refine Sat.region ?_
          refine Tr.move rfl rfl rfl ?_
          refine Tr.sub_i64 rfl rfl rfl rfl oM ?_
          refine Tr.assign rfl rfl rfl ?_
          refine Tr.nil ?_
          refine at_n ?_
          exact ⟨q + 1, by omega, by omega, weak_of (wk1 rfl (wk1 rfl (wk1 rfl (wk1 rfl (wk1 rfl (wk1 (by rw [innM_snd]; rfl) (wk1 (by rw [show (3 - ((q + 1 : Nat) : Int)) = 3 - (q : Int) - 1 by omega]; rfl) wk0))))))) (wh1 (by rw [innM_fst]; exact mem0) (wh1 (by exact mem1) (wh1 (by exact mem2) (wh1 (by exact mem3) wh0)))) (by repeat (first | exact ns_nil | refine ns_keep rfl ?_))⟩
        ·
          obtain rfl : q = 4 := by omega
          refine Sat.exit ?_
          refine at_x ?_
          refine at_x ?_
          refine bl_h ?_
          refine at_n ?_
          refine Sat.region ?_
          refine Tr.move rfl rfl rfl ?_
          refine Tr.idxArr1 rfl rfl rfl rfl Tryz.underlying87 Sz71 (3 - p) oM oM ?_
          refine Tr.load1 rfl rfl rfl Tryz.underlying71 rfl (by exact mem0) (by exact get_words (by (simp [words4_length, innM_length, outM_length]; omega))) ?_
          refine Tr.move rfl rfl rfl ?_
          refine Tr.add_u64 rfl rfl rfl rfl ?_
          refine Tr.idxArr1 rfl rfl rfl rfl Tryz.underlying87 Sz71 (3 - p) oM oM ?_
          refine Tr.store1 rfl rfl rfl rfl rfl Sz71 (by exact mem0) (by (simp [words4_length, innM_length, outM_length]; omega)) (by exact set_words _ _ _) (by exact upd0) ?_
          refine Tr.nil ?_
          refine bl_n ?_
          refine at_n ?_
          refine Sat.region ?_
          refine Tr.move rfl rfl rfl ?_
          refine Tr.sub_i64 rfl rfl rfl rfl oM ?_
          refine Tr.assign rfl rfl rfl ?_
          refine Tr.nil ?_
          refine at_n ?_
          exact ⟨p + 1, by omega, by omega, weak_of (wk1 rfl (wk1 rfl (wk1 rfl (wk1 rfl (wk1 (by rw [show (3 - ((p + 1 : Nat) : Int)) = 3 - (p : Int) - 1 by omega]; rfl) wk0))))) (wh1 (by exact mem0) (wh1 (by exact mem1) (wh1 (by exact mem2) (wh1 (by exact mem3) wh0)))) (by repeat (first | exact ns_nil | refine ns_keep rfl ?_))⟩
    ·
      obtain rfl : p = 4 := by omega
      refine Sat.exit ?_
      refine at_x ?_
      refine at_x ?_
      refine bl_h ?_
      refine at_n ?_
      refine Sat.seq ?_
      refine Sat.region ?_
      refine Tr.sliceArr rfl rfl rfl Tryz.underlying87 Sz71 ?_
      refine Tr.callV rfl rfl rfl rfl Body101 (scalar_residue _ _ _ 8 (outM (words4 (le a)) (words4 (le b)) ([0, 0, 0, 0] ++ words4 (le c)) (4)) (by simp [words4_length, outM_length]) oM) (fun W h => sees_own h (by exact mem0)) ?_
      refine Tr.storeAll rfl rfl rfl rfl (by simp [isCell]) Sz32 (by (simp [leb_length]; done)) (by exact mem3) (by (simp; done)) (by exact upd3) ?_
      refine Tr.nil ?_
      refine at_n ?_
      refine Sat.ret ?_
      refine en_r ?_
      refine ⟨_, [], res_cell rfl rfl Tryz.underlying32 rfl Sz32 (by exact mem3) (by simp [leb_length]), sP, sP, ?_, rfl⟩
      rw [maW_val rfl rfl rfl, wv_words4, wv_words4, wv_words4, Nat.mod_eq_of_lt (le32 ha), Nat.mod_eq_of_lt (le32 hb), Nat.mod_eq_of_lt (le32 hc)]

end Go.Proofs.YtmddgelpllffoaaGreat
end

section
namespace Hw
open Go
set_option linter.unusedSimpArgs false
set_option linter.unusedVariables false

theorem bytesV_cell (l : List UInt8) : ∀ u ∈ bytesV l, isCell u = true := fun u hu => by
  simp only [bytesV, List.mem_map] at hu
  obtain ⟨_, _, rfl⟩ := hu
  rfl
def bLen (n : Nat) : Nat := if n = 0 then 0 else Nat.log2 n + 1
def szN (n : Nat) : Nat := min ((bLen (n ||| 1) + 6) / 7) 9
def tailB (x : UInt64) : Nat → List UInt8
  | 0 => []
  | k + 1 => (shr64 x (8 * k)).toUInt8 :: tailB x k
def headB (x : UInt64) : UInt8 := shl8 255 (9 - szN x.toNat) ||| (shr64 x (8 * (szN x.toNat - 1))).toUInt8
/-- the bytes of a number -/
def numB (x : UInt64) : List UInt8 := headB x :: tailB x (szN x.toNat - 1)
end Hw
end

section
namespace Hw
open Go Go.RowKit
set_option linter.unusedSimpArgs false
set_option linter.unusedVariables false

def FW (ro : Option Nat) : Fence := { Fence.wide with round := ro }
def noDefer (ops : Array Oper) : Bool := ops.all fun o => match o.op with | .defer _ => false | _ => true
theorem noDefer_at {ops : Array Oper} (h : noDefer ops = true) {i : Nat} {o : Oper} (hi : ops[i]? = some o) : ∀ c, o.op ≠ .defer c := fun c hc => by
  obtain ⟨hlt, he⟩ := Array.getElem?_eq_some_iff.1 hi
  have := (Array.all_eq_true.1 h) i hlt
  rw [he, hc] at this
  cases this

section
variable {ro : Option Nat} {n : Nat} {P : Program}
theorem calls_FW {f : FuncId} {args : Array Value} {w : World} {R R' : Ending → World → Prop} (h : Calls P f args w R) (hr : ∀ e w, R e w → R' e w) : CallsIn (FW ro) n P f args w R' :=
  show CallsIn Fence.wide n P f args w R' from callsIn_wide.2 (h.mono hr)
theorem rows_FW {row : String} {args : Array Value} {w : World} {R : Value → World → Prop} (h : Rows P row args w R) : RowsIn (FW ro) n P row args w R :=
  show RowsIn Fence.wide n P row args w R from fun c cs _ => let ⟨v, w', r, s⟩ := h c cs; ⟨v, w', r, stepsIn_wide.2 s⟩

theorem wp_in {o : Oper} {a : Act} {w : World} {K : Act → World → Prop} {X : Exit → Act → World → Prop} (h : Oper.wp P o a w K X) (hnd : ∀ c, o.op ≠ .defer c) : Oper.wpIn (FW ro) n P o a w K X := by
  refine ⟨fun f _ => trivial, ?_⟩
  rw [Oper.semAt_eq _ _ _ hnd]
  unfold Oper.wp at h
  generalize (execOp a.eval o).run P w = r at h ⊢
  cases r with
  | ok x w' =>
    cases x <;> simp only [Oper.upon] at h <;> simp only [Oper.uponIn]
    case value => exact h
    case skip => exact h
    case defer => exact h
    case enter f args => exact ⟨fun h0 => (by cases h0), calls_FW h fun e w h => h⟩
    case row => exact ⟨fun h0 => (by cases h0), rows_FW h⟩
  | halt x w' => cases x <;> simp only [Oper.upon] at h <;> simp only [Oper.uponIn] <;> exact h

theorem wpOp_in {ops : Array Oper} {X : Exit → Act → World → Prop} {i : Nat} {K : Act → World → Prop} {a : Act} {w : World} (h : wpOp P ops X i K a w) (hnd : noDefer ops = true) (hX : ∀ a w, ¬ X .outgrown a w) : wpOpIn (FW ro) n P ops X i K a w := by
  unfold wpOp at h
  unfold wpOpIn
  cases ho : ops[i]? with
  | none => rw [ho] at h; exact h
  | some o =>
    rw [ho] at h
    simp only at h ⊢
    split
    · rename_i hw
      rw [if_pos hw] at h
      rcases h with h | ⟨_, a0, w0, h⟩
      · exact wp_in h (noDefer_at hnd ho)
      · exact absurd h (hX a0 w0)
    · rename_i hw
      rw [if_neg hw] at h
      exact ⟨fun f _ => trivial, h⟩
theorem wpOps_in {ops : Array Oper} {X : Exit → Act → World → Prop} (hnd : noDefer ops = true) (hX : ∀ a w, ¬ X .outgrown a w) : ∀ (l : List Nat) (a : Act) (w : World), wpOps P ops X l a w → wpOpsIn (FW ro) n P ops X l a w
  | [], a, w, h => h
  | i :: l, a, w, h => by
    rw [wpOps_cons] at h
    rw [wpOpsIn_cons]
    exact wpOpIn_mono (fun a w h => wpOps_in hnd hX l a w h) (wpOp_in h hnd hX)
end

/-- as Sat, in a round's frame (or a plain one) -/
def SatI (ro : Option Nat) (C : Cx) (code : Code) (s : St) (Q : St → Prop) : Prop :=
  ∀ a w, Rep C s a w → code.wpIn (FW ro) 0 C.P (Fin C Q) a w
theorem fin_out {C : Cx} {Q : St → Prop} : ∀ a w, ¬ Fin C Q .outgrown a w := fun a w h => by cases h.1
theorem SatI.region {ro : Option Nat} {C : Cx} {id : Nat} {ops : List Oper} {s : St} {Q : St → Prop} (hnd : noDefer ops.toArray = true) (h : Tr C ops.toArray (ops.map fun o => (4, o)) s Q) : SatI ro C (.region id ops.toArray false) s Q := by
  intro a w r
  refine wpIn_region (wpOps_in hnd fin_out _ _ _ (wpOps_of_tr _ _ s a w _ sP (fun k => ?_) r h fun s' a' w' r' q => ⟨rfl, s', r', q⟩))
  by_cases hk : k < ops.length
  · simp [hk]
  · simp [hk]
theorem SatI.draw {ro : Option Nat} {C : Cx} {id : Nat} {ops : List Oper} {s : St} {Q : St → Prop} (perm : List (Nat × Nat)) (hm : C.P.follows .mixedOrders = true) (hok : orderOk ops.toArray perm = true) (hnd : noDefer ops.toArray = true)
    (h : Tr C ops.toArray (items ops.toArray perm) s Q) : SatI ro C (.region id ops.toArray true) s Q := by
  intro a w r
  have hlen : perm.length ≤ ops.length := by
    simp only [orderOk, Bool.and_eq_true] at hok
    have hnd := topo_nodup perm [] hok.1.1
    have hlt : ∀ x ∈ perm.map (·.2), x ∈ List.range ops.length := fun x hx => by
      obtain ⟨p, hp, rfl⟩ := List.mem_map.1 hx
      have := (topo_mem perm [] hok.1.1 p hp).1
      simpa using this
    have := hnd.length_le_of_subset hlt
    simpa using this
  have h0 : perm.filter (fun p => !(Array.replicate ops.toArray.size false).getD p.2 false) = perm := List.filter_eq_self.2 fun p _ => by
    rw [Array.getD_eq_getD_getElem?, Array.getElem?_replicate]
    split <;> rfl
  have := wpAny_of_tr (C := C) hok ops.toArray.size (Array.replicate ops.toArray.size false) s a { w with drawn := w.drawn + 1 } Q sP
    (fun j hj => by
      rw [Array.getD_eq_getD_getElem?, Array.getElem?_replicate] at hj
      split at hj <;> simp at hj) (by rw [h0]; simpa using hlen) ⟨r.rs, r.rh.drew _⟩ (by rw [h0]; exact h)
  refine wpIn_region_draw fun t => ?_
  simp only [Region.schedule, hm, Bool.true_or, if_true]
  exact wpOps_in hnd fin_out _ _ _ (wpAny_sound ops.toArray.size t _ a _ this)
theorem SatI.block {ro : Option Nat} {C : Cx} {id : Nat} {x : Code} {s : St} {Q : St → Prop} (h : SatI ro C x s Q) : SatI ro C (.block id x) s Q := fun a w r =>
  wpIn_block (wpIn_mono (h a w r) fun e a w ⟨he, q⟩ => by subst he; exact ⟨rfl, q⟩)

/-- what an iterator's call leaves, as its caller sees it -/
theorem HRep.ofRet {P : Program} {w w' : World} {names : List Nat} {hp : List Blk} (h : Ret names hp w w') (hn : hp.map (·.n) = names) : HRep ⟨P, w, 0, names, [], []⟩ hp w' :=
  ⟨h.cells, h.nodup, fun b hb => .inr (by show b.n ∈ names; rw [← hn]; exact List.mem_map.2 ⟨b, hb, rfl⟩), h.keeps, fun _ h => (by cases h), fun _ _ _ h => (by cases h)⟩
theorem acc_pos {s : Sl} {bl : List Blk} {cells : List Value} {E : TypeId} {n size : Nat} (h : Acc s bl cells E n size) (hn : 0 < n) : ∃ q c, s = ⟨some ⟨q, 0, none⟩, n, c⟩ ∧ n ≤ c ∧ bl = [⟨q, cells, E, c * size⟩] := by
  rcases h with ⟨_, _, _, rfl⟩ | ⟨q, c, h1, h2, _, h4⟩
  · omega
  · exact ⟨q, c, h1, h2, h4⟩
section
variable {C : Cx} {ops : Array Oper} {rest : List (Nat × Oper)} {sl : List (Nat × Value)} {hp : List Blk} {Q : St → Prop} {c d : Nat} {ty : TypeId} {pos : String} {af : Array Edge} {g : Option (Nat × Bool)}
/-- the first elements of an array, as a slice -/
theorem Tr.sliceArrHi {x hi : Operand} {b o len : Nat} {xT E : TypeId} {kl : IntKind} {l : Int} (j : Nat) (hg : guardOk ops sl g = true) (hk : okD c d C.N = true) (hx : evIn sl x = some (ptr b o)) (hlo : evIn sl hi = some (.int kl l)) (hj : l = j) (hlt : j ≤ len) (hpos : 0 < len) (hu : C.P.underlying xT = some (.array len E)) {sz : Nat} (hs : Sz C.P E sz)
    (k : Tr C ops rest ⟨(d, .slice (some ⟨b, o, none⟩) j len) :: sl, hp⟩ Q) : Tr C ops ((c, ⟨some d, .slice xT x none (some hi) none, ty, pos, af, g⟩) :: rest) ⟨sl, hp⟩ Q :=
  .pv hg hk ⟨by simpa [Known, Op.operands] using known2 hx hlo, fun ρ hfi w => by
    have h1 := hfi x (by simp [Op.operands]); rw [hx] at h1
    have h2 := hfi hi (by simp [Op.operands]); rw [hlo] at h2
    simp only [Option.some.injEq] at h1 h2
    subst hj
    have e : ¬ (len = 0) := by omega
    simp [execOp, Instr.sliceAt, ← h1, ← h2, run_underlying hu, Instr.sureAddr, Instr.sliceBounds, Instr.sliceBound, asIntOf, run_sz hs, add_addr, e, hlt]⟩ k

theorem Tr.slice3 {x lo hi mx : Operand} {b o n cap : Nat} {T E : TypeId} {kl kh km : IntKind} {l h m : Int} {sz : Nat} (i j t : Nat) (hg : guardOk ops sl g = true) (hk : okD c d C.N = true) (hx : evIn sl x = some (.slice (some ⟨b, o, none⟩) n cap)) (hl : evIn sl lo = some (.int kl l)) (hh : evIn sl hi = some (.int kh h)) (hm : evIn sl mx = some (.int km m)) (hi' : l = i) (hj : h = j) (ht : m = t) (hij : i ≤ j) (hjt : j ≤ t) (htc : t ≤ cap)
    (hu : C.P.underlying T = some (.slice E)) (hs : Sz C.P E sz)
    (k : Tr C ops rest ⟨(d, .slice (some ⟨b, if t = i then o else o + i * sz, none⟩) (j - i) (t - i)) :: sl, hp⟩ Q) : Tr C ops ((c, ⟨some d, .slice T x (some lo) (some hi) (some mx), ty, pos, af, g⟩) :: rest) ⟨sl, hp⟩ Q :=
  .pv hg hk ⟨fun z hz => by
    simp [Op.operands] at hz
    rcases hz with rfl | rfl | rfl | rfl
    · simp [hx]
    · simp [hl]
    · simp [hh]
    · simp [hm], fun ρ hfi w => by
    have h1 := hfi x (by simp [Op.operands]); rw [hx] at h1
    have h2 := hfi lo (by simp [Op.operands]); rw [hl] at h2
    have h3 := hfi hi (by simp [Op.operands]); rw [hh] at h3
    have h4 := hfi mx (by simp [Op.operands]); rw [hm] at h4
    simp only [Option.some.injEq] at h1 h2 h3 h4
    subst hi'
    subst hj
    subst ht
    by_cases e : t = i
    · subst e
      simp [execOp, Instr.sliceAt, Instr.slice, ← h1, ← h2, ← h3, ← h4, run_underlying hu, Instr.sliceBounds, Instr.sliceBound, asIntOf, run_sz hs, add_addr, hjt, hij, htc]
    · simp [execOp, Instr.sliceAt, Instr.slice, ← h1, ← h2, ← h3, ← h4, run_underlying hu, Instr.sliceBounds, Instr.sliceBound, asIntOf, run_sz hs, add_addr, e, hjt, hij, htc]⟩ k
end

def YOp (C : Cx) (y : Oper) (s : St) (K : St → Prop) : Prop := y.guard = none ∧ ∀ a w, Rep C s a w → y.wpIn Fence.wide 0 C.P a w (fun a' w' => ∃ s2, Rep C s2 a' w' ∧ K s2) (fun _ _ _ => False)

theorem Sat.regionY {C : Cx} {id : Nat} {ops : List Oper} {s : St} {Q : Exit → St → Prop} (k : Nat) {y : Oper} (hy : ops[k]? = some y) (hnd : noDefer ops.toArray = true)
    (h : Tr C ops.toArray ((ops.take k).map fun o => (4, o)) s (fun s1 => YOp C y s1 fun s2 => Tr C ops.toArray ((ops.drop (k + 1)).map fun o => (4, o)) s2 (Q .normal))) : Sat C (.region id ops.toArray false) s Q := by
  intro a w r
  refine wpIn_wide (n := 0).1 ?_
  refine wpIn_mono (Q := Fin C (Q .normal)) ?_ fun e a' w' ⟨he, s', r', q⟩ => by subst he; exact ⟨s', r', q⟩
  have hk : k < ops.length := by
    rcases Nat.lt_or_ge k ops.length with h1 | h1
    · exact h1
    · rw [List.getElem?_eq_none h1] at hy; cases hy
  refine wpIn_region ?_
  have e : List.range ops.toArray.size = List.range k ++ k :: List.range' (k + 1) (ops.length - (k + 1)) := by
    rw [List.size_toArray, List.range_eq_range', List.range_eq_range', show ops.length = k + (1 + (ops.length - (k + 1))) by omega, ← List.range'_append_1, ← List.range'_append_1]
    simp
    omega
  rw [e]
  have hB : ∀ s2 a w, Rep C s2 a w → Tr C ops.toArray ((ops.drop (k + 1)).map fun o => (4, o)) s2 (Q .normal) → wpOpsIn Fence.wide 0 C.P ops.toArray (Fin C (Q .normal)) (List.range' (k + 1) (ops.length - (k + 1))) a w := fun s2 a w r2 h2 => by
    refine wpOps_in (ro := none) hnd fin_out _ _ _ (wpOps_of_tr _ _ s2 a w _ sP (fun j => ?_) r2 h2 fun s' a' w' r' q => ⟨rfl, s', r', q⟩)
    by_cases hj : j < ops.length - (k + 1)
    · rw [List.getElem?_range' hj]
      simp only [Option.bind_some, List.getElem?_map, List.getElem?_drop, List.getElem?_toArray, Nat.one_mul]
      cases ops[k + 1 + j]? <;> rfl
    · rw [List.getElem?_eq_none (by simp; omega), List.getElem?_map, List.getElem?_drop, List.getElem?_eq_none oM]
      rfl
  have hA : ∀ (l : List (Nat × Oper)) (is : List Nat) (s : St) (a : Act) (w : World), is.length = l.length → (∀ j : Nat, (is[j]?).bind (fun i => ops.toArray[i]?) = (l[j]?).map Prod.snd) → Rep C s a w →
      Tr C ops.toArray l s (fun s1 => YOp C y s1 fun s2 => Tr C ops.toArray ((ops.drop (k + 1)).map fun o => (4, o)) s2 (Q .normal)) →
      wpOpsIn Fence.wide 0 C.P ops.toArray (Fin C (Q .normal)) (is ++ k :: List.range' (k + 1) (ops.length - (k + 1))) a w := by
    intro l
    induction l with
    | nil =>
      intro is s a w hl _ r h
      have : is = [] := List.eq_nil_of_length_eq_zero hl
      subst this
      cases h with
      | dup h => exact absurd r.rh.nodup h
      | nil h =>
        rw [List.nil_append, wpOpsIn_cons]
        unfold wpOpIn
        have hy' : ops.toArray[k]? = some y := by simpa using hy
        rw [hy']
        simp only
        rw [if_pos (by unfold Region.wanted; rw [h.1])]
        have := h.2 a w r
        refine Oper.wpIn_mono (K := fun a' w' => ∃ s2, Rep C s2 a' w' ∧ Tr C ops.toArray ((ops.drop (k + 1)).map fun o => (4, o)) s2 (Q .normal)) (fun a' w' ⟨s2, r2, h2⟩ => hB s2 a' w' r2 h2) ?_
        unfold Oper.wpIn at this ⊢
        refine ⟨this.1, ?_⟩
        have := this.2
        generalize (y.semAt Fence.wide.round a.eval).run C.P w = res at this ⊢
        cases res with
        | ok x w' =>
          cases x <;> simp only [Oper.uponIn] at this ⊢
          case value => exact this
          case skip => exact this
          case defer => exact this
          case enter f args =>
            refine ⟨this.1, CallsIn.mono this.2 fun e w'' he => ?_⟩
            cases e with
            | returned v => exact he
            | panicked ch => exact he.elim
            | outgrown => exact he.elim (fun _ hx => hx.elim (fun _ hy => hy.elim))
          case row row args => exact this
          case round l f tmps ars bd =>
            refine ⟨this.1, RoundIn.mono this.2 fun e w'' he => ?_⟩
            cases e with
            | returned v => exact he
            | panicked ch => exact he.elim
            | outgrown => exact he.elim (fun _ hx => hx.elim (fun _ hy => hy.elim))
        | halt x w' => cases x <;> simp only [Oper.uponIn] at this
    | cons p l ih =>
      intro is s a w hl he r h
      obtain ⟨c, o⟩ := p
      cases is with
      | nil => cases hl
      | cons i is =>
        rw [List.cons_append, wpOpsIn_cons]
        have h0 : ops.toArray[i]? = some o := by simpa using he 0
        refine wpOp_in (ro := none) (X := Fin C (Q .normal)) (Tr.step h0 h a w r _ (fun s' a' w' r' k' => ?_) _) hnd fin_out
        exact ih is s' a' w' (by simpa using hl) (fun j => by simpa using he (j + 1)) r' k'
  refine hA _ (List.range k) s a w (by simp; omega) (fun j => ?_) r h
  by_cases hj : j < k
  · rw [List.getElem?_range hj]
    simp only [Option.bind_some, List.getElem?_map, List.getElem?_toArray]
    rw [List.getElem?_take_of_lt hj]
    cases ops[j]? <;> rfl
  · rw [List.getElem?_eq_none (by simp; omega), List.getElem?_map, List.getElem?_eq_none (by simp; omega)]
    rfl

theorem yop {P : Program} {w1 : World} {N : Nat} {names : List Nat} {sl : List (Nat × Value)} {hp hp' : List Blk} {d : Nat} {ty : TypeId} {pos : String} {af : Array Edge} {f x : Operand} {ats : Array TypeId} {l : Nat} {v : Value} {K : St → Prop} (hd : Nat.blt d N = true)
    (hf : evIn sl f = some (.func (.yield l) #[] #[])) (hx : evIn sl x = some v) (hY : ∀ w, HRep ⟨P, w1, 0, names, [], []⟩ hp w → YieldAt Fence.wide 0 P l #[v] w fun e w' => e = .returned (.bool true) ∧ HRep ⟨P, w1, 0, names, [], []⟩ hp' w')
    (k : K ⟨(d, .bool true) :: sl, hp'⟩) : YOp ⟨P, w1, N, names, [], []⟩ ⟨some d, .call ⟨.value f, #[x], ats⟩, ty, pos, af, none⟩ ⟨sl, hp⟩ K := by
  refine ⟨rfl, fun a w r => ?_⟩
  have h1 := r.rs.eval hf
  have h2 := r.rs.eval hx
  obtain ⟨fn, tmps, ars, bd, hrun, hR⟩ := hY w ⟨r.rh.cells, r.rh.nodup, r.rh.own, r.rh.keeps, r.rh.kok, r.rh.kd⟩
  refine ⟨fun _ _ => trivial, ?_⟩
  rw [show (Oper.semAt Fence.wide.round a.eval ⟨some d, .call ⟨.value f, #[x], ats⟩, ty, pos, af, none⟩).run P w = .ok (.round l fn tmps ars bd) w by
    rw [Oper.semAt_eq _ _ _ (by intro c hc; cases hc)]
    simp [execOp, resolve, Deferred.ofValue, h1, h2, invoke, hrun]]
  simp only [Oper.uponIn]
  refine ⟨fun h0 => (by cases h0), RoundIn.mono hR fun e w' ⟨he, hh⟩ => ?_⟩
  subst he
  exact ⟨⟨(d, .bool true) :: sl, hp'⟩, ⟨r.rs.put (some d) (.bool true) fun t ht => by cases ht; exact nblt hd, hh.cells, hh.nodup, hh.own, hh.keeps, hh.kok, hh.kd⟩, k⟩

theorem HRep.base {P : Program} {w : World} {N : Nat} {names : List Nat} {hp : List Blk} (hc : ∀ b ∈ hp, BlkOk w b) (hn : hp.map (·.n) = names) (hd : names.Nodup) : HRep ⟨P, w, N, names, [], []⟩ hp w :=
  ⟨hc, by rw [hn]; exact hd, fun b hb => .inr (by rw [← hn]; exact List.mem_map.2 ⟨b, hb, rfl⟩), Keeps.refl _ _, fun _ h => (by cases h), fun _ _ _ h => (by cases h)⟩
theorem HRep.reN {P : Program} {w w' : World} {N N' : Nat} {names : List Nat} {hp : List Blk} (h : HRep ⟨P, w, N, names, [], []⟩ hp w') : HRep ⟨P, w, N', names, [], []⟩ hp w' :=
  ⟨h.cells, h.nodup, h.own, h.keeps, h.kok, h.kd⟩

theorem wpIn_range {C : Cx} {sl : List (Nat × Value)} {g : Operand} {p0 : Tmp} {assign body : Code} {QQ : Exit → Act → World → Prop} {a : Act} {w : World} {gf : Nat} {lb : Array Value} (hpF : Nat → List Blk) (names : List Nat) (enc : Nat → Value) (K : Nat) (slA : Nat → List (Nat × Value))
    (hrep : Rep C ⟨sl, hpF 0⟩ a w) (hkb : C.kb = []) (hg : evIn sl g = some (.func (.func gf) #[] lb)) (eg : Body C.P gf) (hp0 : p0 < C.N) (hnames : ∀ i, (hpF i).map (·.n) = names)
    (iter : ∀ (l : Nat) (w1 : World), HRep ⟨C.P, w1, 0, names, [], []⟩ (hpF 0) w1 →
      (∀ i, i < K → ∀ W, HRep ⟨C.P, w1, 0, names, [], []⟩ (hpF i) W → YieldAt Fence.wide 0 C.P l #[enc i] W fun e W' => e = .returned (.bool true) ∧ HRep ⟨C.P, w1, 0, names, [], []⟩ (hpF (i + 1)) W') →
      CallsIn Fence.wide 0 C.P gf (#[.func (.yield l) #[] #[]] ++ lb) w1 fun e W' => (∃ v, e = .returned v) ∧ HRep ⟨C.P, w1, 0, names, [], []⟩ (hpF K) W')
    (hassign : ∀ i, i < K → ∀ l W, HRep ⟨C.P, W, C.N, names, [], []⟩ (hpF i) W → SatI (some l) ⟨C.P, W, C.N, names, [], []⟩ assign ⟨(p0, enc i) :: sl, hpF i⟩ (fun s' => s'.hp = hpF i ∧ s'.sl = slA i))
    (hbody : ∀ i, i < K → ∀ l W, HRep ⟨C.P, W, C.N, names, [], []⟩ (hpF i) W → SatI (some l) ⟨C.P, W, C.N, names, [], []⟩ body ⟨slA i, hpF i⟩ (fun s' => s'.hp = hpF (i + 1)))
    (hdone : ∀ D W, HRep C (hpF K) W → W.heap[D]? = some (.deferred (some [])) → C.W0.heap.size ≤ D → D ∉ names → QQ .normal { a with defers := { target := .collected D, args := #[] } :: a.defers } W) :
    (Code.rangeFunc g #[p0] assign body).wpIn Fence.wide 0 C.P QQ a w := by
  have hnd : names.Nodup := by rw [← hnames 0]; exact hrep.rh.nodup
  have hlt : ∀ k ∈ names, k < w.heap.size := fun k hk => by
    rw [← hnames 0] at hk
    obtain ⟨b, hb, rfl⟩ := List.mem_map.1 hk
    exact (hrep.rh.cells b hb).lt
  have inN : ∀ i, ∀ b ∈ hpF i, b.n ∈ names := fun i b hb => by rw [← hnames i]; exact List.mem_map.2 ⟨b, hb, rfl⟩
  refine wpIn_rangeFunc ?_
  intro fn _
  obtain ⟨rec, hrec⟩ : ∃ rec : LoopState → Option Code → Loop, rec = fun st pe => { state := st, pending := pe, fn, tmps := a.tmps, params := #[p0], assign, body, defers := w.heap.size } := ⟨_, rfl⟩
  obtain ⟨w1, hw1⟩ : ∃ w1, (w.alloc (.deferred (some []))).alloc (.loop (rec .ready none)) = w1 := ⟨_, rfl⟩
  have hsz1 : w1.heap.size = w.heap.size + 2 := by rw [← hw1]; simp
  have hL1 : w1.heap[w.heap.size + 1]? = some (.loop (rec .ready none)) := by
    rw [← hw1]; have := World.alloc_heap_new (w.alloc (.deferred (some []))) (.loop (rec .ready none)); rwa [World.size_alloc] at this
  have hK1 : w1.heap[w.heap.size]? = some (.deferred (some [])) := by
    rw [← hw1]; exact (Below.heap_alloc _ _ _ sP).trans (World.alloc_heap_new w _)
  have hold : ∀ k, k < w.heap.size → w1.heap[k]? = w.heap[k]? := fun k hk => by
    rw [← hw1]; exact (Below.heap_alloc _ _ _ (by simp; omega)).trans (Below.heap_alloc _ _ _ hk)
  have hH : HRep ⟨C.P, w1, 0, names, [], []⟩ (hpF 0) w1 := HRep.base (fun b hb => (hrep.rh.cells b hb).of_heap (hold _ (hrep.rh.cells b hb).lt)) (hnames 0) hnd
  have lN : w.heap.size + 1 ∉ names := fun h => by have := hlt _ h; omega
  have dN : w.heap.size ∉ names := fun h => by have := hlt _ h; omega
  refine ⟨w.heap.size + 1, [{ target := .collected w.heap.size, args := #[] }], w1, { target := .fn (.func gf) lb, args := #[.func (.yield (w.heap.size + 1)) #[] #[]] }, w1, gf,
    #[.func (.yield (w.heap.size + 1)) #[] #[]] ++ lb, w1, ?_, ?_, fun _ _ => trivial, ?_, fun h => (by cases h), ?_⟩
  · rw [← hw1, hrec]; exact run_enterLoop_outer _ _ _ _ _
  · have := hrep.rs.eval hg
    simp only [resolve, this]
    simp [go_sem]
  · have := eg (#[.func (.yield (w.heap.size + 1)) #[] #[]] ++ lb) w1
    simpa [invoke] using this
  refine (iter (w.heap.size + 1) w1 hH fun i hi W hh => ?_).mono ?_
  · -- one round
    have hl : W.heap[w.heap.size + 1]? = some (.loop (rec .ready none)) := (hh.keeps.block _ (by show _ < w1.heap.size; omega) lN).trans hL1
    have hy := run_yield (P := C.P) (args := #[enc i]) hl (by rw [hrec]; rfl)
    rw [hrec] at hy
    have rep0 : Rep ⟨C.P, W, C.N, names, [], []⟩ ⟨(p0, enc i) :: sl, hpF i⟩ { tmps := (#[p0].zip #[enc i]).foldl (fun t (p, v) => t.setIfInBounds p v) a.tmps, defers := [] } W := by
      refine ⟨?_, HRep.base hh.cells (hnames i) hnd⟩
      have s0 : SRep [] C.N sl ⟨a.tmps, []⟩ := ⟨hrep.rs.size, rfl, hrep.rs.slots⟩
      have s1 := s0.put (some p0) (enc i) fun t ht => by cases ht; exact hp0
      have e : (#[p0].zip #[enc i]).foldl (fun t (p, v) => t.setIfInBounds p v) a.tmps = a.tmps.setIfInBounds p0 (enc i) := by simp
      rw [e]
      exact s1
    refine ⟨fn, _, assign, body, hy, roundIn_of_wpIn trivial ?_⟩
    refine wpIn_mono (hassign i hi (w.heap.size + 1) W (HRep.base hh.cells (hnames i) hnd) _ _ rep0) fun e a1 W1 ⟨he, s1, r1, hs1, hs2⟩ => ?_
    subst he
    have hl1 : W1.heap[w.heap.size + 1]? = some (.loop (rec .ready none)) := (r1.rh.keeps.block _ (Array.getElem?_eq_some_iff.1 hl).1 lN).trans hl
    have hlt1 := (Array.getElem?_eq_some_iff.1 hl1).1
    refine ⟨_, run_beginRound hl1 (by rw [hrec]), ?_⟩
    obtain ⟨W2, hW2⟩ : ∃ W2, W1.putObj (w.heap.size + 1) (.loop { rec .ready none with state := .busy }) = W2 := ⟨_, rfl⟩
    rw [hW2]
    have ne1 : ∀ j, ∀ b ∈ hpF j, b.n ≠ w.heap.size + 1 := fun j b hb e => lN (e ▸ inN j b hb)
    have hc2 : ∀ b ∈ hpF i, BlkOk W2 b := fun b hb => by
      rw [← hs1] at hb
      refine (r1.rh.cells b hb).of_heap ?_
      rw [← hW2]
      rw [hs1] at hb
      exact World.putObj_heap_other (ne1 i b hb)
    have hl2 : W2.heap[w.heap.size + 1]? = some (.loop { rec .ready none with state := .busy }) := by rw [← hW2]; exact World.putObj_heap_same hlt1
    have rep2 : Rep ⟨C.P, W2, C.N, names, [], []⟩ ⟨slA i, hpF i⟩ a1 W2 := ⟨by have := r1.rs; rw [hs2] at this; exact this, HRep.base hc2 (hnames i) hnd⟩
    refine wpIn_mono (hbody i hi (w.heap.size + 1) W2 (HRep.base hc2 (hnames i) hnd) _ _ rep2) fun e a3 W3 ⟨he, s3, r3, hs3⟩ => ?_
    subst he
    have hl3 : W3.heap[w.heap.size + 1]? = some (.loop { rec .ready none with state := .busy }) := (r3.rh.keeps.block _ (Array.getElem?_eq_some_iff.1 hl2).1 lN).trans hl2
    have hend := run_endRound (P := C.P) none hl3
    refine ⟨_, _, hend, rfl, ?_⟩
    have hlt3 := (Array.getElem?_eq_some_iff.1 hl3).1
    refine ⟨fun b hb => ?_, by rw [hnames]; exact hnd, fun b hb => .inr (inN _ b hb), ?_, fun _ h => (by cases h), fun _ _ _ h => (by cases h)⟩
    · refine BlkOk.of_heap (r3.rh.cells b (by rw [hs3]; exact hb)) ?_
      exact World.putObj_heap_other (ne1 _ b hb)
    · have k1 := hh.keeps
      have k2 := r1.rh.keeps
      have k3 := r3.rh.keeps
      have os2 : W2.os = W1.os := by rw [← hW2]; rfl
      have tp2 : W2.tape = W1.tape := by rw [← hW2]; rfl
      have ot2 : W2.output = W1.output := by rw [← hW2]; rfl
      have sz2 : W2.heap.size = W1.heap.size := by rw [← hW2]; simp [World.putObj]
      refine ⟨k3.os.trans (os2.trans (k2.os.trans k1.os)), k3.tape.trans (tp2.trans (k2.tape.trans k1.tape)), k3.output.trans (ot2.trans (k2.output.trans k1.output)), ?_, fun j hj hjn => ?_⟩
      · have h1 := k1.size
        have h2 := k2.size
        have h3 := k3.size
        show w1.heap.size ≤ _
        have : (W3.putObj (w.heap.size + 1) (.loop { rec .ready none with state := .ready })).heap.size = W3.heap.size := by simp [World.putObj]
        simp only [World.putObj, Array.size_setIfInBounds]
        simp only at h1 h2 h3
        omega
      · by_cases hjl : j = w.heap.size + 1
        · subst hjl
          rw [hL1]
          refine (World.putObj_heap_same hlt3).trans ?_
          rw [hrec]
          rfl
        · refine (World.putObj_heap_other hjl).trans ?_
          have h1 := k1.size
          have h2 := k2.size
          simp only at h1 h2 hj
          refine (k3.block j (by simp only; omega) hjn).trans ?_
          simp only
          rw [← hW2]
          refine (World.putObj_heap_other hjl).trans ?_
          exact (k2.block j (by simp only; omega) hjn).trans (k1.block j hj hjn)
  · -- behind the iterator
    rintro e W ⟨⟨v, rfl⟩, hh⟩
    have hl : W.heap[w.heap.size + 1]? = some (.loop (rec .ready none)) := (hh.keeps.block _ (by show _ < w1.heap.size; omega) lN).trans hL1
    have hd : W.heap[w.heap.size]? = some (.deferred (some [])) := (hh.keeps.block _ (by simp only; omega) dN).trans hK1
    refine ⟨none, _, by have := run_endLoop (P := C.P) hl (by rw [hrec]; simp); rw [hrec] at this; exact this, ?_⟩
    have kw := hrep.rh.keeps
    refine hdone w.heap.size _ ⟨fun b hb => (hh.cells b hb).of_heap (World.putObj_heap_other fun e => lN (e ▸ inN K b hb)), by rw [hnames]; exact hnd, fun b hb => ?_, ?_, by rw [hkb]; exact fun _ h => (by cases h), by rw [hkb]; exact fun _ _ _ h => (by cases h)⟩
      ((World.putObj_heap_other oM).trans hd) kw.size dN
    · have := inN K b hb
      rw [← hnames 0] at this
      obtain ⟨b0, hb0, e⟩ := List.mem_map.1 this
      rw [← e]
      exact hrep.rh.own b0 hb0
    · have k1 := hh.keeps
      have osw : w1.os = w.os ∧ w1.tape = w.tape ∧ w1.output = w.output := by rw [← hw1]; exact ⟨rfl, rfl, rfl⟩
      refine ⟨k1.os.trans (osw.1.trans kw.os), k1.tape.trans (osw.2.1.trans kw.tape), k1.output.trans (osw.2.2.trans kw.output), ?_, fun j hj hjn => ?_⟩
      · have h1 := k1.size
        have h2 := kw.size
        simp only [World.putObj, Array.size_setIfInBounds]
        simp only at h1
        omega
      · have h2 := kw.size
        have hjN : j ∉ names := fun h => by
          rw [← hnames 0] at h
          obtain ⟨b0, hb0, e⟩ := List.mem_map.1 h
          rcases hrep.rh.own b0 hb0 with h3 | h3
          · omega
          · exact hjn (e ▸ h3)
        refine (World.putObj_heap_other oM).trans ?_
        exact (k1.block j (by simp only; omega) hjN).trans ((hold j oM).trans (kw.block j hj hjn))

/-- the end of a function, whatever world its frame began in -/
def endAtA (P : Program) (N : Nat) (ds : List Deferred) (fn : Func) (R : Value → List Blk → Prop) (s : St) : Prop :=
  ∃ v out, (∀ W names, Res ⟨P, W, N, names, [], ds⟩ fn s v) ∧ (∀ b ∈ out, b ∈ s.hp) ∧ ((s.hp.map (·.n)).Nodup → (out.map (·.n)).Nodup) ∧ R v out
def endQA (P : Program) (N : Nat) (ds : List Deferred) (fn : Func) (R : Value → List Blk → Prop) : Exit → St → Prop
  | .normal, s | .ret, s => endAtA P N ds fn R s
  | _, _ => False
theorem enA_r {P : Program} {N : Nat} {ds : List Deferred} {fn : Func} {R : Value → List Blk → Prop} {s : St} (h : endAtA P N ds fn R s) : endQA P N ds fn R .ret s := h
/-- what a function owes at its one range over a function -/
def RangeSt (P : Program) (W : World) (N : Nat) (fn : Func) (g : Operand) (p0 : Tmp) (assign body tail : Code) (R : Value → List Blk → Prop) (s : St) : Prop :=
  ∃ (gf : Nat) (lb : Array Value) (hpF : Nat → List Blk) (names : List Nat) (enc : Nat → Value) (K : Nat) (slA : List (Nat × Value) → Nat → List (Nat × Value)), s.hp = hpF 0 ∧ evIn s.sl g = some (.func (.func gf) #[] lb) ∧ Body P gf ∧ p0 < N ∧ (∀ i, (hpF i).map (·.n) = names) ∧
    (∀ (l : Nat) (w1 : World), HRep ⟨P, w1, 0, names, [], []⟩ (hpF 0) w1 →
      (∀ i, i < K → ∀ W, HRep ⟨P, w1, 0, names, [], []⟩ (hpF i) W → YieldAt Fence.wide 0 P l #[enc i] W fun e W' => e = .returned (.bool true) ∧ HRep ⟨P, w1, 0, names, [], []⟩ (hpF (i + 1)) W') →
      CallsIn Fence.wide 0 P gf (#[.func (.yield l) #[] #[]] ++ lb) w1 fun e W' => (∃ v, e = .returned v) ∧ HRep ⟨P, w1, 0, names, [], []⟩ (hpF K) W') ∧
    (∀ i, i < K → ∀ l W, HRep ⟨P, W, N, names, [], []⟩ (hpF i) W → SatI (some l) ⟨P, W, N, names, [], []⟩ assign ⟨(p0, enc i) :: s.sl, hpF i⟩ (fun s' => s'.hp = hpF i ∧ s'.sl = slA s.sl i)) ∧
    (∀ i, i < K → ∀ l W, HRep ⟨P, W, N, names, [], []⟩ (hpF i) W → SatI (some l) ⟨P, W, N, names, [], []⟩ body ⟨slA s.sl i, hpF i⟩ (fun s' => s'.hp = hpF (i + 1))) ∧
    (∀ D W2, Sat ⟨P, W2, N, names, [], [{ target := .collected D, args := #[] }]⟩ tail ⟨s.sl, hpF K⟩ (endQA P N [{ target := .collected D, args := #[] }] fn R))

theorem calls_range {P : Program} {f : FuncId} {fn : Func} {R0 R1 assign body tail : Code} {id : Nat} {g : Operand} {p0 : Tmp} {args : List Value} {W : World} {R : Value → List Blk → Prop}
    (hf : P.funcs[f]? = some fn) (hb : fn.body = some (.seq R0 (.seq (.seq R1 (.block id (.rangeFunc g #[p0] assign body))) tail))) (N : Nat) (hN : fn.ntmps = N) (hlen : Nat.ble args.length N = true)
    (h : Sat ⟨P, W, N, [], [], []⟩ R0 ⟨argSlots 0 args, []⟩ (thenQ (fun s' => Sat ⟨P, W, N, [], [], []⟩ R1 s' (thenQ (RangeSt P W N fn g p0 assign body tail R) (fun _ _ => False))) (fun _ _ => False))) :
    Calls P f args.toArray W fun e W' => ∃ v out, e = .returned v ∧ R v out ∧ Ret [] out W W' := by
  have hlen := Nat.le_of_ble_eq_true hlen
  subst hN
  refine callsIn_wide.1 (callsIn_of_wp_marks (F := Fence.wide) (n := 0) hf hb trivial ?_)
  have rep0 : Rep ⟨P, W, fn.ntmps, [], [], []⟩ ⟨argSlots 0 args, []⟩ { tmps := args.toArray ++ Array.replicate (fn.ntmps - args.toArray.size) undef, defers := [] } W := by
    refine ⟨⟨?_, rfl, fun t v ht => ?_⟩, HRep.nil _⟩
    · simp; omega
    · have := argSlots_look args 0 t v ht
      rw [Array.getElem?_append]
      have hlt : t < args.length := by
        rcases Nat.lt_or_ge t args.length with h1 | h1
        · exact h1
        · rw [List.getElem?_eq_none oM] at this; cases this.2
      simp only [List.size_toArray]
      rw [if_pos hlt]
      simpa using this.2
  refine wpIn_seq (wpIn_wide.2 (wp_mono (h _ _ rep0) fun e a w ⟨s, r, q⟩ => ?_))
  cases e with
  | normal =>
    refine wpIn_seq (wpIn_seq (wpIn_wide.2 (wp_mono (q a w r) fun e a1 w1 ⟨s1, r1, q1⟩ => ?_)))
    cases e with
    | normal =>
      obtain ⟨gf, lb, hpF, names, enc, K, slA, hs, hg, eg, hp0, hnames, iter, hassign, hbody, htail⟩ := q1
      obtain ⟨sl, hp⟩ := s1
      simp only at hs hg hassign htail
      subst hs
      refine wpIn_block (wpIn_range (C := ⟨P, W, fn.ntmps, [], [], []⟩) hpF names enc K (slA sl) r1 rfl hg eg hp0 hnames iter hassign hbody fun D W2 hh hD hDl hDn => ?_)
      refine wpIn_wide.2 ?_
      have hnd : names.Nodup := by rw [← hnames K]; exact hh.nodup
      have rep2 : Rep ⟨P, W2, fn.ntmps, names, [], [{ target := .collected D, args := #[] }]⟩ ⟨sl, hpF K⟩ { a1 with defers := { target := .collected D, args := #[] } :: a1.defers } W2 := by
        refine ⟨⟨r1.rs.size, ?_, r1.rs.slots⟩, hh.cells, hh.nodup, fun b hb => .inr ?_, Keeps.refl _ _, fun _ h => (by cases h), fun _ _ _ h => (by cases h)⟩
        · show _ :: a1.defers = _
          rw [r1.rs.defers]
        · show b.n ∈ names
          rw [← hnames K]; exact List.mem_map.2 ⟨b, hb, rfl⟩
      refine wp_mono (htail D W2 _ _ rep2) fun e a3 W3 ⟨s3, r3, q3⟩ => ?_
      have own : ∀ b : Blk, (W2.heap.size ≤ b.n ∨ b.n ∈ names) → W.heap.size ≤ b.n := fun b hb => by
        rcases hb with h1 | h1
        · exact Nat.le_trans hh.keeps.size h1
        · rw [← hnames K] at h1
          obtain ⟨b0, hb0, e⟩ := List.mem_map.1 h1
          rcases hh.own b0 hb0 with h2 | h2
          · rw [← e]; exact h2
          · cases h2
      have fin : endAtA P fn.ntmps [{ target := .collected D, args := #[] }] fn R s3 → LeavesInM Fence.wide 0 P fn a3.tmps (fun e W' => ∃ v out, e = .returned v ∧ R v out ∧ Ret [] out W W') a3.defers .returning W3 := by
        rintro ⟨v, out, hr, hsub, hnd3, hR⟩
        have hd3 : a3.defers = [{ target := .collected D, args := #[] }] := r3.rs.defers
        rw [hd3]
        have hD3 : W3.heap[D]? = some (.deferred (some [])) := (r3.rh.keeps.block D (Array.getElem?_eq_some_iff.1 hD).1 hDn).trans hD
        refine ⟨by simp, .inl ⟨D, _, rfl, run_takeDeferred hD3, ?_⟩⟩
        have hDout : ∀ b ∈ s3.hp, b.n ≠ D := fun b hb e => by
          obtain ⟨full, fr, hbk⟩ := r3.rh.cells b hb
          have := hbk.heap
          rw [e, hD3] at this
          cases this
        have rep4 : Rep ⟨P, W3.putObj D (.deferred none), fn.ntmps, s3.hp.map (·.n), [], [{ target := .collected D, args := #[] }]⟩ s3 a3 (W3.putObj D (.deferred none)) :=
          ⟨⟨r3.rs.size, r3.rs.defers, r3.rs.slots⟩, fun b hb => (r3.rh.cells b hb).of_heap (World.putObj_heap_other (hDout b hb)), r3.rh.nodup, fun b hb => .inr (List.mem_map.2 ⟨b, hb, rfl⟩), Keeps.refl _ _, fun _ h => (by cases h), fun _ _ _ h => (by cases h)⟩
        refine ⟨v, ?_, v, out, rfl, hR, ⟨?_, fun b hb => rep4.rh.cells b (hsub b hb), hnd3 r3.rh.nodup, fun b hb => .inl (own b (r3.rh.own b (hsub b hb)))⟩⟩
        · exact hr _ _ _ _ rep4
        · have k1 := hh.keeps
          have k2 := r3.rh.keeps
          refine ⟨k2.os.trans k1.os, k2.tape.trans k1.tape, k2.output.trans k1.output, ?_, fun j hj hjn => ?_⟩
          · have h1 := k1.size
            have h2 := k2.size
            simp only [World.putObj, Array.size_setIfInBounds]
            simp only at h1 h2
            omega
          · simp only at hDl
            refine (World.putObj_heap_other oM).trans ?_
            have h1 := k1.size
            simp only at h1
            refine (k2.block j (by simp only; omega) (fun hjn2 => ?_)).trans (k1.block j hj hjn)
            have := own ⟨j, [], 0, 0⟩ (.inr hjn2)
            simp only at this
            omega
      cases e with
      | normal => exact fin q3
      | ret => exact fin q3
      | _ => exact q3.elim
    | _ => exact q1.elim
  | _ => exact q.elim
end Hw
end
