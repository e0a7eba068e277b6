/- Contracts of functions of the loaded program, and the lemmas that they need (part 3). It proves no statement by itself; it has no conditions. -/
import Derived.WalkKit
import Derived.Orders
import Derived.Deep.LoopGhost
import Derived.IntWalk
import Derived.Laws.StructEq
import Derived.Test.YtpacobmjjjillaaGreatRows
import Derived.KernelRfl
import Derived.ArgAppend
import Derived.Deep.AppendSrc
import Derived.Lib.Bytealg
import Derived.Lib.BytesEntry
import Derived.Laws.IdiomStrings
import Derived.Laws.Externs
import Derived.WideKeyArr2
import Derived.ProofKit
import Derived.OpenShut
import Derived.Deep.Slices
import Derived.Laws.Pointers
import Derived.Laws.Cover3
import Derived.LaidEqlPtr
import Derived.LoopN
import Derived.RangeFuncLeaves
import Derived.RangeFuncSeq
import Derived.OrdersIn
import Derived.Defers
import Derived.Laws.MathBits
import Derived.ChangeOld
import Derived.Below
import Derived.Test.YtpacobmjjjillaaGreatBSignedC2
set_option maxRecDepth 100000
set_option maxHeartbeats 8000000
section
namespace Hw
open Go
set_option linter.unusedSimpArgs false
set_option linter.unusedVariables false
set_option maxRecDepth 100000

def modW : List UInt64 := [1152921504606846976, 0, 1503914060200516822, 6346243789798364141]
theorem modW_length : modW.length = 4 := rfl
/-- twice a number, and a bit -/
def dblW (w : List UInt64) (b : UInt64) : List UInt64 :=
  [shl64 (w.getD 0 0) 1 ||| shr64 (w.getD 1 0) 63, shl64 (w.getD 1 0) 1 ||| shr64 (w.getD 2 0) 63, shl64 (w.getD 2 0) 1 ||| shr64 (w.getD 3 0) 63, shl64 (w.getD 3 0) 1 ||| b]
theorem dblW_length (w : List UInt64) (b : UInt64) : (dblW w b).length = 4 := rfl
/-- the words of bytes, after k rounds -/
def ldW (a : List UInt8) : Nat → List UInt64
  | 0 => List.replicate 4 0
  | k + 1 => (ldW a k).set (k / 8) (shl64 ((ldW a k).getD (k / 8) 0) 8 ||| (a.getD (31 - k) 0).toUInt64)
theorem ldW_length (a : List UInt8) : ∀ k, (ldW a k).length = 4
  | 0 => rfl
  | k + 1 => by simp [ldW, ldW_length a k]
/-- the bytes of words, after k rounds -/
def stB (w : List UInt64) : Nat → List UInt8
  | 0 => List.replicate 32 0
  | k + 1 => (stB w k).set (31 - k) (shr64 (w.getD (k / 8) 0) (56 - 8 * (k % 8))).toUInt8
theorem stB_length (w : List UInt64) : ∀ k, (stB w k).length = 32
  | 0 => rfl
  | k + 1 => by simp [stB, stB_length w k]
/-- a difference of words with a borrow, after t words from the low end -/
def mnsW (w m : List UInt64) : Nat → List UInt64 × UInt64
  | 0 => (w, 0)
  | t + 1 =>
    let p := mnsW w m t
    let x := (p.1.getD (3 - t) 0).toNat
    let y := (m.getD (3 - t) 0).toNat
    (p.1.set (3 - t) (w64 (x + 2 ^ 64 - y - p.2.toNat)), if x < y + p.2.toNat then 1 else 0)
theorem mnsW_length (w m : List UInt64) : ∀ t, (mnsW w m t).1.length = w.length
  | 0 => rfl
  | t + 1 => by simp [mnsW, mnsW_length w m t]
theorem mnsW_borrow (w m : List UInt64) : ∀ t, (mnsW w m t).2.toNat ≤ 1
  | 0 => by simp [mnsW]
  | t + 1 => by simp only [mnsW]; split <;> simp
/-- the entry of math/bits.Sub64 -/
def sub64E : Array Value → Sem Value := fun args => do
  let (x, y, b) ← Extern.MathBitsCarry.three "Sub64" args
  pure (Extern.MathBitsCarry.pair ((x + Extern.MathBitsCarry.m64 - y - b) % Extern.MathBitsCarry.m64) (if x < y + b then 1 else 0))

theorem le_take_drop (l : List UInt8) (k : Nat) (h : k ≤ l.length) : le l = le (l.take k) + 256 ^ k * le (l.drop k) := by
  have := le_append (l.take k) (l.drop k)
  rw [List.take_append_drop] at this
  rw [this, List.length_take, Nat.min_eq_left h]

theorem le_drop (l : List UInt8) (k : Nat) (h : k ≤ l.length) : le l / 256 ^ k = le (l.drop k) := by
  have h1 := le_lt (l.take k)
  rw [List.length_take, Nat.min_eq_left h] at h1
  rw [le_take_drop l k h, Nat.add_mul_div_left _ _ (Nat.pow_pos dE), Nat.div_eq_of_lt h1, Nat.zero_add]

theorem acc8 (x : UInt64) (b : UInt8) : shl64 x 8 ||| b.toUInt64 = w64 (x.toNat * 256 + b.toNat) := by
  apply UInt64.toNat_inj.1
  have hb := b.toNat_lt
  have hx := x.toNat_lt
  rw [UInt64.toNat_or, shl64_toNat, w64_toNat, UInt8.toNat_toUInt64]
  have e : x.toNat * 2 ^ 8 % 2 ^ 64 = 2 ^ 8 * (x.toNat % 2 ^ 56) := by omega
  rw [e, Nat.two_pow_add_eq_or_of_lt oM (x.toNat % 2 ^ 56) |>.symm]
  omega

theorem w64_acc (m b : Nat) : w64 ((w64 m).toNat * 256 + b) = w64 (m * 256 + b) := by
  apply UInt64.toNat_inj.1
  rw [w64_toNat, w64_toNat, w64_toNat]
  omega

theorem w64_mod {m n : Nat} (h : m % 2 ^ 64 = n % 2 ^ 64) : w64 m = w64 n := by
  apply UInt64.toNat_inj.1
  rw [w64_toNat, w64_toNat, h]

theorem ldW_exp (a0 a1 a2 a3 a4 a5 a6 a7 a8 a9 a10 a11 a12 a13 a14 a15 a16 a17 a18 a19 a20 a21 a22 a23 a24 a25 a26 a27 a28 a29 a30 a31 : UInt8) : ldW [a0, a1, a2, a3, a4, a5, a6, a7, a8, a9, a10, a11, a12, a13, a14, a15, a16, a17, a18, a19, a20, a21, a22, a23, a24, a25, a26, a27, a28, a29, a30, a31] 32 = words4 (le [a0, a1, a2, a3, a4, a5, a6, a7, a8, a9, a10, a11, a12, a13, a14, a15, a16, a17, a18, a19, a20, a21, a22, a23, a24, a25, a26, a27, a28, a29, a30, a31]) := by
  have d24 := le_drop [a0, a1, a2, a3, a4, a5, a6, a7, a8, a9, a10, a11, a12, a13, a14, a15, a16, a17, a18, a19, a20, a21, a22, a23, a24, a25, a26, a27, a28, a29, a30, a31] 24 (Nat.le_of_ble_eq_true rfl)
  have d16 := le_drop [a0, a1, a2, a3, a4, a5, a6, a7, a8, a9, a10, a11, a12, a13, a14, a15, a16, a17, a18, a19, a20, a21, a22, a23, a24, a25, a26, a27, a28, a29, a30, a31] 16 (Nat.le_of_ble_eq_true rfl)
  have d8 := le_drop [a0, a1, a2, a3, a4, a5, a6, a7, a8, a9, a10, a11, a12, a13, a14, a15, a16, a17, a18, a19, a20, a21, a22, a23, a24, a25, a26, a27, a28, a29, a30, a31] 8 (Nat.le_of_ble_eq_true rfl)
  rw [words4, show (2 : Nat) ^ 192 = 256 ^ 24 by decide, show (2 : Nat) ^ 128 = 256 ^ 16 by decide, show (2 : Nat) ^ 64 = 256 ^ 8 by decide, d24, d16, d8]
  clear d24 d16 d8
  simp only [ldW, List.drop_succ_cons, List.drop_zero, le, List.getD_cons_succ, List.getD_cons_zero, List.set_cons_succ, List.set_cons_zero, List.replicate, Nat.reduceDiv, Nat.reduceSub, acc8]
  simp only [w64_acc, UInt64.toNat_zero]
  simp only [List.cons.injEq, and_true]
  refine ⟨w64_mod ?_, w64_mod ?_, w64_mod ?_, w64_mod ?_⟩ <;> omega

theorem ldW_eq {a : List UInt8} (h : a.length = 32) : ldW a 32 = words4 (le a) := by
  obtain ⟨f, hf⟩ : ∃ f : Nat → UInt8, a = (List.range 32).map f := ⟨fun i => a.getD i 0, by
    apply List.ext_getElem (by simp [h])
    intro i h1 h2
    simp [List.getD, h1]⟩
  subst hf
  exact ldW_exp (f 0) (f 1) (f 2) (f 3) (f 4) (f 5) (f 6) (f 7) (f 8) (f 9) (f 10) (f 11) (f 12) (f 13) (f 14) (f 15) (f 16) (f 17) (f 18) (f 19) (f 20) (f 21) (f 22) (f 23) (f 24) (f 25) (f 26) (f 27) (f 28) (f 29) (f 30) (f 31)

theorem leb_get : ∀ (k n i : Nat), i < k → (leb k n)[i]? = some (UInt8.ofNat (n / 256 ^ i))
  | 0, _, _, h => by omega
  | k + 1, n, 0, _ => by simp [leb]
  | k + 1, n, i + 1, h => by
    rw [leb, List.getElem?_cons_succ, leb_get k _ i oM, Nat.div_div_eq_div_mul, Nat.pow_succ, Nat.mul_comm]

theorem stB_get (w : List UInt64) : ∀ (k i : Nat), k ≤ 32 → i < 32 → (stB w k)[i]? = some (if 31 - i < k then (shr64 (w.getD ((31 - i) / 8) 0) (56 - 8 * ((31 - i) % 8))).toUInt8 else 0)
  | 0, i, _, h => by
    simp only [stB]
    rw [List.getElem?_replicate, if_pos h]; rfl
  | k + 1, i, hk, h => by
    rw [stB, List.getElem?_set]
    by_cases he : 31 - k = i
    · have e : 31 - i = k := by omega
      subst he
      rw [if_pos rfl, if_pos (by rw [stB_length]; omega), e, if_pos oM]
    · rw [if_neg he, stB_get w k i oM h]
      congr 1
      by_cases h1 : 31 - i < k
      · rw [if_pos h1, if_pos oM]
      · rw [if_neg h1, if_neg oM]

theorem byte_at (m s : Nat) (h : s + 8 ≤ 64) : m % 2 ^ 64 / 2 ^ s % 256 = m / 2 ^ s % 256 := by
  have e : (2 : Nat) ^ 64 = 2 ^ s * 2 ^ (64 - s) := by rw [← Nat.pow_add]; congr 1; omega
  rw [e, Nat.mod_mul_right_div_self]
  have e2 : (256 : Nat) ∣ 2 ^ (64 - s) := by
    refine ⟨2 ^ (56 - s), ?_⟩
    rw [show (256 : Nat) = 2 ^ 8 by decide, ← Nat.pow_add]; congr 1; omega
  exact Nat.mod_mod_of_dvd _ e2

theorem stB_eq (n : Nat) : stB (words4 n) 32 = leb 32 n := by
  apply List.ext_getElem?
  intro i
  rcases Nat.lt_or_ge i 32 with h | h
  · rw [leb_get 32 n i h, stB_get _ 32 i oM h, if_pos oM]
    congr 1
    apply UInt8.toNat_inj.1
    rw [UInt64.toNat_toUInt8, shr64_toNat, UInt8.toNat_ofNat']
    have key : ∀ j s : Nat, j < 4 → s + 8 ≤ 64 → ((words4 n).getD j 0).toNat / 2 ^ s % 2 ^ 8 = n / 2 ^ (64 * (3 - j) + s) % 2 ^ 8 := by
      intro j s hj hs
      have : (words4 n).getD j 0 = w64 (n / 2 ^ (64 * (3 - j))) := by
        match j, hj with
        | 0, _ => rfl
        | 1, _ => rfl
        | 2, _ => rfl
        | 3, _ => simp [words4]
      rw [this, w64_toNat, Nat.pow_add, ← Nat.div_div_eq_div_mul]
      exact byte_at _ s hs
    have := key ((31 - i) / 8) (56 - 8 * ((31 - i) % 8)) oM oM
    rw [this, show (256 : Nat) = 2 ^ 8 by decide, ← Nat.pow_mul]
    congr 3
    omega
  · rw [List.getElem?_eq_none (by rw [stB_length]; exact h), List.getElem?_eq_none (by rw [leb_length]; exact h)]

theorem dblW_eq (n : Nat) (b : UInt64) (hb : b.toNat ≤ 1) : dblW (words4 n) b = words4 (2 * n + b.toNat) := by
  have two : ∀ (x y : Nat), shl64 (w64 x) 1 ||| shr64 (w64 y) 63 = w64 (2 * x + y % 2 ^ 64 / 2 ^ 63) := by
    intro x y
    apply UInt64.toNat_inj.1
    rw [UInt64.toNat_or, shl64_toNat, shr64_toNat, w64_toNat, w64_toNat, w64_toNat]
    have e : x % 2 ^ 64 * 2 ^ 1 % 2 ^ 64 = 2 ^ 1 * (x % 2 ^ 63) := by omega
    rw [e, Nat.two_pow_add_eq_or_of_lt oM (x % 2 ^ 63) |>.symm]
    omega
  have one : shl64 (w64 n) 1 ||| b = w64 (2 * n + b.toNat) := by
    apply UInt64.toNat_inj.1
    rw [UInt64.toNat_or, shl64_toNat, w64_toNat, w64_toNat]
    have e : n % 2 ^ 64 * 2 ^ 1 % 2 ^ 64 = 2 ^ 1 * (n % 2 ^ 63) := by omega
    rw [e, Nat.two_pow_add_eq_or_of_lt oM (n % 2 ^ 63) |>.symm]
    omega
  simp only [dblW, words4, List.getD_cons_succ, List.getD_cons_zero, two, one, List.cons.injEq, and_true]
  refine ⟨w64_mod ?_, w64_mod ?_, w64_mod ?_⟩ <;> omega

theorem mnsW_eq {w m : List UInt64} (hw : w.length = 4) (hm : m.length = 4) : (mnsW w m 4).1 = words4 (wv w + 2 ^ 256 - wv m) := by
  match w, hw, m, hm with
  | [a, b, c, d], _, [e, f, g, h], _ =>
    rw [wv4, wv4]
    have ha := a.toNat_lt; have hb := b.toNat_lt; have hc := c.toNat_lt; have hd := d.toNat_lt
    have he := e.toNat_lt; have hf := f.toNat_lt; have hg := g.toNat_lt; have hh := h.toNat_lt
    simp only [mnsW, words4, Nat.sub_zero, Nat.reduceSub, List.getD_cons_succ, List.getD_cons_zero, List.set_cons_succ, List.set_cons_zero, List.cons.injEq, and_true, UInt64.toNat_zero, Nat.add_zero]
    generalize hx1 : (if d.toNat < h.toNat then (1 : UInt64) else 0) = x1
    have y1 : (d.toNat < h.toNat ∧ x1.toNat = 1) ∨ (¬ d.toNat < h.toNat ∧ x1.toNat = 0) := by subst hx1; split <;> simp [*]
    generalize hx2 : (if c.toNat < g.toNat + x1.toNat then (1 : UInt64) else 0) = x2
    have y2 : (c.toNat < g.toNat + x1.toNat ∧ x2.toNat = 1) ∨ (¬ c.toNat < g.toNat + x1.toNat ∧ x2.toNat = 0) := by subst hx2; split <;> simp [*]
    generalize hx3 : (if b.toNat < f.toNat + x2.toNat then (1 : UInt64) else 0) = x3
    have y3 : (b.toNat < f.toNat + x2.toNat ∧ x3.toNat = 1) ∨ (¬ b.toNat < f.toNat + x2.toNat ∧ x3.toNat = 0) := by subst hx3; split <;> simp [*]
    clear hx1 hx2 hx3
    refine ⟨w64_mod ?_, w64_mod ?_, w64_mod ?_, w64_mod ?_⟩ <;> omega

theorem modW_eq : modW = words4 L := by decide
/-- one bit of a residue -/
theorem res_step (A x t : Nat) (hx : x < 2 ^ 64) (ht : t < 64) : let m := (A * 2 ^ t + x / 2 ^ (64 - t)) % L
    (if 2 * m + x / 2 ^ (63 - t) % 2 < L then 2 * m + x / 2 ^ (63 - t) % 2 else 2 * m + x / 2 ^ (63 - t) % 2 - L) = (A * 2 ^ (t + 1) + x / 2 ^ (63 - t)) % L := by
  intro m
  have e1 : x / 2 ^ (64 - t) = x / 2 ^ (63 - t) / 2 := by
    rw [Nat.div_div_eq_div_mul, ← Nat.pow_succ]; congr 2; omega
  have e2 : x / 2 ^ (63 - t) = 2 * (x / 2 ^ (64 - t)) + x / 2 ^ (63 - t) % 2 := by omega
  have e3 : A * 2 ^ (t + 1) + x / 2 ^ (63 - t) = 2 * (A * 2 ^ t + x / 2 ^ (64 - t)) + x / 2 ^ (63 - t) % 2 := by
    rw [Nat.pow_succ]
    have : A * (2 ^ t * 2) = 2 * (A * 2 ^ t) := by rw [← Nat.mul_assoc, Nat.mul_comm]
    omega
  rw [e3]
  show (if 2 * m + _ < L then _ else _) = _
  have hm : m = (A * 2 ^ t + x / 2 ^ (64 - t)) % L := rfl
  clear_value m
  generalize A * 2 ^ t + x / 2 ^ (64 - t) = B at hm ⊢
  generalize x / 2 ^ (63 - t) = y
  have hL : L = 7237005577332262213973186563042994240857116359379907606001950938285454250989 := rfl
  have hy : y % 2 < 2 := Nat.mod_lt _ dE
  generalize y % 2 = z at hy ⊢
  have hd := Nat.div_add_mod B L
  rw [← hm] at hd
  have hlt : m < L := by rw [hm]; exact Nat.mod_lt _ dE
  generalize B / L = q at hd
  have e4 : 2 * B + z = L * (2 * q) + (2 * m + z) := by
    have : L * (2 * q) = 2 * (L * q) := by rw [← Nat.mul_assoc, Nat.mul_comm L 2, Nat.mul_assoc]
    omega
  rw [e4, Nat.mul_add_mod]
  split
  · rename_i h; rw [Nat.mod_eq_of_lt h]
  · rename_i h; rw [Nat.mod_eq_sub_mod oM, Nat.mod_eq_of_lt oM]


def innM (x : UInt64) (y : List UInt64) (i : Nat) (l : List UInt64) : Nat → List UInt64 × UInt64
  | 0 => (l, 0)
  | q + 1 =>
    let p := innM x y i l q
    let t := x.toNat * (y.getD (3 - q) 0).toNat + (p.1.getD (i + (3 - q) + 1) 0).toNat + p.2.toNat
    (p.1.set (i + (3 - q) + 1) (w64 t), w64 (t / 2 ^ 64))

def outM (x y l : List UInt64) : Nat → List UInt64
  | 0 => l
  | p + 1 =>
    let r := innM (x.getD (3 - p) 0) y (3 - p) (outM x y l p) 4
    r.1.set (3 - p) (r.1.getD (3 - p) 0 + r.2)

theorem innM_length (x : UInt64) (y : List UInt64) (i : Nat) (l : List UInt64) : ∀ q, (innM x y i l q).1.length = l.length
  | 0 => rfl
  | q + 1 => by simp [innM, innM_length x y i l q]

theorem outM_length (x y l : List UInt64) : ∀ p, (outM x y l p).length = l.length
  | 0 => rfl
  | p + 1 => by simp [outM, innM_length, outM_length x y l p]

theorem mul_lt (x y : UInt64) : x.toNat * y.toNat ≤ 340282366920938463426481119284349108225 :=
  Nat.mul_le_mul (show x.toNat ≤ 18446744073709551615 from Nat.le_of_lt_succ x.toNat_lt) (show y.toNat ≤ 18446744073709551615 from Nat.le_of_lt_succ y.toNat_lt)

theorem ma_lo (x y l c : UInt64) : w64 ((w64 ((x * y).toNat + l.toNat + (0 : UInt64).toNat)).toNat + c.toNat + (0 : UInt64).toNat) = w64 (x.toNat * y.toNat + l.toNat + c.toNat) := by
  apply w64_mod
  rw [w64_toNat, UInt64.toNat_mul, UInt64.toNat_zero]
  omega

theorem ma_hi (x y l c : UInt64) : mulHi x y + w64 (((x * y).toNat + l.toNat + (0 : UInt64).toNat) / 2 ^ 64) + w64 (((w64 ((x * y).toNat + l.toNat + (0 : UInt64).toNat)).toNat + c.toNat + (0 : UInt64).toNat) / 2 ^ 64) = w64 ((x.toNat * y.toNat + l.toNat + c.toNat) / 2 ^ 64) := by
  have h := mul_lt x y
  have hl := l.toNat_lt; have hc := c.toNat_lt
  apply UInt64.toNat_inj.1
  simp only [UInt64.toNat_add, mulHi_toNat, w64_toNat, UInt64.toNat_mul, UInt64.toNat_zero]
  generalize x.toNat * y.toNat = p at h ⊢
  omega

theorem row_val (p0 p1 p2 p3 l0 l1 l2 l3 u0 u1 u2 u3 : Nat) (h3 : u3 = p3 + l3) (h2 : u2 = p2 + l2 + u3 / 2 ^ 64) (h1 : u1 = p1 + l1 + u2 / 2 ^ 64) (h0 : u0 = p0 + l0 + u1 / 2 ^ 64) :
    (((u0 % 2 ^ 64) * 2 ^ 64 + u1 % 2 ^ 64) * 2 ^ 64 + u2 % 2 ^ 64) * 2 ^ 64 + u3 % 2 ^ 64 + u0 / 2 ^ 64 * 2 ^ 256 = ((p0 * 2 ^ 64 + p1) * 2 ^ 64 + p2) * 2 ^ 64 + p3 + (((l0 * 2 ^ 64 + l1) * 2 ^ 64 + l2) * 2 ^ 64 + l3) := by
  omega

theorem dist4 (x y0 y1 y2 y3 : Nat) : x * (((y0 * 2 ^ 64 + y1) * 2 ^ 64 + y2) * 2 ^ 64 + y3) = ((x * y0 * 2 ^ 64 + x * y1) * 2 ^ 64 + x * y2) * 2 ^ 64 + x * y3 := by
  grind

def wv8 (a b c d e f g h : UInt64) : Nat := ((((((a.toNat * 2 ^ 64 + b.toNat) * 2 ^ 64 + c.toNat) * 2 ^ 64 + d.toNat) * 2 ^ 64 + e.toNat) * 2 ^ 64 + f.toNat) * 2 ^ 64 + g.toNat) * 2 ^ 64 + h.toNat

theorem innM_fst (x : UInt64) (y : List UInt64) (i : Nat) (l : List UInt64) (q : Nat) : (innM x y i l (q + 1)).1 =
    (innM x y i l q).1.set (i + (3 - q) + 1) (w64 ((w64 ((x * y.getD (3 - q) 0).toNat + ((innM x y i l q).1.getD (i + (3 - q) + 1) 0).toNat + (0 : UInt64).toNat)).toNat + (innM x y i l q).2.toNat + (0 : UInt64).toNat)) := by
  rw [ma_lo]; rfl
theorem innM_snd (x : UInt64) (y : List UInt64) (i : Nat) (l : List UInt64) (q : Nat) : (innM x y i l (q + 1)).2 =
    mulHi x (y.getD (3 - q) 0) + w64 (((x * y.getD (3 - q) 0).toNat + ((innM x y i l q).1.getD (i + (3 - q) + 1) 0).toNat + (0 : UInt64).toNat) / 2 ^ 64) + w64 (((w64 ((x * y.getD (3 - q) 0).toNat + ((innM x y i l q).1.getD (i + (3 - q) + 1) 0).toNat + (0 : UInt64).toNat)).toNat + (innM x y i l q).2.toNat + (0 : UInt64).toNat) / 2 ^ 64) := by
  rw [ma_hi]; rfl

/-- one row: four words and a carry -/
structure Row (z : Nat) (a b c d a' b' c' d' r : UInt64) : Prop where
  val : ((a'.toNat * 2 ^ 64 + b'.toNat) * 2 ^ 64 + c'.toNat) * 2 ^ 64 + d'.toNat + r.toNat * 2 ^ 256 = z + (((a.toNat * 2 ^ 64 + b.toNat) * 2 ^ 64 + c.toNat) * 2 ^ 64 + d.toNat)

theorem carry_ok (x y l c : UInt64) : (w64 ((x.toNat * y.toNat + l.toNat + c.toNat) / 2 ^ 64)).toNat = (x.toNat * y.toNat + l.toNat + c.toNat) / 2 ^ 64 := by
  have h := mul_lt x y
  have hl := l.toNat_lt; have hc := c.toNat_lt
  rw [w64_toNat]
  generalize x.toNat * y.toNat = p at h ⊢
  omega

def rowF (x y0 y1 y2 y3 a b c d : UInt64) : UInt64 × UInt64 × UInt64 × UInt64 × UInt64 :=
  let t3 := x.toNat * y3.toNat + d.toNat + (0 : UInt64).toNat
  let t2 := x.toNat * y2.toNat + c.toNat + (w64 (t3 / 2 ^ 64)).toNat
  let t1 := x.toNat * y1.toNat + b.toNat + (w64 (t2 / 2 ^ 64)).toNat
  let t0 := x.toNat * y0.toNat + a.toNat + (w64 (t1 / 2 ^ 64)).toNat
  (w64 t0, w64 t1, w64 t2, w64 t3, w64 (t0 / 2 ^ 64))

theorem row_core (x y0 y1 y2 y3 a b c d : UInt64) (t3 t2 t1 t0 : Nat) (h3 : t3 = x.toNat * y3.toNat + d.toNat + (0 : UInt64).toNat) (h2 : t2 = x.toNat * y2.toNat + c.toNat + (w64 (t3 / 2 ^ 64)).toNat)
    (h1 : t1 = x.toNat * y1.toNat + b.toNat + (w64 (t2 / 2 ^ 64)).toNat) (h0 : t0 = x.toNat * y0.toNat + a.toNat + (w64 (t1 / 2 ^ 64)).toNat) :
    Row (x.toNat * wv [y0, y1, y2, y3]) a b c d (w64 t0) (w64 t1) (w64 t2) (w64 t3) (w64 (t0 / 2 ^ 64)) := by
  have k3 : (w64 (t3 / 2 ^ 64)).toNat = t3 / 2 ^ 64 := by rw [h3]; exact carry_ok _ _ _ _
  have k2 : (w64 (t2 / 2 ^ 64)).toNat = t2 / 2 ^ 64 := by rw [h2]; exact carry_ok _ _ _ _
  have k1 : (w64 (t1 / 2 ^ 64)).toNat = t1 / 2 ^ 64 := by rw [h1]; exact carry_ok _ _ _ _
  have k0 : (w64 (t0 / 2 ^ 64)).toNat = t0 / 2 ^ 64 := by rw [h0]; exact carry_ok _ _ _ _
  rw [k3] at h2; rw [k2] at h1; rw [k1] at h0
  rw [UInt64.toNat_zero, Nat.add_zero] at h3
  constructor
  rw [k0, w64_toNat t0, w64_toNat t1, w64_toNat t2, w64_toNat t3, wv4, dist4]
  exact row_val _ _ _ _ _ _ _ _ _ _ _ _ h3 h2 h1 h0

theorem row_ok (x y0 y1 y2 y3 a b c d : UInt64) {z : Nat} (hz : x.toNat * wv [y0, y1, y2, y3] = z) : ∃ a' b' c' d' r, rowF x y0 y1 y2 y3 a b c d = (a', b', c', d', r) ∧ Row z a b c d a' b' c' d' r := by
  rw [← hz]
  exact ⟨_, _, _, _, _, rfl, row_core x y0 y1 y2 y3 a b c d _ _ _ _ rfl rfl rfl rfl⟩

section
variable (x y0 y1 y2 y3 a b c d h0 h1 h2 h3 k0 k1 k2 : UInt64)
theorem inn3 : innM x [y0, y1, y2, y3] 3 [h0, h1, h2, h3, a, b, c, d] 4 = ([h0, h1, h2, h3, (rowF x y0 y1 y2 y3 a b c d).1, (rowF x y0 y1 y2 y3 a b c d).2.1, (rowF x y0 y1 y2 y3 a b c d).2.2.1, (rowF x y0 y1 y2 y3 a b c d).2.2.2.1], (rowF x y0 y1 y2 y3 a b c d).2.2.2.2) := rfl
theorem inn2 : innM x [y0, y1, y2, y3] 2 [h0, h1, h2, a, b, c, d, k0] 4 = ([h0, h1, h2, (rowF x y0 y1 y2 y3 a b c d).1, (rowF x y0 y1 y2 y3 a b c d).2.1, (rowF x y0 y1 y2 y3 a b c d).2.2.1, (rowF x y0 y1 y2 y3 a b c d).2.2.2.1, k0], (rowF x y0 y1 y2 y3 a b c d).2.2.2.2) := rfl
theorem inn1 : innM x [y0, y1, y2, y3] 1 [h0, h1, a, b, c, d, k0, k1] 4 = ([h0, h1, (rowF x y0 y1 y2 y3 a b c d).1, (rowF x y0 y1 y2 y3 a b c d).2.1, (rowF x y0 y1 y2 y3 a b c d).2.2.1, (rowF x y0 y1 y2 y3 a b c d).2.2.2.1, k0, k1], (rowF x y0 y1 y2 y3 a b c d).2.2.2.2) := rfl
theorem inn0 : innM x [y0, y1, y2, y3] 0 [h0, a, b, c, d, k0, k1, k2] 4 = ([h0, (rowF x y0 y1 y2 y3 a b c d).1, (rowF x y0 y1 y2 y3 a b c d).2.1, (rowF x y0 y1 y2 y3 a b c d).2.2.1, (rowF x y0 y1 y2 y3 a b c d).2.2.2.1, k0, k1, k2], (rowF x y0 y1 y2 y3 a b c d).2.2.2.2) := rfl
end

theorem five (r a b d e : Nat) : (((r * 2 ^ 64 + a) * 2 ^ 64 + b) * 2 ^ 64 + d) * 2 ^ 64 + e = ((a * 2 ^ 64 + b) * 2 ^ 64 + d) * 2 ^ 64 + e + r * 2 ^ 256 := by omega

theorem last4 {Q0 Q1 Q2 Q3 e0 e1 e2 e3 z0 z1 z2 z3 C : Nat} (w0 : Q0 * 2 ^ 64 + e0 = z0 + Q1) (w1 : Q1 * 2 ^ 64 + e1 = z1 + Q2) (w2 : Q2 * 2 ^ 64 + e2 = z2 + Q3) (w3 : Q3 * 2 ^ 64 + e3 = z3 + C) :
    (((Q0 * 2 ^ 64 + e0) * 2 ^ 64 + e1) * 2 ^ 64 + e2) * 2 ^ 64 + e3 = ((z0 * 2 ^ 64 + z1) * 2 ^ 64 + z2) * 2 ^ 64 + z3 + C := by
  rw [w0, Nat.add_mul z0 Q1, Nat.add_assoc _ (Q1 * 2 ^ 64) e1, w1, ← Nat.add_assoc, Nat.add_mul _ Q2, Nat.add_assoc _ (Q2 * 2 ^ 64) e2, w2, ← Nat.add_assoc, Nat.add_mul _ Q3, Nat.add_assoc _ (Q3 * 2 ^ 64) e3, w3, ← Nat.add_assoc]

theorem outM_val (x0 x1 x2 x3 y0 y1 y2 y3 c0 c1 c2 c3 : UInt64) :
    wv (outM [x0, x1, x2, x3] [y0, y1, y2, y3] [0, 0, 0, 0, c0, c1, c2, c3] 4) = wv [x0, x1, x2, x3] * wv [y0, y1, y2, y3] + wv [c0, c1, c2, c3] := by
  have key : ∀ (a b c d e f g h : UInt64), wv [a, b, c, d, e, f, g, h] = wv8 a b c d e f g h := by
    intro a b c d e f g h; simp [wv, wv8]
  obtain ⟨z0, hz0⟩ : ∃ z, x0.toNat * wv [y0, y1, y2, y3] = z := ⟨_, rfl⟩
  obtain ⟨z1, hz1⟩ : ∃ z, x1.toNat * wv [y0, y1, y2, y3] = z := ⟨_, rfl⟩
  obtain ⟨z2, hz2⟩ : ∃ z, x2.toNat * wv [y0, y1, y2, y3] = z := ⟨_, rfl⟩
  obtain ⟨z3, hz3⟩ : ∃ z, x3.toNat * wv [y0, y1, y2, y3] = z := ⟨_, rfl⟩
  obtain ⟨a3, b3, d3, e3, r3, q3, v3⟩ := row_ok x3 y0 y1 y2 y3 c0 c1 c2 c3 hz3
  obtain ⟨a2, b2, d2, e2, r2, q2, v2⟩ := row_ok x2 y0 y1 y2 y3 r3 a3 b3 d3 hz2
  obtain ⟨a1, b1, d1, e1, r1, q1, v1⟩ := row_ok x1 y0 y1 y2 y3 r2 a2 b2 d2 hz1
  obtain ⟨a0, b0, d0, e0, r0, q0, v0⟩ := row_ok x0 y0 y1 y2 y3 r1 a1 b1 d1 hz0
  have o1 : outM [x0, x1, x2, x3] [y0, y1, y2, y3] [0, 0, 0, 0, c0, c1, c2, c3] 1 = [0, 0, 0, r3, a3, b3, d3, e3] := by
    simp only [outM, Nat.sub_zero, List.getD_cons_succ, List.getD_cons_zero, inn3, q3, List.set_cons_succ, List.set_cons_zero, UInt64.zero_add]
  have o2 : outM [x0, x1, x2, x3] [y0, y1, y2, y3] [0, 0, 0, 0, c0, c1, c2, c3] 2 = [0, 0, r2, a2, b2, d2, e2, e3] := by
    rw [outM, o1]
    simp only [Nat.reduceSub, List.getD_cons_succ, List.getD_cons_zero, inn2, q2, List.set_cons_succ, List.set_cons_zero, UInt64.zero_add]
  have o3 : outM [x0, x1, x2, x3] [y0, y1, y2, y3] [0, 0, 0, 0, c0, c1, c2, c3] 3 = [0, r1, a1, b1, d1, e1, e2, e3] := by
    rw [outM, o2]
    simp only [Nat.reduceSub, List.getD_cons_succ, List.getD_cons_zero, inn1, q1, List.set_cons_succ, List.set_cons_zero, UInt64.zero_add]
  have o4 : outM [x0, x1, x2, x3] [y0, y1, y2, y3] [0, 0, 0, 0, c0, c1, c2, c3] 4 = [r0, a0, b0, d0, e0, e1, e2, e3] := by
    rw [outM, o3]
    simp only [Nat.reduceSub, List.getD_cons_succ, List.getD_cons_zero, inn0, q0, List.set_cons_succ, List.set_cons_zero, UInt64.zero_add]
  have hd : wv [x0, x1, x2, x3] * wv [y0, y1, y2, y3] = ((z0 * 2 ^ 64 + z1) * 2 ^ 64 + z2) * 2 ^ 64 + z3 := by
    rw [wv4 x0, ← hz0, ← hz1, ← hz2, ← hz3]
    generalize wv [y0, y1, y2, y3] = Y
    grind
  rw [o4, key, hd, wv4, wv8]
  replace v3 := v3.val; replace v2 := v2.val; replace v1 := v1.val; replace v0 := v0.val
  clear hd q0 q1 q2 q3 o1 o2 o3 o4 key hz0 hz1 hz2 hz3
  obtain ⟨C, hC⟩ : ∃ C, ((c0.toNat * 2 ^ 64 + c1.toNat) * 2 ^ 64 + c2.toNat) * 2 ^ 64 + c3.toNat = C := ⟨_, rfl⟩
  obtain ⟨Q3, hQ3⟩ : ∃ C, ((r3.toNat * 2 ^ 64 + a3.toNat) * 2 ^ 64 + b3.toNat) * 2 ^ 64 + d3.toNat = C := ⟨_, rfl⟩
  obtain ⟨Q2, hQ2⟩ : ∃ C, ((r2.toNat * 2 ^ 64 + a2.toNat) * 2 ^ 64 + b2.toNat) * 2 ^ 64 + d2.toNat = C := ⟨_, rfl⟩
  obtain ⟨Q1, hQ1⟩ : ∃ C, ((r1.toNat * 2 ^ 64 + a1.toNat) * 2 ^ 64 + b1.toNat) * 2 ^ 64 + d1.toNat = C := ⟨_, rfl⟩
  obtain ⟨Q0, hQ0⟩ : ∃ C, ((r0.toNat * 2 ^ 64 + a0.toNat) * 2 ^ 64 + b0.toNat) * 2 ^ 64 + d0.toNat = C := ⟨_, rfl⟩
  rw [hC] at v3 ⊢
  rw [hQ3] at v2
  rw [hQ2] at v1
  rw [hQ1] at v0
  rw [hQ0]
  have w3 := five r3.toNat a3.toNat b3.toNat d3.toNat e3.toNat
  have w2 := five r2.toNat a2.toNat b2.toNat d2.toNat e2.toNat
  have w1 := five r1.toNat a1.toNat b1.toNat d1.toNat e1.toNat
  have w0 := five r0.toNat a0.toNat b0.toNat d0.toNat e0.toNat
  rw [hQ3, v3] at w3
  rw [hQ2, v2] at w2
  rw [hQ1, v1] at w1
  rw [hQ0, v0] at w0
  exact last4 w0 w1 w2 w3

theorem maW_val {x y c : List UInt64} (hx : x.length = 4) (hy : y.length = 4) (hc : c.length = 4) : wv (outM x y ([0, 0, 0, 0] ++ c) 4) = wv x * wv y + wv c := by
  match x, hx, y, hy, c, hc with
  | [_, _, _, _], _, [_, _, _, _], _, [_, _, _, _], _ => exact outM_val _ _ _ _ _ _ _ _ _ _ _ _

end Hw
end

section
namespace Hw
def Prm (p : Nat) : Prop := 2 ≤ p ∧ ∀ m, m ∣ p → m = 1 ∨ m = p
theorem Prm.pos {p : Nat} (h : Prm p) : 0 < p := by have := h.1; omega
theorem Prm.coprime {p a : Nat} (h : Prm p) (ha : ¬ p ∣ a) : Nat.gcd p a = 1 := by
  rcases h.2 _ (Nat.gcd_dvd_left p a) with h1 | h1
  · exact h1
  · exact absurd (h1 ▸ Nat.gcd_dvd_right p a) ha
theorem Prm.dvd_mul {p a b : Nat} (h : Prm p) (hd : p ∣ a * b) : p ∣ a ∨ p ∣ b := by
  by_cases ha : p ∣ a
  · exact .inl ha
  · exact .inr (Nat.Coprime.dvd_of_dvd_mul_left (h.coprime ha) hd)
/-- a prime divisor that is small, or the number itself -/
theorem prm_div : ∀ N, 2 ≤ N → ∃ P, Prm P ∧ P ∣ N ∧ (Prm N ∨ P * P ≤ N) := by
  intro N
  induction N using Nat.strongRecOn with
  | ind N ih =>
    intro hN
    by_cases hp : Prm N
    · exact ⟨N, hp, Nat.dvd_refl N, .inl hp⟩
    · have : ∃ m k, N = m * k ∧ 2 ≤ m ∧ 2 ≤ k ∧ m ≤ k := by
        apply Classical.byContradiction
        intro hno
        apply hp
        refine ⟨hN, fun m hm => ?_⟩
        obtain ⟨k, rfl⟩ := hm
        apply Classical.byContradiction
        intro hc
        have h0 : m ≠ 0 := fun e => by subst e; simp at hN
        have h1 : k ≠ 0 := fun e => by subst e; simp at hN
        have h2 : m ≠ 1 := fun e => hc (.inl e)
        have h3 : k ≠ 1 := fun e => hc (.inr (by subst e; simp))
        rcases Nat.le_total m k with hle | hle
        · exact hno ⟨m, k, rfl, by omega, by omega, hle⟩
        · exact hno ⟨k, m, Nat.mul_comm m k, by omega, by omega, hle⟩
      obtain ⟨m, k, rfl, h1, h2, h3⟩ := this
      have hmk : m < m * k := Nat.lt_of_lt_of_le oM (Nat.mul_le_mul_left m h2)
      obtain ⟨P, g1, g2, g3⟩ := ih m hmk h1
      have hle := Nat.le_of_dvd oM g2
      exact ⟨P, g1, Nat.dvd_trans g2 (Nat.dvd_mul_right m k), .inr (Nat.mul_le_mul hle (Nat.le_trans hle h3))⟩

def noDiv (n : Nat) : Nat → Nat → Bool
  | 0, d => Nat.blt n (d * d)
  | f + 1, d => Nat.blt n (d * d) || (!(Nat.beq (n % d) 0) && noDiv n f (d + 1))
theorem noDiv_ok {n : Nat} : ∀ f d, noDiv n f d = true → ∀ m, d ≤ m → m * m ≤ n → ¬ m ∣ n
  | 0, d, h, m, hm, hmn, _ => by
    have h1 : n < d * d := by simpa [noDiv, Nat.blt_eq] using h
    have := Nat.mul_le_mul hm hm
    omega
  | f + 1, d, h, m, hm, hmn, hd => by
    simp only [noDiv, Bool.or_eq_true, Bool.and_eq_true, Bool.not_eq_true'] at h
    rcases h with h | ⟨h, k⟩
    · have h1 : n < d * d := by simpa [Nat.blt_eq] using h
      have := Nat.mul_le_mul hm hm
      omega
    · rcases Nat.eq_or_lt_of_le hm with rfl | hlt
      · have : n % d = 0 := Nat.mod_eq_zero_of_dvd hd
        rw [this] at h
        simp at h
      · exact noDiv_ok f (d + 1) k m hlt hmn hd
theorem prm_small (n f : Nat) (h2 : 2 ≤ n) (h : noDiv n f 2 = true) : Prm n := by
  obtain ⟨P, g1, g2, g3⟩ := prm_div n h2
  rcases g3 with g3 | g3
  · exact g3
  · exact absurd g2 (noDiv_ok f 2 h P g1.1 g3)

def ch : Nat → Nat → Nat
  | _, 0 => 1
  | 0, _ + 1 => 0
  | n + 1, k + 1 => ch n k + ch n (k + 1)
def bsum (a n : Nat) : Nat → Nat
  | 0 => 0
  | m + 1 => bsum a n m + ch n m * a ^ m
theorem bsum_succ (a n : Nat) : ∀ m, bsum a (n + 1) (m + 1) = a * bsum a n m + bsum a n (m + 1)
  | 0 => by simp [bsum, ch]
  | m + 1 => by
    have ih := bsum_succ a n m
    rw [bsum, ih, bsum.eq_2 a n (m + 1), bsum.eq_2 a n m, ch, Nat.add_mul, Nat.mul_add, Nat.pow_succ]
    have : a * (ch n m * a ^ m) = ch n m * (a ^ m * a) := by rw [Nat.mul_comm a, Nat.mul_assoc]
    omega
theorem ch_zero : ∀ n k, n < k → ch n k = 0
  | 0, 0, h => absurd h dE
  | 0, _ + 1, _ => rfl
  | n + 1, 0, h => absurd h oM
  | n + 1, k + 1, h => by rw [ch, ch_zero n k oM, ch_zero n (k + 1) oM]
theorem ch_self : ∀ n, ch n n = 1
  | 0 => rfl
  | n + 1 => by rw [ch, ch_self n, ch_zero n (n + 1) oM]
theorem bsum_pow (a : Nat) : ∀ n, bsum a n (n + 1) = (a + 1) ^ n
  | 0 => by simp [bsum, ch]
  | n + 1 => by
    rw [bsum_succ, bsum.eq_2 a n (n + 1), ch_zero n (n + 1) oM, bsum_pow a n, Nat.zero_mul, Nat.add_zero, Nat.pow_succ (m := n)]
    generalize (a + 1) ^ n = x
    rw [Nat.mul_add, Nat.mul_one, Nat.mul_comm]; rfl
theorem ch_mul : ∀ n k, (k + 1) * ch (n + 1) (k + 1) = (n + 1) * ch n k
  | 0, 0 => rfl
  | 0, k + 1 => by simp [ch]
  | n + 1, 0 => by
    have h1 := ch_mul n 0
    have e : ch n 0 = 1 := by cases n <;> rfl
    rw [e] at h1
    show (0 + 1) * (ch (n + 1) 0 + ch (n + 1) (0 + 1)) = (n + 1 + 1) * ch (n + 1) 0
    rw [show ch (n + 1) 0 = 1 from rfl]
    omega
  | n + 1, k + 1 => by
    have h1 := ch_mul n k
    have h2 := ch_mul n (k + 1)
    rw [ch.eq_3 (n + 1) (k + 1), Nat.mul_add, h2]
    have e : ch (n + 1) (k + 1) = ch n k + ch n (k + 1) := rfl
    have e1 : (k + 1 + 1) * ch (n + 1) (k + 1) = (k + 1) * ch (n + 1) (k + 1) + ch (n + 1) (k + 1) := by rw [Nat.add_mul]; omega
    rw [e1, h1]
    have e2 : (n + 1 + 1) * ch (n + 1) (k + 1) = (n + 1) * ch (n + 1) (k + 1) + ch (n + 1) (k + 1) := by rw [Nat.add_mul]; omega
    rw [e2]
    have e3 : (n + 1) * ch (n + 1) (k + 1) = (n + 1) * ch n k + (n + 1) * ch n (k + 1) := by rw [e, Nat.mul_add]
    omega
theorem Prm.dvd_ch {p k : Nat} (h : Prm p) (h0 : 0 < k) (hk : k < p) : p ∣ ch p k := by
  obtain ⟨n, rfl⟩ : ∃ n, p = n + 1 := ⟨p - 1, by omega⟩
  obtain ⟨j, rfl⟩ : ∃ j, k = j + 1 := ⟨k - 1, by omega⟩
  have hm : n + 1 ∣ (j + 1) * ch (n + 1) (j + 1) := by rw [ch_mul]; exact Nat.dvd_mul_right _ _
  rcases h.dvd_mul hm with h1 | h1
  · have := Nat.le_of_dvd oM h1; omega
  · exact h1
theorem Prm.bsum {p : Nat} (h : Prm p) (a : Nat) : ∀ m, 1 ≤ m → m ≤ p → bsum a p m % p = 1 % p
  | 0, h1, _ => absurd h1 dE
  | 1, _, _ => by simp [Hw.bsum, ch]
  | m + 2, _, h2 => by
    obtain ⟨c, hc⟩ := h.dvd_ch (k := m + 1) oM oM
    rw [Hw.bsum, hc, Nat.mul_assoc, Nat.add_mul_mod_self_left]
    exact h.bsum a (m + 1) oM oM
theorem Prm.succ_pow {p : Nat} (h : Prm p) (a : Nat) : (a + 1) ^ p % p = (a ^ p + 1) % p := by
  rw [← bsum_pow, Hw.bsum, ch_self, Nat.one_mul, Nat.add_mod, h.bsum a p (by have := h.1; omega) (Nat.le_refl _), ← Nat.add_mod, Nat.add_comm]
theorem Prm.flt {p : Nat} (h : Prm p) : ∀ a, a ^ p % p = a % p
  | 0 => by rw [Nat.zero_pow h.pos]
  | a + 1 => by rw [h.succ_pow, Nat.add_mod, h.flt a, ← Nat.add_mod]
theorem Prm.fermat {p a : Nat} (h : Prm p) (ha : ¬ p ∣ a) : a ^ (p - 1) % p = 1 := by
  have h1 := h.flt a
  have h2 : a ^ p = a * a ^ (p - 1) := by
    obtain ⟨n, rfl⟩ : ∃ n, p = n + 1 := ⟨p - 1, by have := h.1; omega⟩
    rw [Nat.pow_succ, Nat.mul_comm]; rfl
  have hp : 1 ≤ a ^ (p - 1) := Nat.pow_pos (Nat.pos_of_ne_zero fun e => ha (e ▸ Nat.dvd_zero p))
  have h3 : p ∣ a * (a ^ (p - 1) - 1) := by
    rw [Nat.mul_sub, Nat.mul_one, ← h2]
    have hle : a ≤ a ^ p := by rw [h2]; exact Nat.le_mul_of_pos_right a hp
    apply Nat.dvd_of_mod_eq_zero
    exact Nat.sub_mod_eq_zero_of_mod_eq h1
  rcases h.dvd_mul h3 with h4 | h4
  · exact absurd h4 ha
  · obtain ⟨c, hc⟩ := h4
    have : a ^ (p - 1) = 1 + p * c := by omega
    rw [this, Nat.add_mul_mod_self_left, Nat.mod_eq_of_lt h.1]

theorem pow_one_mul {P b m : Nat} (h : b ^ m % P = 1 % P) (k : Nat) : b ^ (m * k) % P = 1 % P := by
  rw [Nat.pow_mul, Nat.pow_mod, h, ← Nat.pow_mod, Nat.one_pow]
theorem pow_gcd {P b : Nat} : ∀ m n, b ^ m % P = 1 % P → b ^ n % P = 1 % P → b ^ (Nat.gcd m n) % P = 1 % P := by
  intro m n
  induction m, n using Nat.gcd.induction with
  | H0 n => intro _ h; rwa [Nat.gcd_zero_left]
  | H1 m n hm ih =>
    intro h1 h2
    rw [Nat.gcd_rec]
    refine ih ?_ h1
    have e : b ^ n = b ^ (m * (n / m)) * b ^ (n % m) := by rw [← Nat.pow_add, Nat.div_add_mod]
    rw [e, Nat.mul_mod, pow_one_mul h1, ← Nat.mul_mod, Nat.one_mul] at h2
    exact h2
theorem ord_dvd {P b q : Nat} (hP : Prm P) (hq : Prm q) (h1 : b ^ q % P = 1 % P) (h2 : b % P ≠ 1 % P) : q ∣ P - 1 := by
  apply Classical.byContradiction
  intro hn
  have hb : ¬ P ∣ b := fun hd => by
    have : P ∣ b ^ q := by
      obtain ⟨n, rfl⟩ : ∃ n, q = n + 1 := ⟨q - 1, by have := hq.1; omega⟩
      rw [Nat.pow_succ]; exact Nat.dvd_trans hd (Nat.dvd_mul_left _ _)
    rw [Nat.mod_eq_zero_of_dvd this, Nat.mod_eq_of_lt hP.1] at h1
    cases h1
  have h3 := hP.fermat hb
  have h4 := pow_gcd q (P - 1) h1 (by rw [h3, Nat.mod_eq_of_lt hP.1])
  rw [hq.coprime hn, Nat.pow_one] at h4
  exact h2 h4

def pwm (n : Nat) : Nat → Nat → Nat → Nat
  | 0, _, _ => 1 % n
  | f + 1, b, e => bif Nat.beq (e % 2) 1 then b * pwm n f (b * b % n) (e / 2) % n else pwm n f (b * b % n) (e / 2)
theorem pwm_eq (n : Nat) : ∀ f b e, e < 2 ^ f → pwm n f b e = b ^ e % n
  | 0, b, e, h => by
    obtain rfl : e = 0 := by simpa using h
    simp [pwm]
  | f + 1, b, e, h => by
    have h1 : e / 2 < 2 ^ f := by rw [Nat.pow_succ] at h; omega
    have ih := pwm_eq n f (b * b % n) (e / 2) h1
    have e1 : (b * b % n) ^ (e / 2) % n = b ^ (2 * (e / 2)) % n := by rw [← Nat.pow_mod, ← Nat.pow_two, ← Nat.pow_mul]
    rw [pwm, ih, e1]
    by_cases h2 : e % 2 = 1
    · rw [h2]
      have : Nat.beq 1 1 = true := rfl
      rw [this, cond_true]
      rw [Nat.mul_mod, Nat.mod_mod, ← Nat.mul_mod, Nat.mul_comm, ← Nat.pow_succ]
      congr 2
      omega
    · have h3 : e % 2 = 0 := by omega
      rw [h3]
      have : Nat.beq 0 1 = false := rfl
      rw [this, cond_false]
      congr 2
      omega

def pockOk (N a q f : Nat) : Bool := Nat.beq ((N - 1) % q) 0 && Nat.beq (pwm N f a (N - 1)) 1 && Nat.beq (Nat.gcd (pwm N f a ((N - 1) / q) + (N - 1)) N) 1 && Nat.blt (N - 1) (2 ^ f)
theorem pock {N a q f : Nat} (hN : 2 ≤ N) (hq : Prm q) (h : pockOk N a q f = true) : ∀ P, Prm P → P ∣ N → q ∣ P - 1 := by
  intro P hP hPN
  simp only [pockOk, Bool.and_eq_true, Nat.blt_eq] at h
  obtain ⟨⟨⟨h1, h2⟩, h3⟩, h4⟩ := h
  have h1 := Nat.eq_of_beq_eq_true h1
  have h2 := Nat.eq_of_beq_eq_true h2
  have h3 := Nat.eq_of_beq_eq_true h3
  rw [pwm_eq N f a _ h4] at h2
  rw [pwm_eq N f a _ (Nat.lt_of_le_of_lt (Nat.div_le_self _ _) h4)] at h3
  have hd : q * ((N - 1) / q) = N - 1 := by have := Nat.div_add_mod (N - 1) q; omega
  have down : ∀ x y, x % N = y % N → x % P = y % P := fun x y e => by
    rw [← Nat.mod_mod_of_dvd x hPN, ← Nat.mod_mod_of_dvd y hPN, e]
  refine ord_dvd (b := a ^ ((N - 1) / q)) hP hq ?_ fun e => ?_
  · rw [← Nat.pow_mul, Nat.mul_comm, hd]
    exact down _ _ (by rw [h2, Nat.mod_eq_of_lt hN])
  · have e1 : P ∣ a ^ ((N - 1) / q) % N + (N - 1) := by
      obtain ⟨c, hc⟩ := hPN
      have hdm := Nat.div_add_mod (a ^ ((N - 1) / q)) N
      apply Nat.dvd_of_mod_eq_zero
      have e2 : (a ^ ((N - 1) / q) % N + (N - 1) + 1) % P = 1 % P := by
        rw [show a ^ ((N - 1) / q) % N + (N - 1) + 1 = a ^ ((N - 1) / q) % N + N by omega]
        rw [Nat.add_mod, Nat.mod_mod_of_dvd _ ⟨c, hc⟩, Nat.mod_eq_zero_of_dvd ⟨c, hc⟩, Nat.add_zero, Nat.mod_mod, e]
      have hP2 := hP.1
      rw [Nat.mod_eq_of_lt hP2, Nat.add_mod, Nat.mod_eq_of_lt hP2] at e2
      have hlt := Nat.mod_lt (a ^ ((N - 1) / q) % N + (N - 1)) hP.pos
      generalize (a ^ ((N - 1) / q) % N + (N - 1)) % P = r at e2 hlt ⊢
      rcases Nat.lt_or_ge (r + 1) P with h5 | h5
      · rw [Nat.mod_eq_of_lt h5] at e2; omega
      · obtain rfl : P = r + 1 := by omega
        rw [Nat.mod_self] at e2; cases e2
    have e2 : P ∣ Nat.gcd (a ^ ((N - 1) / q) % N + (N - 1)) N := Nat.dvd_gcd e1 hPN
    rw [h3] at e2
    have := Nat.le_of_dvd Nat.one_pos e2
    have := hP.1
    omega
theorem prm_of {N F : Nat} (hN : 2 ≤ N) (h : ∀ P, Prm P → P ∣ N → F ∣ P - 1) (hF : N < (F + 1) * (F + 1)) : Prm N := by
  obtain ⟨P, g1, g2, g3⟩ := prm_div N hN
  rcases g3 with g3 | g3
  · exact g3
  · have h1 := Nat.le_of_dvd (by have := g1.1; omega) (h P g1 g2)
    have := g1.1
    have h2 := Nat.mul_le_mul (show F + 1 ≤ P by omega) (show F + 1 ≤ P by omega)
    omega
theorem prm_pock1 {N q : Nat} (a f : Nat) (hq : Prm q) (h : (pockOk N a q f && Nat.blt 1 N && Nat.blt N ((q + 1) * (q + 1))) = true) : Prm N := by
  simp only [Bool.and_eq_true, Nat.blt_eq] at h
  exact prm_of h.1.2 (pock h.1.2 hq h.1.1) h.2
theorem prm_pock2 {N q r : Nat} (a b f : Nat) (hq : Prm q) (hr : Prm r) (h : (pockOk N a q f && pockOk N b r f && Nat.beq (Nat.gcd q r) 1 && Nat.blt 1 N && Nat.blt N ((q * r + 1) * (q * r + 1))) = true) : Prm N := by
  simp only [Bool.and_eq_true, Nat.blt_eq] at h
  exact prm_of h.1.2 (fun P h1 h2 => Nat.Coprime.mul_dvd_of_dvd_of_dvd (Nat.eq_of_beq_eq_true h.1.1.2) (pock h.1.2 hq h.1.1.1.1 P h1 h2) (pock h.1.2 hr h.1.1.1.2 P h1 h2)) h.2
set_option maxRecDepth 100000
theorem prm_430751 : Prm 430751 := prm_small _ 658 dE zK
theorem prm_4153 : Prm 4153 := prm_small _ 66 dE zK
theorem prm_569003 : Prm 569003 := prm_small _ 756 dE zK
theorem prm_8574133 : Prm 8574133 := prm_small _ 2930 dE zK
theorem prm_127 : Prm 127 := prm_small _ 13 dE zK
theorem prm_2773320623 : Prm 2773320623 := prm_pock1 2 256 prm_569003 zK
theorem prm_72106336199 : Prm 72106336199 := prm_pock1 2 256 prm_2773320623 zK
theorem prm_1919519569386763 : Prm 1919519569386763 := prm_pock2 2 2 256 prm_8574133 prm_127 zK
theorem prm_75445702479781427272750846543864801 : Prm 75445702479781427272750846543864801 := prm_pock2 2 2 256 prm_1919519569386763 prm_72106336199 zK
theorem prm_31757755568855353 : Prm 31757755568855353 := prm_pock2 2 2 256 prm_430751 prm_4153 zK
theorem prm_74058212732561358302231226437062788676166966415465897661863160754340907 : Prm 74058212732561358302231226437062788676166966415465897661863160754340907 := prm_pock2 2 2 256 prm_75445702479781427272750846543864801 prm_31757755568855353 zK
theorem prm_field : Prm 57896044618658097711785492504343953926634992332820282019728792003956564819949 := prm_pock1 2 256 prm_74058212732561358302231226437062788676166966415465897661863160754340907 zK
end Hw
end

section
namespace Hw
open Go
set_option linter.unusedSimpArgs false
set_option linter.unusedVariables false

/-- the eight bytes of a word -/
def by8 (x : UInt64) : List UInt8 := [x.toUInt8, (shr64 x 8).toUInt8, (shr64 x 16).toUInt8, (shr64 x 24).toUInt8, (shr64 x 32).toUInt8, (shr64 x 40).toUInt8, (shr64 x 48).toUInt8, (shr64 x 56).toUInt8]
theorem by8_eq (x : UInt64) : by8 x = leb 8 x.toNat := by
  have e : ∀ y : UInt64, y.toUInt8 = UInt8.ofNat y.toNat := fun y => rfl
  simp only [by8, leb, e, shr64_toNat, Nat.div_div_eq_div_mul]
def set8 (l : List UInt8) (o : Nat) (x : UInt64) : List UInt8 :=
  (((((((l.set o x.toUInt8).set (o + 1) (shr64 x 8).toUInt8).set (o + 2) (shr64 x 16).toUInt8).set (o + 3) (shr64 x 24).toUInt8).set (o + 4) (shr64 x 32).toUInt8).set (o + 5) (shr64 x 40).toUInt8).set (o + 6) (shr64 x 48).toUInt8).set (o + 7) (shr64 x 56).toUInt8
theorem set8_at (p : List UInt8) (x : UInt64) (a b c d e f g h : UInt8) (r : List UInt8) : set8 (p ++ a :: b :: c :: d :: e :: f :: g :: h :: r) p.length x = p ++ by8 x ++ r := by
  induction p with
  | nil => rfl
  | cons y p ih =>
    simp only [List.cons_append, List.length_cons]
    rw [← ih]
    simp only [set8, show p.length + 1 + 1 = (p.length + 1) + 1 from rfl, show p.length + 1 + 2 = (p.length + 2) + 1 from rfl, show p.length + 1 + 3 = (p.length + 3) + 1 from rfl, show p.length + 1 + 4 = (p.length + 4) + 1 from rfl, show p.length + 1 + 5 = (p.length + 5) + 1 from rfl, show p.length + 1 + 6 = (p.length + 6) + 1 from rfl, show p.length + 1 + 7 = (p.length + 7) + 1 from rfl, List.set_cons_succ]
theorem by8_length (x : UInt64) : (by8 x).length = 8 := rfl
theorem set8_1 (x : UInt64) : set8 (List.replicate 32 0) 0 x = by8 x ++ List.replicate 24 0 := set8_at [] x 0 0 0 0 0 0 0 0 (List.replicate 24 0)
theorem set8_2 (x y : UInt64) : set8 (by8 x ++ List.replicate 24 0) 8 y = by8 x ++ by8 y ++ List.replicate 16 0 := set8_at (by8 x) y 0 0 0 0 0 0 0 0 (List.replicate 16 0)
theorem set8_3 (x y z : UInt64) : set8 (by8 x ++ by8 y ++ List.replicate 16 0) 16 z = by8 x ++ by8 y ++ by8 z ++ List.replicate 8 0 := set8_at (by8 x ++ by8 y) z 0 0 0 0 0 0 0 0 (List.replicate 8 0)
theorem set8_4 (x y z w : UInt64) : set8 (by8 x ++ by8 y ++ by8 z ++ List.replicate 8 0) 24 w = by8 x ++ by8 y ++ by8 z ++ by8 w := by
  have h := set8_at (by8 x ++ by8 y ++ by8 z) w 0 0 0 0 0 0 0 0 []
  rw [List.append_nil] at h
  exact h
theorem by8_store (w : W5) : by8 (w.a ||| shl64 w.b 51) ++ by8 (shr64 w.b 13 ||| shl64 w.c 38) ++ by8 (shr64 w.c 26 ||| shl64 w.d 25) ++ by8 (shr64 w.d 39 ||| shl64 w.e 12) = stB5 w := by
  simp only [by8_eq, stB5]
/-- word i of a number of 32 bytes -/
def qw (a : List UInt8) (i : Nat) : UInt64 :=
  (a.getD (0 + 8 * i * 1 + 0) 0).toUInt64 ||| shl64 (a.getD (0 + 8 * i * 1 + 1) 0).toUInt64 8 ||| shl64 (a.getD (0 + 8 * i * 1 + 2) 0).toUInt64 16 ||| shl64 (a.getD (0 + 8 * i * 1 + 3) 0).toUInt64 24 ||| shl64 (a.getD (0 + 8 * i * 1 + 4) 0).toUInt64 32 ||| shl64 (a.getD (0 + 8 * i * 1 + 5) 0).toUInt64 40 ||| shl64 (a.getD (0 + 8 * i * 1 + 6) 0).toUInt64 48 ||| shl64 (a.getD (0 + 8 * i * 1 + 7) 0).toUInt64 56
def qtA (a : List UInt8) : Nat → List UInt64
  | 0 => List.replicate 4 0
  | i + 1 => (qtA a i).set i (qw a i)
theorem qtA_length (a : List UInt8) : ∀ i, (qtA a i).length = 4
  | 0 => rfl
  | i + 1 => by rw [qtA, List.length_set, qtA_length a i]
theorem or_byte {x : UInt64} {b : UInt8} {k : Nat} (hk : k ≤ 56) (hx : x.toNat < 2 ^ k) : (x ||| shl64 b.toUInt64 k).toNat = x.toNat + 2 ^ k * b.toNat ∧ x.toNat + 2 ^ k * b.toNat < 2 ^ (k + 8) := by
  have hb := b.toNat_lt
  have h1 : 2 ^ k * b.toNat < 2 ^ 64 := by
    have h2 : 2 ^ k * b.toNat < 2 ^ k * 2 ^ 8 := Nat.mul_lt_mul_of_pos_left hb (Nat.pow_pos dE)
    rw [← Nat.pow_add] at h2
    exact Nat.lt_of_lt_of_le h2 (Nat.pow_le_pow_right dE oM)
  have e : (shl64 b.toUInt64 k).toNat = 2 ^ k * b.toNat := by rw [shl64_toNat, UInt8.toNat_toUInt64, Nat.mul_comm, Nat.mod_eq_of_lt h1]
  refine ⟨by rw [or_add hx e, e], ?_⟩
  have h3 : 2 ^ k * b.toNat ≤ 2 ^ k * 255 := Nat.mul_le_mul_left _ oM
  rw [Nat.pow_add]
  omega
theorem word8 (b0 b1 b2 b3 b4 b5 b6 b7 : UInt8) : (b0.toUInt64 ||| shl64 b1.toUInt64 8 ||| shl64 b2.toUInt64 16 ||| shl64 b3.toUInt64 24 ||| shl64 b4.toUInt64 32 ||| shl64 b5.toUInt64 40 ||| shl64 b6.toUInt64 48 ||| shl64 b7.toUInt64 56).toNat =
    b0.toNat + 2 ^ 8 * b1.toNat + 2 ^ 16 * b2.toNat + 2 ^ 24 * b3.toNat + 2 ^ 32 * b4.toNat + 2 ^ 40 * b5.toNat + 2 ^ 48 * b6.toNat + 2 ^ 56 * b7.toNat := by
  have h0 : b0.toUInt64.toNat < 2 ^ 8 := by rw [UInt8.toNat_toUInt64]; exact b0.toNat_lt
  obtain ⟨e1, l1⟩ := or_byte (b := b1) dE h0
  obtain ⟨e2, l2⟩ := or_byte (b := b2) (k := 16) dE (by rw [e1]; exact l1)
  obtain ⟨e3, l3⟩ := or_byte (b := b3) (k := 24) dE (by rw [e2]; exact l2)
  obtain ⟨e4, l4⟩ := or_byte (b := b4) (k := 32) dE (by rw [e3]; exact l3)
  obtain ⟨e5, l5⟩ := or_byte (b := b5) (k := 40) dE (by rw [e4]; exact l4)
  obtain ⟨e6, l6⟩ := or_byte (b := b6) (k := 48) dE (by rw [e5]; exact l5)
  obtain ⟨e7, l7⟩ := or_byte (b := b7) (k := 56) dE (by rw [e6]; exact l6)
  rw [e7, e6, e5, e4, e3, e2, e1, UInt8.toNat_toUInt64]
theorem qw_exp (a0 a1 a2 a3 a4 a5 a6 a7 a8 a9 a10 a11 a12 a13 a14 a15 a16 a17 a18 a19 a20 a21 a22 a23 a24 a25 a26 a27 a28 a29 a30 a31 : UInt8) (l : List UInt8) (hl : l = [a0, a1, a2, a3, a4, a5, a6, a7, a8, a9, a10, a11, a12, a13, a14, a15, a16, a17, a18, a19, a20, a21, a22, a23, a24, a25, a26, a27, a28, a29, a30, a31]) :
    (qw l 0).toNat + 18446744073709551616 * (qw l 1).toNat + 340282366920938463463374607431768211456 * (qw l 2).toNat + 6277101735386680763835789423207666416102355444464034512896 * (qw l 3).toNat = le l := by
  subst hl
  have h0 := word8 a0 a1 a2 a3 a4 a5 a6 a7
  have h1 := word8 a8 a9 a10 a11 a12 a13 a14 a15
  have h2 := word8 a16 a17 a18 a19 a20 a21 a22 a23
  have h3 := word8 a24 a25 a26 a27 a28 a29 a30 a31
  have k0 := h0
  simp only [qw, List.getD_cons_succ, List.getD_cons_zero, Nat.mul_zero, Nat.zero_add, Nat.add_zero, Nat.mul_one, Nat.reduceMul, Nat.reduceAdd, h0, h1, h2, h3, le]
  omega
theorem qw_le {a : List UInt8} (h : a.length = 32) : (qw a 0).toNat + 18446744073709551616 * (qw a 1).toNat + 340282366920938463463374607431768211456 * (qw a 2).toNat + 6277101735386680763835789423207666416102355444464034512896 * (qw a 3).toNat = le a := by
  obtain ⟨f, hf⟩ : ∃ f : Nat → UInt8, a = (List.range 32).map f := ⟨fun i => a.getD i 0, by
    apply List.ext_getElem (by simp [h])
    intro i h1 h2
    simp [List.getD, h1]⟩
  exact qw_exp (f 0) (f 1) (f 2) (f 3) (f 4) (f 5) (f 6) (f 7) (f 8) (f 9) (f 10) (f 11) (f 12) (f 13) (f 14) (f 15) (f 16) (f 17) (f 18) (f 19) (f 20) (f 21) (f 22) (f 23) (f 24) (f 25) (f 26) (f 27) (f 28) (f 29) (f 30) (f 31) a hf
def ldN (a : List UInt8) : W5 := ldF (qw a 0) (qw a 1) (qw a 2) (qw a 3)
theorem ldN_v {a : List UInt8} (h : a.length = 32) : (ldN a).v = le a := by rw [ldN, ldF_v, qw_le h]
theorem ldN_lt (a : List UInt8) : (ldN a).lt 2251799813685248 4503599627370496 := ldF_lt _ _ _ _
theorem W5.l_length (w : W5) : w.l.length = 5 := rfl
def addF (x y : W5) : W5 := ⟨x.a + y.a, x.b + y.b, x.c + y.c, x.d + y.d, x.e + y.e⟩
def subF (x y : W5) : W5 := ⟨x.a + (9007199254740916 - y.a), x.b + (9007199254740988 - y.b), x.c + (9007199254740988 - y.c), x.d + (9007199254740988 - y.d), x.e + (9007199254740988 - y.e)⟩
theorem addF_v {x y : W5} (hx : x.lt 2251799813685248 4503599627370496) (hy : y.lt 2251799813685248 4503599627370496) : (addF x y).v = x.v + y.v := by
  obtain ⟨h1, h2, h3, h4, h5⟩ := hx
  obtain ⟨g1, g2, g3, g4, g5⟩ := hy
  have e : ∀ {u v : UInt64}, u.toNat < 4503599627370496 → v.toNat < 4503599627370496 → (u + v).toNat = u.toNat + v.toNat := fun h g => by rw [UInt64.toNat_add]; omega
  simp only [W5.v, addF]
  rw [e oM oM, e oM oM, e oM oM, e oM oM, e h5 g5]
  omega
theorem subF_v {x y : W5} (hx : x.lt 2251799813685248 4503599627370496) (hy : y.lt 2251799813685248 4503599627370496) : (subF x y).v + y.v = x.v + 4 * PF := by
  obtain ⟨h1, h2, h3, h4, h5⟩ := hx
  obtain ⟨g1, g2, g3, g4, g5⟩ := hy
  have e : ∀ {u v : UInt64}, u.toNat < 4503599627370496 → v.toNat < 4503599627370496 → (u + (9007199254740988 - v)).toNat = u.toNat + (9007199254740988 - v.toNat) := fun h g => by
    rw [UInt64.toNat_add, UInt64.toNat_sub, show (9007199254740988 : UInt64).toNat = 9007199254740988 from rfl]; omega
  have e0 : ∀ {u v : UInt64}, u.toNat < 2251799813685248 → v.toNat < 2251799813685248 → (u + (9007199254740916 - v)).toNat = u.toNat + (9007199254740916 - v.toNat) := fun h g => by
    rw [UInt64.toNat_add, UInt64.toNat_sub, show (9007199254740916 : UInt64).toNat = 9007199254740916 from rfl]; omega
  simp only [W5.v, subF, PF]
  rw [e0 h1 g1, e oM oM, e oM oM, e oM oM, e h5 g5]
  omega
/-- four words, the lowest first -/
def q4 (a b c d : UInt64) : Nat := a.toNat + 18446744073709551616 * b.toNat + 340282366920938463463374607431768211456 * c.toNat + 6277101735386680763835789423207666416102355444464034512896 * d.toNat
theorem q4_shift (a b c d : UInt64) : q4 (shl64 a 1) (shl64 b 1 ||| shr64 a 63) (shl64 c 1 ||| shr64 b 63) (shl64 d 1 ||| shr64 c 63) = 2 * q4 a b c d % 115792089237316195423570985008687907853269984665640564039457584007913129639936 := by
  have h1 := mid_word a b 1 dE
  have h2 := mid_word b c 1 dE
  have h3 := mid_word c d 1 dE
  have := a.toNat_lt; have := b.toNat_lt; have := c.toNat_lt; have := d.toNat_lt
  simp only [q4]
  rw [UInt64.or_comm (shl64 b 1), UInt64.or_comm (shl64 c 1), UInt64.or_comm (shl64 d 1), show (shr64 a 63 ||| shl64 b 1).toNat = _ from h1, show (shr64 b 63 ||| shl64 c 1).toNat = _ from h2, show (shr64 c 63 ||| shl64 d 1).toNat = _ from h3, shl64_toNat]
  omega
theorem q4_top (a b c d : UInt64) : (shr64 d 63).toNat = q4 a b c d / 57896044618658097711785492504343953926634992332820282019728792003956564819968 := by
  have := a.toNat_lt; have := b.toNat_lt; have := c.toNat_lt; have := d.toNat_lt
  rw [shr64_toNat, q4]
  omega
end Hw
end

section
namespace Ed
open Hw Go
set_option linter.unusedVariables false

theorem PF_prm : Prm PF := prm_field
instance : NeZero PF := ⟨by decide⟩
abbrev Fp := Fin PF
/-- a number's residue -/
def fe (n : Nat) : Fp := Fin.ofNat PF n
theorem fe_val (n : Nat) : (fe n).val = n % PF := rfl
theorem fe_mod (n : Nat) : fe (n % PF) = fe n := Fin.ext (by simp [fe_val])
theorem fe_of (a : Fp) : fe a.val = a := Fin.ext (by rw [fe_val]; exact Nat.mod_eq_of_lt a.isLt)
theorem fe_add (m n : Nat) : fe (m + n) = fe m + fe n := Fin.ext (by rw [fe_val, Fin.val_add, fe_val, fe_val, ← Nat.add_mod])
theorem fe_mul (m n : Nat) : fe (m * n) = fe m * fe n := Fin.ext (by rw [fe_val, Fin.val_mul, fe_val, fe_val, ← Nat.mul_mod])
theorem fe_eq {m n : Nat} : fe m = fe n ↔ m % PF = n % PF := ⟨fun h => congrArg Fin.val h, fun h => Fin.ext h⟩
/-- powers -/
def fpow (a : Fp) (e : Nat) : Fp := fe (pwm PF 256 a.val e)
theorem fpow_val (a : Fp) {e : Nat} (h : e < 2 ^ 256) : (fpow a e).val = a.val ^ e % PF := by rw [fpow, fe_val, pwm_eq PF 256 a.val e h, Nat.mod_mod]
theorem fpow_zero (a : Fp) : fpow a 0 = 1 := Fin.ext (by rw [fpow_val a dE]; rfl)
theorem fpow_two {a : Fp} {e : Nat} (h : 2 * e < 2 ^ 256) : fpow a (2 * e) = fpow a e * fpow a e := Fin.ext (by
  rw [fpow_val a h, Fin.val_mul, fpow_val a oM, ← Nat.mul_mod, ← Nat.pow_add, Nat.two_mul])
theorem fpow_succ {a : Fp} {e : Nat} (h : e + 1 < 2 ^ 256) : fpow a (e + 1) = fpow a e * a := Fin.ext (by
  rw [fpow_val a h, Fin.val_mul, fpow_val a oM, Nat.pow_succ, Nat.mul_mod (a.val ^ e % PF), Nat.mod_mod, ← Nat.mul_mod])
theorem fpow_add {a : Fp} {m n : Nat} (h : m + n < 2 ^ 256) : fpow a (m + n) = fpow a m * fpow a n := Fin.ext (by
  rw [fpow_val a h, Fin.val_mul, fpow_val a oM, fpow_val a oM, ← Nat.mul_mod, ← Nat.pow_add])
theorem fpow_mul {a : Fp} {m n : Nat} (hm : m < 2 ^ 256) (hn : n < 2 ^ 256) (h : m * n < 2 ^ 256) : fpow (fpow a m) n = fpow a (m * n) := Fin.ext (by
  rw [fpow_val _ hn, fpow_val a hm, fpow_val a h, ← Nat.pow_mod, ← Nat.pow_mul])
theorem mulpow {a b : Fp} {n : Nat} (hn : n < 2 ^ 256) : fpow (a * b) n = fpow a n * fpow b n := Fin.ext (by
  rw [fpow_val _ hn, Fin.val_mul, Fin.val_mul, fpow_val a hn, fpow_val b hn, ← Nat.mul_mod, ← Nat.pow_mod, Nat.mul_pow])
theorem ferm {a : Fp} (h : a ≠ 0) : fpow a (PF - 1) = 1 := Fin.ext (by
  rw [fpow_val a dE]
  exact PF_prm.fermat fun hd => h (Fin.ext (Nat.eq_zero_of_dvd_of_lt hd a.isLt)))
def finv (a : Fp) : Fp := fpow a (PF - 2)
theorem finv_mul {a : Fp} (h : a ≠ 0) : a * finv a = 1 := by
  have h1 := ferm h
  rw [show PF - 1 = (PF - 2) + 1 from by decide, fpow_succ dE] at h1
  rw [finv]; grind
theorem finv_zero : finv 0 = 0 := by kernel_rfl
def fD : Fp := fe 37095705934669439343138083508754565189542113879843219016388785533085940283555
def fI : Fp := fe 19681161376707505956807079304988542015446066515923890162744021073123829784752
theorem half {z : Fp} (h : z ≠ 0) : fpow (z * z) ((PF - 1) / 2) = 1 := by
  rw [show z * z = fpow z 2 from by rw [show (2 : Nat) = 2 * 1 from rfl, fpow_two dE, show (1 : Nat) = 0 + 1 from rfl, fpow_succ dE, fpow_zero]; grind, fpow_mul dE dE dE]
  exact ferm h
theorem fD_half : (decide (fpow fD ((PF - 1) / 2) = 1)) = false := by kernel_rfl
theorem fI_sq : fI * fI = -1 := by kernel_rfl
theorem fone : (1 : Fp) ≠ 0 := by
  intro h
  have := congrArg Fin.val h
  revert this
  decide
theorem ftwo : (1 : Fp) + 1 ≠ 0 := by
  intro h
  have := congrArg Fin.val h
  revert this
  decide
/-- the curve -/
def cv : Cv Fp where
  d := fD
  i := fI
  inv := finv
  one_ne := fone
  two_ne := ftwo
  mul_inv := fun _ h => finv_mul h
  inv_zero := finv_zero
  i_sq := fI_sq
  nsq := fun z h => by
    by_cases hz : z = 0
    · rw [hz] at h
      have := congrArg Fin.val h
      revert this
      decide
    · have h1 := half hz
      rw [h] at h1
      have := fD_half
      rw [h1] at this
      simp at this

/-- a residue as bytes -/
def fb (x : Fp) : List UInt8 := leb 32 x.val
theorem fb_length (x : Fp) : (fb x).length = 32 := leb_length _ _
theorem le_fb (x : Fp) : le (fb x) = x.val := by rw [fb, le_leb]; exact Nat.mod_eq_of_lt (Nat.lt_trans x.isLt dE)
theorem fe_fb (x : Fp) : fe (le (fb x)) = x := by rw [le_fb, fe_of]
theorem fb_inj {x y : Fp} : fb x = fb y ↔ x = y := ⟨fun h => by rw [← fe_fb x, h, fe_fb], fun h => by rw [h]⟩
theorem fb_fe (n : Nat) : fb (fe n) = leb 32 (n % PF) := rfl
theorem mulF_fe {a b : W5} (ha : a.fit) (hb : b.fit) : fe (mulF a b).v = fe a.v * fe b.v := by rw [← fe_mul]; exact fe_eq.2 (mulF_v ha hb)
theorem fe_four : fe (4 * PF) = 0 := by kernel_rfl
theorem subF_fe {x y : W5} (hx : x.lt 2251799813685248 4503599627370496) (hy : y.lt 2251799813685248 4503599627370496) : fe (subF x y).v = fe x.v - fe y.v := by
  have h := congrArg fe (subF_v hx hy)
  rw [fe_add, fe_add, fe_four] at h
  grind
theorem fe_small (n : UInt64) : fb (fe n.toNat) = leb 32 n.toNat := by
  have := n.toNat_lt
  rw [fb_fe, Nat.mod_eq_of_lt (Nat.lt_trans this dE)]
theorem addF_fe {a b : List UInt8} (ha : a.length = 32) (hb : b.length = 32) : fe (addF (ldN a) (ldN b)).v = fe (le a) + fe (le b) := by rw [addF_v (ldN_lt a) (ldN_lt b), ldN_v ha, ldN_v hb, fe_add]
theorem subL_fe {a b : List UInt8} (ha : a.length = 32) (hb : b.length = 32) : fe (subF (ldN a) (ldN b)).v = fe (le a) - fe (le b) := by rw [subF_fe (ldN_lt a) (ldN_lt b), ldN_v ha, ldN_v hb]
theorem mulL_fe {a b : List UInt8} (ha : a.length = 32) (hb : b.length = 32) : fe (mulF (ldN a) (ldN b)).v = fe (le a) * fe (le b) := by rw [mulF_fe (ldN_lt a).fit (ldN_lt b).fit, ldN_v ha, ldN_v hb]
structure PowI (E : Nat) (X : Fp) (k : Nat) (p : W5) (a b c d : UInt64) : Prop where
  le : k ≤ 256
  fit : p.fit
  val : fe p.v = fpow X (E / 2 ^ (256 - k))
  q : q4 a b c d = E * 2 ^ k % 2 ^ 256
theorem PowI.first {e : List UInt8} (h : e.length = 32) (X : Fp) : PowI (Hw.le e) X 0 ⟨1, 0, 0, 0, 0⟩ (qw e 0) (qw e 1) (qw e 2) (qw e 3) := by
  have hl := le_lt e
  rw [h] at hl
  refine ⟨by decide, ⟨by decide, by decide, by decide, by decide, by decide⟩, ?_, ?_⟩
  · rw [show 256 - 0 = 256 from rfl, Nat.div_eq_of_lt (Nat.lt_of_lt_of_le hl dE), fpow_zero]; rfl
  · rw [q4, qw_le h, Nat.pow_zero, Nat.mul_one, Nat.mod_eq_of_lt (Nat.lt_of_lt_of_le hl dE)]
theorem top_bit (E k : Nat) (hk : k < 256) : E * 2 ^ k % 2 ^ 256 / 2 ^ 255 = E / 2 ^ (255 - k) % 2 := by
  have e : (2 : Nat) ^ 256 = 2 ^ k * (2 ^ (255 - k) * 2) := by rw [← Nat.pow_succ, ← Nat.pow_add]; congr 1; omega
  have e2 : (2 : Nat) ^ 255 = 2 ^ k * 2 ^ (255 - k) := by rw [← Nat.pow_add]; congr 1; omega
  rw [e, e2, Nat.mul_comm E, Nat.mul_mod_mul_left, ← Nat.div_div_eq_div_mul, Nat.mul_div_cancel_left _ (Nat.pow_pos dE)]
  rw [Nat.mod_mul_right_div_self]
theorem next_div (E k : Nat) (hk : k < 256) : E / 2 ^ (256 - (k + 1)) = 2 * (E / 2 ^ (256 - k)) + E / 2 ^ (255 - k) % 2 := by
  rw [show 256 - (k + 1) = 255 - k by omega, show 256 - k = (255 - k) + 1 by omega, Nat.pow_succ, ← Nat.div_div_eq_div_mul]
  omega
section
variable {E : Nat} {X : Fp} {k : Nat} {p x : W5} {a b c d : UInt64}
theorem PowI.bit (h : PowI E X k p a b c d) (hk : k < 256) : (shr64 d 63).toNat = E / 2 ^ (255 - k) % 2 := by
  rw [q4_top a b c d, h.q, ← top_bit E k hk]
theorem PowI.q' (h : PowI E X k p a b c d) : q4 (shl64 a 1) (shl64 b 1 ||| shr64 a 63) (shl64 c 1 ||| shr64 b 63) (shl64 d 1 ||| shr64 c 63) = E * 2 ^ (k + 1) % 2 ^ 256 := by
  have e : E * 2 ^ (k + 1) = 2 * (E * 2 ^ k) := by rw [Nat.pow_succ, ← Nat.mul_assoc, Nat.mul_comm]
  rw [q4_shift, h.q, e]
  generalize E * 2 ^ k = m
  omega
theorem mulF_fit (p x : W5) : (mulF p x).fit := (carF_small _).fit
theorem PowI.even (h : PowI E X k p a b c d) (hE : E < 2 ^ 256) (hk : k < 256) (hb : ¬ (shr64 d 63).toNat = 1) : PowI E X (k + 1) (mulF p p) (shl64 a 1) (shl64 b 1 ||| shr64 a 63) (shl64 c 1 ||| shr64 b 63) (shl64 d 1 ||| shr64 c 63) := by
  have h1 := h.bit hk
  have h2 : E / 2 ^ (256 - (k + 1)) ≤ E := Nat.div_le_self _ _
  refine ⟨hk, mulF_fit _ _, ?_, h.q'⟩
  rw [next_div E k hk] at h2 ⊢
  rw [show E / 2 ^ (255 - k) % 2 = 0 by omega] at h2 ⊢
  rw [mulF_fe h.fit h.fit, h.val, Nat.add_zero, fpow_two oM]
theorem PowI.odd (h : PowI E X k p a b c d) (hE : E < 2 ^ 256) (hk : k < 256) (hx : x.fit) (hX : fe x.v = X) (hb : (shr64 d 63).toNat = 1) : PowI E X (k + 1) (mulF (mulF p p) x) (shl64 a 1) (shl64 b 1 ||| shr64 a 63) (shl64 c 1 ||| shr64 b 63) (shl64 d 1 ||| shr64 c 63) := by
  have h1 := h.bit hk
  have h2 : E / 2 ^ (256 - (k + 1)) ≤ E := Nat.div_le_self _ _
  refine ⟨hk, mulF_fit _ _, ?_, h.q'⟩
  rw [next_div E k hk] at h2 ⊢
  rw [show E / 2 ^ (255 - k) % 2 = 1 by omega] at h2 ⊢
  rw [mulF_fe (mulF_fit _ _) hx, mulF_fe h.fit h.fit, h.val, hX, fpow_succ oM, fpow_two oM]
theorem PowI.last (h : PowI E X 256 p a b c d) : fe p.v = fpow X E := by have := h.val; rwa [Nat.sub_self, Nat.pow_zero, Nat.div_one] at this
end
def onesB (f l : UInt8) : List UInt8 := ((List.replicate 32 255).set 0 f).set 31 l
theorem onesB_length (f l : UInt8) : (onesB f l).length = 32 := by simp [onesB]
theorem ones_step {k : Nat} (h : k < 32) : (List.replicate k (255 : UInt8) ++ List.replicate (32 - k) 0).set k 255 = List.replicate (k + 1) 255 ++ List.replicate (32 - (k + 1)) 0 := by
  rw [show 32 - k = (32 - (k + 1)) + 1 by omega, List.replicate_succ, List.set_append_right _ _ sP]
  simp [List.replicate_succ']
theorem ones_inv : Hw.le (onesB 235 127) = PF - 2 := by kernel_rfl
theorem ones_root : Hw.le (onesB 254 15) = (PF + 3) / 8 := by kernel_rfl
theorem ones_unit : Hw.le (onesB 251 31) = (PF - 1) / 4 := by kernel_rfl
def fRoot1 (X : Fp) : Fp := if fpow X ((PF + 3) / 8) * fpow X ((PF + 3) / 8) = X then fpow X ((PF + 3) / 8) else fpow X ((PF + 3) / 8) * fpow (fe 2) ((PF - 1) / 4)
def fRoot (X : Fp) : Fp × Bool := if fRoot1 X * fRoot1 X = X then ((if (fRoot1 X).val % 2 = 1 then -fRoot1 X else fRoot1 X), true) else (0, false)
theorem fb_zero : fb 0 = List.replicate 32 0 := by kernel_rfl
theorem fb_head (x : Fp) : (fb x).getD 0 0 = UInt8.ofNat x.val := rfl
theorem odd_byte (x : Fp) : decide ((((fb x).getD 0 0 &&& 1).toNat : Int) = 1) = decide (x.val % 2 = 1) := by
  have e : ((fb x).getD 0 0 &&& 1).toNat = x.val % 2 := by
    rw [fb_head, UInt8.toNat_and, show (1 : UInt8).toNat = 2 ^ 1 - 1 from rfl, Nat.and_two_pow_sub_one_eq_mod, UInt8.toNat_ofNat']
    omega
  rw [e]
  congr 1
  exact propext ⟨fun h => by omega, fun h => by omega⟩
theorem fb_dec (x y : Fp) : decide (fb x = fb y) = decide (x = y) := by
  rw [Bool.eq_iff_iff]; simp [fb_inj]
end Ed
end

section
namespace Hw
open Go Go.RowKit
set_option linter.unusedSimpArgs false
set_option linter.unusedVariables false

theorem add8_eq (x y : UInt8) : IntKind.u8.wrap ((x.toNat : Int) + y.toNat) = ((x + y).toNat : Int) := by
  have := x.toNat_lt; have := y.toNat_lt
  rw [IntKind.wrap_u8, UInt8.toNat_add]; omega
theorem res_none {C : Cx} {fn : Func} {s : St} (hr : fn.results = #[]) : Res C fn s (.tuple #[]) := by
  intro a w r
  simp [results, hr]
section
variable {C : Cx} {ops : Array Oper} {rest : List (Nat × Oper)} {sl : List (Nat × Value)} {hp : List Blk} {Q : St → Prop} {c d : Nat} {ty : TypeId} {pos : String} {af : Array Edge} {g : Option (Nat × Bool)}
variable {xT yT : TypeId} {x y : Operand} {a b : Int} {p q : UInt8}
theorem Tr.add_u8 (hg : guardOk ops sl g = true) (hk : okD c d C.N = true) (hx : evIn sl x = some (u8 p)) (hy : evIn sl y = some (u8 q))
    (k : Tr C ops rest ⟨(d, u8 (p + q)) :: sl, hp⟩ Q) : Tr C ops ((c, ⟨some d, .binOp .add xT x y yT, ty, pos, af, g⟩) :: rest) ⟨sl, hp⟩ Q :=
  .bin hg hk hx hy (fun w => by simp only [binOp, Op.intArith, add8_eq]; rfl) k
variable {lo hi : Operand} {o i0 len : Nat} {E : TypeId}
/-- a part of an array, as a slice -/
theorem Tr.sliceArrLH {kl kh : IntKind} {l h : Int} {bb : Nat} (i j : Nat) (hg : guardOk ops sl g = true) (hk : okD c d C.N = true) (hx : evIn sl x = some (ptr bb o)) (hlo : evIn sl lo = some (.int kl l)) (hhi : evIn sl hi = some (.int kh h)) (hi' : l = i) (hj : h = j) (hij : i ≤ j) (hjl : j ≤ len) (hil : i < len) (hu : C.P.underlying xT = some (.array len E)) {sz : Nat} (hs : Sz C.P E sz)
    (k : Tr C ops rest ⟨(d, .slice (some ⟨bb, o + i * sz, none⟩) (j - i) (len - i)) :: sl, hp⟩ Q) : Tr C ops ((c, ⟨some d, .slice xT x (some lo) (some hi) none, ty, pos, af, g⟩) :: rest) ⟨sl, hp⟩ Q :=
  .pv hg hk ⟨by simpa [Known, Op.operands] using known3 hx hlo hhi, fun ρ hfi w => by
    have h1 := hfi x (by simp [Op.operands]); rw [hx] at h1
    have h2 := hfi lo (by simp [Op.operands]); rw [hlo] at h2
    have h3 := hfi hi (by simp [Op.operands]); rw [hhi] at h3
    simp only [Option.some.injEq] at h1 h2 h3
    subst hi'; subst hj
    have e : ¬ (len = i) := by omega
    have e1 : i ≤ len := by omega
    simp [execOp, Instr.sliceAt, ← h1, ← h2, ← h3, run_underlying hu, Instr.sureAddr, Instr.sliceBounds, Instr.sliceBound, asIntOf, run_sz hs, add_addr, e, e1, hij, hjl]⟩ k
/-- a field of a struct value that is an array or a struct -/
theorem Tr.fieldN {fs : Array Field} {f n : Nat} {fd : Field} {td : TypeDesc} {cs : List Value} (r : List Value) (hg : guardOk ops sl g = true) (hk : okD c d C.N = true) (hx : evIn sl x = some (agg cs)) (hu : C.P.underlying xT = some (.struct fs)) (hf : fs[f]? = some fd) (hft : C.P.underlying fd.type = some td) (hp' : plainDesc td = false) (hs : Sz C.P fd.type n) (hr : (cs.drop fd.offset).take n = r)
    (k : Tr C ops rest ⟨(d, agg r) :: sl, hp⟩ Q) : Tr C ops ((c, ⟨some d, .field xT x f, ty, pos, af, g⟩) :: rest) ⟨sl, hp⟩ Q :=
  .pv hg hk ⟨known1 hx, fun ρ hfi w => by
    have h1 := hfi x (by simp [Op.operands]); rw [hx] at h1
    simp only [Option.some.injEq] at h1
    have h2 := run_partN (w := w) hft hp' hs hr
    simp [execOp, Instr.field, ← h1, run_underlying hu, hf, agg, asAgg, h2]⟩ k
end
end Hw
end

section
namespace Hw
open Go Go.RowKit
set_option linter.unusedSimpArgs false
set_option linter.unusedVariables false
section
variable {C : Cx} {fn : Func} {s : St}
end

/-- a row of one's own, from some place of its block on -/
def AccO (s : Sl) (bl : List Blk) (cells : List Value) (E : TypeId) (n : Nat) : Prop :=
  (s = Sl.nil ∧ bl = [] ∧ cells = [] ∧ n = 0) ∨ ∃ q o c m pre post, s = ⟨some ⟨q, o, none⟩, n, c⟩ ∧ n ≤ c ∧ cells.length = n ∧ pre.length = o ∧ (post = [] ∨ n = c) ∧ o + c ≤ m ∧ bl = [⟨q, pre ++ cells ++ post, E, m⟩]
section
variable {s : Sl} {bl : List Blk} {cells : List Value} {E : TypeId} {n : Nat}
theorem AccO.none : AccO Sl.nil [] [] E 0 := .inl ⟨rfl, rfl, rfl, rfl⟩
theorem AccO.num (h : AccO s bl cells E n) : s.n = n := by rcases h with ⟨rfl, _, _, rfl⟩ | ⟨q, o, c, m, pre, post, rfl, _⟩ <;> rfl
theorem AccO.len (h : AccO s bl cells E n) : cells.length = n := by rcases h with ⟨_, _, rfl, rfl⟩ | ⟨q, o, c, m, pre, post, _, _, h, _⟩; rfl; exact h
theorem AccO.cap (h : AccO s bl cells E n) : s.n ≤ s.c := by rcases h with ⟨rfl, _⟩ | ⟨q, o, c, m, pre, post, rfl, h, _⟩; exact Nat.le_refl _; exact h
theorem AccO.nilc (h : AccO s bl cells E n) (hp : s.p = .none) : s.c = 0 := by rcases h with ⟨rfl, _⟩ | ⟨q, o, c, m, pre, post, rfl, _⟩; rfl; cases hp
theorem AccO.see (h : AccO s bl cells E n) {w : World} (hw : Lies bl w) : SeesP w s.p cells := by
  rcases h with ⟨_, _, rfl, _⟩ | ⟨q, o, c, m, pre, post, rfl, _, h3, h4, _, _, rfl⟩
  · exact SeesP.nil
  · refine SeesP.of fun j v hj => ?_
    refine (hw _ (List.mem_singleton.2 rfl)).cell (o := o + j) (v := v) ?_
    show (pre ++ cells ++ post)[o + j]? = some v
    have hlt := (List.getElem?_eq_some_iff.1 hj).1
    rw [List.append_assoc, List.getElem?_append_right oM, h4, Nat.add_sub_cancel_left, List.getElem?_append_left hlt]
    exact hj
theorem AccO.pos (h : AccO s bl cells E n) (hn : 0 < n) : ∃ q o c m pre post, s = ⟨some ⟨q, o, .none⟩, n, c⟩ ∧ n ≤ c ∧ cells.length = n ∧ pre.length = o ∧ (post = [] ∨ n = c) ∧ o + c ≤ m ∧ bl = [⟨q, pre ++ cells ++ post, E, m⟩] := by
  rcases h with ⟨_, _, _, rfl⟩ | h
  · exact absurd hn dE
  · exact h
theorem Acc.off {c : Nat} (h : Acc s bl cells E n 1) : AccO s bl cells E n := by
  rcases h with ⟨rfl, rfl, rfl, rfl⟩ | ⟨q, c, rfl, h1, h2, rfl⟩
  · exact .inl ⟨rfl, rfl, rfl, rfl⟩
  · exact .inr ⟨q, 0, c, c * 1, [], [], rfl, h1, by omega, rfl, .inl rfl, by omega, by simp⟩
end
section
variable {C : Cx} {ops : Array Oper} {rest : List (Nat × Oper)} {sl : List (Nat × Value)} {hp hp' : List Blk} {Q : St → Prop} {c d : Nat} {ty : TypeId} {pos : String} {af : Array Edge} {g : Option (Nat × Bool)}
/-- a truth value that is taken out of a tuple: both ways -/
theorem Tr.extractB {x : Operand} {vs : Array Value} {i : Nat} {b : Bool} (hg : guardOk ops sl g = true) (hk : okD c d C.N = true) (hx : evIn sl x = some (.tuple vs)) (hv : vs[i]? = some (.bool b))
    (kt : b = true → Tr C ops rest ⟨(d, .bool true) :: sl, hp⟩ Q) (kf : b = false → Tr C ops rest ⟨(d, .bool false) :: sl, hp⟩ Q) : Tr C ops ((c, ⟨some d, .extract x i, ty, pos, af, g⟩) :: rest) ⟨sl, hp⟩ Q := by
  cases b
  · exact .extract hg hk hx hv (kf rfl)
  · exact .extract hg hk hx hv (kt rfl)
end
end Hw
end

section
namespace Go.Proofs.YtpacobmjjjillaaGreat
open Go Hw
set_option linter.unusedVariables false
set_option linter.unusedSimpArgs false

theorem scalar_modulus  : Meets Tryz.prog 167 [] [] (fun _ => True) (fun v out => v = agg (wordsV modW) ∧ out = []) := by
 intro W hW
 refine calls_of (hp0 := []) Tryz.func167 J 2 Tryz.ntmps167 J (HRep.nil _) (Sat.seq (Sat.region (Tr.alloc (cs := (wordsV (List.replicate 4 0))) J Zr157 J ?_)))
 intro n0 hn0 hf0
 refine Tr.nil (at_n (Sat.seq (Sat.region (Tr.build (cs := wordsV modW) J J J (fun w => by kernel_rfl) ?_))))
 refine Tr.storeAll J J J J zB Sz157 (by (simp [modW_length]; done)) Z0 sP zU ?_
 refine Tr.nil (at_n (Sat.ret (en_r ?_)))
 refine ⟨_, [], res_cell J J Y157 J Sz157 Z0 (by simp [modW_length]), sP, sP, ?_, rfl⟩
 rfl

theorem scalar_doubled (w : List UInt64) (b : UInt64) (hw : w.length = 4) : Meets Tryz.prog 216 [agg (wordsV w), u64 b] [] (fun _ => True) (fun v out => v = agg (wordsV (dblW w b)) ∧ out = []) := by
 intro W hW
 refine calls_of (hp0 := []) Tryz.func216 J 32 Tryz.ntmps216 J (HRep.nil _) (Sat.seq (Sat.region (Tr.boxA J J ?_)))
 intro n2 hn2 hf2
 refine Tr.alloc (cs := (wordsV (List.replicate 4 0))) J Zr157 J ?_
 intro n4 hn4 hf4
 refine Tr.nil (at_n (Sat.seq (Sat.region (Tr.idxArr1 J J J J Y157 Sz22 0 J dE (Tr.load1 J J J Y22 J Z1 (by exact get_words oM) ?_)))))
 refine Tr.shl_u64 J J J J 1 J dE (Tr.idxArr1 J J J J Y157 Sz22 1 J dE (Tr.load1 J J J Y22 J Z1 (by exact get_words oM) ?_))
 refine Tr.shr_u64 J J J J 63 J dE (Tr.or_u64 J J J J (Tr.idxArr1 J J J J Y157 Sz22 1 J dE (Tr.load1 J J J Y22 J Z1 (by exact get_words oM) ?_)))
 refine Tr.shl_u64 J J J J 1 J dE (Tr.idxArr1 J J J J Y157 Sz22 2 J dE (Tr.load1 J J J Y22 J Z1 (by exact get_words oM) ?_))
 refine Tr.shr_u64 J J J J 63 J dE (Tr.or_u64 J J J J (Tr.idxArr1 J J J J Y157 Sz22 2 J dE (Tr.load1 J J J Y22 J Z1 (by exact get_words oM) ?_)))
 refine Tr.shl_u64 J J J J 1 J dE (Tr.idxArr1 J J J J Y157 Sz22 3 J dE (Tr.load1 J J J Y22 J Z1 (by exact get_words oM) ?_))
 refine Tr.shr_u64 J J J J 63 J dE (Tr.or_u64 J J J J (Tr.idxArr1 J J J J Y157 Sz22 3 J dE (Tr.load1 J J J Y22 J Z1 (by exact get_words oM) ?_)))
 refine Tr.shl_u64 J J J J 1 J dE (Tr.move J J J (Tr.or_u64 J J J J (Tr.build (cs := wordsV (dblW w b)) J J J (fun w => by kernel_rfl) ?_)))
 refine Tr.storeAll J J J J zB Sz157 (by (simp [dblW_length]; done)) Z0 sP zU ?_
 refine Tr.nil (at_n (Sat.ret (en_r ?_)))
 refine ⟨_, [], res_cell J J Y157 J Sz157 Z0 (by simp [dblW_length]), sP, sP, ?_, rfl⟩
 rfl

theorem scalar_load (a : List UInt8) (ha : a.length = 32) : Meets Tryz.prog 162 [agg (bytesV a)] [] (fun _ => True) (fun v out => v = agg (wordsV (ldW a 32)) ∧ out = []) := by
 intro W hW
 refine calls_of (hp0 := []) Tryz.func162 J 24 Tryz.ntmps162 J (HRep.nil _) (Sat.seq (Sat.region (Tr.boxA J J ?_)))
 intro n1 hn1 hf1
 refine Tr.alloc (cs := (wordsV (List.replicate 4 0))) J Zr157 J ?_
 intro n2 hn2 hf2
 refine Tr.nil (at_n (Sat.seq (Sat.region (Tr.alloc (cs := (wordsV (List.replicate 4 0))) J Zr157 J ?_))))
 intro n3 hn3 hf3
 refine Tr.nil (at_n (Sat.seq (Sat.seq (Sat.region (Tr.move J J J (Tr.nil (at_n (Sat.block (Sat.loop (ι := Nat) (fun k => ⟨[(1, ptr n1 0), (2, ptr n2 0), (3, ptr n3 0), (5, i64 (k : Int))], [⟨n3, wordsV (ldW a k), 157, 4⟩, ⟨n2, wordsV (List.replicate 4 0), 157, 4⟩, ⟨n1, bytesV a, 77, (bytesV a).length⟩]⟩) (fun k => k ≤ 32) (fun k => 32 - k) (0) ?_ ?_ ?_)))))))))
 · omega
 · exact weak_of (wk1 rfl (wk1 rfl (wk1 rfl (wk1 rfl wk0)))) (wh1 Z0 (wh1 Z1 (wh1 Z2 wh0))) nD
 ·
  rintro k hi
  have hlk := ldW_length a k
  refine Sat.seq (Sat.region (Tr.lss J J J J J (Tr.nil (at_n (Sat.seq (Sat.condP J (fun hc0 => ?_) (fun hc0 => ?_)))))))
  ·
   refine Sat.skip (at_n (Sat.seq (Sat.block (Sat.seq (Sat.region (Tr.move J J J (Tr.assign J J J (Tr.nil (at_n (Sat.draw [(0, 0), (0, 1), (0, 2), (0, 3), (0, 4), (1, 5), (0, 6), (0, 7), (0, 8), (0, 9), (1, 10), (0, 11), (0, 12), (0, 13), (4, 14)] Mixed zK (Tr.move J J J (Tr.quo_i64 J J J J oM (Tr.move J J J (Tr.quo_i64 J J J J oM (Tr.idxArr1 J J J J Y157 Sz22 (k / 8) oM oM (Tr.load1 J J J Y22 J Z0 (by exact get_words oM) ?_))))))))))))))))
   refine Tr.shl_u64 J J J J 8 J dE (Tr.move J J J (Tr.sub_i64 J J J J oM (Tr.idxArr1 J J J J Y77 Sz5 (31 - k) oM oM (Tr.load1 J J J Y5 J Z2 zG ?_))))
   refine Tr.conv J J J Y5 Y22 (cv_u8_u64 _) (Tr.or_u64 J J J J (Tr.idxArr1 J J J J Y157 Sz22 (k / 8) oM oM (Tr.store1 J J J J J Sz22 Z0 (by (simp [ldW_length]; omega)) (by exact set_words _ _ _) zU ?_)))
   refine Tr.nil (bl_n (at_n (Sat.region (Tr.add_i64 J J J J oM (Tr.move J J J (Tr.nil (at_n ?_)))))))
   exact ⟨k + 1, by omega, by omega, weak_of (wk1 rfl (wk1 rfl (wk1 rfl (wk1 rfl wk0)))) (wh1 Z0 (wh1 Z1 (wh1 Z2 wh0))) nD⟩
  ·
   obtain rfl : k = 32 := by omega
   refine Sat.exit (at_x (at_x (bl_h (at_n (Sat.seq (Sat.region (Tr.loadAll J J J Y157 J Sz157 Z0 (by (simp [ldW_length]; done)) ?_)))))))
   refine Tr.storeAll J J J J zB Sz157 (by (simp [ldW_length]; done)) Z1 sP zV ?_
   refine Tr.nil (at_n (Sat.ret (en_r ?_)))
   refine ⟨_, [], res_cell J J Y157 J Sz157 Z1 (by simp [ldW_length]), sP, sP, ?_, rfl⟩
   rfl

theorem scalar_store (w : List UInt64) (hw : w.length = 4) : Meets Tryz.prog 218 [agg (wordsV w)] [] (fun _ => True) (fun v out => v = agg (bytesV (stB w 32)) ∧ out = []) := by
 intro W hW
 refine calls_of (hp0 := []) Tryz.func218 J 23 Tryz.ntmps218 J (HRep.nil _) (Sat.seq (Sat.region (Tr.boxA J J ?_)))
 intro n1 hn1 hf1
 refine Tr.alloc (cs := (bytesV (List.replicate 32 0))) J Zr77 J ?_
 intro n2 hn2 hf2
 refine Tr.nil (at_n (Sat.seq (Sat.region (Tr.alloc (cs := (bytesV (List.replicate 32 0))) J Zr77 J ?_))))
 intro n3 hn3 hf3
 refine Tr.nil (at_n (Sat.seq (Sat.seq (Sat.region (Tr.move J J J (Tr.nil (at_n (Sat.block (Sat.loop (ι := Nat) (fun k => ⟨[(1, ptr n1 0), (2, ptr n2 0), (3, ptr n3 0), (5, i64 (k : Int))], [⟨n3, bytesV (stB w k), 77, 32⟩, ⟨n2, bytesV (List.replicate 32 0), 77, 32⟩, ⟨n1, wordsV w, 157, (wordsV w).length⟩]⟩) (fun k => k ≤ 32) (fun k => 32 - k) (0) ?_ ?_ ?_)))))))))
 · omega
 · exact weak_of (wk1 rfl (wk1 rfl (wk1 rfl (wk1 rfl wk0)))) (wh1 Z0 (wh1 Z1 (wh1 Z2 wh0))) nD
 ·
  rintro k hi
  have hlk := stB_length w k
  refine Sat.seq (Sat.region (Tr.lss J J J J J (Tr.nil (at_n (Sat.seq (Sat.condP J (fun hc0 => ?_) (fun hc0 => ?_)))))))
  ·
   refine Sat.skip (at_n (Sat.seq (Sat.block (Sat.seq (Sat.region (Tr.move J J J (Tr.assign J J J (Tr.nil (at_n (Sat.region (Tr.move J J J (Tr.sub_i64 J J J J oM (Tr.move J J J (Tr.quo_i64 J J J J oM (Tr.idxArr1 J J J J Y157 Sz22 (k / 8) oM oM (Tr.load1 J J J Y22 J Z2 (by exact get_words oM) ?_))))))))))))))))
   refine Tr.move J J J (Tr.rem_i64 J J J J oM (Tr.mul_i64 J J J J oM (Tr.sub_i64 J J J J oM (Tr.shr_u64 J J J J (56 - 8 * (k % 8)) oM oM (Tr.conv J J J Y22 Y5 (cv_u64_u8 _) (Tr.idxArr1 J J J J Y77 Sz5 (31 - k) oM oM (Tr.store1 J J J J J Sz5 Z0 (by (simp [stB_length]; omega)) (by exact set_bytes _ _ _) zU ?_)))))))
   refine Tr.nil (bl_n (at_n (Sat.region (Tr.add_i64 J J J J oM (Tr.move J J J (Tr.nil (at_n ?_)))))))
   exact ⟨k + 1, by omega, by omega, weak_of (wk1 rfl (wk1 rfl (wk1 rfl (wk1 rfl wk0)))) (wh1 Z0 (wh1 Z1 (wh1 Z2 wh0))) nD⟩
  ·
   obtain rfl : k = 32 := by omega
   refine Sat.exit (at_x (at_x (bl_h (at_n (Sat.seq (Sat.region (Tr.loadAll J J J Y77 J Sz77 Z0 (by (simp [stB_length]; done)) ?_)))))))
   refine Tr.storeAll J J J J zB Sz77 (by (simp [stB_length]; done)) Z1 sP zV ?_
   refine Tr.nil (at_n (Sat.ret (en_r ?_)))
   refine ⟨_, [], res_cell J J Y77 J Sz77 Z1 (by simp [stB_length]), sP, sP, ?_, rfl⟩
   rfl

theorem sub64_run (x y b : UInt64) (hb : b.toNat ≤ 1) (w : World) : (callFunc 241 [u64 x, u64 y, u64 b].toArray).run Tryz.prog w = .ok (.value (.tuple #[u64 (w64 (x.toNat + 2 ^ 64 - y.toNat - b.toNat)), u64 (if x.toNat < y.toNat + b.toNat then 1 else 0)])) w := by
  rw [run_callFunc_extern Tryz.func241 zK zK zK (e := sub64E) zK]
  have h : (sub64E [u64 x, u64 y, u64 b].toArray).run Tryz.prog w = .ok (.tuple #[.int .u64 (((x.toNat + 18446744073709551616 - y.toNat - b.toNat) % 18446744073709551616 : Nat) : Int), .int .u64 ((if x.toNat < y.toNat + b.toNat then 1 else 0 : Nat) : Int)]) w := by
    have : b.toNat = 0 ∨ b.toNat = 1 := by omega
    rcases this with h | h <;> simp only [u64, h] <;> rfl
  rw [h]
  simp only [Result.andThen, u64, w64_toNat]
  congr 5
  split <;> rfl
theorem add64_run (x y b : UInt64) (hb : b.toNat ≤ 1) (w : World) : (callFunc 164 [u64 x, u64 y, u64 b].toArray).run Tryz.prog w = .ok (.value (.tuple #[u64 (w64 (x.toNat + y.toNat + b.toNat)), u64 (w64 ((x.toNat + y.toNat + b.toNat) / 2 ^ 64))])) w := by
  rw [run_callFunc_extern Tryz.func164 zK zK zK (e := add64Entry) zK]
  have hx := x.toNat_lt; have hy := y.toNat_lt
  have h := run_add64 (P := Tryz.prog) (x.toNat : Int) y.toNat b.toNat oM oM oM oM w
  have e : [u64 x, u64 y, u64 b].toArray = #[.int .u64 x.toNat, .int .u64 y.toNat, .int .u64 b.toNat] := rfl
  have e1 : ((x.toNat : Int) + y.toNat + b.toNat) % 18446744073709551616 = ((w64 (x.toNat + y.toNat + b.toNat)).toNat : Int) := by rw [w64_toNat]; omega
  have e2 : ((x.toNat : Int) + y.toNat + b.toNat) / 18446744073709551616 = ((w64 ((x.toNat + y.toNat + b.toNat) / 2 ^ 64)).toNat : Int) := by rw [w64_toNat]; omega
  rw [e, h, e1, e2]
  rfl

theorem isNaN_u64 (x : UInt64) : Meets Tryz.prog 144 [u64 x] [] (fun _ => True) (fun v out => v = .bool false ∧ out = []) := by
 intro W hW
 refine calls_of (hp0 := []) Tryz.func144 J 6 Tryz.ntmps144 J (HRep.nil _) (Sat.seq (Sat.region (Tr.assign J J J (Tr.nil (at_n (Sat.seq (Sat.region (Tr.move J J J (Tr.move J J J (Tr.nei J J J J (show (!decide _) = false from congrArg not (decide_eq_true (rfl))) (Tr.assign J J J (Tr.nil (at_n (Sat.ret (en_r ?_)))))))))))))))
 refine ⟨_, [], res_tmp J J, sP, sP, ?_, rfl⟩
 rfl

theorem cmp_u64 (x y : UInt64) : Meets Tryz.prog 82 [u64 x, u64 y] [] (fun _ => True) (fun v out => v = i64 (cmp1 x y) ∧ out = []) := by
 intro W hW
 refine calls_of (hp0 := []) Tryz.func82 J 20 Tryz.ntmps82 J (HRep.nil _) (Sat.seq (Sat.region (Tr.assign J J J (Tr.nil (at_n (Sat.seq (Sat.region (Tr.move J J J (Tr.callV J J J J Body144 (isNaN_u64 _) (fun _ _ => trivial) (Tr.assign J J J (Tr.nil (at_n (Sat.seq (Sat.region (Tr.move J J J (Tr.callV J J J J Body144 (isNaN_u64 _) (fun _ _ => trivial) (Tr.assign J J J (Tr.nil (at_n (Sat.seq (Sat.seq (Sat.region (Tr.move J J J (Tr.nil (at_n (Sat.cond_f J (rfl) (Sat.skip (at_n (Sat.seq (Sat.seq (Sat.region (Tr.move J J J (Tr.nil (at_n (Sat.cond_f J (rfl) (Sat.skip (at_n (Sat.seq (Sat.seq (Sat.region (Tr.move J J J (Tr.move J J J (Tr.lss J J J J J (Tr.nil (at_n (Sat.condP J (fun hc3 => ?_) (fun hc3 => ?_)))))))))))))))))))))))))))))))))))))))))))))))
 ·
  refine Sat.seq (Sat.region (Tr.assign J J J (Tr.nil (at_n (Sat.ret (at_r (en_r ?_)))))))
  refine ⟨_, [], res_tmp J J, sP, sP, ?_, rfl⟩
  unfold cmp1
  rw [if_pos oM]
 ·
  refine Sat.skip (at_n (Sat.seq (Sat.seq (Sat.region (Tr.move J J J (Tr.move J J J (Tr.gtr J J J J J (Tr.nil (at_n (Sat.condP J (fun hc4 => ?_) (fun hc4 => ?_)))))))))))
  ·
   refine Sat.seq (Sat.region (Tr.assign J J J (Tr.nil (at_n (Sat.ret (at_r (en_r ?_)))))))
   refine ⟨_, [], res_tmp J J, sP, sP, ?_, rfl⟩
   unfold cmp1
   rw [if_neg oM, if_pos oM]
  ·
   refine Sat.skip (at_n (Sat.seq (Sat.region (Tr.assign J J J (Tr.nil (at_n (Sat.ret (en_r ?_))))))))
   refine ⟨_, [], res_tmp J J, sP, sP, ?_, rfl⟩
   unfold cmp1
   rw [if_neg oM, if_neg oM]

theorem cmpFunc_u64 (b1 o1 c1 b2 o2 c2 n : Nat) (xs ys : List UInt64) (hx : xs.length = n) (hy : ys.length = n) (hn : n ≤ 1000000) : Meets Tryz.prog 219 [.slice (some ⟨b1, o1, none⟩) n c1, .slice (some ⟨b2, o2, none⟩) n c2, .func (.func 82) #[] #[]] [] (fun W => Sees W b1 o1 (wordsV xs) ∧ Sees W b2 o2 (wordsV ys)) (fun v out => v = i64 (cmpW xs ys) ∧ out = []) := by
 intro W hW
 refine calls_of (hp0 := []) Tryz.func219 J 39 Tryz.ntmps219 J (HRep.nil _) (Sat.seq (Sat.region (Tr.assign J J J (Tr.nil (at_n (Sat.seq (Sat.seq (Sat.region (Tr.move J J J (Tr.lenSl J J J Y159 (Tr.move J J J (Tr.nil (at_n (Sat.block (Sat.loop (ι := Nat) (fun k => ⟨[(0, .slice (some ⟨b1, o1, none⟩) n c1), (1, .slice (some ⟨b2, o2, none⟩) n c2), (2, .func (.func 82) #[] #[]), (11, .slice (some ⟨b1, o1, none⟩) n c1), (12, i64 (n : Int)), (13, i64 (k : Int))], []⟩) (fun k => k ≤ n ∧ ∀ j, j < k → xs.getD j 0 = ys.getD j 0) (fun k => n - k) (0) ?_ ?_ ?_)))))))))))))))
 · exact ⟨by omega, fun j hj => by omega⟩
 · exact weak_of (wk1 rfl (wk1 rfl (wk1 rfl (wk1 rfl (wk1 rfl (wk1 rfl wk0)))))) wh0 (by repeat (exact ns_nil))
 ·
  rintro k ⟨hk, hi⟩
  refine Sat.seq (Sat.region (Tr.lss J J J J J (Tr.nil (at_n (Sat.seq (Sat.condP J (fun hc0 => ?_) (fun hc0 => ?_)))))))
  ·
   refine Sat.skip (at_n (Sat.seq (Sat.block (Sat.seq (Sat.region (Tr.move J J J (Tr.idxSlO J J J J Y159 Sz22 _ J oM (Tr.loadE J J J Y22 J sP (hW.1 _ _ (get_words oM)) (Tr.assign J J J (Tr.assign J J J (Tr.nil (at_n (Sat.seq (Sat.seq (Sat.region (Tr.move J J J (Tr.move J J J (Tr.lenSl J J J Y159 (Tr.geq J J J J J (Tr.nil (at_n (Sat.cond_f J (by simp; omega) ?_))))))))))))))))))))))
   refine Sat.skip (at_n (Sat.seq (Sat.region (Tr.move J J J (Tr.move J J J (Tr.idxSlO J J J J Y159 Sz22 _ J oM (Tr.loadE J J J Y22 J sP (hW.2 _ _ (get_words oM)) (Tr.assign J J J (Tr.nil (at_n (Sat.seq (Sat.region (Tr.move J J J (Tr.move J J J (Tr.move J J J (Tr.callV J J J J Body82 (cmp_u64 _ _) (fun _ _ => trivial) (Tr.assign J J J (Tr.nil (at_n (Sat.seq (Sat.region (Tr.move J J J (Tr.nei J J J J J (Tr.nil (at_n (Sat.condNP J (fun hc2 => ?_) (fun hc2 => ?_)))))))))))))))))))))))))))
   ·
    refine Sat.seq (Sat.region (Tr.move J J J (Tr.assign J J J (Tr.nil (at_n (Sat.ret (bl_r (at_r (at_r (bl_r (at_r (en_r ?_))))))))))))
    refine ⟨_, [], res_tmp J J, sP, sP, ?_, rfl⟩
    exact congrArg i64 (cmpW_at _ _ _ hi oM oM hc2).symm
   ·
    refine Sat.skip (bl_n (at_n (Sat.region (Tr.add_i64 J J J J oM (Tr.move J J J (Tr.nil (at_n ?_)))))))
    exact ⟨k + 1, ⟨by omega, fun j hj => if h : j < k then hi j h else (show j = k by omega) ▸ cmp1_eq hc2⟩, by omega, weak_of (wk1 rfl (wk1 rfl (wk1 rfl (wk1 rfl (wk1 rfl (wk1 rfl wk0)))))) wh0 (by repeat (exact ns_nil))⟩
  ·
   obtain rfl : k = n := by omega
   refine Sat.exit (at_x (at_x (bl_h (at_n (Sat.seq (Sat.seq (Sat.region (Tr.move J J J (Tr.lenSl J J J Y159 (Tr.move J J J (Tr.lenSl J J J Y159 (Tr.lss J J J J J (Tr.nil (at_n (Sat.cond_f J sP (Sat.skip (at_n (Sat.seq (Sat.region (Tr.assign J J J (Tr.nil (at_n (Sat.ret (en_r ?_))))))))))))))))))))))))
   refine ⟨_, [], res_tmp J J, sP, sP, ?_, rfl⟩
   exact congrArg i64 (cmpW_all _ _ oM (by rw [hx]; exact hi)).symm

theorem scalar_below (w m : List UInt64) (hw : w.length = 4) (hm : m.length = 4) : Meets Tryz.prog 166 [agg (wordsV w), agg (wordsV m)] [] (fun _ => True) (fun v out => v = .bool (decide (wv w < wv m)) ∧ out = []) := by
 intro W hW
 refine calls_of (hp0 := []) Tryz.func166 J 9 Tryz.ntmps166 J (HRep.nil _) (Sat.seq (Sat.region (Tr.boxA J J ?_)))
 intro n2 hn2 hf2
 refine Tr.boxA J J ?_
 intro n3 hn3 hf3
 refine Tr.assign J J J (Tr.nil (at_n (Sat.seq (Sat.draw [(0, 0), (0, 1), (3, 2), (0, 3), (0, 4)] Mixed zK (Tr.sliceArr J J J Y157 Sz22 (Tr.sliceArr J J J Y157 Sz22 (Tr.callV J J J J Body219 (cmpFunc_u64 _ _ _ _ _ _ 4 w m hw hm oM) (fun W h => ⟨sees_own h Z1, sees_own h Z0⟩) ?_)))))))
 refine Tr.lss J J J J J (Tr.assign J J J (Tr.nil (at_n (Sat.ret (en_r ?_)))))
 refine ⟨_, [], res_tmp J J, sP, sP, ?_, rfl⟩
 exact congrArg Value.bool (by simp only [cmpW_lt hw hm])

theorem scalar_minus (w m : List UInt64) (hw : w.length = 4) (hm : m.length = 4) : Meets Tryz.prog 217 [agg (wordsV w), agg (wordsV m)] [] (fun _ => True) (fun v out => v = agg (wordsV (mnsW w m 4).1) ∧ out = []) := by
 intro W hW
 refine calls_of (hp0 := []) Tryz.func217 J 25 Tryz.ntmps217 J (HRep.nil _) (Sat.seq (Sat.region (Tr.boxA J J ?_)))
 intro n2 hn2 hf2
 refine Tr.boxA J J ?_
 intro n3 hn3 hf3
 refine Tr.alloc (cs := (wordsV (List.replicate 4 0))) J Zr157 J ?_
 intro n4 hn4 hf4
 refine Tr.nil (at_n (Sat.seq (Sat.region (Tr.assign J J (show evIn _ _ = some (u64 0) from rfl) (Tr.nil (at_n (Sat.seq (Sat.seq (Sat.region (Tr.assign J J J (Tr.nil (at_n (Sat.block (Sat.loop (ι := Nat) (fun k => ⟨[(2, ptr n2 0), (3, ptr n3 0), (4, ptr n4 0), (5, u64 (mnsW w m k).2), (6, i64 (3 - (k : Int)))], [⟨n4, wordsV (List.replicate 4 0), 157, 4⟩, ⟨n3, wordsV m, 157, (wordsV m).length⟩, ⟨n2, wordsV (mnsW w m k).1, 157, (wordsV w).length⟩]⟩) (fun k => k ≤ 4) (fun k => 4 - k) (0) ?_ ?_ ?_))))))))))))))
 · omega
 · exact weak_of (wk1 rfl (wk1 rfl (wk1 rfl (wk1 rfl (wk1 rfl wk0))))) (wh1 Z0 (wh1 Z1 (wh1 Z2 wh0))) nD
 ·
  rintro k hi
  have hl := mnsW_length w m k
  refine Sat.seq (Sat.seq (Sat.region (Tr.move J J J (Tr.geq J J J J J (Tr.nil (at_n (Sat.condP J (fun hc0 => ?_) (fun hc0 => ?_))))))))
  ·
   have hk4 : k < 4 := by omega
   refine Sat.skip (at_n (Sat.seq (Sat.block (Sat.draw [(0, 0), (0, 1), (0, 2), (1, 3), (0, 4), (0, 5), (1, 6), (0, 7), (0, 8), (0, 9), (0, 10), (0, 11), (0, 12), (4, 13), (0, 14)] Mixed zK (Tr.move J J J (Tr.move J J J (Tr.idxArr1 J J J J Y157 Sz22 (3 - k) oM oM (Tr.load1 J J J Y22 J Z2 (by exact get_words oM) ?_))))))))
   refine Tr.move J J J (Tr.idxArr1 J J J J Y157 Sz22 (3 - k) oM oM (Tr.load1 J J J Y22 J Z1 (by exact get_words oM) ?_))
   refine Tr.move J J J (Tr.ext J J J J (sub64_run _ _ _ (mnsW_borrow w m k)) (Tr.move J J J (Tr.extract J J J J (Tr.extract J J J J (Tr.idxArr1 J J J J Y157 Sz22 (3 - k) oM oM (Tr.store1 J J J J J Sz22 Z2 (by (simp [mnsW_length, hw]; omega)) (by exact set_words _ _ _) (by exact upd2) ?_))))))
   refine Tr.assign J J J (Tr.nil (bl_n (at_n (Sat.region (Tr.move J J J (Tr.sub_i64 J J J J oM (Tr.assign J J J (Tr.nil (at_n ?_)))))))))
   exact ⟨k + 1, by omega, by omega, weak_of (wk1 rfl (wk1 rfl (wk1 rfl (wk1 rfl (wk1 (by rw [show (3 - ((k + 1 : Nat) : Int)) = 3 - (k : Int) - 1 by omega]; rfl) wk0))))) (wh1 Z0 (wh1 Z1 (wh1 Z2 wh0))) nD⟩
  ·
   obtain rfl : k = 4 := by omega
   refine Sat.exit (at_x (at_x (bl_h (at_n (Sat.seq (Sat.region (Tr.loadAll J J J Y157 J Sz157 Z2 (by (simp [mnsW_length, hw]; done)) ?_)))))))
   refine Tr.storeAll J J J J zB Sz157 (by (simp [mnsW_length, hw]; done)) Z0 sP zU ?_
   refine Tr.nil (at_n (Sat.ret (en_r ?_)))
   refine ⟨_, [], res_cell J J Y157 J Sz157 Z0 (by simp [mnsW_length, hw]), sP, sP, ?_, rfl⟩
   rfl

theorem mul64_ok (x y : UInt64) : Meets Tryz.prog 163 [u64 x, u64 y] [] (fun _ => True) (fun v out => v = .tuple #[u64 (mulHi x y), u64 (x * y)] ∧ out = []) := by
 intro W hW
 refine calls_of (hp0 := []) Tryz.func163 J 51 Tryz.ntmps163 J (HRep.nil _) (Sat.seq (Sat.region (Tr.assign J J (show evIn _ _ = some (u64 0) from rfl) (Tr.assign J J (show evIn _ _ = some (u64 0) from rfl) (Tr.nil (at_n (Sat.seq (Sat.region (Tr.move J J J (Tr.and_u64 J J J (show evIn _ _ = some (u64 4294967295) from rfl) (Tr.assign J J J (Tr.nil (at_n (Sat.seq (Sat.region (Tr.move J J J (Tr.shr_u64 J J J J 32 J dE (Tr.assign J J J (Tr.nil (at_n (Sat.seq (Sat.region (Tr.move J J J (Tr.and_u64 J J J (show evIn _ _ = some (u64 4294967295) from rfl) (Tr.assign J J J (Tr.nil (at_n (Sat.seq (Sat.region (Tr.move J J J (Tr.shr_u64 J J J J 32 J dE (Tr.assign J J J (Tr.nil (at_n (Sat.seq (Sat.region (Tr.move J J J (Tr.move J J J (Tr.mul_u64 J J J J (Tr.assign J J J (Tr.nil (at_n (Sat.seq (Sat.region (Tr.move J J J (Tr.move J J J (Tr.mul_u64 J J J J (Tr.move J J J (Tr.shr_u64 J J J J 32 J dE (Tr.add_u64 J J J J (Tr.assign J J J (Tr.nil (at_n (Sat.seq (Sat.region (Tr.move J J J (Tr.and_u64 J J J (show evIn _ _ = some (u64 4294967295) from rfl) (Tr.assign J J J (Tr.nil (at_n (Sat.seq (Sat.region (Tr.move J J J (Tr.shr_u64 J J J J 32 J dE (Tr.assign J J J (Tr.nil (at_n (Sat.seq (Sat.region (Tr.move J J J (Tr.move J J J (Tr.move J J J (Tr.mul_u64 J J J J (Tr.add_u64 J J J J (Tr.assign J J J (Tr.nil (at_n (Sat.seq (Sat.region (Tr.move J J J (Tr.move J J J (Tr.mul_u64 J J J J (Tr.move J J J (Tr.add_u64 J J J J (Tr.move J J J (Tr.shr_u64 J J J J 32 J dE (Tr.add_u64 J J J J (Tr.assign J J J (Tr.nil (at_n (Sat.seq (Sat.region (Tr.move J J J (Tr.move J J J (Tr.mul_u64 J J J J (Tr.assign J J J (Tr.nil (at_n (Sat.ret (en_r ?_))))))))))))))))))))))))))))))))))))))))))))))))))))))))))))))))))))))))))))))))))))))))))))))))))))
 refine ⟨_, [], res_tmp2 J J J, sP, sP, ?_, rfl⟩
 rfl

theorem scalar_load_n (a : List UInt8) (ha : a.length = 32) : Meets Tryz.prog 162 [agg (bytesV a)] [] (fun _ => True) (fun v out => v = agg (wordsV (words4 (le a))) ∧ out = []) := by
  rw [← ldW_eq ha]; exact scalar_load a ha
theorem scalar_store_n (n : Nat) : Meets Tryz.prog 218 [agg (wordsV (words4 n))] [] (fun _ => True) (fun v out => v = agg (bytesV (leb 32 n)) ∧ out = []) := by
  rw [← stB_eq n]; exact scalar_store (words4 n) rfl
theorem scalar_modulus_n : Meets Tryz.prog 167 [] [] (fun _ => True) (fun v out => v = agg (wordsV (words4 L)) ∧ out = []) := by
  rw [← modW_eq]; exact scalar_modulus
theorem scalar_doubled_n (n : Nat) (b : UInt64) (hb : b.toNat ≤ 1) : Meets Tryz.prog 216 [agg (wordsV (words4 n)), u64 b] [] (fun _ => True) (fun v out => v = agg (wordsV (words4 (2 * n + b.toNat))) ∧ out = []) := by
  rw [← dblW_eq n b hb]; exact scalar_doubled (words4 n) b rfl
theorem scalar_below_n (n m : Nat) (hn : n < 2 ^ 256) (hm : m < 2 ^ 256) : Meets Tryz.prog 166 [agg (wordsV (words4 n)), agg (wordsV (words4 m))] [] (fun _ => True) (fun v out => v = .bool (decide (n < m)) ∧ out = []) := by
  have := scalar_below (words4 n) (words4 m) rfl rfl
  rw [wv_words4, wv_words4, Nat.mod_eq_of_lt hn, Nat.mod_eq_of_lt hm] at this
  exact this
theorem scalar_minus_n (n m : Nat) (hn : n < 2 ^ 256) (hm : m ≤ n) : Meets Tryz.prog 217 [agg (wordsV (words4 n)), agg (wordsV (words4 m))] [] (fun _ => True) (fun v out => v = agg (wordsV (words4 (n - m))) ∧ out = []) := by
  have := scalar_minus (words4 n) (words4 m) rfl rfl
  rw [mnsW_eq rfl rfl, wv_words4, wv_words4, Nat.mod_eq_of_lt hn, Nat.mod_eq_of_lt (Nat.lt_of_le_of_lt hm hn)] at this
  have e : words4 (n + 2 ^ 256 - m) = words4 (n - m) := by rw [← words4_mod, show (n + 2 ^ 256 - m) % 2 ^ 256 = (n - m) % 2 ^ 256 by omega, words4_mod]
  rw [← e, ← words4_mod n, Nat.mod_eq_of_lt hn]
  exact this
theorem bit_le (x : UInt64) (n : Nat) : (shr64 x n &&& 1).toNat = x.toNat / 2 ^ n % 2 := by
  rw [UInt64.toNat_and, shr64_toNat]
  exact Nat.and_two_pow_sub_one_eq_mod _ 1
theorem words4_start (xs : List UInt64) : words4 (wv (List.take 0 xs) % L) = List.replicate 4 0 := by
  rw [List.take_zero]; decide
theorem res_bd (m : Nat) (x : UInt64) (n : Nat) (h : m < L) : 2 * m + (shr64 x n &&& 1).toNat < 2 ^ 256 := by
  have hL : L < 2 ^ 254 := by decide
  rw [bit_le]; omega

theorem scalar_residue (b o c n : Nat) (xs : List UInt64) (hx : xs.length = n) (hn : n ≤ 1000000) : Meets Tryz.prog 165 [.slice (some ⟨b, o, none⟩) n c] [] (fun W => Sees W b o (wordsV xs)) (fun v out => v = agg (bytesV (leb 32 (wv xs % L))) ∧ out = []) := by
 intro W hW
 have hL : L < 2 ^ 256 := by decide
 refine calls_of (hp0 := []) Tryz.func165 J 35 Tryz.ntmps165 J (HRep.nil _) (Sat.seq (Sat.region (Tr.alloc (cs := (bytesV (List.replicate 32 0))) J Zr77 J ?_)))
 intro n2 hn2 hf2
 refine Tr.nil (at_n (Sat.seq (Sat.region (Tr.alloc (cs := (wordsV (List.replicate 4 0))) J Zr157 J ?_))))
 intro n3 hn3 hf3
 refine Tr.nil (at_n (Sat.seq (Sat.region (Tr.callV J J J J Body167 (scalar_modulus_n) (fun _ _ => trivial) (Tr.alloc (cs := (wordsV (List.replicate 4 0))) J Zr157 J ?_)))))
 intro n4 hn4 hf4
 refine Tr.storeAll J J J J zB Sz157 (by (simp [words4_length]; done)) Z0 sP zU ?_
 refine Tr.nil (at_n (Sat.seq (Sat.seq (Sat.region (Tr.move J J J (Tr.lenSl J J J Y159 (Tr.move J J J (Tr.nil (at_n (Sat.block (Sat.loop (ι := Nat) (fun k => ⟨[(2, ptr n2 0), (3, ptr n3 0), (4, ptr n4 0), (9, .slice (some ⟨b, o, none⟩) n c), (10, i64 (n : Int)), (11, i64 (k : Int))], [⟨n4, wordsV (words4 L), 157, 4⟩, ⟨n3, wordsV (words4 (wv (xs.take k) % L)), 157, 4⟩, ⟨n2, bytesV (List.replicate 32 0), 77, 32⟩]⟩) (fun k => k ≤ n) (fun k => n - k) (0) ?_ ?_ ?_)))))))))))
 · omega
 · exact weak_of (wk1 rfl (wk1 rfl (wk1 rfl (wk1 rfl (wk1 rfl (wk1 rfl wk0)))))) (wh1 Z0 (wh1 (by rw [words4_start]; exact mem1) (wh1 Z2 wh0))) nD
 ·
  rintro k hi
  refine Sat.seq (Sat.region (Tr.lss J J J J J (Tr.nil (at_n (Sat.seq (Sat.condP J (fun hc0 => ?_) (fun hc0 => ?_)))))))
  ·
   refine Sat.skip (at_n (Sat.seq (Sat.block (Sat.seq (Sat.region (Tr.idxSlO J J J J Y159 Sz22 _ J oM (Tr.loadE J J J Y22 J sP (hW _ _ (get_words oM)) (Tr.assign J J J (Tr.nil (at_n (Sat.seq (Sat.region (Tr.assign J J J (Tr.nil (at_n (Sat.block (Sat.loop (ι := Nat) (fun t => ⟨[(2, ptr n2 0), (3, ptr n3 0), (4, ptr n4 0), (6, u64 (xs.getD k 0)), (7, i64 (63 - (t : Int))), (9, .slice (some ⟨b, o, none⟩) n c), (10, i64 (n : Int)), (11, i64 (k : Int))], [⟨n4, wordsV (words4 L), 157, 4⟩, ⟨n3, wordsV (words4 ((wv (xs.take k) * 2 ^ (t) + (xs.getD k 0).toNat / 2 ^ (64 - (t))) % L)), 157, 4⟩, ⟨n2, bytesV (List.replicate 32 0), 77, 32⟩]⟩) (fun t => t ≤ 64) (fun t => 64 - t) (0) ?_ ?_ ?_)))))))))))))))))
   · omega
   · exact weak_of (wk1 rfl (wk1 rfl (wk1 rfl (wk1 rfl (wk1 rfl (wk1 rfl (wk1 rfl (wk1 rfl wk0)))))))) (wh1 Z0 (wh1 (by rw [Nat.pow_zero, Nat.mul_one, Nat.div_eq_of_lt (UInt64.toNat_lt _), Nat.add_zero]; exact mem1) (wh1 Z2 wh0))) nD
   ·
    rintro t hi
    refine Sat.seq (Sat.seq (Sat.region (Tr.move J J J (Tr.geq J J J J J (Tr.nil (at_n (Sat.condP J (fun hc1 => ?_) (fun hc1 => ?_))))))))
    ·
     have ht : t < 64 := by omega
     have hmL : (wv (xs.take k) * 2 ^ t + (xs.getD k 0).toNat / 2 ^ (64 - t)) % L < L := Nat.mod_lt _ dE
     refine Sat.skip (at_n (Sat.join (ι := Unit) (fun _u => ⟨[(2, ptr n2 0), (3, ptr n3 0), (4, ptr n4 0), (6, u64 (xs.getD k 0)), (7, i64 (63 - (t : Int))), (9, .slice (some ⟨b, o, none⟩) n c), (10, i64 (n : Int)), (11, i64 (k : Int))], [⟨n4, wordsV (words4 L), 157, 4⟩, ⟨n3, wordsV (words4 ((wv (xs.take k) * 2 ^ (t + 1) + (xs.getD k 0).toNat / 2 ^ (64 - (t + 1))) % L)), 157, 4⟩, ⟨n2, bytesV (List.replicate 32 0), 77, 32⟩]⟩) (fun _u => True) ?_ ?_))
     ·
      refine Sat.block (Sat.seq (Sat.draw [(1, 0), (0, 1), (0, 2), (0, 3), (0, 4), (3, 5), (4, 6)] Mixed zK (Tr.loadAll J J J Y157 J Sz157 Z1 (by (simp [words4_length]; done)) ?_)))
      refine Tr.move J J J (Tr.move J J J (Tr.shr_u64 J J J J (63 - t) oM oM (Tr.and_u64 J J J (show evIn _ _ = some (u64 1) from rfl) (Tr.callV J J J J Body216 (scalar_doubled_n _ _ (by rw [bit_le]; omega)) (fun _ _ => trivial) ?_))))
      refine Tr.storeAll J J J J zB Sz157 (by (simp [words4_length]; done)) Z1 (by (simp [words4_length]; done)) zV ?_
      refine Tr.nil (at_n (Sat.seq (Sat.region (Tr.loadAll J J J Y157 J Sz157 Z1 (by (simp [words4_length]; done)) ?_))))
      refine Tr.loadAll J J J Y157 J Sz157 Z0 (by (simp [words4_length]; done)) ?_
      refine Tr.callV J J J J Body166 (scalar_below_n _ _ (res_bd _ _ _ hmL) hL) (fun _ _ => trivial) (Tr.not J J J (Tr.nil (at_n (Sat.condNP J (fun hc2 => ?_) (fun hc2 => ?_)))))
      ·
       refine Sat.region (Tr.loadAll J J J Y157 J Sz157 Z1 (by (simp [words4_length]; done)) ?_)
       refine Tr.loadAll J J J Y157 J Sz157 Z0 (by (simp [words4_length]; done)) ?_
       refine Tr.callV J J J J Body217 (scalar_minus_n _ _ (res_bd _ _ _ hmL) (Nat.le_of_not_lt hc2)) (fun _ _ => trivial) (Tr.storeAll J J J J zB Sz157 (by (simp [words4_length]; done)) Z1 (by (simp [words4_length]; done)) zV ?_)
       refine Tr.nil (bl_n (at_n ?_))
       have hst := res_step (wv (xs.take k)) (xs.getD k 0).toNat t (UInt64.toNat_lt _) ht
       simp only [] at hst
       refine ⟨(), trivial, weak_of (wk1 J (wk1 J (wk1 J (wk1 J (wk1 J (wk1 J (wk1 J (wk1 J wk0)))))))) (wh1 Z0 (wh1 (by rw [show 64 - (t + 1) = 63 - t by omega, ← hst, ← bit_le]; simp only [hc2, if_true, if_false]; exact mem1) (wh1 Z2 wh0))) nD⟩
      ·
       refine Sat.skip (bl_n (at_n ?_))
       have hst := res_step (wv (xs.take k)) (xs.getD k 0).toNat t (UInt64.toNat_lt _) ht
       simp only [] at hst
       refine ⟨(), trivial, weak_of (wk1 J (wk1 J (wk1 J (wk1 J (wk1 J (wk1 J (wk1 J (wk1 J wk0)))))))) (wh1 Z0 (wh1 (by rw [show 64 - (t + 1) = 63 - t by omega, ← hst, ← bit_le]; simp only [hc2, if_true, if_false]; exact mem1) (wh1 Z2 wh0))) nD⟩
     ·
      intro _u hj
      skip
      refine Sat.region (Tr.move J J J (Tr.sub_i64 J J J J oM (Tr.assign J J J (Tr.nil (at_n ?_)))))
      exact ⟨t + 1, by omega, by omega, weak_of (wk1 rfl (wk1 rfl (wk1 rfl (wk1 rfl (wk1 (by rw [show (63 - ((t + 1 : Nat) : Int)) = 63 - (t : Int) - 1 by omega]; rfl) (wk1 rfl (wk1 rfl (wk1 rfl wk0)))))))) (wh1 Z0 (wh1 Z1 (wh1 Z2 wh0))) nD⟩
    ·
     obtain rfl : t = 64 := by omega
     refine Sat.exit (at_x (at_x (bl_h (bl_n (at_n (Sat.region (Tr.add_i64 J J J J oM (Tr.move J J J (Tr.nil (at_n ?_))))))))))
     exact ⟨k + 1, by omega, by omega, weak_of (wk1 rfl (wk1 rfl (wk1 rfl (wk1 rfl (wk1 rfl (wk1 rfl wk0)))))) (wh1 Z0 (wh1 (by rw [wv_take_succ xs k oM, show (64 - 64 : Nat) = 0 from rfl, Nat.pow_zero, Nat.div_one]; exact mem1) (wh1 Z2 wh0))) nD⟩
  ·
   obtain rfl : k = n := by omega
   refine Sat.exit (at_x (at_x (bl_h (at_n (Sat.seq (Sat.region (Tr.loadAll J J J Y157 J Sz157 Z1 (by (simp [words4_length]; done)) ?_)))))))
   refine Tr.callV J J J J Body218 (scalar_store_n _) (fun _ _ => trivial) (Tr.storeAll J J J J zB Sz77 (by (simp [leb_length]; done)) Z2 sP (by exact upd2) ?_)
   refine Tr.nil (at_n (Sat.ret (en_r ?_)))
   refine ⟨_, [], res_cell J J Y77 J Sz77 Z2 (by simp [leb_length]), sP, sP, ?_, rfl⟩
   rw [List.take_of_length_le oM]

end Go.Proofs.YtpacobmjjjillaaGreat
end

section
namespace Go.Proofs.YtpacobmjjjillaaGreat
open Go Hw
set_option linter.unusedVariables false
set_option linter.unusedSimpArgs false

theorem scalar_muladd (a b c : List UInt8) (ha : a.length = 32) (hb : b.length = 32) (hc : c.length = 32) : Meets Tryz.prog 106 [agg (bytesV a), agg (bytesV b), agg (bytesV c)] [] (fun _ => True) (fun v out => v = agg (bytesV (leb 32 ((le a * le b + le c) % L))) ∧ out = []) := by
 intro W hW
 refine calls_of (hp0 := []) Tryz.func106 J 80 Tryz.ntmps106 J (HRep.nil _) (Sat.seq (Sat.region (Tr.boxA J J ?_)))
 intro n3 hn3 hf3
 refine Tr.boxA J J ?_
 intro n4 hn4 hf4
 refine Tr.boxA J J ?_
 intro n5 hn5 hf5
 refine Tr.alloc (cs := (bytesV (List.replicate 32 0))) J Zr77 J ?_
 intro n6 hn6 hf6
 refine Tr.nil (at_n (Sat.seq (Sat.draw [(1, 0), (1, 2), (1, 4), (3, 1), (3, 3), (3, 5), (2, 6), (2, 7), (2, 8), (4, 9), (4, 10), (4, 11)] Mixed zK (Tr.loadAll J J J Y77 J Sz77 Z3 (by (simp [ha]; done)) ?_))))
 refine Tr.loadAll J J J Y77 J Sz77 Z2 (by (simp [hb]; done)) ?_
 refine Tr.loadAll J J J Y77 J Sz77 Z1 (by (simp [hc]; done)) ?_
 refine Tr.callV J J J J Body162 (scalar_load_n _ (by simp [ha])) (fun _ _ => trivial) ?_
 refine Tr.callV J J J J Body162 (scalar_load_n _ (by simp [hb])) (fun _ _ => trivial) ?_
 refine Tr.callV J J J J Body162 (scalar_load_n _ (by simp [hc])) (fun _ _ => trivial) ?_
 refine Tr.alloc (cs := (wordsV (List.replicate 4 0))) J Zr157 J ?_
 intro n7 hn7 hf7
 refine Tr.alloc (cs := (wordsV (List.replicate 4 0))) J Zr157 J ?_
 intro n8 hn8 hf8
 refine Tr.alloc (cs := (wordsV (List.replicate 4 0))) J Zr157 J ?_
 intro n9 hn9 hf9
 refine Tr.storeAll J J J J zB Sz157 (by (simp [words4_length]; done)) Z2 sP (by exact upd2) ?_
 refine Tr.storeAll J J J J zB Sz157 (by (simp [words4_length]; done)) Z1 sP zV ?_
 refine Tr.storeAll J J J J zB Sz157 (by (simp [words4_length]; done)) Z0 sP zU ?_
 refine Tr.nil (at_n (Sat.seq (Sat.region (Tr.alloc (cs := (wordsV (List.replicate 8 0))) J Zr135 J ?_))))
 intro n10 hn10 hf10
 refine Tr.nil (at_n (Sat.seq (Sat.draw [(0, 0), (0, 1), (4, 2)] Mixed zK (Tr.sliceArrLo 4 J J J J J dE Y135 Sz22 (Tr.sliceArr J J J Y157 Sz22 (Tr.copy1 (vs := wordsV (words4 (le c))) (cs' := wordsV ([0, 0, 0, 0] ++ words4 (le c))) J J J J J Y159 Sz22 Z1 (by exact rfl) (by simp [words4_length]) zB Z0 (by simp [words4_length]) (by exact rfl) zU ?_))))))
 refine Tr.nil (at_n (Sat.seq (Sat.seq (Sat.region (Tr.assign J J J (Tr.nil (at_n (Sat.block (Sat.loop (ι := Nat) (fun p => ⟨[(6, ptr n6 0), (7, ptr n7 0), (8, ptr n8 0), (10, ptr n10 0), (11, i64 (3 - (p : Int)))], [⟨n10, wordsV (outM (words4 (le a)) (words4 (le b)) ([0, 0, 0, 0] ++ words4 (le c)) (p)), 135, 8⟩, ⟨n8, wordsV (words4 (le b)), 157, 4⟩, ⟨n7, wordsV (words4 (le a)), 157, 4⟩, ⟨n6, bytesV (List.replicate 32 0), 77, 32⟩]⟩) (fun p => p ≤ 4) (fun p => 4 - p) (0) ?_ ?_ ?_)))))))))
 · omega
 · exact weak_of (wk1 rfl (wk1 rfl (wk1 rfl (wk1 rfl (wk1 rfl wk0))))) (wh1 Z0 (wh1 Z2 (wh1 Z3 (wh1 Z4 wh0)))) nD
 ·
  rintro p hp4
  have hol := outM_length (words4 (le a)) (words4 (le b)) ([0, 0, 0, 0] ++ words4 (le c)) p
  refine Sat.seq (Sat.seq (Sat.region (Tr.move J J J (Tr.geq J J J J J (Tr.nil (at_n (Sat.condP J (fun hc0 => ?_) (fun hc0 => ?_))))))))
  ·
   have hp : p < 4 := by omega
   refine Sat.skip (at_n (Sat.seq (Sat.block (Sat.seq (Sat.region (Tr.assign J J (show evIn _ _ = some (u64 0) from rfl) (Tr.nil (at_n (Sat.seq (Sat.seq (Sat.region (Tr.assign J J J (Tr.nil (at_n (Sat.block (Sat.loop (ι := Nat) (fun q => ⟨[(6, ptr n6 0), (7, ptr n7 0), (8, ptr n8 0), (10, ptr n10 0), (11, i64 (3 - (p : Int))), (12, u64 (innM ((words4 (le a)).getD (3 - p) 0) (words4 (le b)) (3 - p) (outM (words4 (le a)) (words4 (le b)) ([0, 0, 0, 0] ++ words4 (le c)) (p)) (q)).2), (13, i64 (3 - (q : Int)))], [⟨n10, wordsV (innM ((words4 (le a)).getD (3 - p) 0) (words4 (le b)) (3 - p) (outM (words4 (le a)) (words4 (le b)) ([0, 0, 0, 0] ++ words4 (le c)) (p)) (q)).1, 135, 8⟩, ⟨n8, wordsV (words4 (le b)), 157, 4⟩, ⟨n7, wordsV (words4 (le a)), 157, 4⟩, ⟨n6, bytesV (List.replicate 32 0), 77, 32⟩]⟩) (fun q => q ≤ 4) (fun q => 4 - q) (0) ?_ ?_ ?_))))))))))))))))
   · omega
   · exact weak_of (wk1 rfl (wk1 rfl (wk1 rfl (wk1 rfl (wk1 rfl (wk1 rfl (wk1 rfl wk0))))))) (wh1 Z0 (wh1 Z1 (wh1 Z2 (wh1 Z3 wh0)))) nD
   ·
    rintro q hq4
    have hil := innM_length ((words4 (le a)).getD (3 - p) 0) (words4 (le b)) (3 - p) (outM (words4 (le a)) (words4 (le b)) ([0, 0, 0, 0] ++ words4 (le c)) (p)) q
    refine Sat.seq (Sat.seq (Sat.region (Tr.move J J J (Tr.geq J J J J J (Tr.nil (at_n (Sat.condP J (fun hc1 => ?_) (fun hc1 => ?_))))))))
    ·
     have hq : q < 4 := by omega
     refine Sat.skip (at_n (Sat.seq (Sat.block (Sat.seq (Sat.draw [(0, 0), (0, 1), (1, 2), (0, 3), (0, 4), (1, 5), (3, 6), (0, 7), (0, 8), (0, 9), (0, 10), (0, 11)] Mixed zK (Tr.move J J J (Tr.idxArr1 J J J J Y157 Sz22 (3 - p) oM oM (Tr.load1 J J J Y22 J Z2 (by exact get_words (by (simp [words4_length]; omega))) ?_))))))))
     refine Tr.move J J J (Tr.idxArr1 J J J J Y157 Sz22 (3 - q) oM oM (Tr.load1 J J J Y22 J Z1 (by exact get_words (by (simp [words4_length]; omega))) ?_))
     refine Tr.callV J J J J Body163 (mul64_ok _ _) (fun _ _ => trivial) (Tr.move J J J (Tr.extract J J J J (Tr.extract J J J J (Tr.assign J J J (Tr.assign J J J (Tr.nil (at_n (Sat.seq (Sat.region (Tr.move J J J (Tr.move J J J (Tr.move J J J (Tr.add_i64 J J J J oM (Tr.add_i64 J J J J oM (Tr.idxArr1 J J J J Y135 Sz22 (3 - p + (3 - q) + 1) oM oM (Tr.load1 J J J Y22 J Z0 (by exact get_words (by (simp [words4_length, innM_length, outM_length]; omega))) ?_))))))))))))))))
     refine Tr.ext J J J J (add64_run _ _ 0 dE) (Tr.move J J J (Tr.extract J J J J (Tr.extract J J J J (Tr.assign J J J (Tr.assign J J J (Tr.nil (at_n (Sat.seq (Sat.region (Tr.move J J J (Tr.move J J J (Tr.add_u64 J J J J (Tr.assign J J J (Tr.nil (at_n (Sat.seq (Sat.region (Tr.move J J J (Tr.move J J J (Tr.add_i64 J J J J oM (Tr.add_i64 J J J J oM (Tr.move J J J (Tr.move J J J (Tr.ext J J J J (add64_run _ _ 0 dE) (Tr.move J J J (Tr.extract J J J J (Tr.extract J J J J (Tr.idxArr1 J J J J Y135 Sz22 (3 - p + (3 - q) + 1) oM oM (Tr.store1 J J J J J Sz22 Z0 (by (simp [words4_length, innM_length, outM_length]; omega)) (by exact set_words _ _ _) zU ?_)))))))))))))))))))))))))))))
     refine Tr.assign J J J (Tr.nil (at_n (Sat.region (Tr.move J J J (Tr.move J J J (Tr.add_u64 J J J J (Tr.assign J J J (Tr.nil (bl_n (at_n (Sat.region (Tr.move J J J (Tr.sub_i64 J J J J oM (Tr.assign J J J (Tr.nil (at_n ?_))))))))))))))))
     exact ⟨q + 1, by omega, by omega, weak_of (wk1 rfl (wk1 rfl (wk1 rfl (wk1 rfl (wk1 rfl (wk1 (by rw [innM_snd]; rfl) (wk1 (by rw [show (3 - ((q + 1 : Nat) : Int)) = 3 - (q : Int) - 1 by omega]; rfl) wk0))))))) (wh1 (by rw [innM_fst]; exact mem0) (wh1 Z1 (wh1 Z2 (wh1 Z3 wh0)))) nD⟩
    ·
     obtain rfl : q = 4 := by omega
     refine Sat.exit (at_x (at_x (bl_h (at_n (Sat.region (Tr.move J J J (Tr.idxArr1 J J J J Y135 Sz22 (3 - p) oM oM (Tr.load1 J J J Y22 J Z0 (by exact get_words (by (simp [words4_length, innM_length, outM_length]; omega))) ?_))))))))
     refine Tr.move J J J (Tr.add_u64 J J J J (Tr.idxArr1 J J J J Y135 Sz22 (3 - p) oM oM (Tr.store1 J J J J J Sz22 Z0 (by (simp [words4_length, innM_length, outM_length]; omega)) (by exact set_words _ _ _) zU ?_)))
     refine Tr.nil (bl_n (at_n (Sat.region (Tr.move J J J (Tr.sub_i64 J J J J oM (Tr.assign J J J (Tr.nil (at_n ?_))))))))
     exact ⟨p + 1, by omega, by omega, weak_of (wk1 rfl (wk1 rfl (wk1 rfl (wk1 rfl (wk1 (by rw [show (3 - ((p + 1 : Nat) : Int)) = 3 - (p : Int) - 1 by omega]; rfl) wk0))))) (wh1 Z0 (wh1 Z1 (wh1 Z2 (wh1 Z3 wh0)))) nD⟩
  ·
   obtain rfl : p = 4 := by omega
   refine Sat.exit (at_x (at_x (bl_h (at_n (Sat.seq (Sat.region (Tr.sliceArr J J J Y135 Sz22 (Tr.callV J J J J Body165 (scalar_residue _ _ _ 8 (outM (words4 (le a)) (words4 (le b)) ([0, 0, 0, 0] ++ words4 (le c)) (4)) (by simp [words4_length, outM_length]) oM) (fun W h => sees_own h Z0) ?_))))))))
   refine Tr.storeAll J J J J zB Sz77 (by (simp [leb_length]; done)) Z3 sP (by exact upd3) ?_
   refine Tr.nil (at_n (Sat.ret (en_r ?_)))
   refine ⟨_, [], res_cell J J Y77 J Sz77 Z3 (by simp [leb_length]), sP, sP, ?_, rfl⟩
   rw [maW_val rfl rfl rfl, wv_words4, wv_words4, wv_words4, Nat.mod_eq_of_lt (le32 ha), Nat.mod_eq_of_lt (le32 hb), Nat.mod_eq_of_lt (le32 hc)]

end Go.Proofs.YtpacobmjjjillaaGreat
end

section
namespace Go.Proofs.YtpacobmjjjillaaGreat
open Go Hw
set_option linter.unusedVariables false
set_option linter.unusedSimpArgs false

open Ed

theorem field_put (q o n c m : Nat) (l : List UInt8) (x : UInt64) (BT : TypeId) (hn : 8 ≤ n) (hl : o + 8 ≤ l.length) : Meets Tryz.prog 224 [.slice (some ⟨q, o, none⟩) n c, u64 x] [q] (fun W => BlkOk W ⟨q, bytesV l, BT, m⟩) (fun v out => out = [⟨q, bytesV (set8 l o x), BT, m⟩]) := by
 intro W hW
 refine calls_of (hp0 := [⟨q, bytesV l, BT, m⟩]) Tryz.func224 J 46 Tryz.ntmps224 J (HRep.one hW) (Sat.seq (Sat.region (Tr.move J J J (Tr.idxSlO J J J J Y39 Sz5 7 J oM (Tr.load1 J J J Y5 J Z0 (get_bytes oM) ?_)))))
 refine Tr.nil (at_n (Sat.seq (Sat.region (Tr.move J J J (Tr.move J J J (Tr.move J J J (Tr.move J J J (Tr.move J J J (Tr.conv J J J Y22 Y5 (cv_u64_u8 _) (Tr.move J J J (Tr.shr_u64 J J J J 8 J dE (Tr.conv J J J Y22 Y5 (cv_u64_u8 _) (Tr.move J J J (Tr.shr_u64 J J J J 16 J dE (Tr.conv J J J Y22 Y5 (cv_u64_u8 _) (Tr.move J J J (Tr.shr_u64 J J J J 24 J dE (Tr.conv J J J Y22 Y5 (cv_u64_u8 _) (Tr.idxSlO J J J J Y39 Sz5 0 J oM (Tr.store1 J J J J J Sz5 Z0 (by simp; omega) (set_bytes _ _ _) zU ?_))))))))))))))))))))
 refine Tr.idxSlO J J J J Y39 Sz5 1 J oM (Tr.store1 J J J J J Sz5 Z0 (by simp; omega) (set_bytes _ _ _) zU ?_)
 refine Tr.idxSlO J J J J Y39 Sz5 2 J oM (Tr.store1 J J J J J Sz5 Z0 (by simp; omega) (set_bytes _ _ _) zU ?_)
 refine Tr.idxSlO J J J J Y39 Sz5 3 J oM (Tr.store1 J J J J J Sz5 Z0 (by simp; omega) (set_bytes _ _ _) zU ?_)
 refine Tr.nil (at_n (Sat.region (Tr.move J J J (Tr.move J J J (Tr.move J J J (Tr.move J J J (Tr.move J J J (Tr.shr_u64 J J J J 32 J dE (Tr.conv J J J Y22 Y5 (cv_u64_u8 _) (Tr.move J J J (Tr.shr_u64 J J J J 40 J dE (Tr.conv J J J Y22 Y5 (cv_u64_u8 _) (Tr.move J J J (Tr.shr_u64 J J J J 48 J dE (Tr.conv J J J Y22 Y5 (cv_u64_u8 _) (Tr.move J J J (Tr.shr_u64 J J J J 56 J dE (Tr.conv J J J Y22 Y5 (cv_u64_u8 _) (Tr.idxSlO J J J J Y39 Sz5 4 J oM (Tr.store1 J J J J J Sz5 Z0 (by simp; omega) (set_bytes _ _ _) zU ?_))))))))))))))))))))
 refine Tr.idxSlO J J J J Y39 Sz5 5 J oM (Tr.store1 J J J J J Sz5 Z0 (by simp; omega) (set_bytes _ _ _) zU ?_)
 refine Tr.idxSlO J J J J Y39 Sz5 6 J oM (Tr.store1 J J J J J Sz5 Z0 (by simp; omega) (set_bytes _ _ _) zU ?_)
 refine Tr.idxSlO J J J J Y39 Sz5 7 J oM (Tr.store1 J J J J J Sz5 Z0 (by simp; omega) (set_bytes _ _ _) zU ?_)
 refine Tr.nil (en_n ?_)
 exact ⟨_, _, res_none rfl, (fun b hb => by rw [List.mem_singleton.1 hb]; exact mem0), nodup1, rfl⟩

theorem field_quarters (a : List UInt8) (ha : a.length = 32) : Meets Tryz.prog 242 [agg (bytesV a)] [] (fun _ => True) (fun v out => v = agg (wordsV [qw a 0, qw a 1, qw a 2, qw a 3]) ∧ out = []) := by
 intro W hW
 refine calls_of (hp0 := []) Tryz.func242 J 65 Tryz.ntmps242 J (HRep.nil _) (Sat.seq (Sat.region (Tr.boxA J J ?_)))
 intro n1 hn1 hf1
 refine Tr.alloc (cs := (wordsV (List.replicate 4 0))) J Zr156 J ?_
 intro n2 hn2 hf2
 refine Tr.nil (at_n (Sat.seq (Sat.region (Tr.alloc (cs := (wordsV (List.replicate 4 0))) J Zr156 J ?_))))
 intro n3 hn3 hf3
 refine Tr.nil (at_n (Sat.seq (Sat.seq (Sat.region (Tr.move J J J (Tr.nil (at_n (Sat.block (Sat.loop (ι := Nat) (fun k => ⟨[(1, ptr n1 0), (2, ptr n2 0), (3, ptr n3 0), (6, i64 (k : Int))], [⟨n3, wordsV (qtA a k), 156, 4⟩, ⟨n2, wordsV (List.replicate 4 0), 156, 4⟩, ⟨n1, bytesV a, 77, (bytesV a).length⟩]⟩) (fun k => k ≤ 4) (fun k => 4 - k) (0) ?_ ?_ ?_)))))))))
 · omega
 · exact weak_of (wk1 rfl (wk1 rfl (wk1 rfl (wk1 rfl wk0)))) (wh1 Z0 (wh1 Z1 (wh1 Z2 wh0))) nD
 ·
  rintro k hi
  have hlk := qtA_length a k
  refine Sat.seq (Sat.region (Tr.lss J J J J J (Tr.nil (at_n (Sat.seq (Sat.condP J (fun hc0 => ?_) (fun hc0 => ?_)))))))
  ·
   refine Sat.skip (at_n (Sat.seq (Sat.block (Sat.seq (Sat.region (Tr.move J J J (Tr.assign J J J (Tr.nil (at_n (Sat.seq (Sat.region (Tr.move J J J (Tr.mul_i64 J J J J oM (Tr.move J J J (Tr.mul_i64 J J J J oM (Tr.add_i64 J J J J oM (Tr.sliceArrLH (8 * k) (8 * k + 8) J J J J J oM oM oM oM oM Y77 Sz5 (Tr.assign J J J (Tr.nil (at_n (Sat.draw [(0, 0), (0, 1), (0, 2), (1, 3), (0, 4), (0, 5), (0, 6), (1, 7), (0, 8), (0, 9), (0, 10), (0, 11), (0, 12), (1, 13), (0, 14), (0, 15), (0, 16), (0, 17), (0, 18), (1, 19), (0, 20), (0, 21), (0, 22), (0, 23), (0, 24), (1, 25), (0, 26), (0, 27), (0, 28), (0, 29), (0, 30), (1, 31), (0, 32), (0, 33), (0, 34), (0, 35), (0, 36), (1, 37), (0, 38), (0, 39), (0, 40), (0, 41), (0, 42), (1, 43), (0, 44), (0, 45), (0, 46), (0, 47), (4, 48)] Mixed zK (Tr.move J J J (Tr.move J J J (Tr.idxSlO J J J J Y39 Sz5 0 J oM (Tr.load1 J J J Y5 J Z2 zG ?_)))))))))))))))))))))))))
   refine Tr.conv J J J Y5 Y22 (cv_u8_u64 _) (Tr.move J J J (Tr.idxSlO J J J J Y39 Sz5 1 J oM (Tr.load1 J J J Y5 J Z2 zG ?_)))
   refine Tr.conv J J J Y5 Y22 (cv_u8_u64 _) (Tr.shl_u64 J J J J 8 J dE (Tr.or_u64 J J J J (Tr.move J J J (Tr.idxSlO J J J J Y39 Sz5 2 J oM (Tr.load1 J J J Y5 J Z2 zG ?_)))))
   refine Tr.conv J J J Y5 Y22 (cv_u8_u64 _) (Tr.shl_u64 J J J J 16 J dE (Tr.or_u64 J J J J (Tr.move J J J (Tr.idxSlO J J J J Y39 Sz5 3 J oM (Tr.load1 J J J Y5 J Z2 zG ?_)))))
   refine Tr.conv J J J Y5 Y22 (cv_u8_u64 _) (Tr.shl_u64 J J J J 24 J dE (Tr.or_u64 J J J J (Tr.move J J J (Tr.idxSlO J J J J Y39 Sz5 4 J oM (Tr.load1 J J J Y5 J Z2 zG ?_)))))
   refine Tr.conv J J J Y5 Y22 (cv_u8_u64 _) (Tr.shl_u64 J J J J 32 J dE (Tr.or_u64 J J J J (Tr.move J J J (Tr.idxSlO J J J J Y39 Sz5 5 J oM (Tr.load1 J J J Y5 J Z2 zG ?_)))))
   refine Tr.conv J J J Y5 Y22 (cv_u8_u64 _) (Tr.shl_u64 J J J J 40 J dE (Tr.or_u64 J J J J (Tr.move J J J (Tr.idxSlO J J J J Y39 Sz5 6 J oM (Tr.load1 J J J Y5 J Z2 zG ?_)))))
   refine Tr.conv J J J Y5 Y22 (cv_u8_u64 _) (Tr.shl_u64 J J J J 48 J dE (Tr.or_u64 J J J J (Tr.move J J J (Tr.idxSlO J J J J Y39 Sz5 7 J oM (Tr.load1 J J J Y5 J Z2 zG ?_)))))
   refine Tr.conv J J J Y5 Y22 (cv_u8_u64 _) (Tr.shl_u64 J J J J 56 J dE (Tr.or_u64 J J J J (Tr.idxArr1 J J J J Y156 Sz22 _ J oM (Tr.store1 J J J J J Sz22 Z0 (by (simp [qtA_length]; omega)) (by exact set_words _ _ _) zU ?_))))
   refine Tr.nil (bl_n (at_n (Sat.region (Tr.add_i64 J J J J oM (Tr.move J J J (Tr.nil (at_n ?_)))))))
   exact ⟨k + 1, by omega, by omega, weak_of (wk1 rfl (wk1 rfl (wk1 rfl (wk1 rfl wk0)))) (wh1 Z0 (wh1 Z1 (wh1 Z2 wh0))) nD⟩
  ·
   obtain rfl : k = 4 := by omega
   refine Sat.exit (at_x (at_x (bl_h (at_n (Sat.seq (Sat.region (Tr.loadAll J J J Y156 J Sz156 Z0 (by (simp [qtA_length]; done)) ?_)))))))
   refine Tr.storeAll J J J J zB Sz156 (by (simp [qtA_length]; done)) Z1 sP zV ?_
   refine Tr.nil (at_n (Sat.ret (en_r ?_)))
   refine ⟨_, [], res_cell J J Y156 J Sz156 Z1 (by simp [qtA_length]), sP, sP, ?_, rfl⟩
   rfl

theorem field_load (a : List UInt8) (ha : a.length = 32) : Meets Tryz.prog 221 [agg (bytesV a)] [] (fun _ => True) (fun v out => v = agg (wordsV (ldN a).l) ∧ out = []) := by
 intro W hW
 refine calls_of (hp0 := []) Tryz.func221 J 37 Tryz.ntmps221 J (HRep.nil _) (Sat.seq (Sat.region (Tr.boxA J J ?_)))
 intro n1 hn1 hf1
 refine Tr.alloc (cs := (wordsV (List.replicate 5 0))) J Zr197 J ?_
 intro n2 hn2 hf2
 refine Tr.nil (at_n (Sat.seq (Sat.region (Tr.loadAll J J J Y77 J Sz77 Z1 (by (simp [ha]; done)) ?_))))
 refine Tr.callV J J J J Body242 (field_quarters a ha) (fun _ _ => trivial) (Tr.alloc (cs := (wordsV (List.replicate 4 0))) J Zr156 J ?_)
 intro n3 hn3 hf3
 refine Tr.storeAll J J J J zB Sz156 sP Z0 sP zU ?_
 refine Tr.nil (at_n (Sat.seq (Sat.region (Tr.idxArr1 J J J J Y156 Sz22 0 J dE (Tr.load1 J J J Y22 J Z0 (by rfl) ?_)))))
 refine Tr.and_u64 J J J (show evIn _ _ = some (u64 2251799813685247) from rfl) (Tr.idxArr1 J J J J Y156 Sz22 0 J dE (Tr.load1 J J J Y22 J Z0 (by rfl) ?_))
 refine Tr.shr_u64 J J J J 51 J dE (Tr.idxArr1 J J J J Y156 Sz22 1 J dE (Tr.load1 J J J Y22 J Z0 (by rfl) ?_))
 refine Tr.shl_u64 J J J J 13 J dE (Tr.or_u64 J J J J (Tr.and_u64 J J J (show evIn _ _ = some (u64 2251799813685247) from rfl) (Tr.idxArr1 J J J J Y156 Sz22 1 J dE (Tr.load1 J J J Y22 J Z0 (by rfl) ?_))))
 refine Tr.shr_u64 J J J J 38 J dE (Tr.idxArr1 J J J J Y156 Sz22 2 J dE (Tr.load1 J J J Y22 J Z0 (by rfl) ?_))
 refine Tr.shl_u64 J J J J 26 J dE (Tr.or_u64 J J J J (Tr.and_u64 J J J (show evIn _ _ = some (u64 2251799813685247) from rfl) (Tr.idxArr1 J J J J Y156 Sz22 2 J dE (Tr.load1 J J J Y22 J Z0 (by rfl) ?_))))
 refine Tr.shr_u64 J J J J 25 J dE (Tr.idxArr1 J J J J Y156 Sz22 3 J dE (Tr.load1 J J J Y22 J Z0 (by rfl) ?_))
 refine Tr.shl_u64 J J J J 39 J dE (Tr.or_u64 J J J J (Tr.and_u64 J J J (show evIn _ _ = some (u64 2251799813685247) from rfl) (Tr.idxArr1 J J J J Y156 Sz22 3 J dE (Tr.load1 J J J Y22 J Z0 (by rfl) ?_))))
 refine Tr.shr_u64 J J J J 12 J dE (Tr.build (cs := wordsV (ldN a).l) J J J (fun w => by kernel_rfl) ?_)
 refine Tr.storeAll J J J J zB Sz197 zW Z1 sP zV ?_
 refine Tr.nil (at_n (Sat.ret (en_r ?_)))
 refine ⟨_, [], res_cell J J Y197 J Sz197 Z1 (by simp [W5.l_length]), sP, sP, ?_, rfl⟩
 rfl

theorem field_carried (w : W5) : Meets Tryz.prog 245 [agg (wordsV w.l)] [] (fun _ => True) (fun v out => v = agg (wordsV (carF w).l) ∧ out = []) := by
 intro W hW
 refine calls_of (hp0 := []) Tryz.func245 J 40 Tryz.ntmps245 J (HRep.nil _) (Sat.seq (Sat.region (Tr.boxA J J ?_)))
 intro n1 hn1 hf1
 refine Tr.alloc (cs := (wordsV (List.replicate 5 0))) J Zr197 J ?_
 intro n2 hn2 hf2
 refine Tr.nil (at_n (Sat.seq (Sat.region (Tr.idxArr1 J J J J Y197 Sz22 0 J dE (Tr.load1 J J J Y22 J Z1 (by rfl) ?_)))))
 refine Tr.and_u64 J J J (show evIn _ _ = some (u64 2251799813685247) from rfl) (Tr.idxArr1 J J J J Y197 Sz22 4 J dE (Tr.load1 J J J Y22 J Z1 (by rfl) ?_))
 refine Tr.shr_u64 J J J J 51 J dE (Tr.mul_u64 J J (show evIn _ _ = some (u64 19) from rfl) J (Tr.add_u64 J J J J (Tr.idxArr1 J J J J Y197 Sz22 1 J dE (Tr.load1 J J J Y22 J Z1 (by rfl) ?_))))
 refine Tr.and_u64 J J J (show evIn _ _ = some (u64 2251799813685247) from rfl) (Tr.idxArr1 J J J J Y197 Sz22 0 J dE (Tr.load1 J J J Y22 J Z1 (by rfl) ?_))
 refine Tr.shr_u64 J J J J 51 J dE (Tr.add_u64 J J J J (Tr.idxArr1 J J J J Y197 Sz22 2 J dE (Tr.load1 J J J Y22 J Z1 (by rfl) ?_)))
 refine Tr.and_u64 J J J (show evIn _ _ = some (u64 2251799813685247) from rfl) (Tr.idxArr1 J J J J Y197 Sz22 1 J dE (Tr.load1 J J J Y22 J Z1 (by rfl) ?_))
 refine Tr.shr_u64 J J J J 51 J dE (Tr.add_u64 J J J J (Tr.idxArr1 J J J J Y197 Sz22 3 J dE (Tr.load1 J J J Y22 J Z1 (by rfl) ?_)))
 refine Tr.and_u64 J J J (show evIn _ _ = some (u64 2251799813685247) from rfl) (Tr.idxArr1 J J J J Y197 Sz22 2 J dE (Tr.load1 J J J Y22 J Z1 (by rfl) ?_))
 refine Tr.shr_u64 J J J J 51 J dE (Tr.add_u64 J J J J (Tr.idxArr1 J J J J Y197 Sz22 4 J dE (Tr.load1 J J J Y22 J Z1 (by rfl) ?_)))
 refine Tr.and_u64 J J J (show evIn _ _ = some (u64 2251799813685247) from rfl) (Tr.idxArr1 J J J J Y197 Sz22 3 J dE (Tr.load1 J J J Y22 J Z1 (by rfl) ?_))
 refine Tr.shr_u64 J J J J 51 J dE (Tr.add_u64 J J J J (Tr.build (cs := wordsV (carF w).l) J J J (fun w => by kernel_rfl) ?_))
 refine Tr.storeAll J J J J zB Sz197 zW Z0 sP zU ?_
 refine Tr.nil (at_n (Sat.ret (en_r ?_)))
 refine ⟨_, [], res_cell J J Y197 J Sz197 Z0 (by simp [W5.l_length]), sP, sP, ?_, rfl⟩
 rfl

theorem wide_plus (s : UInt64 × UInt64) (a b : UInt64) : Meets Tryz.prog 243 [agg [u64 s.1, u64 s.2], u64 a, u64 b] [] (fun _ => True) (fun v out => v = agg [u64 (plF s a b).1, u64 (plF s a b).2] ∧ out = []) := by
 intro W hW
 refine calls_of (hp0 := []) Tryz.func243 J 34 Tryz.ntmps243 J (HRep.nil _) (Sat.seq (Sat.region (Tr.boxA J J ?_)))
 intro n3 hn3 hf3
 refine Tr.alloc (cs := ([u64 0] ++ [u64 0])) J Zr216 J ?_
 intro n6 hn6 hf6
 refine Tr.nil (at_n (Sat.seq (Sat.region (Tr.move J J J (Tr.move J J J (Tr.callV J J J J Body163 (mul64_ok _ _) (fun _ _ => trivial) (Tr.move J J J (Tr.extract J J J J (Tr.extract J J J J (Tr.assign J J J (Tr.assign J J J (Tr.nil (at_n (Sat.seq (Sat.region (Tr.fld J J J Tryz.underlying216 J Sz22 dE _ J (Tr.load1 J J J Y22 J Z1 (by rfl) ?_)))))))))))))))))
 refine Tr.move J J J (Tr.ext J J J J (add64_run _ _ 0 dE) (Tr.move J J J (Tr.extract J J J J (Tr.extract J J J J (Tr.assign J J J (Tr.assign J J J (Tr.nil (at_n (Sat.seq (Sat.region (Tr.fld J J J Tryz.underlying216 J Sz22 dE _ J (Tr.load1 J J J Y22 J Z1 (by rfl) ?_))))))))))))
 refine Tr.move J J J (Tr.move J J J (Tr.ext J J J J (add64_run _ _ _ (by rw [w64_toNat]; have := s.2.toNat_lt; have := (a * b).toNat_lt; simp only [show (0 : UInt64).toNat = 0 from rfl]; omega)) ?_))
 refine Tr.move J J J (Tr.extract J J J J (Tr.extract J J J J (Tr.assign J J J (Tr.nil (at_n (Sat.seq (Sat.region (Tr.move J J J (Tr.move J J J (Tr.build (cs := [u64 (plF s a b).1, u64 (plF s a b).2]) J J J (fun w => by kernel_rfl) ?_))))))))))
 refine Tr.storeAll J J J J zB Sz216 sP Z0 sP zU ?_
 refine Tr.nil (at_n (Sat.ret (en_r ?_)))
 refine ⟨_, [], res_cell J J Tryz.underlying216 J Sz216 Z0 sP, sP, sP, ?_, rfl⟩
 rfl

theorem wide_upper (s : UInt64 × UInt64) : Meets Tryz.prog 244 [agg [u64 s.1, u64 s.2]] [] (fun _ => True) (fun v out => v = u64 (upF s) ∧ out = []) := by
 intro W hW
 refine calls_of (hp0 := []) Tryz.func244 J 10 Tryz.ntmps244 J (HRep.nil _) (Sat.seq (Sat.region (Tr.boxA J J ?_)))
 intro n1 hn1 hf1
 refine Tr.assign J J (show evIn _ _ = some (u64 0) from rfl) (Tr.nil (at_n (Sat.seq (Sat.region (Tr.fld J J J Tryz.underlying216 J Sz22 dE _ J (Tr.load1 J J J Y22 J Z0 (by rfl) ?_))))))
 refine Tr.shl_u64 J J J J 13 J dE (Tr.fld J J J Tryz.underlying216 J Sz22 dE _ J (Tr.load1 J J J Y22 J Z0 (by rfl) ?_))
 refine Tr.shr_u64 J J J J 51 J dE (Tr.or_u64 J J J J (Tr.assign J J J (Tr.nil (at_n (Sat.ret (en_r ?_))))))
 refine ⟨_, [], res_tmp J J, sP, sP, ?_, rfl⟩
 rfl

theorem field_product (na nb : Nat) (a b : W5) : Meets Tryz.prog 222 [ptr na 0, ptr nb 0] [] (fun W => Sees W na 0 (wordsV a.l) ∧ Sees W nb 0 (wordsV b.l)) (fun v out => v = agg (wordsV (mulF a b).l) ∧ out = []) := by
 intro W hW
 refine calls_of (hp0 := []) Tryz.func222 J 267 Tryz.ntmps222 J (HRep.nil _) (Sat.seq (Sat.region (Tr.alloc (cs := (wordsV (List.replicate 5 0))) J Zr197 J ?_)))
 intro n4 hn4 hf4
 refine Tr.nil (at_n (Sat.seq (Sat.draw [(0, 0), (0, 1), (0, 2), (1, 3), (0, 4), (0, 5), (0, 6), (0, 7), (1, 8), (0, 9), (0, 10), (0, 11), (0, 12), (1, 13), (0, 14), (0, 15), (0, 16), (0, 17), (1, 18), (0, 19), (0, 20), (0, 21), (0, 22), (0, 23)] Mixed zK (Tr.move J J J (Tr.nilChk J J J (Tr.idxArr1 J J J J Y197 Sz22 1 J dE (Tr.loadE J J J Y22 J sP (hW.1 1 _ J) (Tr.mul_u64 J J (show evIn _ _ = some (u64 19) from rfl) J (Tr.move J J J (Tr.nilChk J J J (Tr.idxArr1 J J J J Y197 Sz22 2 J dE (Tr.loadE J J J Y22 J sP (hW.1 2 _ J) (Tr.mul_u64 J J (show evIn _ _ = some (u64 19) from rfl) J (Tr.move J J J (Tr.nilChk J J J (Tr.idxArr1 J J J J Y197 Sz22 3 J dE (Tr.loadE J J J Y22 J sP (hW.1 3 _ J) (Tr.mul_u64 J J (show evIn _ _ = some (u64 19) from rfl) J (Tr.move J J J (Tr.nilChk J J J (Tr.idxArr1 J J J J Y197 Sz22 4 J dE (Tr.loadE J J J Y22 J sP (hW.1 4 _ J) (Tr.mul_u64 J J (show evIn _ _ = some (u64 19) from rfl) J (Tr.assign J J J (Tr.assign J J J (Tr.assign J J J (Tr.assign J J J (Tr.nil (at_n (Sat.seq (Sat.draw [(0, 0), (0, 1), (0, 2), (0, 3), (1, 4), (0, 5), (0, 6), (0, 7), (1, 8), (0, 10), (0, 11), (0, 12), (0, 13), (1, 14), (0, 16), (0, 17), (0, 18), (0, 19), (1, 20), (0, 22), (0, 23), (0, 24), (0, 25), (1, 26), (0, 28), (0, 29), (0, 30), (0, 31), (1, 32), (3, 9), (3, 15), (3, 21), (3, 27), (3, 33), (2, 34), (4, 35)] Mixed zK (Tr.build (cs := [u64 0, u64 0]) J J J (fun w => by kernel_rfl) ?_))))))))))))))))))))))))))))))))
 refine Tr.move J J J (Tr.nilChk J J J (Tr.idxArr1 J J J J Y197 Sz22 0 J dE (Tr.loadE J J J Y22 J sP (hW.1 0 _ J) (Tr.move J J J (Tr.nilChk J J J (Tr.idxArr1 J J J J Y197 Sz22 0 J dE (Tr.loadE J J J Y22 J sP (hW.2 0 _ J) (Tr.move J J J (Tr.move J J J (Tr.nilChk J J J (Tr.idxArr1 J J J J Y197 Sz22 4 J dE (Tr.loadE J J J Y22 J sP (hW.2 4 _ J) (Tr.move J J J (Tr.move J J J (Tr.nilChk J J J (Tr.idxArr1 J J J J Y197 Sz22 3 J dE (Tr.loadE J J J Y22 J sP (hW.2 3 _ J) (Tr.move J J J (Tr.move J J J (Tr.nilChk J J J (Tr.idxArr1 J J J J Y197 Sz22 2 J dE (Tr.loadE J J J Y22 J sP (hW.2 2 _ J) (Tr.move J J J (Tr.move J J J (Tr.nilChk J J J (Tr.idxArr1 J J J J Y197 Sz22 1 J dE (Tr.loadE J J J Y22 J sP (hW.2 1 _ J) (Tr.callV J J J J Body243 (wide_plus (0, 0) a.a b.a) (fun _ _ => trivial) (Tr.callV J J J J Body243 (wide_plus (plF (0, 0) a.a b.a) (19 * a.b) b.e) (fun _ _ => trivial) (Tr.callV J J J J Body243 (wide_plus (plF (plF (0, 0) a.a b.a) (19 * a.b) b.e) (19 * a.c) b.d) (fun _ _ => trivial) (Tr.callV J J J J Body243 (wide_plus (plF (plF (plF (0, 0) a.a b.a) (19 * a.b) b.e) (19 * a.c) b.d) (19 * a.d) b.c) (fun _ _ => trivial) (Tr.callV J J J J Body243 (wide_plus (plF (plF (plF (plF (0, 0) a.a b.a) (19 * a.b) b.e) (19 * a.c) b.d) (19 * a.d) b.c) (19 * a.e) b.b) (fun _ _ => trivial) (Tr.alloc (cs := ([u64 0] ++ [u64 0])) J Zr216 J ?_)))))))))))))))))))))))))))))))))
 intro n9 hn9 hf9
 refine Tr.storeAll J J J J zB Sz216 sP Z0 sP zU ?_
 refine Tr.nil (at_n (Sat.seq (Sat.draw [(0, 0), (0, 1), (0, 2), (0, 3), (1, 4), (0, 5), (0, 6), (0, 7), (1, 8), (0, 10), (0, 11), (0, 12), (1, 13), (0, 14), (0, 15), (0, 16), (1, 17), (0, 19), (0, 20), (0, 21), (0, 22), (1, 23), (0, 25), (0, 26), (0, 27), (0, 28), (1, 29), (0, 31), (0, 32), (0, 33), (0, 34), (1, 35), (3, 9), (3, 18), (3, 24), (3, 30), (3, 36), (2, 37), (4, 38)] Mixed zK (Tr.build (cs := [u64 0, u64 0]) J J J (fun w => by kernel_rfl) ?_))))
 refine Tr.move J J J (Tr.nilChk J J J (Tr.idxArr1 J J J J Y197 Sz22 0 J dE (Tr.loadE J J J Y22 J sP (hW.1 0 _ J) (Tr.move J J J (Tr.nilChk J J J (Tr.idxArr1 J J J J Y197 Sz22 1 J dE (Tr.loadE J J J Y22 J sP (hW.2 1 _ J) (Tr.move J J J (Tr.nilChk J J J (Tr.idxArr1 J J J J Y197 Sz22 1 J dE (Tr.loadE J J J Y22 J sP (hW.1 1 _ J) (Tr.move J J J (Tr.nilChk J J J (Tr.idxArr1 J J J J Y197 Sz22 0 J dE (Tr.loadE J J J Y22 J sP (hW.2 0 _ J) (Tr.move J J J (Tr.move J J J (Tr.nilChk J J J (Tr.idxArr1 J J J J Y197 Sz22 4 J dE (Tr.loadE J J J Y22 J sP (hW.2 4 _ J) (Tr.move J J J (Tr.move J J J (Tr.nilChk J J J (Tr.idxArr1 J J J J Y197 Sz22 3 J dE (Tr.loadE J J J Y22 J sP (hW.2 3 _ J) (Tr.move J J J (Tr.move J J J (Tr.nilChk J J J (Tr.idxArr1 J J J J Y197 Sz22 2 J dE (Tr.loadE J J J Y22 J sP (hW.2 2 _ J) (Tr.callV J J J J Body243 (wide_plus (0, 0) a.a b.b) (fun _ _ => trivial) (Tr.callV J J J J Body243 (wide_plus (plF (0, 0) a.a b.b) a.b b.a) (fun _ _ => trivial) (Tr.callV J J J J Body243 (wide_plus (plF (plF (0, 0) a.a b.b) a.b b.a) (19 * a.c) b.e) (fun _ _ => trivial) (Tr.callV J J J J Body243 (wide_plus (plF (plF (plF (0, 0) a.a b.b) a.b b.a) (19 * a.c) b.e) (19 * a.d) b.d) (fun _ _ => trivial) (Tr.callV J J J J Body243 (wide_plus (plF (plF (plF (plF (0, 0) a.a b.b) a.b b.a) (19 * a.c) b.e) (19 * a.d) b.d) (19 * a.e) b.c) (fun _ _ => trivial) (Tr.alloc (cs := ([u64 0] ++ [u64 0])) J Zr216 J ?_))))))))))))))))))))))))))))))))))))
 intro n10 hn10 hf10
 refine Tr.storeAll J J J J zB Sz216 sP Z0 sP zU ?_
 refine Tr.nil (at_n (Sat.seq (Sat.draw [(0, 0), (0, 1), (0, 2), (0, 3), (1, 4), (0, 5), (0, 6), (0, 7), (1, 8), (0, 10), (0, 11), (0, 12), (1, 13), (0, 14), (0, 15), (0, 16), (1, 17), (0, 19), (0, 20), (0, 21), (1, 22), (0, 23), (0, 24), (0, 25), (1, 26), (0, 28), (0, 29), (0, 30), (0, 31), (1, 32), (0, 34), (0, 35), (0, 36), (0, 37), (1, 38), (3, 9), (3, 18), (3, 27), (3, 33), (3, 39), (2, 40), (4, 41)] Mixed zK (Tr.build (cs := [u64 0, u64 0]) J J J (fun w => by kernel_rfl) ?_))))
 refine Tr.move J J J (Tr.nilChk J J J (Tr.idxArr1 J J J J Y197 Sz22 0 J dE (Tr.loadE J J J Y22 J sP (hW.1 0 _ J) (Tr.move J J J (Tr.nilChk J J J (Tr.idxArr1 J J J J Y197 Sz22 2 J dE (Tr.loadE J J J Y22 J sP (hW.2 2 _ J) (Tr.move J J J (Tr.nilChk J J J (Tr.idxArr1 J J J J Y197 Sz22 1 J dE (Tr.loadE J J J Y22 J sP (hW.1 1 _ J) (Tr.move J J J (Tr.nilChk J J J (Tr.idxArr1 J J J J Y197 Sz22 1 J dE (Tr.loadE J J J Y22 J sP (hW.2 1 _ J) (Tr.move J J J (Tr.nilChk J J J (Tr.idxArr1 J J J J Y197 Sz22 2 J dE (Tr.loadE J J J Y22 J sP (hW.1 2 _ J) (Tr.move J J J (Tr.nilChk J J J (Tr.idxArr1 J J J J Y197 Sz22 0 J dE (Tr.loadE J J J Y22 J sP (hW.2 0 _ J) (Tr.move J J J (Tr.move J J J (Tr.nilChk J J J (Tr.idxArr1 J J J J Y197 Sz22 4 J dE (Tr.loadE J J J Y22 J sP (hW.2 4 _ J) (Tr.move J J J (Tr.move J J J (Tr.nilChk J J J (Tr.idxArr1 J J J J Y197 Sz22 3 J dE (Tr.loadE J J J Y22 J sP (hW.2 3 _ J) (Tr.callV J J J J Body243 (wide_plus (0, 0) a.a b.c) (fun _ _ => trivial) (Tr.callV J J J J Body243 (wide_plus (plF (0, 0) a.a b.c) a.b b.b) (fun _ _ => trivial) (Tr.callV J J J J Body243 (wide_plus (plF (plF (0, 0) a.a b.c) a.b b.b) a.c b.a) (fun _ _ => trivial) (Tr.callV J J J J Body243 (wide_plus (plF (plF (plF (0, 0) a.a b.c) a.b b.b) a.c b.a) (19 * a.d) b.e) (fun _ _ => trivial) (Tr.callV J J J J Body243 (wide_plus (plF (plF (plF (plF (0, 0) a.a b.c) a.b b.b) a.c b.a) (19 * a.d) b.e) (19 * a.e) b.d) (fun _ _ => trivial) (Tr.alloc (cs := ([u64 0] ++ [u64 0])) J Zr216 J ?_)))))))))))))))))))))))))))))))))))))))
 intro n11 hn11 hf11
 refine Tr.storeAll J J J J zB Sz216 sP Z0 sP zU ?_
 refine Tr.nil (at_n (Sat.seq (Sat.draw [(0, 0), (0, 1), (0, 2), (0, 3), (1, 4), (0, 5), (0, 6), (0, 7), (1, 8), (0, 10), (0, 11), (0, 12), (1, 13), (0, 14), (0, 15), (0, 16), (1, 17), (0, 19), (0, 20), (0, 21), (1, 22), (0, 23), (0, 24), (0, 25), (1, 26), (0, 28), (0, 29), (0, 30), (1, 31), (0, 32), (0, 33), (0, 34), (1, 35), (0, 37), (0, 38), (0, 39), (0, 40), (1, 41), (3, 9), (3, 18), (3, 27), (3, 36), (3, 42), (2, 43), (4, 44)] Mixed zK (Tr.build (cs := [u64 0, u64 0]) J J J (fun w => by kernel_rfl) ?_))))
 refine Tr.move J J J (Tr.nilChk J J J (Tr.idxArr1 J J J J Y197 Sz22 0 J dE (Tr.loadE J J J Y22 J sP (hW.1 0 _ J) (Tr.move J J J (Tr.nilChk J J J (Tr.idxArr1 J J J J Y197 Sz22 3 J dE (Tr.loadE J J J Y22 J sP (hW.2 3 _ J) (Tr.move J J J (Tr.nilChk J J J (Tr.idxArr1 J J J J Y197 Sz22 1 J dE (Tr.loadE J J J Y22 J sP (hW.1 1 _ J) (Tr.move J J J (Tr.nilChk J J J (Tr.idxArr1 J J J J Y197 Sz22 2 J dE (Tr.loadE J J J Y22 J sP (hW.2 2 _ J) (Tr.move J J J (Tr.nilChk J J J (Tr.idxArr1 J J J J Y197 Sz22 2 J dE (Tr.loadE J J J Y22 J sP (hW.1 2 _ J) (Tr.move J J J (Tr.nilChk J J J (Tr.idxArr1 J J J J Y197 Sz22 1 J dE (Tr.loadE J J J Y22 J sP (hW.2 1 _ J) (Tr.move J J J (Tr.nilChk J J J (Tr.idxArr1 J J J J Y197 Sz22 3 J dE (Tr.loadE J J J Y22 J sP (hW.1 3 _ J) (Tr.move J J J (Tr.nilChk J J J (Tr.idxArr1 J J J J Y197 Sz22 0 J dE (Tr.loadE J J J Y22 J sP (hW.2 0 _ J) (Tr.move J J J (Tr.move J J J (Tr.nilChk J J J (Tr.idxArr1 J J J J Y197 Sz22 4 J dE (Tr.loadE J J J Y22 J sP (hW.2 4 _ J) (Tr.callV J J J J Body243 (wide_plus (0, 0) a.a b.d) (fun _ _ => trivial) (Tr.callV J J J J Body243 (wide_plus (plF (0, 0) a.a b.d) a.b b.c) (fun _ _ => trivial) (Tr.callV J J J J Body243 (wide_plus (plF (plF (0, 0) a.a b.d) a.b b.c) a.c b.b) (fun _ _ => trivial) (Tr.callV J J J J Body243 (wide_plus (plF (plF (plF (0, 0) a.a b.d) a.b b.c) a.c b.b) a.d b.a) (fun _ _ => trivial) (Tr.callV J J J J Body243 (wide_plus (plF (plF (plF (plF (0, 0) a.a b.d) a.b b.c) a.c b.b) a.d b.a) (19 * a.e) b.e) (fun _ _ => trivial) (Tr.alloc (cs := ([u64 0] ++ [u64 0])) J Zr216 J ?_))))))))))))))))))))))))))))))))))))))))))
 intro n12 hn12 hf12
 refine Tr.storeAll J J J J zB Sz216 sP Z0 sP zU ?_
 refine Tr.nil (at_n (Sat.seq (Sat.draw [(0, 0), (0, 1), (0, 2), (0, 3), (1, 4), (0, 5), (0, 6), (0, 7), (1, 8), (0, 10), (0, 11), (0, 12), (1, 13), (0, 14), (0, 15), (0, 16), (1, 17), (0, 19), (0, 20), (0, 21), (1, 22), (0, 23), (0, 24), (0, 25), (1, 26), (0, 28), (0, 29), (0, 30), (1, 31), (0, 32), (0, 33), (0, 34), (1, 35), (0, 37), (0, 38), (0, 39), (1, 40), (0, 41), (0, 42), (0, 43), (1, 44), (3, 9), (3, 18), (3, 27), (3, 36), (3, 45), (2, 46), (4, 47)] Mixed zK (Tr.build (cs := [u64 0, u64 0]) J J J (fun w => by kernel_rfl) ?_))))
 refine Tr.move J J J (Tr.nilChk J J J (Tr.idxArr1 J J J J Y197 Sz22 0 J dE (Tr.loadE J J J Y22 J sP (hW.1 0 _ J) (Tr.move J J J (Tr.nilChk J J J (Tr.idxArr1 J J J J Y197 Sz22 4 J dE (Tr.loadE J J J Y22 J sP (hW.2 4 _ J) (Tr.move J J J (Tr.nilChk J J J (Tr.idxArr1 J J J J Y197 Sz22 1 J dE (Tr.loadE J J J Y22 J sP (hW.1 1 _ J) (Tr.move J J J (Tr.nilChk J J J (Tr.idxArr1 J J J J Y197 Sz22 3 J dE (Tr.loadE J J J Y22 J sP (hW.2 3 _ J) (Tr.move J J J (Tr.nilChk J J J (Tr.idxArr1 J J J J Y197 Sz22 2 J dE (Tr.loadE J J J Y22 J sP (hW.1 2 _ J) (Tr.move J J J (Tr.nilChk J J J (Tr.idxArr1 J J J J Y197 Sz22 2 J dE (Tr.loadE J J J Y22 J sP (hW.2 2 _ J) (Tr.move J J J (Tr.nilChk J J J (Tr.idxArr1 J J J J Y197 Sz22 3 J dE (Tr.loadE J J J Y22 J sP (hW.1 3 _ J) (Tr.move J J J (Tr.nilChk J J J (Tr.idxArr1 J J J J Y197 Sz22 1 J dE (Tr.loadE J J J Y22 J sP (hW.2 1 _ J) (Tr.move J J J (Tr.nilChk J J J (Tr.idxArr1 J J J J Y197 Sz22 4 J dE (Tr.loadE J J J Y22 J sP (hW.1 4 _ J) (Tr.move J J J (Tr.nilChk J J J (Tr.idxArr1 J J J J Y197 Sz22 0 J dE (Tr.loadE J J J Y22 J sP (hW.2 0 _ J) (Tr.callV J J J J Body243 (wide_plus (0, 0) a.a b.e) (fun _ _ => trivial) (Tr.callV J J J J Body243 (wide_plus (plF (0, 0) a.a b.e) a.b b.d) (fun _ _ => trivial) (Tr.callV J J J J Body243 (wide_plus (plF (plF (0, 0) a.a b.e) a.b b.d) a.c b.c) (fun _ _ => trivial) (Tr.callV J J J J Body243 (wide_plus (plF (plF (plF (0, 0) a.a b.e) a.b b.d) a.c b.c) a.d b.b) (fun _ _ => trivial) (Tr.callV J J J J Body243 (wide_plus (plF (plF (plF (plF (0, 0) a.a b.e) a.b b.d) a.c b.c) a.d b.b) a.e b.a) (fun _ _ => trivial) (Tr.alloc (cs := ([u64 0] ++ [u64 0])) J Zr216 J ?_)))))))))))))))))))))))))))))))))))))))))))))
 intro n13 hn13 hf13
 refine Tr.storeAll J J J J zB Sz216 sP Z0 sP zU ?_
 refine Tr.nil (at_n (Sat.seq (Sat.draw [(0, 0), (1, 1), (0, 2), (1, 3), (0, 7), (1, 8), (0, 9), (1, 10), (0, 13), (1, 14), (0, 15), (1, 16), (0, 19), (1, 20), (0, 21), (1, 22), (0, 25), (1, 26), (0, 27), (1, 28), (3, 4), (0, 5), (0, 6), (3, 11), (0, 12), (3, 17), (0, 18), (3, 23), (0, 24), (3, 29), (0, 30), (0, 31), (3, 32), (4, 33)] Mixed zK (Tr.fld J J J Tryz.underlying216 J Sz22 dE _ J (Tr.load1 J J J Y22 J Z4 (by rfl) ?_)))))
 refine Tr.and_u64 J J J (show evIn _ _ = some (u64 2251799813685247) from rfl) (Tr.loadAll J J J Tryz.underlying216 J Sz216 Z0 sP ?_)
 refine Tr.fld J J J Tryz.underlying216 J Sz22 dE _ J (Tr.load1 J J J Y22 J Z3 (by rfl) ?_)
 refine Tr.and_u64 J J J (show evIn _ _ = some (u64 2251799813685247) from rfl) (Tr.loadAll J J J Tryz.underlying216 J Sz216 Z4 sP ?_)
 refine Tr.fld J J J Tryz.underlying216 J Sz22 dE _ J (Tr.load1 J J J Y22 J Z2 (by rfl) ?_)
 refine Tr.and_u64 J J J (show evIn _ _ = some (u64 2251799813685247) from rfl) (Tr.loadAll J J J Tryz.underlying216 J Sz216 Z3 sP ?_)
 refine Tr.fld J J J Tryz.underlying216 J Sz22 dE _ J (Tr.load1 J J J Y22 J Z1 (by rfl) ?_)
 refine Tr.and_u64 J J J (show evIn _ _ = some (u64 2251799813685247) from rfl) (Tr.loadAll J J J Tryz.underlying216 J Sz216 Z2 sP ?_)
 refine Tr.fld J J J Tryz.underlying216 J Sz22 dE _ J (Tr.load1 J J J Y22 J Z0 (by rfl) ?_)
 refine Tr.and_u64 J J J (show evIn _ _ = some (u64 2251799813685247) from rfl) (Tr.loadAll J J J Tryz.underlying216 J Sz216 Z1 sP ?_)
 refine Tr.callV J J J J Body244 (wide_upper (s4F a b)) (fun _ _ => trivial) (Tr.mul_u64 J J (show evIn _ _ = some (u64 19) from rfl) J (Tr.add_u64 J J J J (Tr.callV J J J J Body244 (wide_upper (s0F a b)) (fun _ _ => trivial) (Tr.add_u64 J J J J (Tr.callV J J J J Body244 (wide_upper (s1F a b)) (fun _ _ => trivial) (Tr.add_u64 J J J J (Tr.callV J J J J Body244 (wide_upper (s2F a b)) (fun _ _ => trivial) (Tr.add_u64 J J J J (Tr.callV J J J J Body244 (wide_upper (s3F a b)) (fun _ _ => trivial) (Tr.add_u64 J J J J (Tr.build (cs := wordsV (⟨((s0F a b).2 &&& LOW) + 19 * upF (s4F a b), ((s1F a b).2 &&& LOW) + upF (s0F a b), ((s2F a b).2 &&& LOW) + upF (s1F a b), ((s3F a b).2 &&& LOW) + upF (s2F a b), ((s4F a b).2 &&& LOW) + upF (s3F a b)⟩ : W5).l) J J J (fun w => by kernel_rfl) ?_)))))))))))
 refine Tr.callV J J J J Body245 (field_carried ⟨((s0F a b).2 &&& LOW) + 19 * upF (s4F a b), ((s1F a b).2 &&& LOW) + upF (s0F a b), ((s2F a b).2 &&& LOW) + upF (s1F a b), ((s3F a b).2 &&& LOW) + upF (s2F a b), ((s4F a b).2 &&& LOW) + upF (s3F a b)⟩) (fun _ _ => trivial) (Tr.storeAll J J J J zB Sz197 zW (by exact mem5) sP (by exact upd5) ?_)
 refine Tr.nil (at_n (Sat.ret (en_r ?_)))
 refine ⟨_, [], res_cell J J Y197 J Sz197 (by exact mem5) (by simp [W5.l_length]), sP, sP, ?_, rfl⟩
 rfl

theorem field_store (w : W5) : Meets Tryz.prog 223 [agg (wordsV w.l)] [] (fun _ => True) (fun v out => v = agg (bytesV (fb (fe w.v))) ∧ out = []) := by
 intro W hW
 refine calls_of (hp0 := []) Tryz.func223 J 88 Tryz.ntmps223 J (HRep.nil _) (Sat.seq (Sat.region (Tr.boxA J J ?_)))
 intro n1 hn1 hf1
 refine Tr.alloc (cs := (bytesV (List.replicate 32 0))) J Zr77 J ?_
 intro n2 hn2 hf2
 refine Tr.nil (at_n (Sat.seq (Sat.region (Tr.loadAll J J J Y197 J Sz197 Z1 zW ?_))))
 refine Tr.callV J J J J Body245 (field_carried w) (fun _ _ => trivial) (Tr.storeAll J J J J zB Sz197 zW Z1 zW zV ?_)
 refine Tr.nil (at_n (Sat.seq (Sat.region (Tr.idxArr1 J J J J Y197 Sz22 0 J dE (Tr.load1 J J J Y22 J Z1 (by rfl) ?_)))))
 refine Tr.add_u64 J J J (show evIn _ _ = some (u64 19) from rfl) (Tr.shr_u64 J J J J 51 J dE (Tr.assign J J J (Tr.nil (at_n (Sat.seq (Sat.seq (Sat.region (Tr.assign J J J (Tr.nil (at_n (Sat.block (Sat.rounds 5 (SRounds.more (Sat.seq (Sat.seq (Sat.region (Tr.move J J J (Tr.lss J J J J J (Tr.nil (at_n (Sat.cond_t J (rfl) (Sat.skip (at_n (Sat.seq (Sat.block (Sat.region (Tr.move J J J (Tr.idxArr1 J J J J Y197 Sz22 1 J oM (Tr.load1 J J J Y22 J Z1 (by rfl) ?_)))))))))))))))))))))))))))))
 refine Tr.move J J J (Tr.add_u64 J J J J (Tr.shr_u64 J J J J 51 J dE (Tr.assign J J J (Tr.nil (bl_n (at_n (Sat.region (Tr.move J J J (Tr.add_i64 J J J J oM (Tr.assign J J J (Tr.nil (at_n (SRounds.more (Sat.seq (Sat.seq (Sat.region (Tr.move J J J (Tr.lss J J J J J (Tr.nil (at_n (Sat.cond_t J (rfl) (Sat.skip (at_n (Sat.seq (Sat.block (Sat.region (Tr.move J J J (Tr.idxArr1 J J J J Y197 Sz22 2 J oM (Tr.load1 J J J Y22 J Z1 (by rfl) ?_)))))))))))))))))))))))))))))
 refine Tr.move J J J (Tr.add_u64 J J J J (Tr.shr_u64 J J J J 51 J dE (Tr.assign J J J (Tr.nil (bl_n (at_n (Sat.region (Tr.move J J J (Tr.add_i64 J J J J oM (Tr.assign J J J (Tr.nil (at_n (SRounds.more (Sat.seq (Sat.seq (Sat.region (Tr.move J J J (Tr.lss J J J J J (Tr.nil (at_n (Sat.cond_t J (rfl) (Sat.skip (at_n (Sat.seq (Sat.block (Sat.region (Tr.move J J J (Tr.idxArr1 J J J J Y197 Sz22 3 J oM (Tr.load1 J J J Y22 J Z1 (by rfl) ?_)))))))))))))))))))))))))))))
 refine Tr.move J J J (Tr.add_u64 J J J J (Tr.shr_u64 J J J J 51 J dE (Tr.assign J J J (Tr.nil (bl_n (at_n (Sat.region (Tr.move J J J (Tr.add_i64 J J J J oM (Tr.assign J J J (Tr.nil (at_n (SRounds.more (Sat.seq (Sat.seq (Sat.region (Tr.move J J J (Tr.lss J J J J J (Tr.nil (at_n (Sat.cond_t J (rfl) (Sat.skip (at_n (Sat.seq (Sat.block (Sat.region (Tr.move J J J (Tr.idxArr1 J J J J Y197 Sz22 4 J oM (Tr.load1 J J J Y22 J Z1 (by rfl) ?_)))))))))))))))))))))))))))))
 refine Tr.move J J J (Tr.add_u64 J J J J (Tr.shr_u64 J J J J 51 J dE (Tr.assign J J J (Tr.nil (bl_n (at_n (Sat.region (Tr.move J J J (Tr.add_i64 J J J J oM (Tr.assign J J J (Tr.nil (at_n (SRounds.more (Sat.seq (Sat.seq (Sat.region (Tr.move J J J (Tr.lss J J J J J (Tr.nil (at_n (Sat.cond_f J (rfl) (Sat.exit (at_x (at_x (bl_h (at_n (Sat.seq (Sat.region (Tr.idxArr1 J J J J Y197 Sz22 0 J dE (Tr.load1 J J J Y22 J Z1 (by rfl) ?_))))))))))))))))))))))))))))))
 refine Tr.move J J J (Tr.mul_u64 J J (show evIn _ _ = some (u64 19) from rfl) J (Tr.add_u64 J J J J (Tr.idxArr1 J J J J Y197 Sz22 0 J dE (Tr.store1 J J J J J Sz22 Z1 zW (by exact set_words _ _ _) zV ?_))))
 refine Tr.nil (at_n (Sat.seq (Sat.seq (Sat.region (Tr.move J J J (Tr.nil (at_n (Sat.block (Sat.rounds 5 (SRounds.more (Sat.seq (Sat.region (Tr.lss J J J J J (Tr.nil (at_n (Sat.seq (Sat.cond_t J (rfl) (Sat.skip (at_n (Sat.seq (Sat.block (Sat.seq (Sat.region (Tr.move J J J (Tr.assign J J J (Tr.nil (at_n (Sat.seq (Sat.draw [(0, 0), (0, 1), (0, 2), (1, 3), (0, 4), (0, 5), (1, 6), (0, 7), (0, 8), (0, 9), (4, 10)] Mixed zK (Tr.move J J J (Tr.add_i64 J J J J oM (Tr.idxArr1 J J J J Y197 Sz22 1 J oM (Tr.load1 J J J Y22 J Z1 (by rfl) ?_)))))))))))))))))))))))))))))))))
 refine Tr.move J J J (Tr.idxArr1 J J J J Y197 Sz22 0 J oM (Tr.load1 J J J Y22 J Z1 (by rfl) ?_))
 refine Tr.shr_u64 J J J J 51 J dE (Tr.add_u64 J J J J (Tr.idxArr1 J J J J Y197 Sz22 1 J oM (Tr.store1 J J J J J Sz22 Z1 zW (by exact set_words _ _ _) zV ?_)))
 refine Tr.nil (at_n (Sat.region (Tr.move J J J (Tr.idxArr1 J J J J Y197 Sz22 0 J oM (Tr.load1 J J J Y22 J Z1 (by rfl) ?_)))))
 refine Tr.and_u64 J J J (show evIn _ _ = some (u64 2251799813685247) from rfl) (Tr.idxArr1 J J J J Y197 Sz22 0 J oM (Tr.store1 J J J J J Sz22 Z1 zW (by exact set_words _ _ _) zV ?_))
 refine Tr.nil (bl_n (at_n (Sat.region (Tr.add_i64 J J J J oM (Tr.move J J J (Tr.nil (at_n (SRounds.more (Sat.seq (Sat.region (Tr.lss J J J J J (Tr.nil (at_n (Sat.seq (Sat.cond_t J (rfl) (Sat.skip (at_n (Sat.seq (Sat.block (Sat.seq (Sat.region (Tr.move J J J (Tr.assign J J J (Tr.nil (at_n (Sat.seq (Sat.draw [(0, 0), (0, 1), (0, 2), (1, 3), (0, 4), (0, 5), (1, 6), (0, 7), (0, 8), (0, 9), (4, 10)] Mixed zK (Tr.move J J J (Tr.add_i64 J J J J oM (Tr.idxArr1 J J J J Y197 Sz22 2 J oM (Tr.load1 J J J Y22 J Z1 (by rfl) ?_)))))))))))))))))))))))))))))))
 refine Tr.move J J J (Tr.idxArr1 J J J J Y197 Sz22 1 J oM (Tr.load1 J J J Y22 J Z1 (by rfl) ?_))
 refine Tr.shr_u64 J J J J 51 J dE (Tr.add_u64 J J J J (Tr.idxArr1 J J J J Y197 Sz22 2 J oM (Tr.store1 J J J J J Sz22 Z1 zW (by exact set_words _ _ _) zV ?_)))
 refine Tr.nil (at_n (Sat.region (Tr.move J J J (Tr.idxArr1 J J J J Y197 Sz22 1 J oM (Tr.load1 J J J Y22 J Z1 (by rfl) ?_)))))
 refine Tr.and_u64 J J J (show evIn _ _ = some (u64 2251799813685247) from rfl) (Tr.idxArr1 J J J J Y197 Sz22 1 J oM (Tr.store1 J J J J J Sz22 Z1 zW (by exact set_words _ _ _) zV ?_))
 refine Tr.nil (bl_n (at_n (Sat.region (Tr.add_i64 J J J J oM (Tr.move J J J (Tr.nil (at_n (SRounds.more (Sat.seq (Sat.region (Tr.lss J J J J J (Tr.nil (at_n (Sat.seq (Sat.cond_t J (rfl) (Sat.skip (at_n (Sat.seq (Sat.block (Sat.seq (Sat.region (Tr.move J J J (Tr.assign J J J (Tr.nil (at_n (Sat.seq (Sat.draw [(0, 0), (0, 1), (0, 2), (1, 3), (0, 4), (0, 5), (1, 6), (0, 7), (0, 8), (0, 9), (4, 10)] Mixed zK (Tr.move J J J (Tr.add_i64 J J J J oM (Tr.idxArr1 J J J J Y197 Sz22 3 J oM (Tr.load1 J J J Y22 J Z1 (by rfl) ?_)))))))))))))))))))))))))))))))
 refine Tr.move J J J (Tr.idxArr1 J J J J Y197 Sz22 2 J oM (Tr.load1 J J J Y22 J Z1 (by rfl) ?_))
 refine Tr.shr_u64 J J J J 51 J dE (Tr.add_u64 J J J J (Tr.idxArr1 J J J J Y197 Sz22 3 J oM (Tr.store1 J J J J J Sz22 Z1 zW (by exact set_words _ _ _) zV ?_)))
 refine Tr.nil (at_n (Sat.region (Tr.move J J J (Tr.idxArr1 J J J J Y197 Sz22 2 J oM (Tr.load1 J J J Y22 J Z1 (by rfl) ?_)))))
 refine Tr.and_u64 J J J (show evIn _ _ = some (u64 2251799813685247) from rfl) (Tr.idxArr1 J J J J Y197 Sz22 2 J oM (Tr.store1 J J J J J Sz22 Z1 zW (by exact set_words _ _ _) zV ?_))
 refine Tr.nil (bl_n (at_n (Sat.region (Tr.add_i64 J J J J oM (Tr.move J J J (Tr.nil (at_n (SRounds.more (Sat.seq (Sat.region (Tr.lss J J J J J (Tr.nil (at_n (Sat.seq (Sat.cond_t J (rfl) (Sat.skip (at_n (Sat.seq (Sat.block (Sat.seq (Sat.region (Tr.move J J J (Tr.assign J J J (Tr.nil (at_n (Sat.seq (Sat.draw [(0, 0), (0, 1), (0, 2), (1, 3), (0, 4), (0, 5), (1, 6), (0, 7), (0, 8), (0, 9), (4, 10)] Mixed zK (Tr.move J J J (Tr.add_i64 J J J J oM (Tr.idxArr1 J J J J Y197 Sz22 4 J oM (Tr.load1 J J J Y22 J Z1 (by rfl) ?_)))))))))))))))))))))))))))))))
 refine Tr.move J J J (Tr.idxArr1 J J J J Y197 Sz22 3 J oM (Tr.load1 J J J Y22 J Z1 (by rfl) ?_))
 refine Tr.shr_u64 J J J J 51 J dE (Tr.add_u64 J J J J (Tr.idxArr1 J J J J Y197 Sz22 4 J oM (Tr.store1 J J J J J Sz22 Z1 zW (by exact set_words _ _ _) zV ?_)))
 refine Tr.nil (at_n (Sat.region (Tr.move J J J (Tr.idxArr1 J J J J Y197 Sz22 3 J oM (Tr.load1 J J J Y22 J Z1 (by rfl) ?_)))))
 refine Tr.and_u64 J J J (show evIn _ _ = some (u64 2251799813685247) from rfl) (Tr.idxArr1 J J J J Y197 Sz22 3 J oM (Tr.store1 J J J J J Sz22 Z1 zW (by exact set_words _ _ _) zV ?_))
 refine Tr.nil (bl_n (at_n (Sat.region (Tr.add_i64 J J J J oM (Tr.move J J J (Tr.nil (at_n (SRounds.more (Sat.seq (Sat.region (Tr.lss J J J J J (Tr.nil (at_n (Sat.seq (Sat.cond_f J (rfl) (Sat.exit (at_x (at_x (bl_h (at_n (Sat.seq (Sat.region (Tr.idxArr1 J J J J Y197 Sz22 4 J dE (Tr.load1 J J J Y22 J Z1 (by rfl) ?_))))))))))))))))))))))))
 refine Tr.and_u64 J J J (show evIn _ _ = some (u64 2251799813685247) from rfl) (Tr.idxArr1 J J J J Y197 Sz22 4 J dE (Tr.store1 J J J J J Sz22 Z1 zW (by exact set_words _ _ _) zV ?_))
 refine Tr.nil (at_n (Sat.seq (Sat.region (Tr.alloc (cs := (bytesV (List.replicate 32 0))) J Zr77 J ?_))))
 intro n6 hn6 hf6
 refine Tr.nil (at_n (Sat.seq (Sat.draw [(0, 0), (0, 1), (1, 2), (0, 3), (1, 4), (0, 5), (0, 6), (4, 7)] Mixed zK (Tr.sliceArrLH 0 8 J J J J J J J dE dE dE Y77 Sz5 (Tr.idxArr1 J J J J Y197 Sz22 0 J dE (Tr.load1 J J J Y22 J Z2 (by rfl) ?_))))))
 refine Tr.idxArr1 J J J J Y197 Sz22 1 J dE (Tr.load1 J J J Y22 J Z2 (by rfl) ?_)
 refine Tr.shl_u64 J J J J 51 J dE (Tr.or_u64 J J J J (Tr.callL (L := [⟨n6, bytesV (List.replicate 32 0), 77, 32⟩]) J J J J J Body224 (field_put n6 0 8 32 32 (List.replicate 32 0) ((stF w).a ||| shl64 (stF w).b 51) _ dE sP) (pm_cons rM pm_nil) (lent_ok J) (fun w h => own_blk h Z0) ?_))
 rintro v59 out59 rfl
 rw [set8_1]
 refine Tr.nil (at_n (Sat.seq (Sat.draw [(0, 0), (0, 1), (1, 2), (0, 3), (0, 4), (1, 5), (0, 6), (0, 7), (4, 8)] Mixed zK (Tr.sliceArrLH 8 16 J J J J J J J dE dE dE Y77 Sz5 (Tr.idxArr1 J J J J Y197 Sz22 1 J dE (Tr.load1 J J J Y22 J Z2 (by rfl) ?_))))))
 refine Tr.shr_u64 J J J J 13 J dE (Tr.idxArr1 J J J J Y197 Sz22 2 J dE (Tr.load1 J J J Y22 J Z2 (by rfl) ?_))
 refine Tr.shl_u64 J J J J 38 J dE (Tr.or_u64 J J J J (Tr.callL (L := [⟨n6, bytesV (by8 ((stF w).a ||| shl64 (stF w).b 51) ++ List.replicate 24 0), 77, 32⟩]) J J J J J Body224 (field_put n6 8 8 24 32 (by8 ((stF w).a ||| shl64 (stF w).b 51) ++ List.replicate 24 0) (shr64 (stF w).b 13 ||| shl64 (stF w).c 38) _ dE (by simp [by8_length])) (pm_cons rM pm_nil) (lent_ok J) (fun w h => own_blk h Z0) ?_))
 rintro v68 out68 rfl
 rw [set8_2]
 refine Tr.nil (at_n (Sat.seq (Sat.draw [(0, 0), (0, 1), (1, 2), (0, 3), (0, 4), (1, 5), (0, 6), (0, 7), (4, 8)] Mixed zK (Tr.sliceArrLH 16 24 J J J J J J J dE dE dE Y77 Sz5 (Tr.idxArr1 J J J J Y197 Sz22 2 J dE (Tr.load1 J J J Y22 J Z2 (by rfl) ?_))))))
 refine Tr.shr_u64 J J J J 26 J dE (Tr.idxArr1 J J J J Y197 Sz22 3 J dE (Tr.load1 J J J Y22 J Z2 (by rfl) ?_))
 refine Tr.shl_u64 J J J J 25 J dE (Tr.or_u64 J J J J (Tr.callL (L := [⟨n6, bytesV (by8 ((stF w).a ||| shl64 (stF w).b 51) ++ by8 (shr64 (stF w).b 13 ||| shl64 (stF w).c 38) ++ List.replicate 16 0), 77, 32⟩]) J J J J J Body224 (field_put n6 16 8 16 32 (by8 ((stF w).a ||| shl64 (stF w).b 51) ++ by8 (shr64 (stF w).b 13 ||| shl64 (stF w).c 38) ++ List.replicate 16 0) (shr64 (stF w).c 26 ||| shl64 (stF w).d 25) _ dE (by simp [by8_length])) (pm_cons rM pm_nil) (lent_ok J) (fun w h => own_blk h Z0) ?_))
 rintro v77 out77 rfl
 rw [set8_3]
 refine Tr.nil (at_n (Sat.seq (Sat.draw [(0, 0), (0, 1), (1, 2), (0, 3), (0, 4), (1, 5), (0, 6), (0, 7), (4, 8)] Mixed zK (Tr.sliceArrLH 24 32 J J J J J J J dE dE dE Y77 Sz5 (Tr.idxArr1 J J J J Y197 Sz22 3 J dE (Tr.load1 J J J Y22 J Z2 (by rfl) ?_))))))
 refine Tr.shr_u64 J J J J 39 J dE (Tr.idxArr1 J J J J Y197 Sz22 4 J dE (Tr.load1 J J J Y22 J Z2 (by rfl) ?_))
 refine Tr.shl_u64 J J J J 12 J dE (Tr.or_u64 J J J J (Tr.callL (L := [⟨n6, bytesV (by8 ((stF w).a ||| shl64 (stF w).b 51) ++ by8 (shr64 (stF w).b 13 ||| shl64 (stF w).c 38) ++ by8 (shr64 (stF w).c 26 ||| shl64 (stF w).d 25) ++ List.replicate 8 0), 77, 32⟩]) J J J J J Body224 (field_put n6 24 8 8 32 (by8 ((stF w).a ||| shl64 (stF w).b 51) ++ by8 (shr64 (stF w).b 13 ||| shl64 (stF w).c 38) ++ by8 (shr64 (stF w).c 26 ||| shl64 (stF w).d 25) ++ List.replicate 8 0) (shr64 (stF w).d 39 ||| shl64 (stF w).e 12) _ dE (by simp [by8_length])) (pm_cons rM pm_nil) (lent_ok J) (fun w h => own_blk h Z0) ?_))
 rintro v86 out86 rfl
 rw [set8_4]
 refine Tr.nil (at_n (Sat.seq (Sat.region (Tr.loadAll J J J Y77 J Sz77 Z0 (by (simp [by8_length]; done)) ?_))))
 refine Tr.storeAll J J J J zE Sz77 (by (simp [by8_length]; done)) Z1 sP zV ?_
 refine Tr.nil (at_n (Sat.ret (en_r ?_)))
 refine ⟨_, [], res_cell J J Y77 J Sz77 Z1 (by simp [by8_length]), sP, sP, ?_, rfl⟩
 rw [fb_fe, ← store_eq, ← by8_store]

theorem field_Rest (a : List UInt8) (ha : a.length = 32) : Meets Tryz.prog 220 [agg (bytesV a)] [] (fun _ => True) (fun v out => v = agg (bytesV (fb (fe (le a)))) ∧ out = []) := by
 intro W hW
 refine calls_of (hp0 := []) Tryz.func220 J 6 Tryz.ntmps220 J (HRep.nil _) (Sat.seq (Sat.region (Tr.boxA J J ?_)))
 intro n1 hn1 hf1
 refine Tr.alloc (cs := (bytesV (List.replicate 32 0))) J Zr77 J ?_
 intro n2 hn2 hf2
 refine Tr.nil (at_n (Sat.seq (Sat.region (Tr.loadAll J J J Y77 J Sz77 Z1 (by (simp [ha]; done)) ?_))))
 refine Tr.callV J J J J Body221 (field_load a ha) (fun _ _ => trivial) (Tr.callV J J J J Body223 (field_store (ldN a)) (fun _ _ => trivial) (Tr.storeAll J J J J zE Sz77 zF Z0 sP zU ?_))
 refine Tr.nil (at_n (Sat.ret (en_r ?_)))
 refine ⟨_, [], res_cell J J Y77 J Sz77 Z0 (by simp [fb_length]), sP, sP, ?_, rfl⟩
 rw [ldN_v ha]

theorem field_Canon (a : List UInt8) (ha : a.length = 32) : Meets Tryz.prog 168 [agg (bytesV a)] [] (fun _ => True) (fun v out => v = .bool (decide (fb (fe (le a)) = a)) ∧ out = []) := by
 intro W hW
 refine calls_of (hp0 := []) Tryz.func168 J 7 Tryz.ntmps168 J (HRep.nil _) (Sat.seq (Sat.region (Tr.boxA J J ?_)))
 intro n1 hn1 hf1
 refine Tr.assign J J J (Tr.nil (at_n (Sat.seq (Sat.draw [(1, 0), (1, 2), (3, 1), (0, 3), (0, 4)] Mixed zK (Tr.loadAll J J J Y77 J Sz77 Z0 (by (simp [ha]; done)) ?_)))))
 refine Tr.loadAll J J J Y77 J Sz77 Z0 (by (simp [ha]; done)) ?_
 refine Tr.callV J J J J Body220 (field_Rest a ha) (fun _ _ => trivial) (Tr.eql_bytes J J J J Tryz.eqGuardType77 Y77 Y5 Sz5 zF (by (simp [ha]; done)) J ?_)
 refine Tr.assign J J J (Tr.nil (at_n (Sat.ret (en_r ?_))))
 refine ⟨_, [], res_tmp J J, sP, sP, ?_, rfl⟩
 rfl

theorem field_Same (a b : List UInt8) (ha : a.length = 32) (hb : b.length = 32) : Meets Tryz.prog 227 [agg (bytesV a), agg (bytesV b)] [] (fun _ => True) (fun v out => v = .bool (decide (fe (le a) = fe (le b))) ∧ out = []) := by
 intro W hW
 refine calls_of (hp0 := []) Tryz.func227 J 10 Tryz.ntmps227 J (HRep.nil _) (Sat.seq (Sat.region (Tr.boxA J J ?_)))
 intro n2 hn2 hf2
 refine Tr.boxA J J ?_
 intro n3 hn3 hf3
 refine Tr.assign J J J (Tr.nil (at_n (Sat.seq (Sat.draw [(1, 0), (1, 2), (3, 1), (3, 3), (0, 4), (0, 5)] Mixed zK (Tr.loadAll J J J Y77 J Sz77 Z1 (by (simp [ha]; done)) ?_)))))
 refine Tr.loadAll J J J Y77 J Sz77 Z0 (by (simp [hb]; done)) ?_
 refine Tr.callV J J J J Body220 (field_Rest a ha) (fun _ _ => trivial) (Tr.callV J J J J Body220 (field_Rest b hb) (fun _ _ => trivial) (Tr.eql_bytes J J J J Tryz.eqGuardType77 Y77 Y5 Sz5 zF zF J (Tr.assign J J J (Tr.nil (at_n (Sat.ret (en_r ?_)))))))
 refine ⟨_, [], res_tmp J J, sP, sP, ?_, rfl⟩
 rw [fb_dec]

theorem field_Odd (a : List UInt8) (ha : a.length = 32) : Meets Tryz.prog 215 [agg (bytesV a)] [] (fun _ => True) (fun v out => v = .bool (decide ((fe (le a)).val % 2 = 1)) ∧ out = []) := by
 intro W hW
 refine calls_of (hp0 := []) Tryz.func215 J 8 Tryz.ntmps215 J (HRep.nil _) (Sat.seq (Sat.region (Tr.boxA J J ?_)))
 intro n1 hn1 hf1
 refine Tr.assign J J J (Tr.nil (at_n (Sat.seq (Sat.region (Tr.loadAll J J J Y77 J Sz77 Z0 (by (simp [ha]; done)) ?_)))))
 refine Tr.callV J J J J Body220 (field_Rest a ha) (fun _ _ => trivial) (Tr.idxA1 J J J J Y77 Sz5 Y5 J 0 J oM (by rfl) ?_)
 refine Tr.and_u8 J J J (show evIn _ _ = some (u8 1) from rfl) (Tr.eqi J J J J J (Tr.assign J J J (Tr.nil (at_n (Sat.ret (en_r ?_))))))
 refine ⟨_, [], res_tmp J J, sP, sP, ?_, rfl⟩
 exact congrArg Value.bool (odd_byte _)

structure PowS where
  k : Nat
  p : W5
  a : UInt64
  b : UInt64
  c : UInt64
  d : UInt64
theorem leb_small (x : UInt64) : leb 8 x.toNat ++ List.replicate 24 0 = leb 32 x.toNat := by
  have h := leb_split 24 8 x.toNat
  rw [show x.toNat / 256 ^ 8 = 0 from Nat.div_eq_of_lt x.toNat_lt] at h
  rw [show leb 24 0 = List.replicate 24 0 from by decide] at h
  exact h.symm

theorem field_Of (x : UInt64) : Meets Tryz.prog 171 [u64 x] [] (fun _ => True) (fun v out => v = agg (bytesV (fb (fe x.toNat))) ∧ out = []) := by
 intro W hW
 refine calls_of (hp0 := []) Tryz.func171 J 8 Tryz.ntmps171 J (HRep.nil _) (Sat.seq (Sat.region (Tr.alloc (cs := (bytesV (List.replicate 32 0))) J Zr77 J ?_)))
 intro n2 hn2 hf2
 refine Tr.nil (at_n (Sat.seq (Sat.region (Tr.alloc (cs := (bytesV (List.replicate 32 0))) J Zr77 J ?_))))
 intro n3 hn3 hf3
 refine Tr.nil (at_n (Sat.seq (Sat.region (Tr.sliceArrHi 8 J J J J J dE dE Y77 Sz5 (Tr.move J J J (Tr.callL (L := [⟨n3, bytesV (List.replicate 32 0), 77, 32⟩]) J J J J J Body224 (field_put n3 0 8 32 32 (List.replicate 32 0) (x) _ dE sP) (pm_cons rM pm_nil) (lent_ok J) (fun w h => own_blk h Z0) ?_))))))
 rintro v6 out6 rfl
 rw [set8_1]
 refine Tr.nil (at_n (Sat.seq (Sat.region (Tr.loadAll J J J Y77 J Sz77 Z0 (by (simp [by8_length]; done)) ?_))))
 refine Tr.storeAll J J J J zE Sz77 (by (simp [by8_length]; done)) Z1 sP zV ?_
 refine Tr.nil (at_n (Sat.ret (en_r ?_)))
 refine ⟨_, [], res_cell J J Y77 J Sz77 Z1 (by simp [by8_length]), sP, sP, ?_, rfl⟩
 rw [fe_small, by8_eq]
 exact congrArg (fun l => agg (bytesV l)) (leb_small x)

theorem field_Add (a b : List UInt8) (ha : a.length = 32) (hb : b.length = 32) : Meets Tryz.prog 172 [agg (bytesV a), agg (bytesV b)] [] (fun _ => True) (fun v out => v = agg (bytesV (fb (fe (le a) + fe (le b)))) ∧ out = []) := by
 intro W hW
 refine calls_of (hp0 := []) Tryz.func172 J 26 Tryz.ntmps172 J (HRep.nil _) (Sat.seq (Sat.region (Tr.boxA J J ?_)))
 intro n2 hn2 hf2
 refine Tr.boxA J J ?_
 intro n3 hn3 hf3
 refine Tr.alloc (cs := (bytesV (List.replicate 32 0))) J Zr77 J ?_
 intro n4 hn4 hf4
 refine Tr.nil (at_n (Sat.seq (Sat.draw [(1, 0), (1, 2), (3, 1), (3, 3), (2, 4), (2, 5), (4, 6), (4, 7)] Mixed zK (Tr.loadAll J J J Y77 J Sz77 Z2 (by (simp [ha]; done)) ?_))))
 refine Tr.loadAll J J J Y77 J Sz77 Z1 (by (simp [hb]; done)) ?_
 refine Tr.callV J J J J Body221 (field_load a ha) (fun _ _ => trivial) (Tr.callV J J J J Body221 (field_load b hb) (fun _ _ => trivial) (Tr.alloc (cs := (wordsV (List.replicate 5 0))) J Zr197 J ?_))
 intro n5 hn5 hf5
 refine Tr.alloc (cs := (wordsV (List.replicate 5 0))) J Zr197 J ?_
 intro n6 hn6 hf6
 refine Tr.storeAll J J J J zB Sz197 zW Z1 sP zV ?_
 refine Tr.storeAll J J J J zB Sz197 zW Z0 sP zU ?_
 refine Tr.nil (at_n (Sat.seq (Sat.seq (Sat.region (Tr.move J J J (Tr.nil (at_n (Sat.block (Sat.rounds 6 (SRounds.more (Sat.seq (Sat.region (Tr.lss J J J J J (Tr.nil (at_n (Sat.seq (Sat.cond_t J (rfl) (Sat.skip (at_n (Sat.seq (Sat.block (Sat.seq (Sat.region (Tr.move J J J (Tr.assign J J J (Tr.nil (at_n (Sat.draw [(0, 0), (0, 1), (1, 2), (0, 3), (0, 4), (1, 5), (0, 6), (0, 7), (4, 8)] Mixed zK (Tr.move J J J (Tr.idxArr1 J J J J Y197 Sz22 0 J oM (Tr.load1 J J J Y22 J Z1 (by rfl) ?_)))))))))))))))))))))))))))))))
 refine Tr.move J J J (Tr.idxArr1 J J J J Y197 Sz22 0 J oM (Tr.load1 J J J Y22 J Z0 (by rfl) ?_))
 refine Tr.add_u64 J J J J (Tr.idxArr1 J J J J Y197 Sz22 0 J oM (Tr.store1 J J J J J Sz22 Z1 zW (by exact set_words _ _ _) zV ?_))
 refine Tr.nil (bl_n (at_n (Sat.region (Tr.add_i64 J J J J oM (Tr.move J J J (Tr.nil (at_n (SRounds.more (Sat.seq (Sat.region (Tr.lss J J J J J (Tr.nil (at_n (Sat.seq (Sat.cond_t J (rfl) (Sat.skip (at_n (Sat.seq (Sat.block (Sat.seq (Sat.region (Tr.move J J J (Tr.assign J J J (Tr.nil (at_n (Sat.draw [(0, 0), (0, 1), (1, 2), (0, 3), (0, 4), (1, 5), (0, 6), (0, 7), (4, 8)] Mixed zK (Tr.move J J J (Tr.idxArr1 J J J J Y197 Sz22 1 J oM (Tr.load1 J J J Y22 J Z1 (by rfl) ?_)))))))))))))))))))))))))))))
 refine Tr.move J J J (Tr.idxArr1 J J J J Y197 Sz22 1 J oM (Tr.load1 J J J Y22 J Z0 (by rfl) ?_))
 refine Tr.add_u64 J J J J (Tr.idxArr1 J J J J Y197 Sz22 1 J oM (Tr.store1 J J J J J Sz22 Z1 zW (by exact set_words _ _ _) zV ?_))
 refine Tr.nil (bl_n (at_n (Sat.region (Tr.add_i64 J J J J oM (Tr.move J J J (Tr.nil (at_n (SRounds.more (Sat.seq (Sat.region (Tr.lss J J J J J (Tr.nil (at_n (Sat.seq (Sat.cond_t J (rfl) (Sat.skip (at_n (Sat.seq (Sat.block (Sat.seq (Sat.region (Tr.move J J J (Tr.assign J J J (Tr.nil (at_n (Sat.draw [(0, 0), (0, 1), (1, 2), (0, 3), (0, 4), (1, 5), (0, 6), (0, 7), (4, 8)] Mixed zK (Tr.move J J J (Tr.idxArr1 J J J J Y197 Sz22 2 J oM (Tr.load1 J J J Y22 J Z1 (by rfl) ?_)))))))))))))))))))))))))))))
 refine Tr.move J J J (Tr.idxArr1 J J J J Y197 Sz22 2 J oM (Tr.load1 J J J Y22 J Z0 (by rfl) ?_))
 refine Tr.add_u64 J J J J (Tr.idxArr1 J J J J Y197 Sz22 2 J oM (Tr.store1 J J J J J Sz22 Z1 zW (by exact set_words _ _ _) zV ?_))
 refine Tr.nil (bl_n (at_n (Sat.region (Tr.add_i64 J J J J oM (Tr.move J J J (Tr.nil (at_n (SRounds.more (Sat.seq (Sat.region (Tr.lss J J J J J (Tr.nil (at_n (Sat.seq (Sat.cond_t J (rfl) (Sat.skip (at_n (Sat.seq (Sat.block (Sat.seq (Sat.region (Tr.move J J J (Tr.assign J J J (Tr.nil (at_n (Sat.draw [(0, 0), (0, 1), (1, 2), (0, 3), (0, 4), (1, 5), (0, 6), (0, 7), (4, 8)] Mixed zK (Tr.move J J J (Tr.idxArr1 J J J J Y197 Sz22 3 J oM (Tr.load1 J J J Y22 J Z1 (by rfl) ?_)))))))))))))))))))))))))))))
 refine Tr.move J J J (Tr.idxArr1 J J J J Y197 Sz22 3 J oM (Tr.load1 J J J Y22 J Z0 (by rfl) ?_))
 refine Tr.add_u64 J J J J (Tr.idxArr1 J J J J Y197 Sz22 3 J oM (Tr.store1 J J J J J Sz22 Z1 zW (by exact set_words _ _ _) zV ?_))
 refine Tr.nil (bl_n (at_n (Sat.region (Tr.add_i64 J J J J oM (Tr.move J J J (Tr.nil (at_n (SRounds.more (Sat.seq (Sat.region (Tr.lss J J J J J (Tr.nil (at_n (Sat.seq (Sat.cond_t J (rfl) (Sat.skip (at_n (Sat.seq (Sat.block (Sat.seq (Sat.region (Tr.move J J J (Tr.assign J J J (Tr.nil (at_n (Sat.draw [(0, 0), (0, 1), (1, 2), (0, 3), (0, 4), (1, 5), (0, 6), (0, 7), (4, 8)] Mixed zK (Tr.move J J J (Tr.idxArr1 J J J J Y197 Sz22 4 J oM (Tr.load1 J J J Y22 J Z1 (by rfl) ?_)))))))))))))))))))))))))))))
 refine Tr.move J J J (Tr.idxArr1 J J J J Y197 Sz22 4 J oM (Tr.load1 J J J Y22 J Z0 (by rfl) ?_))
 refine Tr.add_u64 J J J J (Tr.idxArr1 J J J J Y197 Sz22 4 J oM (Tr.store1 J J J J J Sz22 Z1 zW (by exact set_words _ _ _) zV ?_))
 refine Tr.nil (bl_n (at_n (Sat.region (Tr.add_i64 J J J J oM (Tr.move J J J (Tr.nil (at_n (SRounds.more (Sat.seq (Sat.region (Tr.lss J J J J J (Tr.nil (at_n (Sat.seq (Sat.cond_f J (rfl) (Sat.exit (at_x (at_x (bl_h (at_n (Sat.seq (Sat.region (Tr.loadAll J J J Y197 J Sz197 Z1 zW ?_)))))))))))))))))))))))
 refine Tr.callV J J J J Body223 (field_store (addF (ldN a) (ldN b))) (fun _ _ => trivial) (Tr.storeAll J J J J zE Sz77 zF Z2 sP (by exact upd2) ?_)
 refine Tr.nil (at_n (Sat.ret (en_r ?_)))
 refine ⟨_, [], res_cell J J Y77 J Sz77 Z2 (by simp [fb_length]), sP, sP, ?_, rfl⟩
 rw [addF_fe ha hb]

theorem field_Sub (a b : List UInt8) (ha : a.length = 32) (hb : b.length = 32) : Meets Tryz.prog 170 [agg (bytesV a), agg (bytesV b)] [] (fun _ => True) (fun v out => v = agg (bytesV (fb (fe (le a) - fe (le b)))) ∧ out = []) := by
 intro W hW
 refine calls_of (hp0 := []) Tryz.func170 J 34 Tryz.ntmps170 J (HRep.nil _) (Sat.seq (Sat.region (Tr.boxA J J ?_)))
 intro n2 hn2 hf2
 refine Tr.boxA J J ?_
 intro n3 hn3 hf3
 refine Tr.alloc (cs := (bytesV (List.replicate 32 0))) J Zr77 J ?_
 intro n4 hn4 hf4
 refine Tr.nil (at_n (Sat.seq (Sat.draw [(1, 0), (1, 2), (3, 1), (3, 3), (2, 4), (2, 5), (4, 6), (4, 7)] Mixed zK (Tr.loadAll J J J Y77 J Sz77 Z2 (by (simp [ha]; done)) ?_))))
 refine Tr.loadAll J J J Y77 J Sz77 Z1 (by (simp [hb]; done)) ?_
 refine Tr.callV J J J J Body221 (field_load a ha) (fun _ _ => trivial) (Tr.callV J J J J Body221 (field_load b hb) (fun _ _ => trivial) (Tr.alloc (cs := (wordsV (List.replicate 5 0))) J Zr197 J ?_))
 intro n5 hn5 hf5
 refine Tr.alloc (cs := (wordsV (List.replicate 5 0))) J Zr197 J ?_
 intro n6 hn6 hf6
 refine Tr.storeAll J J J J zB Sz197 zW Z1 sP zV ?_
 refine Tr.storeAll J J J J zB Sz197 zW Z0 sP zU ?_
 refine Tr.nil (at_n (Sat.seq (Sat.region (Tr.idxArr1 J J J J Y197 Sz22 0 J dE (Tr.load1 J J J Y22 J Z1 (by rfl) ?_)))))
 refine Tr.idxArr1 J J J J Y197 Sz22 0 J dE (Tr.load1 J J J Y22 J Z0 (by rfl) ?_)
 refine Tr.sub_u64 J J (show evIn _ _ = some (u64 9007199254740916) from rfl) J (Tr.add_u64 J J J J (Tr.idxArr1 J J J J Y197 Sz22 0 J dE (Tr.store1 J J J J J Sz22 Z1 zW (by exact set_words _ _ _) zV ?_)))
 refine Tr.nil (at_n (Sat.seq (Sat.seq (Sat.region (Tr.assign J J J (Tr.nil (at_n (Sat.block (Sat.rounds 5 (SRounds.more (Sat.seq (Sat.seq (Sat.region (Tr.move J J J (Tr.lss J J J J J (Tr.nil (at_n (Sat.cond_t J (rfl) (Sat.skip (at_n (Sat.seq (Sat.block (Sat.draw [(0, 0), (0, 1), (1, 2), (0, 3), (0, 4), (1, 5), (0, 6), (0, 7), (0, 8), (4, 9)] Mixed zK (Tr.move J J J (Tr.idxArr1 J J J J Y197 Sz22 1 J oM (Tr.load1 J J J Y22 J Z1 (by rfl) ?_))))))))))))))))))))))))))
 refine Tr.move J J J (Tr.idxArr1 J J J J Y197 Sz22 1 J oM (Tr.load1 J J J Y22 J Z0 (by rfl) ?_))
 refine Tr.sub_u64 J J (show evIn _ _ = some (u64 9007199254740988) from rfl) J (Tr.add_u64 J J J J (Tr.idxArr1 J J J J Y197 Sz22 1 J oM (Tr.store1 J J J J J Sz22 Z1 zW (by exact set_words _ _ _) zV ?_)))
 refine Tr.nil (bl_n (at_n (Sat.region (Tr.move J J J (Tr.add_i64 J J J J oM (Tr.assign J J J (Tr.nil (at_n (SRounds.more (Sat.seq (Sat.seq (Sat.region (Tr.move J J J (Tr.lss J J J J J (Tr.nil (at_n (Sat.cond_t J (rfl) (Sat.skip (at_n (Sat.seq (Sat.block (Sat.draw [(0, 0), (0, 1), (1, 2), (0, 3), (0, 4), (1, 5), (0, 6), (0, 7), (0, 8), (4, 9)] Mixed zK (Tr.move J J J (Tr.idxArr1 J J J J Y197 Sz22 2 J oM (Tr.load1 J J J Y22 J Z1 (by rfl) ?_)))))))))))))))))))))))))
 refine Tr.move J J J (Tr.idxArr1 J J J J Y197 Sz22 2 J oM (Tr.load1 J J J Y22 J Z0 (by rfl) ?_))
 refine Tr.sub_u64 J J (show evIn _ _ = some (u64 9007199254740988) from rfl) J (Tr.add_u64 J J J J (Tr.idxArr1 J J J J Y197 Sz22 2 J oM (Tr.store1 J J J J J Sz22 Z1 zW (by exact set_words _ _ _) zV ?_)))
 refine Tr.nil (bl_n (at_n (Sat.region (Tr.move J J J (Tr.add_i64 J J J J oM (Tr.assign J J J (Tr.nil (at_n (SRounds.more (Sat.seq (Sat.seq (Sat.region (Tr.move J J J (Tr.lss J J J J J (Tr.nil (at_n (Sat.cond_t J (rfl) (Sat.skip (at_n (Sat.seq (Sat.block (Sat.draw [(0, 0), (0, 1), (1, 2), (0, 3), (0, 4), (1, 5), (0, 6), (0, 7), (0, 8), (4, 9)] Mixed zK (Tr.move J J J (Tr.idxArr1 J J J J Y197 Sz22 3 J oM (Tr.load1 J J J Y22 J Z1 (by rfl) ?_)))))))))))))))))))))))))
 refine Tr.move J J J (Tr.idxArr1 J J J J Y197 Sz22 3 J oM (Tr.load1 J J J Y22 J Z0 (by rfl) ?_))
 refine Tr.sub_u64 J J (show evIn _ _ = some (u64 9007199254740988) from rfl) J (Tr.add_u64 J J J J (Tr.idxArr1 J J J J Y197 Sz22 3 J oM (Tr.store1 J J J J J Sz22 Z1 zW (by exact set_words _ _ _) zV ?_)))
 refine Tr.nil (bl_n (at_n (Sat.region (Tr.move J J J (Tr.add_i64 J J J J oM (Tr.assign J J J (Tr.nil (at_n (SRounds.more (Sat.seq (Sat.seq (Sat.region (Tr.move J J J (Tr.lss J J J J J (Tr.nil (at_n (Sat.cond_t J (rfl) (Sat.skip (at_n (Sat.seq (Sat.block (Sat.draw [(0, 0), (0, 1), (1, 2), (0, 3), (0, 4), (1, 5), (0, 6), (0, 7), (0, 8), (4, 9)] Mixed zK (Tr.move J J J (Tr.idxArr1 J J J J Y197 Sz22 4 J oM (Tr.load1 J J J Y22 J Z1 (by rfl) ?_)))))))))))))))))))))))))
 refine Tr.move J J J (Tr.idxArr1 J J J J Y197 Sz22 4 J oM (Tr.load1 J J J Y22 J Z0 (by rfl) ?_))
 refine Tr.sub_u64 J J (show evIn _ _ = some (u64 9007199254740988) from rfl) J (Tr.add_u64 J J J J (Tr.idxArr1 J J J J Y197 Sz22 4 J oM (Tr.store1 J J J J J Sz22 Z1 zW (by exact set_words _ _ _) zV ?_)))
 refine Tr.nil (bl_n (at_n (Sat.region (Tr.move J J J (Tr.add_i64 J J J J oM (Tr.assign J J J (Tr.nil (at_n (SRounds.more (Sat.seq (Sat.seq (Sat.region (Tr.move J J J (Tr.lss J J J J J (Tr.nil (at_n (Sat.cond_f J (rfl) (Sat.exit (at_x (at_x (bl_h (at_n (Sat.seq (Sat.region (Tr.loadAll J J J Y197 J Sz197 Z1 zW ?_)))))))))))))))))))))))))
 refine Tr.callV J J J J Body223 (field_store (subF (ldN a) (ldN b))) (fun _ _ => trivial) (Tr.storeAll J J J J zE Sz77 zF Z2 sP (by exact upd2) ?_)
 refine Tr.nil (at_n (Sat.ret (en_r ?_)))
 refine ⟨_, [], res_cell J J Y77 J Sz77 Z2 (by simp [fb_length]), sP, sP, ?_, rfl⟩
 rw [subL_fe ha hb]

theorem field_Neg (a : List UInt8) (ha : a.length = 32) : Meets Tryz.prog 176 [agg (bytesV a)] [] (fun _ => True) (fun v out => v = agg (bytesV (fb (- fe (le a)))) ∧ out = []) := by
 intro W hW
 refine calls_of (hp0 := []) Tryz.func176 J 6 Tryz.ntmps176 J (HRep.nil _) (Sat.seq (Sat.region (Tr.boxA J J ?_)))
 intro n1 hn1 hf1
 refine Tr.alloc (cs := (bytesV (List.replicate 32 0))) J Zr77 J ?_
 intro n2 hn2 hf2
 refine Tr.nil (at_n (Sat.seq (Sat.region (Tr.build (cs := bytesV (List.replicate 32 0)) J J J (fun w => by kernel_rfl) ?_))))
 refine Tr.loadAll J J J Y77 J Sz77 Z1 (by (simp [ha]; done)) ?_
 refine Tr.callV J J J J Body170 (field_Sub (List.replicate 32 0) a J ha) (fun _ _ => trivial) (Tr.storeAll J J J J zE Sz77 zF Z0 sP zU ?_)
 refine Tr.nil (at_n (Sat.ret (en_r ?_)))
 refine ⟨_, [], res_cell J J Y77 J Sz77 Z0 (by simp [fb_length]), sP, sP, ?_, rfl⟩
 rw [show fe (le (List.replicate 32 0)) - fe (le a) = - fe (le a) from by rw [show fe (le (List.replicate 32 0)) = 0 by kernel_rfl]; grind]

theorem field_Mul (a b : List UInt8) (ha : a.length = 32) (hb : b.length = 32) : Meets Tryz.prog 169 [agg (bytesV a), agg (bytesV b)] [] (fun _ => True) (fun v out => v = agg (bytesV (fb (fe (le a) * fe (le b)))) ∧ out = []) := by
 intro W hW
 refine calls_of (hp0 := []) Tryz.func169 J 13 Tryz.ntmps169 J (HRep.nil _) (Sat.seq (Sat.region (Tr.boxA J J ?_)))
 intro n2 hn2 hf2
 refine Tr.boxA J J ?_
 intro n3 hn3 hf3
 refine Tr.alloc (cs := (bytesV (List.replicate 32 0))) J Zr77 J ?_
 intro n4 hn4 hf4
 refine Tr.nil (at_n (Sat.seq (Sat.draw [(1, 0), (1, 2), (3, 1), (3, 3), (2, 4), (2, 5), (4, 6), (4, 7)] Mixed zK (Tr.loadAll J J J Y77 J Sz77 Z2 (by (simp [ha]; done)) ?_))))
 refine Tr.loadAll J J J Y77 J Sz77 Z1 (by (simp [hb]; done)) ?_
 refine Tr.callV J J J J Body221 (field_load a ha) (fun _ _ => trivial) (Tr.callV J J J J Body221 (field_load b hb) (fun _ _ => trivial) (Tr.alloc (cs := (wordsV (List.replicate 5 0))) J Zr197 J ?_))
 intro n5 hn5 hf5
 refine Tr.alloc (cs := (wordsV (List.replicate 5 0))) J Zr197 J ?_
 intro n6 hn6 hf6
 refine Tr.storeAll J J J J zB Sz197 zW Z1 sP zV ?_
 refine Tr.storeAll J J J J zB Sz197 zW Z0 sP zU ?_
 refine Tr.nil (at_n (Sat.seq (Sat.region (Tr.callV J J J J Body222 (field_product n5 n6 (ldN a) (ldN b)) (fun w h => ⟨sees_own h Z1, sees_own h Z0⟩) ?_))))
 refine Tr.callV J J J J Body223 (field_store (mulF (ldN a) (ldN b))) (fun _ _ => trivial) (Tr.storeAll J J J J zE Sz77 zF Z2 sP (by exact upd2) ?_)
 refine Tr.nil (at_n (Sat.ret (en_r ?_)))
 refine ⟨_, [], res_cell J J Y77 J Sz77 Z2 (by simp [fb_length]), sP, sP, ?_, rfl⟩
 rw [mulL_fe ha hb]

theorem field_shifted (a b c d : UInt64) : Meets Tryz.prog 246 [agg (wordsV [a, b, c, d])] [] (fun _ => True) (fun v out => v = agg (wordsV [shl64 a 1, shl64 b 1 ||| shr64 a 63, shl64 c 1 ||| shr64 b 63, shl64 d 1 ||| shr64 c 63]) ∧ out = []) := by
 intro W hW
 refine calls_of (hp0 := []) Tryz.func246 J 25 Tryz.ntmps246 J (HRep.nil _) (Sat.seq (Sat.region (Tr.boxA J J ?_)))
 intro n1 hn1 hf1
 refine Tr.alloc (cs := (wordsV (List.replicate 4 0))) J Zr156 J ?_
 intro n2 hn2 hf2
 refine Tr.nil (at_n (Sat.seq (Sat.seq (Sat.region (Tr.assign J J J (Tr.nil (at_n (Sat.block (Sat.rounds 4 (SRounds.more (Sat.seq (Sat.seq (Sat.region (Tr.move J J J (Tr.gtr J J J J J (Tr.nil (at_n (Sat.cond_t J (rfl) (Sat.skip (at_n (Sat.seq (Sat.block (Sat.draw [(0, 0), (0, 1), (0, 2), (1, 3), (0, 4), (0, 5), (0, 6), (0, 7), (1, 8), (0, 9), (0, 10), (0, 11), (4, 12)] Mixed zK (Tr.move J J J (Tr.move J J J (Tr.idxArr1 J J J J Y156 Sz22 3 J oM (Tr.load1 J J J Y22 J Z1 (by rfl) ?_)))))))))))))))))))))))))))
 refine Tr.shl_u64 J J J J 1 J dE (Tr.move J J J (Tr.sub_i64 J J J J oM (Tr.idxArr1 J J J J Y156 Sz22 2 J oM (Tr.load1 J J J Y22 J Z1 (by rfl) ?_))))
 refine Tr.shr_u64 J J J J 63 J dE (Tr.or_u64 J J J J (Tr.idxArr1 J J J J Y156 Sz22 3 J oM (Tr.store1 J J J J J Sz22 Z1 sP (by exact set_words _ _ _) zV ?_)))
 refine Tr.nil (bl_n (at_n (Sat.region (Tr.move J J J (Tr.sub_i64 J J J J oM (Tr.assign J J J (Tr.nil (at_n (SRounds.more (Sat.seq (Sat.seq (Sat.region (Tr.move J J J (Tr.gtr J J J J J (Tr.nil (at_n (Sat.cond_t J (rfl) (Sat.skip (at_n (Sat.seq (Sat.block (Sat.draw [(0, 0), (0, 1), (0, 2), (1, 3), (0, 4), (0, 5), (0, 6), (0, 7), (1, 8), (0, 9), (0, 10), (0, 11), (4, 12)] Mixed zK (Tr.move J J J (Tr.move J J J (Tr.idxArr1 J J J J Y156 Sz22 2 J oM (Tr.load1 J J J Y22 J Z1 (by rfl) ?_))))))))))))))))))))))))))
 refine Tr.shl_u64 J J J J 1 J dE (Tr.move J J J (Tr.sub_i64 J J J J oM (Tr.idxArr1 J J J J Y156 Sz22 1 J oM (Tr.load1 J J J Y22 J Z1 (by rfl) ?_))))
 refine Tr.shr_u64 J J J J 63 J dE (Tr.or_u64 J J J J (Tr.idxArr1 J J J J Y156 Sz22 2 J oM (Tr.store1 J J J J J Sz22 Z1 sP (by exact set_words _ _ _) zV ?_)))
 refine Tr.nil (bl_n (at_n (Sat.region (Tr.move J J J (Tr.sub_i64 J J J J oM (Tr.assign J J J (Tr.nil (at_n (SRounds.more (Sat.seq (Sat.seq (Sat.region (Tr.move J J J (Tr.gtr J J J J J (Tr.nil (at_n (Sat.cond_t J (rfl) (Sat.skip (at_n (Sat.seq (Sat.block (Sat.draw [(0, 0), (0, 1), (0, 2), (1, 3), (0, 4), (0, 5), (0, 6), (0, 7), (1, 8), (0, 9), (0, 10), (0, 11), (4, 12)] Mixed zK (Tr.move J J J (Tr.move J J J (Tr.idxArr1 J J J J Y156 Sz22 1 J oM (Tr.load1 J J J Y22 J Z1 (by rfl) ?_))))))))))))))))))))))))))
 refine Tr.shl_u64 J J J J 1 J dE (Tr.move J J J (Tr.sub_i64 J J J J oM (Tr.idxArr1 J J J J Y156 Sz22 0 J oM (Tr.load1 J J J Y22 J Z1 (by rfl) ?_))))
 refine Tr.shr_u64 J J J J 63 J dE (Tr.or_u64 J J J J (Tr.idxArr1 J J J J Y156 Sz22 1 J oM (Tr.store1 J J J J J Sz22 Z1 sP (by exact set_words _ _ _) zV ?_)))
 refine Tr.nil (bl_n (at_n (Sat.region (Tr.move J J J (Tr.sub_i64 J J J J oM (Tr.assign J J J (Tr.nil (at_n (SRounds.more (Sat.seq (Sat.seq (Sat.region (Tr.move J J J (Tr.gtr J J J J J (Tr.nil (at_n (Sat.cond_f J (rfl) (Sat.exit (at_x (at_x (bl_h (at_n (Sat.seq (Sat.region (Tr.idxArr1 J J J J Y156 Sz22 0 J dE (Tr.load1 J J J Y22 J Z1 (by rfl) ?_))))))))))))))))))))))))))
 refine Tr.shl_u64 J J J J 1 J dE (Tr.idxArr1 J J J J Y156 Sz22 0 J dE (Tr.store1 J J J J J Sz22 Z1 sP (by exact set_words _ _ _) zV ?_))
 refine Tr.nil (at_n (Sat.seq (Sat.region (Tr.loadAll J J J Y156 J Sz156 Z1 sP ?_))))
 refine Tr.storeAll J J J J zB Sz156 sP Z0 sP zU ?_
 refine Tr.nil (at_n (Sat.ret (en_r ?_)))
 refine ⟨_, [], res_cell J J Y156 J Sz156 Z0 sP, sP, sP, ?_, rfl⟩
 rfl

theorem field_ones (f l : UInt8) : Meets Tryz.prog 226 [u8 f, u8 l] [] (fun _ => True) (fun v out => v = agg (bytesV (onesB f l)) ∧ out = []) := by
 intro W hW
 refine calls_of (hp0 := []) Tryz.func226 J 18 Tryz.ntmps226 J (HRep.nil _) (Sat.seq (Sat.region (Tr.alloc (cs := (bytesV (List.replicate 32 0))) J Zr77 J ?_)))
 intro n4 hn4 hf4
 refine Tr.nil (at_n (Sat.seq (Sat.region (Tr.alloc (cs := (bytesV (List.replicate 32 0))) J Zr77 J ?_))))
 intro n5 hn5 hf5
 refine Tr.nil (at_n (Sat.seq (Sat.seq (Sat.region (Tr.move J J J (Tr.nil (at_n (Sat.block (Sat.loop (ι := Nat) (fun k => ⟨[(0, u8 f), (1, u8 l), (4, ptr n4 0), (5, ptr n5 0), (7, i64 (k : Int))], [⟨n5, bytesV (List.replicate k 255 ++ List.replicate (32 - k) 0), 77, 32⟩, ⟨n4, bytesV (List.replicate 32 0), 77, 32⟩]⟩) (fun k => k ≤ 32) (fun k => 32 - k) (0) ?_ ?_ ?_)))))))))
 · omega
 · exact weak_of (wk1 rfl (wk1 rfl (wk1 rfl (wk1 rfl (wk1 rfl wk0))))) (wh1 Z0 (wh1 Z1 wh0)) nD
 ·
  rintro k hi
  refine Sat.seq (Sat.region (Tr.lss J J J J J (Tr.nil (at_n (Sat.seq (Sat.condP J (fun hc0 => ?_) (fun hc0 => ?_)))))))
  ·
   have hk2 : k < 32 := by omega
   refine Sat.skip (at_n (Sat.seq (Sat.block (Sat.seq (Sat.region (Tr.move J J J (Tr.assign J J J (Tr.nil (at_n (Sat.region (Tr.move J J J (Tr.idxArr1 J J J J Y77 Sz5 _ J oM (Tr.store1 J J J (show evIn _ _ = some (u8 255) from rfl) J Sz5 Z0 (by (simp; omega)) (by exact set_bytes _ _ _) zU ?_)))))))))))))
   refine Tr.nil (bl_n (at_n (Sat.region (Tr.add_i64 J J J J oM (Tr.move J J J (Tr.nil (at_n ?_)))))))
   exact ⟨k + 1, by omega, by omega, weak_of (wk1 rfl (wk1 rfl (wk1 rfl (wk1 rfl (wk1 rfl wk0))))) (wh1 (by rw [← ones_step hk2]; exact mem0) (wh1 Z1 wh0)) nD⟩
  ·
   obtain rfl : k = 32 := by omega
   rw [show ((List.replicate 32 255 ++ List.replicate (32 - 32) 0) : List UInt8) = List.replicate 32 255 from rfl]
   refine Sat.exit (at_x (at_x (bl_h (at_n (Sat.seq (Sat.region (Tr.move J J J (Tr.move J J J (Tr.idxArr1 J J J J Y77 Sz5 0 J dE (Tr.store1 J J J J J Sz5 Z0 sP (by exact set_bytes _ _ _) zU ?_))))))))))
   refine Tr.idxArr1 J J J J Y77 Sz5 31 J dE (Tr.store1 J J J J J Sz5 Z0 sP (by exact set_bytes _ _ _) zU ?_)
   refine Tr.nil (at_n (Sat.seq (Sat.region (Tr.loadAll J J J Y77 J Sz77 Z0 sP ?_))))
   refine Tr.storeAll J J J J zE Sz77 sP Z1 sP zV ?_
   refine Tr.nil (at_n (Sat.ret (en_r ?_)))
   refine ⟨_, [], res_cell J J Y77 J Sz77 Z1 sP, sP, sP, ?_, rfl⟩
   rfl

theorem field_Pow (a e : List UInt8) (ha : a.length = 32) (he : e.length = 32) : Meets Tryz.prog 225 [agg (bytesV a), agg (bytesV e)] [] (fun _ => True) (fun v out => v = agg (bytesV (fb (fpow (fe (le a)) (le e)))) ∧ out = []) := by
 intro W hW
 have hE : le e < 2 ^ 256 := le32 he
 have hXf : (ldN a).fit := (ldN_lt a).fit
 have hXv : fe (ldN a).v = fe (le a) := by rw [ldN_v ha]
 refine calls_of (hp0 := []) Tryz.func225 J 26 Tryz.ntmps225 J (HRep.nil _) (Sat.seq (Sat.region (Tr.boxA J J ?_)))
 intro n2 hn2 hf2
 refine Tr.boxA J J ?_
 intro n3 hn3 hf3
 refine Tr.alloc (cs := (bytesV (List.replicate 32 0))) J Zr77 J ?_
 intro n4 hn4 hf4
 refine Tr.nil (at_n (Sat.seq (Sat.draw [(1, 0), (1, 2), (0, 4), (3, 1), (3, 3), (2, 5), (2, 6), (2, 7), (4, 8), (4, 9), (4, 10)] Mixed zK (Tr.loadAll J J J Y77 J Sz77 Z2 (by (simp [ha]; done)) ?_))))
 refine Tr.loadAll J J J Y77 J Sz77 Z1 (by (simp [he]; done)) ?_
 refine Tr.build (cs := wordsV (⟨1, 0, 0, 0, 0⟩ : W5).l) J J J (fun w => by kernel_rfl) ?_
 refine Tr.callV J J J J Body221 (field_load a ha) (fun _ _ => trivial) (Tr.callV J J J J Body242 (field_quarters e he) (fun _ _ => trivial) (Tr.alloc (cs := (wordsV (List.replicate 5 0))) J Zr197 J ?_))
 intro n5 hn5 hf5
 refine Tr.alloc (cs := (wordsV (List.replicate 4 0))) J Zr156 J ?_
 intro n6 hn6 hf6
 refine Tr.alloc (cs := (wordsV (List.replicate 5 0))) J Zr197 J ?_
 intro n7 hn7 hf7
 refine Tr.storeAll J J J J zB Sz197 zW Z2 sP (by exact upd2) ?_
 refine Tr.storeAll J J J J zB Sz156 sP Z1 sP zV ?_
 refine Tr.storeAll J J J J zB Sz197 zW Z0 sP zU ?_
 refine Tr.nil (at_n (Sat.seq (Sat.seq (Sat.region (Tr.move J J J (Tr.nil (at_n (Sat.block (Sat.loop (ι := PowS) (fun s => ⟨[(4, ptr n4 0), (5, ptr n5 0), (6, ptr n6 0), (7, ptr n7 0), (13, i64 (s.k : Int))], [⟨n7, wordsV s.p.l, 197, 5⟩, ⟨n6, wordsV [s.a, s.b, s.c, s.d], 156, 4⟩, ⟨n5, wordsV (ldN a).l, 197, 5⟩, ⟨n4, bytesV (List.replicate 32 0), 77, 32⟩]⟩) (fun s => PowI (le e) (fe (le a)) s.k s.p s.a s.b s.c s.d) (fun s => 256 - s.k) (⟨0, ⟨1, 0, 0, 0, 0⟩, qw e 0, qw e 1, qw e 2, qw e 3⟩) ?_ ?_ ?_)))))))))
 · exact PowI.first he _
 · exact weak_of (wk1 rfl (wk1 rfl (wk1 rfl (wk1 rfl (wk1 rfl wk0))))) (wh1 Z0 (wh1 Z1 (wh1 Z2 (wh1 Z3 wh0)))) nD
 ·
  rintro s hs
  have hsl := hs.le
  refine Sat.seq (Sat.region (Tr.lss J J J J J (Tr.nil (at_n (Sat.seq (Sat.condP J (fun hc0 => ?_) (fun hc0 => ?_)))))))
  ·
   have hk2 : s.k < 256 := by omega
   refine Sat.skip (at_n (Sat.seq (Sat.block (Sat.seq (Sat.region (Tr.callV J J J J Body222 (field_product n7 n7 s.p s.p) (fun w h => ⟨sees_own h Z0, sees_own h Z0⟩) ?_))))))
   refine Tr.storeAll J J J J zB Sz197 zW Z0 zW zU ?_
   refine Tr.nil (at_n (Sat.join (ι := W5) (fun u => ⟨[(4, ptr n4 0), (5, ptr n5 0), (6, ptr n6 0), (7, ptr n7 0), (13, i64 (s.k : Int))], [⟨n7, wordsV u.l, 197, 5⟩, ⟨n6, wordsV [s.a, s.b, s.c, s.d], 156, 4⟩, ⟨n5, wordsV (ldN a).l, 197, 5⟩, ⟨n4, bytesV (List.replicate 32 0), 77, 32⟩]⟩) (fun u => PowI (le e) (fe (le a)) (s.k + 1) u (shl64 s.a 1) (shl64 s.b 1 ||| shr64 s.a 63) (shl64 s.c 1 ||| shr64 s.b 63) (shl64 s.d 1 ||| shr64 s.c 63)) ?_ ?_))
   ·
    refine Sat.seq (Sat.region (Tr.idxArr1 J J J J Y156 Sz22 3 J dE (Tr.load1 J J J Y22 J Z1 (by rfl) ?_)))
    refine Tr.shr_u64 J J J J 63 J dE (Tr.eqi J J J J J (Tr.nil (at_n (Sat.condP J (fun hc1 => ?_) (fun hc1 => ?_)))))
    ·
     have hb1 : (shr64 s.d 63).toNat = 1 := by omega
     refine Sat.region (Tr.callV J J J J Body222 (field_product n7 n5 (mulF s.p s.p) (ldN a)) (fun w h => ⟨sees_own h Z0, sees_own h Z2⟩) ?_)
     refine Tr.storeAll J J J J zB Sz197 zW Z0 zW zU ?_
     refine Tr.nil (at_n ?_)
     exact ⟨mulF (mulF s.p s.p) (ldN a), hs.odd hE hk2 hXf hXv hb1, weak_of (wk1 rfl (wk1 rfl (wk1 rfl (wk1 rfl (wk1 rfl wk0))))) (wh1 Z0 (wh1 Z1 (wh1 Z2 (wh1 Z3 wh0)))) nD⟩
    ·
     have hb1 : ¬ (shr64 s.d 63).toNat = 1 := by omega
     refine Sat.skip (at_n ?_)
     exact ⟨mulF s.p s.p, hs.even hE hk2 hb1, weak_of (wk1 rfl (wk1 rfl (wk1 rfl (wk1 rfl (wk1 rfl wk0))))) (wh1 Z0 (wh1 Z1 (wh1 Z2 (wh1 Z3 wh0)))) nD⟩
   ·
    intro u hj
    have hu := hj
    refine Sat.region (Tr.loadAll J J J Y156 J Sz156 Z1 sP ?_)
    refine Tr.callV J J J J Body246 (field_shifted s.a s.b s.c s.d) (fun _ _ => trivial) (Tr.storeAll J J J J zB Sz156 sP Z1 sP zV ?_)
    refine Tr.nil (bl_n (at_n (Sat.region (Tr.add_i64 J J J J oM (Tr.move J J J (Tr.nil (at_n ?_)))))))
    exact ⟨⟨s.k + 1, u, _, _, _, _⟩, hu, by simp only []; omega, weak_of (wk1 rfl (wk1 rfl (wk1 rfl (wk1 rfl (wk1 rfl wk0))))) (wh1 Z0 (wh1 Z1 (wh1 Z2 (wh1 Z3 wh0)))) nD⟩
  ·
   have hke : s.k = 256 := by omega
   have hfin : fe s.p.v = fpow (fe (le a)) (le e) := by rw [hke] at hs; exact hs.last
   refine Sat.exit (at_x (at_x (bl_h (at_n (Sat.seq (Sat.region (Tr.loadAll J J J Y197 J Sz197 Z0 zW ?_)))))))
   refine Tr.callV J J J J Body223 (field_store s.p) (fun _ _ => trivial) (Tr.storeAll J J J J zE Sz77 zF Z3 sP (by exact upd3) ?_)
   refine Tr.nil (at_n (Sat.ret (en_r ?_)))
   refine ⟨_, [], res_cell J J Y77 J Sz77 Z3 (by simp [fb_length]), sP, sP, ?_, rfl⟩
   rw [hfin]

theorem field_Inv (a : List UInt8) (ha : a.length = 32) : Meets Tryz.prog 175 [agg (bytesV a)] [] (fun _ => True) (fun v out => v = agg (bytesV (fb (finv (fe (le a))))) ∧ out = []) := by
 intro W hW
 refine calls_of (hp0 := []) Tryz.func175 J 6 Tryz.ntmps175 J (HRep.nil _) (Sat.seq (Sat.region (Tr.boxA J J ?_)))
 intro n1 hn1 hf1
 refine Tr.alloc (cs := (bytesV (List.replicate 32 0))) J Zr77 J ?_
 intro n2 hn2 hf2
 refine Tr.nil (at_n (Sat.seq (Sat.draw [(1, 0), (3, 1), (3, 2), (4, 3)] Mixed zK (Tr.loadAll J J J Y77 J Sz77 Z1 (by (simp [ha]; done)) ?_))))
 refine Tr.callV J J J J Body226 (field_ones 235 127) (fun _ _ => trivial) (Tr.callV J J J J Body225 (field_Pow a (onesB 235 127) ha (onesB_length _ _)) (fun _ _ => trivial) (Tr.storeAll J J J J zE Sz77 zF Z0 sP zU ?_))
 refine Tr.nil (at_n (Sat.ret (en_r ?_)))
 refine ⟨_, [], res_cell J J Y77 J Sz77 Z0 (by simp [fb_length]), sP, sP, ?_, rfl⟩
 rw [ones_inv]; rfl

end Go.Proofs.YtpacobmjjjillaaGreat
end

section
namespace Go.Proofs.YtpacobmjjjillaaGreat
open Go Hw
set_option linter.unusedVariables false
set_option linter.unusedSimpArgs false

open Ed

theorem f_mul (x y : Fp) : Meets Tryz.prog 169 [agg (bytesV (fb x)), agg (bytesV (fb y))] [] (fun _ => True) (fun v out => v = agg (bytesV (fb (x * y))) ∧ out = []) := by
  have h := field_Mul (fb x) (fb y) (fb_length x) (fb_length y)
  rwa [fe_fb x, fe_fb y] at h

theorem f_add (x y : Fp) : Meets Tryz.prog 172 [agg (bytesV (fb x)), agg (bytesV (fb y))] [] (fun _ => True) (fun v out => v = agg (bytesV (fb (x + y))) ∧ out = []) := by
  have h := field_Add (fb x) (fb y) (fb_length x) (fb_length y)
  rwa [fe_fb x, fe_fb y] at h

theorem f_sub (x y : Fp) : Meets Tryz.prog 170 [agg (bytesV (fb x)), agg (bytesV (fb y))] [] (fun _ => True) (fun v out => v = agg (bytesV (fb (x - y))) ∧ out = []) := by
  have h := field_Sub (fb x) (fb y) (fb_length x) (fb_length y)
  rwa [fe_fb x, fe_fb y] at h

theorem f_neg (x : Fp) : Meets Tryz.prog 176 [agg (bytesV (fb x))] [] (fun _ => True) (fun v out => v = agg (bytesV (fb (-x))) ∧ out = []) := by
  have h := field_Neg (fb x) (fb_length x)
  rwa [fe_fb x] at h

theorem f_inv (x : Fp) : Meets Tryz.prog 175 [agg (bytesV (fb x))] [] (fun _ => True) (fun v out => v = agg (bytesV (fb (finv x))) ∧ out = []) := by
  have h := field_Inv (fb x) (fb_length x)
  rwa [fe_fb x] at h

theorem f_odd (x : Fp) : Meets Tryz.prog 215 [agg (bytesV (fb x))] [] (fun _ => True) (fun v out => v = .bool (decide (x.val % 2 = 1)) ∧ out = []) := by
  have h := field_Odd (fb x) (fb_length x)
  rwa [fe_fb x] at h

theorem f_same_raw (x : Fp) (a : List UInt8) (ha : a.length = 32) : Meets Tryz.prog 227 [agg (bytesV (fb x)), agg (bytesV a)] [] (fun _ => True) (fun v out => v = .bool (decide (x = fe (le a))) ∧ out = []) := by
  have h := field_Same (fb x) a (fb_length x) ha
  rwa [fe_fb x] at h
theorem f_pow_root (a : List UInt8) (ha : a.length = 32) : Meets Tryz.prog 225 [agg (bytesV a), agg (bytesV (onesB 254 15))] [] (fun _ => True) (fun v out => v = agg (bytesV (fb (fpow (fe (le a)) ((PF + 3) / 8)))) ∧ out = []) := by
  have h := field_Pow a (onesB 254 15) ha (onesB_length _ _)
  rwa [ones_root] at h
theorem f_pow_unit : Meets Tryz.prog 225 [agg (bytesV (fb (fe (2 : UInt64).toNat))), agg (bytesV (onesB 251 31))] [] (fun _ => True) (fun v out => v = agg (bytesV (fb (fpow (fe 2) ((PF - 1) / 4)))) ∧ out = []) := by
  have h := field_Pow (fb (fe (2 : UInt64).toNat)) (onesB 251 31) (fb_length _) (onesB_length _ _)
  rwa [ones_unit, fe_fb] at h
theorem f_one : Meets Tryz.prog 171 [u64 1] [] (fun _ => True) (fun v out => v = agg (bytesV (fb 1)) ∧ out = []) := by
  have h := field_Of 1
  rwa [show fe (1 : UInt64).toNat = 1 from rfl] at h

theorem field_Root (a : List UInt8) (X : Fp) (ha : a.length = 32) (hX : fe (le a) = X) : Meets Tryz.prog 174 [agg (bytesV a)] [] (fun _ => True) (fun v out => v = .tuple #[agg (bytesV (fb (fRoot X).1)), .bool (fRoot X).2] ∧ out = []) := by
 intro W hW
 obtain ⟨r0, hr0⟩ : ∃ r, fpow X ((PF + 3) / 8) = r := ⟨_, rfl⟩
 obtain ⟨un, hun⟩ : ∃ r, fpow (fe 2) ((PF - 1) / 4) = r := ⟨_, rfl⟩
 obtain ⟨r1, hr1⟩ : ∃ r, fRoot1 X = r := ⟨_, rfl⟩
 have hp0 := f_pow_root a ha
 have hpu := f_pow_unit
 rw [hX, hr0] at hp0
 rw [hun] at hpu
 have hm := fun y => f_same_raw y a ha
 rw [hX] at hm
 have hr1' : r1 = if r0 * r0 = X then r0 else r0 * un := by rw [← hr1, fRoot1, hr0, hun]
 have hR : fRoot X = if r1 * r1 = X then ((if r1.val % 2 = 1 then -r1 else r1), true) else (0, false) := by rw [fRoot, hr1]
 clear hr1
 refine calls_of (hp0 := []) Tryz.func174 J 31 Tryz.ntmps174 J (HRep.nil _) (Sat.seq (Sat.region (Tr.boxA J J ?_)))
 intro n1 hn1 hf1
 refine Tr.alloc (cs := (bytesV (List.replicate 32 0))) J Zr77 J ?_
 intro n2 hn2 hf2
 refine Tr.assign J J J (Tr.nil (at_n (Sat.seq (Sat.draw [(1, 0), (3, 1), (3, 2), (2, 3), (4, 4)] Mixed zK (Tr.loadAll J J J Y77 J Sz77 Z1 (by (simp [ha]; done)) ?_)))))
 refine Tr.callV J J J J Body226 (field_ones 254 15) (fun _ _ => trivial) (Tr.callV J J J J Body225 (hp0) (fun _ _ => trivial) (Tr.alloc (cs := (bytesV (List.replicate 32 0))) J Zr77 J ?_))
 intro n4 hn4 hf4
 refine Tr.storeAll J J J J zE Sz77 zF Z0 sP zU ?_
 refine Tr.nil (at_n (Sat.join (ι := Unit) (fun _u => ⟨[(1, ptr n1 0), (2, ptr n2 0), (4, ptr n4 0)], [⟨n4, bytesV (fb r1), 77, 32⟩, ⟨n2, bytesV (List.replicate 32 0), 77, 32⟩, ⟨n1, bytesV a, 77, (bytesV a).length⟩]⟩) (fun _u => True) ?_ ?_))
 ·
  refine Sat.seq (Sat.draw [(1, 0), (1, 1), (1, 3), (3, 2), (3, 4), (0, 5)] Mixed zK (Tr.loadAll J J J Y77 J Sz77 Z0 zF ?_))
  refine Tr.loadAll J J J Y77 J Sz77 Z0 zF ?_
  refine Tr.loadAll J J J Y77 J Sz77 Z2 (by (simp [ha]; done)) ?_
  refine Tr.callV J J J J Body169 (f_mul r0 r0) (fun _ _ => trivial) (Tr.callV J J J J Body227 (hm (r0 * r0)) (fun _ _ => trivial) (Tr.not J J J (Tr.nil (at_n (Sat.condNP J (fun hc0 => ?_) (fun hc0 => ?_))))))
  ·
   refine Sat.draw [(1, 0), (3, 1), (3, 2), (3, 3), (3, 4), (4, 5)] Mixed zK (Tr.loadAll J J J Y77 J Sz77 Z0 zF ?_)
   refine Tr.callV J J J J Body171 (field_Of 2) (fun _ _ => trivial) (Tr.callV J J J J Body226 (field_ones 251 31) (fun _ _ => trivial) (Tr.callV J J J J Body225 (hpu) (fun _ _ => trivial) (Tr.callV J J J J Body169 (f_mul r0 un) (fun _ _ => trivial) (Tr.storeAll J J J J zE Sz77 zF Z0 zF zU ?_))))
   refine Tr.nil (at_n ?_)
   (rw [hr1', if_neg hc0]; exact ⟨(), trivial, weak_of (wk1 rfl (wk1 rfl (wk1 rfl wk0))) (wh1 Z0 (wh1 Z1 (wh1 Z2 wh0))) nD⟩)
  ·
   refine Sat.skip (at_n ?_)
   (rw [hr1', if_pos hc0]; exact ⟨(), trivial, weak_of (wk1 rfl (wk1 rfl (wk1 rfl wk0))) (wh1 Z0 (wh1 Z1 (wh1 Z2 wh0))) nD⟩)
 ·
  intro _u hj
  skip
  refine Sat.seq (Sat.seq (Sat.draw [(1, 0), (1, 1), (1, 3), (3, 2), (3, 4), (0, 5)] Mixed zK (Tr.loadAll J J J Y77 J Sz77 Z0 zF ?_)))
  refine Tr.loadAll J J J Y77 J Sz77 Z0 zF ?_
  refine Tr.loadAll J J J Y77 J Sz77 Z2 (by (simp [ha]; done)) ?_
  refine Tr.callV J J J J Body169 (f_mul r1 r1) (fun _ _ => trivial) (Tr.callV J J J J Body227 (hm (r1 * r1)) (fun _ _ => trivial) (Tr.not J J J (Tr.nil (at_n (Sat.condNP J (fun hc1 => ?_) (fun hc1 => ?_))))))
  ·
   refine Sat.seq (Sat.region (Tr.build (cs := bytesV (List.replicate 32 0)) J J J (fun w => by kernel_rfl) ?_))
   refine Tr.storeAll J J J J zE Sz77 sP Z1 sP zV ?_
   refine Tr.assign J J J (Tr.nil (at_n (Sat.ret (at_r (en_r ?_)))))
   refine ⟨_, [], res_cell_tmp J J J Y77 J Sz77 Z1 sP, sP, sP, ?_, rfl⟩
   (rw [hR, if_neg hc1, fb_zero]; done)
  ·
   refine Sat.skip (at_n (Sat.join (ι := Unit) (fun _u => ⟨[(2, ptr n2 0), (4, ptr n4 0)], [⟨n4, bytesV (fb (if r1.val % 2 = 1 then -r1 else r1)), 77, 32⟩, ⟨n2, bytesV (List.replicate 32 0), 77, 32⟩]⟩) (fun _u => True) ?_ ?_))
   ·
    refine Sat.seq (Sat.region (Tr.loadAll J J J Y77 J Sz77 Z0 zF ?_))
    refine Tr.callV J J J J Body215 (f_odd r1) (fun _ _ => trivial) (Tr.nil (at_n (Sat.condP J (fun hc2 => ?_) (fun hc2 => ?_))))
    ·
     refine Sat.region (Tr.loadAll J J J Y77 J Sz77 Z0 zF ?_)
     refine Tr.callV J J J J Body176 (f_neg r1) (fun _ _ => trivial) (Tr.storeAll J J J J zE Sz77 zF Z0 zF zU ?_)
     refine Tr.nil (at_n ?_)
     (rw [if_pos hc2]; exact ⟨(), trivial, weak_of (wk1 rfl (wk1 rfl wk0)) (wh1 Z0 (wh1 Z1 wh0)) nD⟩)
    ·
     refine Sat.skip (at_n ?_)
     (rw [if_neg hc2]; exact ⟨(), trivial, weak_of (wk1 rfl (wk1 rfl wk0)) (wh1 Z0 (wh1 Z1 wh0)) nD⟩)
   ·
    intro _u hj
    skip
    refine Sat.seq (Sat.region (Tr.loadAll J J J Y77 J Sz77 Z0 zF ?_))
    refine Tr.storeAll J J J J zE Sz77 zF Z1 sP zV ?_
    refine Tr.assign J J J (Tr.nil (at_n (Sat.ret (en_r ?_))))
    refine ⟨_, [], res_cell_tmp J J J Y77 J Sz77 Z1 (by simp [fb_length]), sP, sP, ?_, rfl⟩
    (rw [hR, if_pos hc1]; done)

end Go.Proofs.YtpacobmjjjillaaGreat
end

section
namespace Ed
open Hw Go
set_option linter.unusedVariables false

theorem fb32 (x : Fp) : (fb x).length = 32 := fb_length x
/-- the bytes of a point -/
def pb (P : Pt Fp) : List UInt8 := if P.x.val % 2 = 1 then (fb P.y).set 31 ((fb P.y).getD 31 0 ||| 128) else fb P.y
theorem pb_length (P : Pt Fp) : (pb P).length = 32 := by
  unfold pb
  split
  · rw [List.length_set, fb_length]
  · exact fb_length _
def topB (b : List UInt8) : Bool := !decide (((b.getD 31 0 &&& 128).toNat : Int) = 0)
def lowB (b : List UInt8) : List UInt8 := b.set 31 (b.getD 31 0 &&& 127)
theorem lowB_length {b : List UInt8} (h : b.length = 32) : (lowB b).length = 32 := by rw [lowB, List.length_set, h]
/-- the X of a Y, and whether there is one -/
def xOf (Y : Fp) : Fp × Bool := fRoot ((Y * Y - 1) * finv (fD * (Y * Y) + 1))
def rdP (b : List UInt8) : Option (Pt Fp) :=
  if fb (fe (le (lowB b))) = lowB b then
    (if (xOf (fe (le (lowB b)))).2 = true ∧ ¬ (topB b = true ∧ (xOf (fe (le (lowB b)))).1 = 0) then
      some ⟨if topB b = true then - (xOf (fe (le (lowB b)))).1 else (xOf (fe (le (lowB b)))).1, fe (le (lowB b))⟩
    else none)
  else none
theorem fRoot_sq {X : Fp} (h : (fRoot X).2 = true) : (fRoot X).1 * (fRoot X).1 = X := by
  unfold fRoot at h ⊢
  by_cases h1 : fRoot1 X * fRoot1 X = X
  · rw [if_pos h1]
    simp only
    split
    · rw [sq_neg, h1]
    · exact h1
  · rw [if_neg h1] at h; cases h
theorem xOf_on {Y : Fp} (h : (xOf Y).2 = true) : cv.on ⟨(xOf Y).1, Y⟩ :=
  cv.on_read (finv_mul (cv.below_ne Y)) (fRoot_sq h)
theorem neg_mk (x y : Fp) : neg ⟨x, y⟩ = ⟨-x, y⟩ := rfl
theorem rdP_on {b : List UInt8} {P : Pt Fp} (h : rdP b = some P) : cv.on P := by
  unfold rdP at h
  split at h
  · split at h
    · rename_i h1 h2
      simp only [Option.some.injEq] at h
      subst h
      have := xOf_on h2.1
      split
      · have h3 := cv.on_neg this
        rw [neg_mk] at h3
        exact h3
      · exact this
    · cases h
  · cases h
/-- what Check says of a point's numbers -/
def pchk (x y : List UInt8) : Int := if fb (fe (le x)) = x ∧ fb (fe (le y)) = y ∧ fe (le y) * fe (le y) - fe (le x) * fe (le x) = 1 + fD * (fe (le x) * fe (le x) * (fe (le y) * fe (le y))) then 0 else 2
theorem pchk_on {P : Pt Fp} (h : cv.on P) : pchk (fb P.x) (fb P.y) = 0 := by
  have h1 := (cv.on_iff P).1 h
  unfold pchk
  rw [fe_fb, fe_fb]
  exact if_pos (And.intro (Eq.refl (fb P.x)) (And.intro (Eq.refl (fb P.y)) h1))
/-- the base point -/
def bX : List UInt8 := [26, 213, 37, 143, 96, 45, 86, 201, 178, 167, 37, 149, 96, 199, 44, 105, 92, 220, 214, 253, 49, 226, 164, 192, 254, 83, 110, 205, 211, 54, 105, 33]
def bY : List UInt8 := (List.replicate 32 102).set 0 88
def bP : Pt Fp := ⟨fe (le bX), fe (le bY)⟩
theorem bP_x : fb bP.x = bX := by kernel_rfl
theorem bP_y : fb bP.y = bY := by kernel_rfl
theorem bP_on : cv.on bP := by
  show bP.y * bP.y - bP.x * bP.x = 1 + fD * bP.x * bP.x * bP.y * bP.y
  kernel_rfl
theorem lin_step (a b j : Nat) (hj : j < 256) {P Q : Pt Fp} (hP : cv.on P) (hQ : cv.on Q) : cv.lin (a / 2 ^ (256 - (j + 1))) (b / 2 ^ (256 - (j + 1))) P Q =
    (if a.testBit (255 - j) then (if b.testBit (255 - j) then cv.add (cv.add (cv.lin (a / 2 ^ (256 - j)) (b / 2 ^ (256 - j)) P Q) (cv.lin (a / 2 ^ (256 - j)) (b / 2 ^ (256 - j)) P Q)) (cv.add P Q) else cv.add (cv.add (cv.lin (a / 2 ^ (256 - j)) (b / 2 ^ (256 - j)) P Q) (cv.lin (a / 2 ^ (256 - j)) (b / 2 ^ (256 - j)) P Q)) P)
     else (if b.testBit (255 - j) then cv.add (cv.add (cv.lin (a / 2 ^ (256 - j)) (b / 2 ^ (256 - j)) P Q) (cv.lin (a / 2 ^ (256 - j)) (b / 2 ^ (256 - j)) P Q)) Q else cv.add (cv.lin (a / 2 ^ (256 - j)) (b / 2 ^ (256 - j)) P Q) (cv.lin (a / 2 ^ (256 - j)) (b / 2 ^ (256 - j)) P Q))) := by
  have ha := next_div a j hj
  have hb := next_div b j hj
  rw [ha, hb]
  have e : ∀ n : Nat, n.testBit (255 - j) = decide (n / 2 ^ (255 - j) % 2 = 1) := fun n => Nat.testBit_eq_decide_div_mod_eq
  rw [e a, e b]
  rw [← cv.lin_two hP hQ]
  generalize a / 2 ^ (256 - j) = A
  generalize b / 2 ^ (256 - j) = B
  have h1 : a / 2 ^ (255 - j) % 2 = 0 ∨ a / 2 ^ (255 - j) % 2 = 1 := by omega
  have h2 : b / 2 ^ (255 - j) % 2 = 0 ∨ b / 2 ^ (255 - j) % 2 = 1 := by omega
  rcases h1 with h1 | h1 <;> rcases h2 with h2 | h2 <;> rw [h1, h2]
  · rfl
  · exact cv.lin_right hP hQ _ _
  · exact cv.lin_left hP hQ _ _
  · exact cv.lin_both hP hQ _ _
theorem lin_tt {a b j : Nat} (hj : j < 256) {P Q : Pt Fp} (hP : cv.on P) (hQ : cv.on Q) (h1 : a.testBit (255 - j) = true) (h2 : b.testBit (255 - j) = true) : cv.lin (a / 2 ^ (256 - (j + 1))) (b / 2 ^ (256 - (j + 1))) P Q = cv.add (cv.add (cv.lin (a / 2 ^ (256 - j)) (b / 2 ^ (256 - j)) P Q) (cv.lin (a / 2 ^ (256 - j)) (b / 2 ^ (256 - j)) P Q)) (cv.add P Q) := by
  rw [lin_step a b j hj hP hQ, h1, h2]; rfl
theorem lin_tf {a b j : Nat} (hj : j < 256) {P Q : Pt Fp} (hP : cv.on P) (hQ : cv.on Q) (h1 : a.testBit (255 - j) = true) (h2 : b.testBit (255 - j) = false) : cv.lin (a / 2 ^ (256 - (j + 1))) (b / 2 ^ (256 - (j + 1))) P Q = cv.add (cv.add (cv.lin (a / 2 ^ (256 - j)) (b / 2 ^ (256 - j)) P Q) (cv.lin (a / 2 ^ (256 - j)) (b / 2 ^ (256 - j)) P Q)) P := by
  rw [lin_step a b j hj hP hQ, h1, h2]; rfl
theorem lin_ft {a b j : Nat} (hj : j < 256) {P Q : Pt Fp} (hP : cv.on P) (hQ : cv.on Q) (h1 : a.testBit (255 - j) = false) (h2 : b.testBit (255 - j) = true) : cv.lin (a / 2 ^ (256 - (j + 1))) (b / 2 ^ (256 - (j + 1))) P Q = cv.add (cv.add (cv.lin (a / 2 ^ (256 - j)) (b / 2 ^ (256 - j)) P Q) (cv.lin (a / 2 ^ (256 - j)) (b / 2 ^ (256 - j)) P Q)) Q := by
  rw [lin_step a b j hj hP hQ, h1, h2]; rfl
theorem lin_ff {a b j : Nat} (hj : j < 256) {P Q : Pt Fp} (hP : cv.on P) (hQ : cv.on Q) (h1 : a.testBit (255 - j) = false) (h2 : b.testBit (255 - j) = false) : cv.lin (a / 2 ^ (256 - (j + 1))) (b / 2 ^ (256 - (j + 1))) P Q = cv.add (cv.lin (a / 2 ^ (256 - j)) (b / 2 ^ (256 - j)) P Q) (cv.lin (a / 2 ^ (256 - j)) (b / 2 ^ (256 - j)) P Q) := by
  rw [lin_step a b j hj hP hQ, h1, h2]; rfl
theorem lin_first (a b : List UInt8) (ha : a.length = 32) (hb : b.length = 32) (P Q : Pt Fp) : (Wd.of (zero : Pt Fp)).rep (cv.lin (le a / 2 ^ (256 - 0)) (le b / 2 ^ (256 - 0)) P Q) := by
  have h1 := le32 ha
  have h2 := le32 hb
  rw [show 256 - 0 = 256 from rfl, Nat.div_eq_of_lt h1, Nat.div_eq_of_lt h2, cv.lin_zero]
  exact cv.rep_of zero
theorem lin_last (a b : Nat) (P Q : Pt Fp) : cv.lin (a / 2 ^ (256 - 256)) (b / 2 ^ (256 - 256)) P Q = cv.lin a b P Q := by rw [Nat.sub_self, Nat.pow_zero, Nat.div_one, Nat.div_one]
theorem lin_one (a : Nat) (P : Pt Fp) : cv.lin a 0 P zero = cv.mul a P := cv.add_zero _
/-- 8 times a point -/
def eight (P : Pt Fp) : Pt Fp := cv.add (cv.add (cv.add P P) (cv.add P P)) (cv.add (cv.add P P) (cv.add P P))
end Ed
end

section
namespace Hw
open Go
set_option linter.unusedSimpArgs false
set_option linter.unusedVariables false
set_option maxRecDepth 100000

/-- eight words, highest first -/
theorem lt_sp {n a b c : Nat} (h : n < 2 ^ c) (hc : a + b = c) : n < 2 ^ a * 2 ^ b := by subst hc; rw [← Nat.pow_add]; exact h
theorem top_sp {n a b c : Nat} (h : n < 2 ^ c) (hc : a + b = c) : n / 2 ^ a % 2 ^ b = n / 2 ^ a := Nat.mod_eq_of_lt (Nat.div_lt_of_lt_mul (lt_sp h hc))
theorem le_2p {a c : Nat} (h : a ≤ c) : 2 ^ a ≤ 2 ^ c := Nat.pow_le_pow_right (by decide) h
theorem pos_2p (c : Nat) : 0 < 2 ^ c := Nat.pow_pos (by decide)
def words8 (n : Nat) : List UInt64 := [448, 384, 320, 256, 192, 128, 64, 0].map fun e => w64 (n / 2 ^ e)
theorem words8_length (n : Nat) : (words8 n).length = 8 := rfl
theorem words8_zero : words8 0 = List.replicate 8 0 := by
  simp only [words8, List.map_cons, List.map_nil, Nat.zero_div]; rfl
theorem wvo8 (a b c d e f g h : UInt64) : wv [a, b, c, d, e, f, g, h] = ((((((a.toNat * 2 ^ 64 + b.toNat) * 2 ^ 64 + c.toNat) * 2 ^ 64 + d.toNat) * 2 ^ 64 + e.toNat) * 2 ^ 64 + f.toNat) * 2 ^ 64 + g.toNat) * 2 ^ 64 + h.toNat := by
  simp [wv]
theorem horner (n k : Nat) : n / 2 ^ (k + 64) * 2 ^ 64 + n / 2 ^ k % 2 ^ 64 = n / 2 ^ k := by
  rw [Nat.pow_add, ← Nat.div_div_eq_div_mul, Nat.mul_comm]
  exact Nat.div_add_mod _ _
theorem horn2 {n k m : Nat} (h : k + 64 = m) : n / 2 ^ m * 2 ^ 64 + n / 2 ^ k % 2 ^ 64 = n / 2 ^ k := by subst h; exact horner n k
theorem wv_words8 {n : Nat} (h : n < 2 ^ 512) : wv (words8 n) = n := by
  simp only [words8, List.map_cons, List.map_nil]
  rw [wvo8]
  simp only [w64_toNat]
  have h0 := top_sp (a := 448) (b := 64) h rfl
  rw [h0, horn2 (k := 384) (m := 448) rfl, horn2 (k := 320) (m := 384) rfl, horn2 (k := 256) (m := 320) rfl, horn2 (k := 192) (m := 256) rfl, horn2 (k := 128) (m := 192) rfl, horn2 (k := 64) (m := 128) rfl, horn2 (k := 0) (m := 64) rfl, Nat.pow_zero, Nat.div_one]
theorem words8_get (n : Nat) : ∀ j, j < 8 → (words8 n)[7 - j]? = some (w64 (n / 2 ^ (64 * j))) := fun j hj => by
  have e : ∀ j, j < 8 → ([448, 384, 320, 256, 192, 128, 64, 0] : List Nat)[7 - j]? = some (64 * j) := by decide
  rw [words8, List.getElem?_map, e j hj]; rfl
theorem pow256 (k : Nat) : 256 ^ k = 2 ^ (8 * k) := by rw [show (256 : Nat) = 2 ^ 8 by decide, ← Nat.pow_mul]
/-- one byte more -/
theorem words8_step (n k : Nat) (x : UInt8) (hn : n < 256 ^ k) (hk : k < 64) :
    words8 (n + 256 ^ k * x.toNat) = (words8 n).set (7 - k / 8) ((words8 n).getD (7 - k / 8) 0 ||| shl64 x.toUInt64 (8 * (k % 8))) := by
  have hx := x.toNat_lt
  apply List.ext_getElem?
  intro i
  rcases Nat.lt_or_ge i 8 with hi | hi
  · obtain ⟨j, hj, rfl⟩ : ∃ j, j < 8 ∧ i = 7 - j := ⟨7 - i, by omega, by omega⟩
    rw [words8_get _ j hj, List.getElem?_set, List.getD, words8_get _ (k / 8) oM, Option.getD_some]
    rw [pow256] at hn
    rcases Nat.lt_trichotomy j (k / 8) with h | h | h
    · rw [if_neg oM, words8_get _ j hj, pow256]
      congr 1
      apply UInt64.toNat_inj.1
      rw [w64_toNat, w64_toNat]
      have e : 2 ^ (8 * k) * x.toNat = 2 ^ (64 * j) * (2 ^ 64 * (2 ^ (8 * k - 64 * j - 64) * x.toNat)) := by
        rw [← Nat.mul_assoc, ← Nat.mul_assoc, ← Nat.pow_add, ← Nat.pow_add]
        congr 2; omega
      rw [e, Nat.add_mul_div_left _ _ (Nat.pow_pos dE), Nat.add_mul_mod_self_left]
    · subst h
      rw [if_pos rfl, if_pos (by rw [words8_length]; omega), pow256]
      congr 1
      apply UInt64.toNat_inj.1
      rw [UInt64.toNat_or, shl64_toNat, w64_toNat, w64_toNat, UInt8.toNat_toUInt64]
      have e : 2 ^ (8 * k) * x.toNat = 2 ^ (64 * (k / 8)) * (2 ^ (8 * (k % 8)) * x.toNat) := by
        rw [← Nat.mul_assoc, ← Nat.pow_add]
        congr 2; omega
      have hl : n / 2 ^ (64 * (k / 8)) < 2 ^ (8 * (k % 8)) := by
        apply Nat.div_lt_of_lt_mul
        rw [← Nat.pow_add]
        rw [show 64 * (k / 8) + 8 * (k % 8) = 8 * k by omega]; exact hn
      have hm : 8 * (k % 8) ≤ 56 := by omega
      have h8 : 2 ^ (8 * (k % 8)) ≤ 2 ^ 56 := Nat.pow_le_pow_right dE hm
      have hb : x.toNat * 2 ^ (8 * (k % 8)) < 2 ^ 64 := by
        calc x.toNat * 2 ^ (8 * (k % 8)) ≤ x.toNat * 2 ^ 56 := Nat.mul_le_mul_left _ h8
          _ < 2 ^ 64 := by omega
      rw [e, Nat.add_mul_div_left _ _ (Nat.pow_pos dE), Nat.mod_eq_of_lt hb, Nat.mod_eq_of_lt (Nat.lt_of_lt_of_le hl (Nat.le_trans h8 dE))]
      rw [Nat.mul_comm x.toNat, Nat.or_comm, ← Nat.two_pow_add_eq_or_of_lt hl, Nat.add_comm, Nat.mod_eq_of_lt]
      calc 2 ^ (8 * (k % 8)) * x.toNat + n / 2 ^ (64 * (k / 8)) < 2 ^ (8 * (k % 8)) * (x.toNat + 1) := by rw [Nat.mul_add]; omega
        _ ≤ 2 ^ (8 * (k % 8)) * 2 ^ 8 := Nat.mul_le_mul_left _ hx
        _ = 2 ^ (8 * (k % 8) + 8) := by rw [Nat.pow_add]
        _ ≤ 2 ^ 64 := Nat.pow_le_pow_right dE oM
    · rw [if_neg oM, words8_get _ j hj, pow256]
      congr 1
      have hp : 2 ^ (8 * (k + 1)) ≤ 2 ^ (64 * j) := Nat.pow_le_pow_right dE oM
      have h1 : n + 2 ^ (8 * k) * x.toNat < 2 ^ (8 * (k + 1)) := by
        rw [show 8 * (k + 1) = 8 * k + 8 by omega, Nat.pow_add]
        calc n + 2 ^ (8 * k) * x.toNat < 2 ^ (8 * k) * (x.toNat + 1) := by rw [Nat.mul_add]; omega
          _ ≤ 2 ^ (8 * k) * 2 ^ 8 := Nat.mul_le_mul_left _ hx
      rw [Nat.div_eq_of_lt (Nat.lt_of_lt_of_le h1 hp), Nat.div_eq_of_lt (Nat.lt_of_lt_of_le (Nat.lt_of_le_of_lt (Nat.le_add_right _ _) h1) hp)]
  · rw [List.getElem?_eq_none (by rw [words8_length]; exact hi), List.getElem?_eq_none (by rw [List.length_set, words8_length]; exact hi)]

theorem le_take_succ (l : List UInt8) (k : Nat) (h : k < l.length) : le (l.take (k + 1)) = le (l.take k) + 256 ^ k * (l.getD k 0).toNat := by
  rw [List.take_succ_eq_append_getElem h, le_append, List.length_take, Nat.min_eq_left oM]
  simp [le, List.getD, h]
theorem le_take_lt (l : List UInt8) (k : Nat) : le (l.take k) < 256 ^ k := by
  refine Nat.lt_of_lt_of_le (le_lt _) (Nat.pow_le_pow_right dE ?_)
  rw [List.length_take]; omega
theorem take_512 (l : List UInt8) (k : Nat) (h : k ≤ 64) : le (l.take k) < 2 ^ 512 := by
  refine Nat.lt_of_lt_of_le (le_take_lt l k) ?_
  rw [pow256]; exact le_2p (c := 512) (by omega)
theorem L_pos : 0 < L := by decide
theorem L_lt : L < 2 ^ 256 := by decide
theorem le_leb32 {n : Nat} (h : n < 2 ^ 256) : le (leb 32 n) = n := by
  rw [le_leb]; exact Nat.mod_eq_of_lt h
theorem lm (n : Nat) : n % L < 2 ^ 256 := Nat.lt_trans (Nat.mod_lt _ L_pos) L_lt
theorem le_byte (l : List UInt8) (k : Nat) : (l.getD k 0).toNat = le l / 256 ^ k % 256 := by
  rcases Nat.lt_or_ge k l.length with h | h
  · rw [le_drop l k (Nat.le_of_lt h)]
    have : l.drop k = l.getD k 0 :: l.drop (k + 1) := by
      rw [List.getD_eq_getElem?_getD, List.getElem?_eq_getElem h]
      exact List.drop_eq_getElem_cons h
    rw [this, le]
    have := (l.getD k 0).toNat_lt
    omega
  · rw [List.getD_eq_getElem?_getD, List.getElem?_eq_none h, Nat.div_eq_of_lt (Nat.lt_of_lt_of_le (le_lt l) (Nat.pow_le_pow_right dE h))]
    rfl
theorem le_bit (l : List UInt8) (k : Nat) : (l.getD (k / 8) 0).toNat / 2 ^ (k % 8) % 2 = le l / 2 ^ k % 2 := by
  rw [le_byte, pow256, show (256 : Nat) = 2 ^ (k % 8) * 2 ^ (8 - k % 8) by rw [← Nat.pow_add, show k % 8 + (8 - k % 8) = 8 by omega], Nat.mod_mul_right_div_self, Nat.div_div_eq_div_mul, ← Nat.pow_add, show 8 * (k / 8) + k % 8 = k by omega]
  exact Nat.mod_mod_of_dvd _ ⟨2 ^ (8 - k % 8 - 1), by rw [← Nat.pow_succ']; congr 1; omega⟩
theorem bit_and (l : List UInt8) (k : Nat) : (decide (((shr8 (l.getD (k / 8) 0) (k % 8) &&& 1).toNat : Int) = 1)) = (le l).testBit k := by
  rw [UInt8.toNat_and, shr8_toNat, show (1 : UInt8).toNat = 2 ^ 1 - 1 by decide, Nat.and_two_pow_sub_one_eq_mod, Nat.pow_one, le_bit, Nat.testBit_eq_decide_div_mod_eq]
  congr 1
  apply propext; omega
theorem bit_rem (l : List UInt8) (k : Nat) : (decide (((UInt8.ofNat ((shr8 (l.getD (k / 8) 0) (k % 8)).toNat % 2)).toNat : Int) = 1)) = (le l).testBit k := by
  rw [shr8_toNat, le_bit, UInt8.toNat_ofNat', Nat.testBit_eq_decide_div_mod_eq]
  congr 1
  apply propext; omega
end Hw
end

section
namespace Go.Proofs.YtpacobmjjjillaaGreat
open Go Hw
set_option linter.unusedVariables false
set_option linter.unusedSimpArgs false

theorem scalar_canon (a : List UInt8) (ha : a.length = 32) : Meets Tryz.prog 107 [agg (bytesV a)] [] (fun _ => True) (fun v out => v = .bool (decide (le a < L)) ∧ out = []) := by
 intro W hW
 refine calls_of (hp0 := []) Tryz.func107 J 7 Tryz.ntmps107 J (HRep.nil _) (Sat.seq (Sat.region (Tr.boxA J J ?_)))
 intro n1 hn1 hf1
 refine Tr.assign J J J (Tr.nil (at_n (Sat.seq (Sat.region (Tr.loadAll J J J Y77 J Sz77 Z0 (by (simp [ha]; done)) ?_)))))
 refine Tr.callV J J J J Body162 (scalar_load_n _ (by simp [ha])) (fun _ _ => trivial) ?_
 refine Tr.callV J J J J Body167 (scalar_modulus_n) (fun _ _ => trivial) (Tr.callV J J J J Body166 (scalar_below_n _ _ (le32 ha) L_lt) (fun _ _ => trivial) (Tr.assign J J J (Tr.nil (at_n (Sat.ret (en_r ?_))))))
 refine ⟨_, [], res_tmp J J, sP, sP, ?_, rfl⟩
 rfl

theorem scalar_rest (b o c n : Nat) (xs : List UInt8) (hx : xs.length = n) (hn : n ≤ 64) : Meets Tryz.prog 161 [.slice (some ⟨b, o, none⟩) n c] [] (fun W => Sees W b o (bytesV xs)) (fun v out => v = .tuple #[agg (bytesV (leb 32 (le xs % L))), i64 0] ∧ out = []) := by
 intro W hW
 refine calls_of (hp0 := []) Tryz.func161 J 34 Tryz.ntmps161 J (HRep.nil _) (Sat.seq (Sat.region (Tr.alloc (cs := (bytesV (List.replicate 32 0))) J Zr77 J ?_)))
 intro n2 hn2 hf2
 refine Tr.assign J J J (Tr.nil (at_n (Sat.seq (Sat.seq (Sat.region (Tr.move J J J (Tr.lenSl J J J Y39 (Tr.gtr J J J J (decide_eq_false oM) (Tr.nil (at_n (Sat.cond_f J (rfl) (Sat.skip (at_n (Sat.seq (Sat.region (Tr.alloc (cs := (wordsV (List.replicate 8 0))) J Zr135 J ?_))))))))))))))))
 intro n4 hn4 hf4
 refine Tr.nil (at_n (Sat.seq (Sat.seq (Sat.region (Tr.move J J J (Tr.lenSl J J J Y39 (Tr.move J J J (Tr.nil (at_n (Sat.block (Sat.loop (ι := Nat) (fun k => ⟨[(2, ptr n2 0), (4, ptr n4 0), (11, .slice (some ⟨b, o, none⟩) n c), (12, i64 (n : Int)), (13, i64 (k : Int))], [⟨n4, wordsV (words8 (le (xs.take k))), 135, 8⟩, ⟨n2, bytesV (List.replicate 32 0), 77, 32⟩]⟩) (fun k => k ≤ n) (fun k => n - k) (0) ?_ ?_ ?_)))))))))))
 · omega
 · exact weak_of (wk1 rfl (wk1 rfl (wk1 rfl (wk1 rfl (wk1 rfl wk0))))) (wh1 (by rw [List.take_zero, show le [] = 0 from rfl, words8_zero]; exact mem0) (wh1 Z1 wh0)) nD
 ·
  rintro k hi
  refine Sat.seq (Sat.region (Tr.lss J J J J J (Tr.nil (at_n (Sat.seq (Sat.condP J (fun hc1 => ?_) (fun hc1 => ?_)))))))
  ·
   refine Sat.skip (at_n (Sat.seq (Sat.block (Sat.seq (Sat.region (Tr.move J J J (Tr.idxSlO J J J J Y39 Sz5 _ J oM (Tr.loadE J J J Y5 J sP (hW _ _ (get_bytes oM)) (Tr.assign J J J (Tr.assign J J J (Tr.nil (at_n (Sat.draw [(0, 0), (0, 1), (0, 2), (0, 3), (1, 4), (0, 5), (0, 6), (0, 7), (0, 8), (0, 9), (0, 10), (0, 11), (0, 12), (4, 13)] Mixed zK (Tr.move J J J (Tr.quo_i64 J J J J oM (Tr.sub_i64 J J J J oM (Tr.idxArr1 J J J J Y135 Sz22 (7 - k / 8) oM oM (Tr.load1 J J J Y22 J Z0 (by exact get_words (by (simp [words8_length]; omega))) ?_))))))))))))))))))
   refine Tr.move J J J (Tr.conv J J J Y5 Y22 (cv_u8_u64 _) (Tr.move J J J (Tr.rem_i64 J J J J oM (Tr.mul_i64 J J J J oM (Tr.shl_u64 J J J J (8 * (k % 8)) oM oM (Tr.or_u64 J J J J (Tr.idxArr1 J J J J Y135 Sz22 (7 - k / 8) oM oM (Tr.store1 J J J J J Sz22 Z0 (by (simp [words8_length]; omega)) (by exact set_words _ _ _) zU ?_))))))))
   refine Tr.nil (bl_n (at_n (Sat.region (Tr.add_i64 J J J J oM (Tr.move J J J (Tr.nil (at_n ?_)))))))
   exact ⟨k + 1, by omega, by omega, weak_of (wk1 rfl (wk1 rfl (wk1 rfl (wk1 rfl (wk1 rfl wk0))))) (wh1 (by rw [le_take_succ xs k oM, words8_step _ _ _ (le_take_lt xs k) oM]; exact mem0) (wh1 Z1 wh0)) nD⟩
  ·
   obtain rfl : k = n := by omega
   refine Sat.exit (at_x (at_x (bl_h (at_n (Sat.seq (Sat.region (Tr.sliceArr J J J Y135 Sz22 (Tr.callV J J J J Body165 (scalar_residue _ _ _ 8 (words8 (le (xs.take k))) J oM) (fun W h => sees_own h Z0) ?_))))))))
   refine Tr.storeAll J J J J zB Sz77 (by (simp [leb_length]; done)) Z1 sP zV ?_
   refine Tr.assign J J J (Tr.nil (at_n (Sat.ret (en_r ?_))))
   refine ⟨_, [], res_cell_tmp J J J Y77 J Sz77 Z1 (by simp [leb_length]), sP, sP, ?_, rfl⟩
   rw [wv_words8 (take_512 xs k oM), List.take_of_length_le oM]

theorem scalar_bit_at (a : List UInt8) (ha : a.length = 32) (k : Nat) (hk : k < 256) : Meets Tryz.prog 182 [agg (bytesV a), i64 (k : Int)] [] (fun _ => True) (fun v out => v = .bool ((le a).testBit k) ∧ out = []) := by
 intro W hW
 refine calls_of (hp0 := []) Tryz.func182 J 22 Tryz.ntmps182 J (HRep.nil _) (Sat.seq (Sat.region (Tr.boxA J J ?_)))
 intro n2 hn2 hf2
 refine Tr.assign J J J (Tr.nil (at_n (Sat.seq (Sat.region (Tr.move J J J (Tr.geq J J J J (decide_eq_true oM) (Tr.move J J J (Tr.move J J J (Tr.lss J J J J (decide_eq_true oM) (Tr.pick J J J J J J (Tr.move J J J (Tr.move J J J (Tr.quo_i64 J J J J oM (Tr.idxArr1 J J J J Y77 Sz5 (k / 8) oM oM (Tr.load1 J J J Y5 J Z0 zG ?_)))))))))))))))
 refine Tr.move J J J (Tr.rem_i64 J J J J oM (Tr.shr_u8 J J J J (k % 8) oM oM (Tr.and_u8 J J J (show evIn _ _ = some (u8 1) from rfl) (Tr.eqi J J J J J (Tr.pick J J J J J J (Tr.assign J J J (Tr.nil (at_n (Sat.ret (en_r ?_))))))))))
 refine ⟨_, [], res_tmp J J, sP, sP, ?_, rfl⟩
 rw [← bit_and a k]; rfl

end Go.Proofs.YtpacobmjjjillaaGreat
end

section
namespace Go.Proofs.YtpacobmjjjillaaGreat
open Go Hw
set_option linter.unusedVariables false
set_option linter.unusedSimpArgs false

open Ed

/-- a point, and four numbers, in memory -/
def ptc (P : Pt Fp) : Point := ⟨fb P.x, fb P.y⟩
def wdc (w : Wd Fp) : wide := ⟨fb w.x, fb w.y, fb w.z, fb w.t⟩
theorem ptc_ok (P : Pt Fp) : (ptc P).ok := ⟨fb32 _, fb32 _⟩
theorem wdc_ok (w : Wd Fp) : (wdc w).ok := ⟨fb32 _, fb32 _, fb32 _, fb32 _⟩
theorem sees_subC {w : World} {b o off : Nat} {cs l : List Value} (hs : Sees w b o cs) (h : ∀ (j : Nat) (v : Value), l[j]? = some v → cs[off + j]? = some v) : Sees w b (o + off) l := fun j v hj => by
  have := hs _ v (h j v hj)
  rwa [← Nat.add_assoc] at this
theorem ptc_inj {P Q : Pt Fp} : ptc P = ptc Q ↔ P = Q := ⟨fun h => by
  obtain ⟨x, y⟩ := P
  obtain ⟨z, w⟩ := Q
  simp only [ptc, Point.mk.injEq, fb_inj] at h
  rw [h.1, h.2], fun h => by rw [h]⟩

theorem curve_D  : Meets Tryz.prog 173 [] [] (fun _ => True) (fun v out => v = agg (bytesV (fb fD)) ∧ out = []) := by
 intro W hW
 refine calls_of (hp0 := []) Tryz.func173 J 2 Tryz.ntmps173 J (HRep.nil _) (Sat.seq (Sat.region (Tr.alloc (cs := (bytesV (List.replicate 32 0))) J Zr77 J ?_)))
 intro n0 hn0 hf0
 refine Tr.nil (at_n (Sat.seq (Sat.region (Tr.build (cs := bytesV (fb fD)) J J J (fun w => by kernel_rfl) ?_))))
 refine Tr.storeAll J J J J zE Sz77 zF Z0 sP zU ?_
 refine Tr.nil (at_n (Sat.ret (en_r ?_)))
 refine ⟨_, [], res_cell J J Y77 J Sz77 Z0 (by simp [fb_length]), sP, sP, ?_, rfl⟩
 rfl

theorem curve_Zero  : Meets Tryz.prog 178 [] [] (fun _ => True) (fun v out => v = agg (ptc (zero : Pt Fp)).cells ∧ out = []) := by
 intro W hW
 refine calls_of (hp0 := []) Tryz.func178 J 3 Tryz.ntmps178 J (HRep.nil _) (Sat.seq (Sat.region (Tr.alloc (cs := Point.zero.cells) J Point.zr J ?_)))
 intro n0 hn0 hf0
 refine Tr.nil (at_n (Sat.seq (Sat.region (Tr.callV J J J J Body171 (f_one) (fun _ _ => trivial) (Tr.build (cs := (⟨fb 0, fb 1⟩ : Point).cells) J J J (fun w => by kernel_rfl) ?_)))))
 refine Tr.storeAll J J J J (Point.isCell (by exact ⟨fb32 _, fb32 _⟩)) Sz79 (Point.length (by exact ⟨fb32 _, fb32 _⟩)) Z0 (Point.length zZ) zU ?_
 refine Tr.nil (at_n (Sat.ret (en_r ?_)))
 refine ⟨_, [], res_cell J J Y79 J Sz79 Z0 (by exact Point.length (by exact ⟨fb32 _, fb32 _⟩)), sP, sP, ?_, rfl⟩
 rfl

theorem base_len {k : Nat} (h : k ≤ 32) : (bytesV (bX ++ (List.replicate k 102 ++ List.replicate (32 - k) 0))).length = 64 := by
  rw [bytesV, List.length_map, List.length_append, List.length_append, List.length_replicate, List.length_replicate, show bX.length = 32 from rfl]; omega
theorem base_step {k : Nat} (h : k < 32) : (bX ++ (List.replicate k (102 : UInt8) ++ List.replicate (32 - k) 0)).set (32 + k) 102 = bX ++ (List.replicate (k + 1) 102 ++ List.replicate (32 - (k + 1)) 0) := by
  rw [List.set_append_right _ _ (by rw [show bX.length = 32 from rfl]; omega), show bX.length = 32 from rfl, show 32 + k - 32 = k by omega, show 32 - k = (32 - (k + 1)) + 1 by omega, List.replicate_succ, List.set_append_right _ _ sP]
  simp [List.replicate_succ']
theorem base_end : bytesV ((bX ++ (List.replicate 32 (102 : UInt8) ++ List.replicate (32 - 32) 0)).set 32 88) = (ptc bP).cells := by
  show _ = bytesV (fb bP.x) ++ bytesV (fb bP.y)
  rw [bP_x, bP_y]
  kernel_rfl

theorem curve_Base  : Meets Tryz.prog 110 [] [] (fun _ => True) (fun v out => v = agg (ptc bP).cells ∧ out = []) := by
 intro W hW
 refine calls_of (hp0 := []) Tryz.func110 J 15 Tryz.ntmps110 J (HRep.nil _) (Sat.seq (Sat.region (Tr.alloc (cs := Point.zero.cells) J Point.zr J ?_)))
 intro n0 hn0 hf0
 refine Tr.nil (at_n (Sat.seq (Sat.region (Tr.build (cs := bytesV bX) J J J (fun w => by kernel_rfl) ?_))))
 refine Tr.build (cs := (⟨bX, List.replicate 32 0⟩ : Point).cells) J J J (fun w => by kernel_rfl) ?_
 refine Tr.alloc (cs := Point.zero.cells) J Point.zr J ?_
 intro n1 hn1 hf1
 refine Tr.storeAll J J J J (Point.isCell (by exact ⟨rfl, rfl⟩)) Sz79 (Point.length (by exact ⟨rfl, rfl⟩)) Z0 (Point.length (by exact ⟨rfl, rfl⟩)) zU ?_
 refine Tr.nil (at_n (Sat.seq (Sat.seq (Sat.region (Tr.move J J J (Tr.nil (at_n (Sat.block (Sat.loop (ι := Nat) (fun k => ⟨[(0, ptr n0 0), (1, ptr n1 0), (5, i64 (k : Int))], [⟨n1, bytesV (bX ++ (List.replicate k 102 ++ List.replicate (32 - k) 0)), 79, 64⟩, ⟨n0, Point.zero.cells, 79, 64⟩]⟩) (fun k => k ≤ 32) (fun k => 32 - k) (0) ?_ ?_ ?_)))))))))
 · omega
 · exact weak_of (wk1 rfl (wk1 rfl (wk1 rfl wk0))) (wh1 (by rw [show bytesV (bX ++ (List.replicate 0 102 ++ List.replicate (32 - 0) 0)) = (⟨bX, List.replicate 32 0⟩ : Point).cells from by kernel_rfl]; exact mem0) (wh1 Z1 wh0)) nD
 ·
  rintro k hi
  refine Sat.seq (Sat.region (Tr.lss J J J J J (Tr.nil (at_n (Sat.seq (Sat.condP J (fun hc0 => ?_) (fun hc0 => ?_)))))))
  ·
   have hk2 : k < 32 := by omega
   refine Sat.skip (at_n (Sat.seq (Sat.block (Sat.seq (Sat.region (Tr.move J J J (Tr.assign J J J (Tr.nil (at_n (Sat.region (Tr.move J J J (Tr.fld J J J Y79 J Sz77 dE _ J (Tr.idxArrO J J J J Y77 Sz5 k J oM (Tr.store1 J J J J J Sz5 Z0 (by rw [base_len oM]; exact (show 32 + k < 64 by omega)) (by exact set_bytes _ (32 + k) 102) zU ?_))))))))))))))
   refine Tr.nil (bl_n (at_n (Sat.region (Tr.add_i64 J J J J oM (Tr.move J J J (Tr.nil (at_n ?_)))))))
   exact ⟨k + 1, by omega, by omega, weak_of (wk1 rfl (wk1 rfl (wk1 rfl wk0))) (wh1 (by rw [← base_step hk2]; exact mem0) (wh1 Z1 wh0)) nD⟩
  ·
   obtain rfl : k = 32 := by omega
   refine Sat.exit (at_x (at_x (bl_h (at_n (Sat.seq (Sat.region (Tr.fld J J J Y79 J Sz77 dE _ J (Tr.idxArrO J J J J Y77 Sz5 0 J dE (Tr.store1 J J J J J Sz5 Z0 (by rw [base_len oM]; exact (show 32 + 0 < 64 by decide)) (by exact set_bytes _ (32 + 0) 88) zU ?_)))))))))
   rw [base_end]
   refine Tr.nil (at_n (Sat.seq (Sat.region (Tr.loadAll J J J Y79 J Sz79 Z0 (Point.length zP) ?_))))
   refine Tr.storeAll J J J J (Point.isCell zP) Sz79 (Point.length zP) Z1 (Point.length (by exact ⟨rfl, rfl⟩)) zV ?_
   refine Tr.nil (at_n (Sat.ret (en_r ?_)))
   refine ⟨_, [], res_cell J J Y79 J Sz79 Z1 (by exact Point.length zP), sP, sP, ?_, rfl⟩
   rfl

theorem curve_Check (p : Point) (hp : p.ok) : Meets Tryz.prog 177 [agg p.cells] [] (fun _ => True) (fun v out => v = i64 (pchk p.fX p.fY) ∧ out = []) := by
 intro W hW
 refine calls_of (hp0 := []) Tryz.func177 J 38 Tryz.ntmps177 J (HRep.nil _) (Sat.seq (Sat.region (Tr.boxA J J ?_)))
 intro n1 hn1 hf1
 refine Tr.assign J J J (Tr.nil (at_n (Sat.seq (Sat.seq (Sat.region (Tr.fld J J J Y79 J Sz77 dE _ J (Tr.loadN (bytesV _) J J J Y77 J Sz77 Z0 (Point.row_fX (by exact hp)) (Point.rl_fX (by exact hp)) ?_)))))))
 refine Tr.callB J J J J Body168 (field_Canon p.fX hp.l_fX) (fun _ _ => trivial) (fun hs1_20 => ?_) (fun hs1_20 => ?_)
 ·
  have hs1_2 := of_decide_eq_true hs1_20
  refine Tr.not J J J (Tr.move J J J (Tr.fld J J J Y79 J Sz77 dE _ J (Tr.loadN (bytesV _) J J J Y77 J Sz77 Z0 (Point.row_fY (by exact hp)) (Point.rl_fY (by exact hp)) ?_)))
  refine Tr.callB J J J J Body168 (field_Canon p.fY hp.l_fY) (fun _ _ => trivial) (fun hs1_70 => ?_) (fun hs1_70 => ?_)
  ·
   have hs1_7 := of_decide_eq_true hs1_70
   refine Tr.not J J J (Tr.pick J J J J J J (Tr.nil (at_n (Sat.cond_f J J (Sat.skip (at_n (Sat.seq (Sat.draw [(0, 0), (1, 1), (0, 2), (1, 3), (0, 5), (1, 6), (0, 7), (1, 8), (3, 4), (3, 9), (2, 10), (2, 11), (4, 12), (4, 13)] Mixed zK (Tr.fld J J J Y79 J Sz77 dE _ J (Tr.loadN (bytesV _) J J J Y77 J Sz77 Z0 (Point.row_fX (by exact hp)) (Point.rl_fX (by exact hp)) ?_))))))))))
   refine Tr.fld J J J Y79 J Sz77 dE _ J (Tr.loadN (bytesV _) J J J Y77 J Sz77 Z0 (Point.row_fX (by exact hp)) (Point.rl_fX (by exact hp)) ?_)
   refine Tr.fld J J J Y79 J Sz77 dE _ J (Tr.loadN (bytesV _) J J J Y77 J Sz77 Z0 (Point.row_fY (by exact hp)) (Point.rl_fY (by exact hp)) ?_)
   refine Tr.fld J J J Y79 J Sz77 dE _ J (Tr.loadN (bytesV _) J J J Y77 J Sz77 Z0 (Point.row_fY (by exact hp)) (Point.rl_fY (by exact hp)) ?_)
   refine Tr.callV J J J J Body169 (field_Mul p.fX p.fX hp.l_fX hp.l_fX) (fun _ _ => trivial) (Tr.callV J J J J Body169 (field_Mul p.fY p.fY hp.l_fY hp.l_fY) (fun _ _ => trivial) (Tr.alloc (cs := (bytesV (List.replicate 32 0))) J Zr77 J ?_))
   intro n3 hn3 hf3
   refine Tr.alloc (cs := (bytesV (List.replicate 32 0))) J Zr77 J ?_
   intro n4 hn4 hf4
   refine Tr.storeAll J J J J zE Sz77 zF Z1 sP zV ?_
   refine Tr.storeAll J J J J zE Sz77 zF Z0 sP zU ?_
   refine Tr.nil (at_n (Sat.seq (Sat.draw [(1, 2), (1, 3), (3, 0), (3, 1), (3, 4), (3, 5), (3, 6), (2, 7), (4, 8)] Mixed zK (Tr.loadAll J J J Y77 J Sz77 Z1 zF ?_))))
   refine Tr.loadAll J J J Y77 J Sz77 Z0 zF ?_
   refine Tr.callV J J J J Body171 (f_one) (fun _ _ => trivial) (Tr.callV J J J J Body173 (curve_D) (fun _ _ => trivial) (Tr.callV J J J J Body169 (f_mul _ _) (fun _ _ => trivial) (Tr.callV J J J J Body169 (f_mul _ _) (fun _ _ => trivial) (Tr.callV J J J J Body172 (f_add _ _) (fun _ _ => trivial) (Tr.alloc (cs := (bytesV (List.replicate 32 0))) J Zr77 J ?_)))))
   intro n5 hn5 hf5
   refine Tr.storeAll J J J J zE Sz77 zF Z0 sP zU ?_
   refine Tr.nil (at_n (Sat.seq (Sat.seq (Sat.draw [(1, 0), (1, 1), (1, 3), (3, 2), (0, 4)] Mixed zK (Tr.loadAll J J J Y77 J Sz77 Z1 zF ?_)))))
   refine Tr.loadAll J J J Y77 J Sz77 Z2 zF ?_
   refine Tr.loadAll J J J Y77 J Sz77 Z0 zF ?_
   refine Tr.callV J J J J Body170 (f_sub _ _) (fun _ _ => trivial) (Tr.neq_bytes J J J J Tryz.eqGuardType77 Y77 Y5 Sz5 zF zF J (Tr.nil (at_n (Sat.condNP J (fun hc1 => ?_) (fun hc1 => ?_)))))
   ·
    refine Sat.seq (Sat.region (Tr.assign J J J (Tr.nil (at_n (Sat.ret (at_r (en_r ?_)))))))
    refine ⟨_, [], res_tmp J J, sP, sP, ?_, rfl⟩
    unfold pchk
    exact congrArg i64 (if_neg (fun h => by exact hc1 (fb_inj.2 h.2.2))).symm
   ·
    refine Sat.skip (at_n (Sat.seq (Sat.region (Tr.assign J J J (Tr.nil (at_n (Sat.ret (en_r ?_))))))))
    refine ⟨_, [], res_tmp J J, sP, sP, ?_, rfl⟩
    unfold pchk
    exact congrArg i64 (if_pos ⟨hs1_2, hs1_7, fb_inj.1 hc1⟩).symm
  ·
   have hs1_7 := of_decide_eq_false hs1_70
   refine Tr.not J J J (Tr.pick J J J J J J (Tr.nil (at_n (Sat.cond_t J J (Sat.seq (Sat.region (Tr.assign J J J (Tr.nil (at_n (Sat.ret (at_r (en_r ?_))))))))))))
   refine ⟨_, [], res_tmp J J, sP, sP, ?_, rfl⟩
   unfold pchk
   exact congrArg i64 (if_neg (fun h => by exact hs1_7 h.2.1)).symm
 ·
  have hs1_2 := of_decide_eq_false hs1_20
  refine Tr.not J J J (Tr.move J J J (Tr.skp J J (Tr.skp J J (Tr.skp J J (Tr.skp J J (Tr.pick J J J J J J (Tr.nil (at_n (Sat.cond_t J J (Sat.seq (Sat.region (Tr.assign J J J (Tr.nil (at_n (Sat.ret (at_r (en_r ?_)))))))))))))))))
  refine ⟨_, [], res_tmp J J, sP, sP, ?_, rfl⟩
  unfold pchk
  exact congrArg i64 (if_neg (fun h => by exact hs1_2 h.1)).symm

theorem curve_Check_on (P : Pt Fp) (h : cv.on P) : Meets Tryz.prog 177 [agg (ptc P).cells] [] (fun _ => True) (fun v out => v = i64 0 ∧ out = []) := by
  have h1 := curve_Check (ptc P) (ptc_ok P)
  rwa [show pchk (ptc P).fX (ptc P).fY = 0 from pchk_on h] at h1

theorem curve_widen (P : Pt Fp) : Meets Tryz.prog 179 [agg (ptc P).cells] [] (fun _ => True) (fun v out => v = agg (wdc (Wd.of P)).cells ∧ out = []) := by
 intro W hW
 refine calls_of (hp0 := []) Tryz.func179 J 14 Tryz.ntmps179 J (HRep.nil _) (Sat.seq (Sat.region (Tr.boxA J J ?_)))
 intro n1 hn1 hf1
 refine Tr.alloc (cs := wide.zero.cells) J wide.zr J ?_
 intro n2 hn2 hf2
 refine Tr.nil (at_n (Sat.seq (Sat.draw [(0, 0), (1, 1), (0, 2), (1, 3), (0, 5), (1, 6), (0, 7), (1, 8), (3, 4), (3, 9), (0, 10), (4, 11)] Mixed zK (Tr.fld J J J Y79 J Sz77 dE _ J (Tr.loadN (bytesV _) J J J Y77 J Sz77 Z1 (Point.row_fX zP) (Point.rl_fX zP) ?_)))))
 refine Tr.fld J J J Y79 J Sz77 dE _ J (Tr.loadN (bytesV _) J J J Y77 J Sz77 Z1 (Point.row_fY zP) (Point.rl_fY zP) ?_)
 refine Tr.fld J J J Y79 J Sz77 dE _ J (Tr.loadN (bytesV _) J J J Y77 J Sz77 Z1 (Point.row_fX zP) (Point.rl_fX zP) ?_)
 refine Tr.fld J J J Y79 J Sz77 dE _ J (Tr.loadN (bytesV _) J J J Y77 J Sz77 Z1 (Point.row_fY zP) (Point.rl_fY zP) ?_)
 refine Tr.callV J J J J Body171 (f_one) (fun _ _ => trivial) (Tr.callV J J J J Body169 (f_mul P.x P.y) (fun _ _ => trivial) (Tr.build (cs := (wdc (Wd.of P)).cells) J J J (fun w => by kernel_rfl) ?_))
 refine Tr.storeAll J J J J (wide.isCell (by exact wdc_ok _)) Sz168 (wide.length (by exact wdc_ok _)) Z0 (wide.length (by exact wide.zero_ok)) zU ?_
 refine Tr.nil (at_n (Sat.ret (en_r ?_)))
 refine ⟨_, [], res_cell J J Tryz.underlying168 J Sz168 Z0 (by exact wide.length (by exact wdc_ok _)), sP, sP, ?_, rfl⟩
 rfl

theorem wide_point (n : Nat) (w : Wd Fp) : Meets Tryz.prog 183 [ptr n 0] [] (fun W => Sees W n 0 (wdc w).cells) (fun v out => v = agg (ptc (⟨w.x * finv w.z, w.y * finv w.z⟩ : Pt Fp)).cells ∧ out = []) := by
 intro W hW
 have hinv := f_inv w.z
 revert hinv
 generalize finv w.z = iz
 intro hinv
 refine calls_of (hp0 := []) Tryz.func183 J 22 Tryz.ntmps183 J (HRep.nil _) (Sat.seq (Sat.region (Tr.alloc (cs := Point.zero.cells) J Point.zr J ?_)))
 intro n2 hn2 hf2
 refine Tr.nil (at_n (Sat.seq (Sat.region (Tr.move J J J (Tr.nilChk J J J (Tr.fld J J J Tryz.underlying168 J Sz77 dE _ J (Tr.loadEN (bytesV (fb w.z)) J J J Y77 J Sz77 sP (by rw [bytesV, List.length_map, fb_length]) (sees_subC hW (wide.see_fZ (wdc_ok w))) ?_)))))))
 refine Tr.callV J J J J Body175 (hinv) (fun _ _ => trivial) (Tr.alloc (cs := (bytesV (List.replicate 32 0))) J Zr77 J ?_)
 intro n3 hn3 hf3
 refine Tr.storeAll J J J J zE Sz77 zF Z0 sP zU ?_
 refine Tr.nil (at_n (Sat.seq (Sat.draw [(0, 0), (0, 1), (0, 2), (1, 3), (1, 4), (0, 6), (0, 7), (0, 8), (1, 9), (1, 10), (3, 5), (3, 11), (0, 12), (4, 13)] Mixed zK (Tr.move J J J (Tr.nilChk J J J (Tr.fld J J J Tryz.underlying168 J Sz77 dE _ J (Tr.loadEN (bytesV (fb w.x)) J J J Y77 J Sz77 sP (by rw [bytesV, List.length_map, fb_length]) (sees_subC hW (wide.see_fX (wdc_ok w))) ?_)))))))
 refine Tr.loadAll J J J Y77 J Sz77 Z0 zF ?_
 refine Tr.move J J J (Tr.nilChk J J J (Tr.fld J J J Tryz.underlying168 J Sz77 dE _ J (Tr.loadEN (bytesV (fb w.y)) J J J Y77 J Sz77 sP (by rw [bytesV, List.length_map, fb_length]) (sees_subC hW (wide.see_fY (wdc_ok w))) ?_)))
 refine Tr.loadAll J J J Y77 J Sz77 Z0 zF ?_
 refine Tr.callV J J J J Body169 (f_mul _ _) (fun _ _ => trivial) (Tr.callV J J J J Body169 (f_mul _ _) (fun _ _ => trivial) (Tr.build (cs := (ptc (⟨w.x * iz, w.y * iz⟩ : Pt Fp)).cells) J J J (fun w => by kernel_rfl) ?_))
 refine Tr.storeAll J J J J (Point.isCell zP) Sz79 (Point.length zP) Z1 (Point.length zZ) zV ?_
 refine Tr.nil (at_n (Sat.ret (en_r ?_)))
 refine ⟨_, [], res_cell J J Y79 J Sz79 Z1 (by exact Point.length zP), sP, sP, ?_, rfl⟩
 rfl

theorem wide_finish (n : Nat) (w : Wd Fp) (e f g h : Fp) : Meets Tryz.prog 228 [ptr n 0, agg (bytesV (fb e)), agg (bytesV (fb f)), agg (bytesV (fb g)), agg (bytesV (fb h))] [n] (fun W => BlkOk W ⟨n, (wdc w).cells, 168, 128⟩) (fun v out => out = [⟨n, (wdc (Wd.fin e f g h)).cells, 168, 128⟩]) := by
 intro W hW
 refine calls_of (hp0 := [⟨n, (wdc w).cells, 168, 128⟩]) Tryz.func228 J 34 Tryz.ntmps228 J (HRep.one hW) (Sat.seq (Sat.region (Tr.boxA J J ?_)))
 intro n6 hn6 hf6
 refine Tr.boxA J J ?_
 intro n7 hn7 hf7
 refine Tr.boxA J J ?_
 intro n8 hn8 hf8
 refine Tr.boxA J J ?_
 intro n9 hn9 hf9
 refine Tr.nil (at_n (Sat.seq (Sat.draw [(0, 0), (0, 1), (1, 2), (1, 3), (1, 5), (1, 6), (3, 4), (3, 7), (0, 8), (0, 9), (4, 10), (0, 11), (0, 12), (4, 13)] Mixed zK (Tr.move J J J (Tr.move J J J (Tr.loadAll J J J Y77 J Sz77 Z3 zF ?_))))))
 refine Tr.loadAll J J J Y77 J Sz77 Z2 zF ?_
 refine Tr.loadAll J J J Y77 J Sz77 Z1 zF ?_
 refine Tr.loadAll J J J Y77 J Sz77 Z0 zF ?_
 refine Tr.callV J J J J Body169 (f_mul _ _) (fun _ _ => trivial) (Tr.callV J J J J Body169 (f_mul _ _) (fun _ _ => trivial) (Tr.nilChk J J J (Tr.fld J J J Tryz.underlying168 J Sz77 dE _ J (Tr.storeN (bytesV _) J J J J J zE Sz77 (by simp [fb_length]) Z4 (by rw [wide.length (by exact wdc_ok _)]; simp [fb_length]) (wide.upd_fX (by exact wdc_ok _) _ (by simp [fb_length])) (by exact upd4) ?_))))
 refine Tr.nilChk J J J (Tr.fld J J J Tryz.underlying168 J Sz77 dE _ J (Tr.storeN (bytesV _) J J J J J zE Sz77 (by simp [fb_length]) Z4 (by rw [wide.length (by exact ⟨fb32 _, fb32 _, fb32 _, fb32 _⟩)]; simp [fb_length]) (wide.upd_fY (by exact ⟨fb32 _, fb32 _, fb32 _, fb32 _⟩) _ (by simp [fb_length])) (by exact upd4) ?_))
 refine Tr.nil (at_n (Sat.draw [(0, 0), (0, 1), (1, 2), (1, 3), (1, 5), (1, 6), (3, 4), (3, 7), (0, 8), (0, 9), (4, 10), (0, 11), (0, 12), (4, 13)] Mixed zK (Tr.move J J J (Tr.move J J J (Tr.loadAll J J J Y77 J Sz77 Z2 zF ?_)))))
 refine Tr.loadAll J J J Y77 J Sz77 Z1 zF ?_
 refine Tr.loadAll J J J Y77 J Sz77 Z3 zF ?_
 refine Tr.loadAll J J J Y77 J Sz77 Z0 zF ?_
 refine Tr.callV J J J J Body169 (f_mul _ _) (fun _ _ => trivial) (Tr.callV J J J J Body169 (f_mul _ _) (fun _ _ => trivial) (Tr.nilChk J J J (Tr.fld J J J Tryz.underlying168 J Sz77 dE _ J (Tr.storeN (bytesV _) J J J J J zE Sz77 (by simp [fb_length]) Z4 (by rw [wide.length (by exact ⟨fb32 _, fb32 _, fb32 _, fb32 _⟩)]; simp [fb_length]) (wide.upd_fZ (by exact ⟨fb32 _, fb32 _, fb32 _, fb32 _⟩) _ (by simp [fb_length])) (by exact upd4) ?_))))
 refine Tr.nilChk J J J (Tr.fld J J J Tryz.underlying168 J Sz77 dE _ J (Tr.storeN (bytesV _) J J J J J zE Sz77 (by simp [fb_length]) Z4 (by rw [wide.length (by exact ⟨fb32 _, fb32 _, fb32 _, fb32 _⟩)]; simp [fb_length]) (wide.upd_fT (by exact ⟨fb32 _, fb32 _, fb32 _, fb32 _⟩) _ (by simp [fb_length])) (by exact upd4) ?_))
 refine Tr.nil (en_n ?_)
 exact ⟨_, [⟨n, (wdc (Wd.fin e f g h)).cells, 168, 128⟩], res_none rfl, (fun b hb => by rw [List.mem_singleton.1 hb]; exact Z4), nodup1, rfl⟩

theorem wide_add (n q : Nat) (w p : Wd Fp) (tw : Fp) : Meets Tryz.prog 180 [ptr n 0, ptr q 0, agg (bytesV (fb tw))] [n] (fun W => BlkOk W ⟨n, (wdc w).cells, 168, 128⟩ ∧ Sees W q 0 (wdc p).cells ∧ q ≠ n) (fun v out => out = [⟨n, (wdc (Wd.fin ((w.y + w.x) * (p.y + p.x) - (w.y - w.x) * (p.y - p.x)) (w.z * p.z + w.z * p.z - w.t * tw * p.t) (w.z * p.z + w.z * p.z + w.t * tw * p.t) ((w.y + w.x) * (p.y + p.x) + (w.y - w.x) * (p.y - p.x)))).cells, 168, 128⟩]) := by
 intro W hW
 refine calls_of (hp0 := [⟨n, (wdc w).cells, 168, 128⟩]) Tryz.func180 J 85 Tryz.ntmps180 J (HRep.one hW.1) (Sat.seq (Sat.region (Tr.boxA J J ?_)))
 intro n5 hn5 hf5
 refine Tr.nil (at_n (Sat.seq (Sat.draw [(0, 0), (0, 1), (0, 2), (1, 3), (0, 4), (0, 5), (0, 6), (1, 7), (0, 9), (0, 10), (0, 11), (1, 12), (0, 13), (0, 14), (0, 15), (1, 16), (3, 8), (3, 17), (3, 18), (2, 19), (4, 20)] Mixed zK (Tr.move J J J (Tr.nilChk J J J (Tr.fld J J J Tryz.underlying168 J Sz77 dE _ J (Tr.loadN (bytesV _) J J J Y77 J Sz77 Z1 (wide.row_fY (by exact wdc_ok _)) (wide.rl_fY (by exact wdc_ok _)) ?_)))))))
 refine Tr.move J J J (Tr.nilChk J J J (Tr.fld J J J Tryz.underlying168 J Sz77 dE _ J (Tr.loadN (bytesV _) J J J Y77 J Sz77 Z1 (wide.row_fX (by exact wdc_ok _)) (wide.rl_fX (by exact wdc_ok _)) ?_)))
 refine Tr.move J J J (Tr.nilChk J J J (Tr.fld J J J Tryz.underlying168 J Sz77 dE _ J (Tr.loadEN (bytesV (fb p.y)) J J J Y77 J Sz77 (by simp; exact hW.2.2) (by rw [bytesV, List.length_map, fb_length]) (sees_subC hW.2.1 (wide.see_fY (wdc_ok p))) ?_)))
 refine Tr.move J J J (Tr.nilChk J J J (Tr.fld J J J Tryz.underlying168 J Sz77 dE _ J (Tr.loadEN (bytesV (fb p.x)) J J J Y77 J Sz77 (by simp; exact hW.2.2) (by rw [bytesV, List.length_map, fb_length]) (sees_subC hW.2.1 (wide.see_fX (wdc_ok p))) ?_)))
 refine Tr.callV J J J J Body170 (f_sub _ _) (fun _ _ => trivial) (Tr.callV J J J J Body170 (f_sub _ _) (fun _ _ => trivial) (Tr.callV J J J J Body169 (f_mul _ _) (fun _ _ => trivial) (Tr.alloc (cs := (bytesV (List.replicate 32 0))) J Zr77 J ?_)))
 intro n6 hn6 hf6
 refine Tr.storeAll J J J J zE Sz77 zF Z0 sP zU ?_
 refine Tr.nil (at_n (Sat.seq (Sat.draw [(0, 0), (0, 1), (0, 2), (1, 3), (0, 4), (0, 5), (0, 6), (1, 7), (0, 9), (0, 10), (0, 11), (1, 12), (0, 13), (0, 14), (0, 15), (1, 16), (3, 8), (3, 17), (3, 18), (2, 19), (4, 20)] Mixed zK (Tr.move J J J (Tr.nilChk J J J (Tr.fld J J J Tryz.underlying168 J Sz77 dE _ J (Tr.loadN (bytesV _) J J J Y77 J Sz77 Z2 (wide.row_fY (by exact wdc_ok _)) (wide.rl_fY (by exact wdc_ok _)) ?_)))))))
 refine Tr.move J J J (Tr.nilChk J J J (Tr.fld J J J Tryz.underlying168 J Sz77 dE _ J (Tr.loadN (bytesV _) J J J Y77 J Sz77 Z2 (wide.row_fX (by exact wdc_ok _)) (wide.rl_fX (by exact wdc_ok _)) ?_)))
 refine Tr.move J J J (Tr.nilChk J J J (Tr.fld J J J Tryz.underlying168 J Sz77 dE _ J (Tr.loadEN (bytesV (fb p.y)) J J J Y77 J Sz77 (by simp; exact hW.2.2) (by rw [bytesV, List.length_map, fb_length]) (sees_subC hW.2.1 (wide.see_fY (wdc_ok p))) ?_)))
 refine Tr.move J J J (Tr.nilChk J J J (Tr.fld J J J Tryz.underlying168 J Sz77 dE _ J (Tr.loadEN (bytesV (fb p.x)) J J J Y77 J Sz77 (by simp; exact hW.2.2) (by rw [bytesV, List.length_map, fb_length]) (sees_subC hW.2.1 (wide.see_fX (wdc_ok p))) ?_)))
 refine Tr.callV J J J J Body172 (f_add _ _) (fun _ _ => trivial) (Tr.callV J J J J Body172 (f_add _ _) (fun _ _ => trivial) (Tr.callV J J J J Body169 (f_mul _ _) (fun _ _ => trivial) (Tr.alloc (cs := (bytesV (List.replicate 32 0))) J Zr77 J ?_)))
 intro n7 hn7 hf7
 refine Tr.storeAll J J J J zE Sz77 zF Z0 sP zU ?_
 refine Tr.nil (at_n (Sat.seq (Sat.draw [(0, 0), (0, 1), (0, 2), (1, 3), (1, 4), (0, 6), (0, 7), (0, 8), (1, 9), (3, 5), (3, 10), (2, 11), (4, 12)] Mixed zK (Tr.move J J J (Tr.nilChk J J J (Tr.fld J J J Tryz.underlying168 J Sz77 dE _ J (Tr.loadN (bytesV _) J J J Y77 J Sz77 Z3 (wide.row_fT (by exact wdc_ok _)) (wide.rl_fT (by exact wdc_ok _)) ?_)))))))
 refine Tr.loadAll J J J Y77 J Sz77 Z2 zF ?_
 refine Tr.move J J J (Tr.nilChk J J J (Tr.fld J J J Tryz.underlying168 J Sz77 dE _ J (Tr.loadEN (bytesV (fb p.t)) J J J Y77 J Sz77 (by simp; exact hW.2.2) (by rw [bytesV, List.length_map, fb_length]) (sees_subC hW.2.1 (wide.see_fT (wdc_ok p))) ?_)))
 refine Tr.callV J J J J Body169 (f_mul _ _) (fun _ _ => trivial) (Tr.callV J J J J Body169 (f_mul _ _) (fun _ _ => trivial) (Tr.alloc (cs := (bytesV (List.replicate 32 0))) J Zr77 J ?_))
 intro n8 hn8 hf8
 refine Tr.storeAll J J J J zE Sz77 zF Z0 sP zU ?_
 refine Tr.nil (at_n (Sat.seq (Sat.draw [(0, 0), (0, 1), (0, 2), (1, 3), (0, 4), (0, 5), (0, 6), (1, 7), (3, 8), (2, 9), (4, 10)] Mixed zK (Tr.move J J J (Tr.nilChk J J J (Tr.fld J J J Tryz.underlying168 J Sz77 dE _ J (Tr.loadN (bytesV _) J J J Y77 J Sz77 Z4 (wide.row_fZ (by exact wdc_ok _)) (wide.rl_fZ (by exact wdc_ok _)) ?_)))))))
 refine Tr.move J J J (Tr.nilChk J J J (Tr.fld J J J Tryz.underlying168 J Sz77 dE _ J (Tr.loadEN (bytesV (fb p.z)) J J J Y77 J Sz77 (by simp; exact hW.2.2) (by rw [bytesV, List.length_map, fb_length]) (sees_subC hW.2.1 (wide.see_fZ (wdc_ok p))) ?_)))
 refine Tr.callV J J J J Body169 (f_mul _ _) (fun _ _ => trivial) (Tr.alloc (cs := (bytesV (List.replicate 32 0))) J Zr77 J ?_)
 intro n9 hn9 hf9
 refine Tr.storeAll J J J J zE Sz77 zF Z0 sP zU ?_
 refine Tr.nil (at_n (Sat.seq (Sat.region (Tr.loadAll J J J Y77 J Sz77 Z0 zF ?_))))
 refine Tr.loadAll J J J Y77 J Sz77 Z0 zF ?_
 refine Tr.callV J J J J Body172 (f_add _ _) (fun _ _ => trivial) (Tr.storeAll J J J J zE Sz77 zF Z0 zF zU ?_)
 refine Tr.nil (at_n (Sat.draw [(0, 0), (1, 1), (1, 2), (1, 4), (1, 5), (1, 7), (1, 8), (1, 10), (1, 11), (3, 3), (3, 6), (3, 9), (3, 12), (4, 13)] Mixed zK (Tr.move J J J (Tr.loadAll J J J Y77 J Sz77 Z2 zF ?_))))
 refine Tr.loadAll J J J Y77 J Sz77 Z3 zF ?_
 refine Tr.loadAll J J J Y77 J Sz77 Z0 zF ?_
 refine Tr.loadAll J J J Y77 J Sz77 Z1 zF ?_
 refine Tr.loadAll J J J Y77 J Sz77 Z0 zF ?_
 refine Tr.loadAll J J J Y77 J Sz77 Z1 zF ?_
 refine Tr.loadAll J J J Y77 J Sz77 Z2 zF ?_
 refine Tr.loadAll J J J Y77 J Sz77 Z3 zF ?_
 refine Tr.callV J J J J Body170 (f_sub _ _) (fun _ _ => trivial) (Tr.callV J J J J Body170 (f_sub _ _) (fun _ _ => trivial) (Tr.callV J J J J Body172 (f_add _ _) (fun _ _ => trivial) (Tr.callV J J J J Body172 (f_add _ _) (fun _ _ => trivial) (Tr.callL (L := [⟨n, (wdc w).cells, 168, 128⟩]) J J J J J Body228 (wide_finish n w ((w.y + w.x) * (p.y + p.x) - (w.y - w.x) * (p.y - p.x)) (w.z * p.z + w.z * p.z - w.t * tw * p.t) (w.z * p.z + w.z * p.z + w.t * tw * p.t) ((w.y + w.x) * (p.y + p.x) + (w.y - w.x) * (p.y - p.x))) (pm_cons rM pm_nil) (lent_ok J) (fun w h => own_blk h (by exact mem5)) ?_))))
 rintro v84 out84 rfl
 refine Tr.nil (en_n ?_)
 exact ⟨_, [⟨n, (wdc (Wd.fin ((w.y + w.x) * (p.y + p.x) - (w.y - w.x) * (p.y - p.x)) (w.z * p.z + w.z * p.z - w.t * tw * p.t) (w.z * p.z + w.z * p.z + w.t * tw * p.t) ((w.y + w.x) * (p.y + p.x) + (w.y - w.x) * (p.y - p.x)))).cells, 168, 128⟩], res_none rfl, (fun b hb => by rw [List.mem_singleton.1 hb]; exact Z0), nodup1, rfl⟩

theorem wide_double (n : Nat) (w : Wd Fp) : Meets Tryz.prog 181 [ptr n 0] [n] (fun W => BlkOk W ⟨n, (wdc w).cells, 168, 128⟩) (fun v out => out = [⟨n, (wdc (Wd.dbl w)).cells, 168, 128⟩]) := by
 intro W hW
 refine calls_of (hp0 := [⟨n, (wdc w).cells, 168, 128⟩]) Tryz.func181 J 66 Tryz.ntmps181 J (HRep.one hW) (Sat.seq (Sat.draw [(0, 0), (0, 1), (0, 2), (1, 3), (0, 4), (0, 5), (0, 6), (1, 7), (0, 9), (0, 10), (0, 11), (1, 12), (0, 13), (0, 14), (0, 15), (1, 16), (0, 18), (0, 19), (0, 20), (1, 21), (0, 22), (0, 23), (0, 24), (1, 25), (3, 8), (3, 17), (3, 26), (2, 27), (2, 28), (2, 29), (4, 30), (4, 31), (4, 32)] Mixed zK (Tr.move J J J (Tr.nilChk J J J (Tr.fld J J J Tryz.underlying168 J Sz77 dE _ J (Tr.loadN (bytesV _) J J J Y77 J Sz77 Z0 (wide.row_fX (by exact wdc_ok _)) (wide.rl_fX (by exact wdc_ok _)) ?_))))))
 refine Tr.move J J J (Tr.nilChk J J J (Tr.fld J J J Tryz.underlying168 J Sz77 dE _ J (Tr.loadN (bytesV _) J J J Y77 J Sz77 Z0 (wide.row_fX (by exact wdc_ok _)) (wide.rl_fX (by exact wdc_ok _)) ?_)))
 refine Tr.move J J J (Tr.nilChk J J J (Tr.fld J J J Tryz.underlying168 J Sz77 dE _ J (Tr.loadN (bytesV _) J J J Y77 J Sz77 Z0 (wide.row_fY (by exact wdc_ok _)) (wide.rl_fY (by exact wdc_ok _)) ?_)))
 refine Tr.move J J J (Tr.nilChk J J J (Tr.fld J J J Tryz.underlying168 J Sz77 dE _ J (Tr.loadN (bytesV _) J J J Y77 J Sz77 Z0 (wide.row_fY (by exact wdc_ok _)) (wide.rl_fY (by exact wdc_ok _)) ?_)))
 refine Tr.move J J J (Tr.nilChk J J J (Tr.fld J J J Tryz.underlying168 J Sz77 dE _ J (Tr.loadN (bytesV _) J J J Y77 J Sz77 Z0 (wide.row_fZ (by exact wdc_ok _)) (wide.rl_fZ (by exact wdc_ok _)) ?_)))
 refine Tr.move J J J (Tr.nilChk J J J (Tr.fld J J J Tryz.underlying168 J Sz77 dE _ J (Tr.loadN (bytesV _) J J J Y77 J Sz77 Z0 (wide.row_fZ (by exact wdc_ok _)) (wide.rl_fZ (by exact wdc_ok _)) ?_)))
 refine Tr.callV J J J J Body169 (f_mul _ _) (fun _ _ => trivial) (Tr.callV J J J J Body169 (f_mul _ _) (fun _ _ => trivial) (Tr.callV J J J J Body169 (f_mul _ _) (fun _ _ => trivial) (Tr.alloc (cs := (bytesV (List.replicate 32 0))) J Zr77 J ?_)))
 intro n2 hn2 hf2
 refine Tr.alloc (cs := (bytesV (List.replicate 32 0))) J Zr77 J ?_
 intro n3 hn3 hf3
 refine Tr.alloc (cs := (bytesV (List.replicate 32 0))) J Zr77 J ?_
 intro n4 hn4 hf4
 refine Tr.storeAll J J J J zE Sz77 zF Z2 sP (by exact upd2) ?_
 refine Tr.storeAll J J J J zE Sz77 zF Z1 sP zV ?_
 refine Tr.storeAll J J J J zE Sz77 zF Z0 sP zU ?_
 refine Tr.nil (at_n (Sat.seq (Sat.draw [(0, 0), (0, 1), (0, 2), (1, 3), (0, 4), (0, 5), (0, 6), (1, 7), (3, 8), (2, 9), (4, 10)] Mixed zK (Tr.move J J J (Tr.nilChk J J J (Tr.fld J J J Tryz.underlying168 J Sz77 dE _ J (Tr.loadN (bytesV _) J J J Y77 J Sz77 Z3 (wide.row_fX (by exact wdc_ok _)) (wide.rl_fX (by exact wdc_ok _)) ?_)))))))
 refine Tr.move J J J (Tr.nilChk J J J (Tr.fld J J J Tryz.underlying168 J Sz77 dE _ J (Tr.loadN (bytesV _) J J J Y77 J Sz77 Z3 (wide.row_fY (by exact wdc_ok _)) (wide.rl_fY (by exact wdc_ok _)) ?_)))
 refine Tr.callV J J J J Body172 (f_add _ _) (fun _ _ => trivial) (Tr.alloc (cs := (bytesV (List.replicate 32 0))) J Zr77 J ?_)
 intro n5 hn5 hf5
 refine Tr.storeAll J J J J zE Sz77 zF Z0 sP zU ?_
 refine Tr.nil (at_n (Sat.seq (Sat.region (Tr.loadAll J J J Y77 J Sz77 Z3 zF ?_))))
 refine Tr.loadAll J J J Y77 J Sz77 Z2 zF ?_
 refine Tr.callV J J J J Body172 (f_add _ _) (fun _ _ => trivial) (Tr.alloc (cs := (bytesV (List.replicate 32 0))) J Zr77 J ?_)
 intro n6 hn6 hf6
 refine Tr.storeAll J J J J zE Sz77 zF Z0 sP zU ?_
 refine Tr.nil (at_n (Sat.seq (Sat.draw [(1, 0), (1, 1), (1, 2), (3, 3), (3, 4), (2, 5), (4, 6)] Mixed zK (Tr.loadAll J J J Y77 J Sz77 Z0 zF ?_))))
 refine Tr.loadAll J J J Y77 J Sz77 Z1 zF ?_
 refine Tr.loadAll J J J Y77 J Sz77 Z1 zF ?_
 refine Tr.callV J J J J Body169 (f_mul _ _) (fun _ _ => trivial) (Tr.callV J J J J Body170 (f_sub _ _) (fun _ _ => trivial) (Tr.alloc (cs := (bytesV (List.replicate 32 0))) J Zr77 J ?_))
 intro n7 hn7 hf7
 refine Tr.storeAll J J J J zE Sz77 zF Z0 sP zU ?_
 refine Tr.nil (at_n (Sat.seq (Sat.region (Tr.loadAll J J J Y77 J Sz77 (by exact mem5) zF ?_))))
 refine Tr.loadAll J J J Y77 J Sz77 Z4 zF ?_
 refine Tr.callV J J J J Body170 (f_sub _ _) (fun _ _ => trivial) (Tr.alloc (cs := (bytesV (List.replicate 32 0))) J Zr77 J ?_)
 intro n8 hn8 hf8
 refine Tr.storeAll J J J J zE Sz77 zF Z0 sP zU ?_
 refine Tr.nil (at_n (Sat.draw [(0, 0), (1, 1), (1, 2), (1, 3), (1, 5), (1, 7), (1, 8), (3, 4), (3, 6), (4, 9)] Mixed zK (Tr.move J J J (Tr.loadAll J J J Y77 J Sz77 Z1 zF ?_))))
 refine Tr.loadAll J J J Y77 J Sz77 Z4 zF ?_
 refine Tr.loadAll J J J Y77 J Sz77 Z4 zF ?_
 refine Tr.loadAll J J J Y77 J Sz77 Z0 zF ?_
 refine Tr.loadAll J J J Y77 J Sz77 Z0 zF ?_
 refine Tr.loadAll J J J Y77 J Sz77 Z2 zF ?_
 refine Tr.callV J J J J Body172 (f_add _ _) (fun _ _ => trivial) (Tr.callV J J J J Body172 (f_add _ _) (fun _ _ => trivial) (Tr.callL (L := [⟨n, (wdc w).cells, 168, 128⟩]) J J J J J Body228 (wide_finish n w (w.x * w.x + w.y * w.y - (w.x + w.y) * (w.x + w.y)) (w.z * w.z + w.z * w.z + (w.x * w.x - w.y * w.y)) (w.x * w.x - w.y * w.y) (w.x * w.x + w.y * w.y)) (pm_cons rM pm_nil) (lent_ok J) (fun w h => own_blk h (by exact mem7)) ?_))
 rintro v65 out65 rfl
 refine Tr.nil (en_n ?_)
 exact ⟨_, [⟨n, (wdc (Wd.dbl w)).cells, 168, 128⟩], res_none rfl, (fun b hb => by rw [List.mem_singleton.1 hb]; exact Z0), nodup1, rfl⟩

end Go.Proofs.YtpacobmjjjillaaGreat
end

section
namespace Go.Proofs.YtpacobmjjjillaaGreat
open Go Hw
set_option linter.unusedVariables false
set_option linter.unusedSimpArgs false

open Ed

theorem own_ne {C : Cx} {hp R : List Blk} {w : World} {b1 b2 : Blk} (h : HRep C hp w) (p : hp.Perm ((b1 :: b2 :: []) ++ R)) : b2.n ≠ b1.n := fun e => by
  have := (p.map (·.n)).nodup_iff.1 h.nodup
  simp [e] at this
theorem wide_addD (n q : Nat) (w p : Wd Fp) : Meets Tryz.prog 180 [ptr n 0, ptr q 0, agg (bytesV (fb (fD + fD)))] [n] (fun W => BlkOk W ⟨n, (wdc w).cells, 168, 128⟩ ∧ Sees W q 0 (wdc p).cells ∧ q ≠ n) (fun v out => out = [⟨n, (wdc (Wd.add fD w p)).cells, 168, 128⟩]) := wide_add n q w p (fD + fD)
theorem wide_pointR (n : Nat) (w : Wd Fp) (R : Pt Fp) (hw : w.rep R) : Meets Tryz.prog 183 [ptr n 0] [] (fun W => Sees W n 0 (wdc w).cells) (fun v out => v = agg (ptc R).cells ∧ out = []) := by
  have h := wide_point n w
  have e : (⟨w.x * finv w.z, w.y * finv w.z⟩ : Pt Fp) = R := cv.rep_pt hw
  rwa [e] at h
theorem pair_eg : Tryz.prog.eqGuardType Tryz.prog.depth 174 = false := by kernel_rfl
theorem pair_eq (a b c d : Bool) (w : World) : (Op.equalIn 10000 174 (agg [.bool a, .bool b]) (agg [.bool c, .bool d])).run Tryz.prog w = .ok (a == c && b == d) w := by
  cases a <;> cases b <;> cases c <;> cases d <;> kernel_rfl

theorem curve_Mul2 (a b : List UInt8) (P Q : Pt Fp) (ha : a.length = 32) (hb : b.length = 32) (hP : cv.on P) (hQ : cv.on Q) : Meets Tryz.prog 109 [agg (bytesV a), agg (ptc P).cells, agg (bytesV b), agg (ptc Q).cells] [] (fun _ => True) (fun v out => v = agg (ptc (cv.lin (le a) (le b) P Q)).cells ∧ out = []) := by
 intro W hW
 refine calls_of (hp0 := []) Tryz.func109 J 65 Tryz.ntmps109 J (HRep.nil _) (Sat.seq (Sat.region (Tr.boxA J J ?_)))
 intro n4 hn4 hf4
 refine Tr.boxA J J ?_
 intro n5 hn5 hf5
 refine Tr.boxA J J ?_
 intro n6 hn6 hf6
 refine Tr.boxA J J ?_
 intro n7 hn7 hf7
 refine Tr.alloc (cs := Point.zero.cells) J Point.zr J ?_
 intro n8 hn8 hf8
 refine Tr.nil (at_n (Sat.seq (Sat.seq (Sat.region (Tr.loadAll J J J Y79 J Sz79 Z3 (Point.length zP) ?_)))))
 refine Tr.callV J J J J Body177 (curve_Check_on P hP) (fun _ _ => trivial) (Tr.nei J J J J (show (!decide _) = false from congrArg not (decide_eq_true (rfl))) (Tr.move J J J (Tr.loadAll J J J Y79 J Sz79 Z1 (Point.length zP) ?_)))
 refine Tr.callV J J J J Body177 (curve_Check_on Q hQ) (fun _ _ => trivial) (Tr.nei J J J J (show (!decide _) = false from congrArg not (decide_eq_true (rfl))) (Tr.pick J J J J J J (Tr.nil (at_n (Sat.cond_f J J (Sat.skip (at_n (Sat.seq (Sat.region (Tr.callV J J J J Body173 (curve_D) (fun _ _ => trivial) (Tr.callV J J J J Body173 (curve_D) (fun _ _ => trivial) (Tr.callV J J J J Body172 (f_add _ _) (fun _ _ => trivial) (Tr.alloc (cs := (bytesV (List.replicate 32 0))) J Zr77 J ?_)))))))))))))
 intro n9 hn9 hf9
 refine Tr.storeAll J J J J zE Sz77 zF Z0 sP zU ?_
 refine Tr.nil (at_n (Sat.seq (Sat.draw [(1, 0), (1, 2), (1, 4), (3, 1), (3, 3), (3, 5), (3, 6), (3, 7), (2, 8), (2, 9), (2, 10), (2, 11), (4, 12), (4, 13), (4, 14), (4, 15)] Mixed zK (Tr.loadAll J J J Y79 J Sz79 Z4 (Point.length zP) ?_))))
 refine Tr.loadAll J J J Y79 J Sz79 Z2 (Point.length zP) ?_
 refine Tr.loadAll J J J Y79 J Sz79 Z4 (Point.length zP) ?_
 refine Tr.callV J J J J Body179 (curve_widen P) (fun _ _ => trivial) (Tr.callV J J J J Body179 (curve_widen Q) (fun _ _ => trivial) (Tr.callV J J J J Body179 (curve_widen P) (fun _ _ => trivial) (Tr.callV J J J J Body178 (curve_Zero) (fun _ _ => trivial) (Tr.callV J J J J Body179 (curve_widen (zero : Pt Fp)) (fun _ _ => trivial) (Tr.alloc (cs := wide.zero.cells) J wide.zr J ?_)))))
 intro n10 hn10 hf10
 refine Tr.alloc (cs := wide.zero.cells) J wide.zr J ?_
 intro n11 hn11 hf11
 refine Tr.alloc (cs := wide.zero.cells) J wide.zr J ?_
 intro n12 hn12 hf12
 refine Tr.alloc (cs := wide.zero.cells) J wide.zr J ?_
 intro n13 hn13 hf13
 refine Tr.storeAll J J J J (wide.isCell (by exact wdc_ok _)) Sz168 (wide.length (by exact wdc_ok _)) Z3 (wide.length (by exact wide.zero_ok)) (by exact upd3) ?_
 refine Tr.storeAll J J J J (wide.isCell (by exact wdc_ok _)) Sz168 (wide.length (by exact wdc_ok _)) Z2 (wide.length (by exact wide.zero_ok)) (by exact upd2) ?_
 refine Tr.storeAll J J J J (wide.isCell (by exact wdc_ok _)) Sz168 (wide.length (by exact wdc_ok _)) Z1 (wide.length (by exact wide.zero_ok)) zV ?_
 refine Tr.storeAll J J J J (wide.isCell (by exact wdc_ok _)) Sz168 (wide.length (by exact wdc_ok _)) Z0 (wide.length (by exact wide.zero_ok)) zU ?_
 refine Tr.nil (at_n (Sat.seq (Sat.region (Tr.loadAll J J J Y77 J Sz77 Z4 zF ?_))))
 refine Tr.callL (L := [⟨n12, (wdc (Wd.of P)).cells, 168, 128⟩]) J J J J J Body180 (wide_addD n12 n11 (Wd.of P) (Wd.of Q)) (pm_cons rM pm_nil) (lent_ok J) (fun w h => ⟨own_blk h Z1, sees_own h Z2, own_ne (b1 := ⟨n12, (wdc (Wd.of P)).cells, 168, 128⟩) (b2 := ⟨n11, (wdc (Wd.of Q)).cells, 168, 128⟩) h (pm_cons rM (pm_cons rM pm_nil))⟩) ?_
 rintro v36 out36 rfl
 simp only [List.cons_append, List.nil_append]
 refine Tr.nil (at_n (Sat.seq (Sat.seq (Sat.region (Tr.assign J J J (Tr.nil (at_n (Sat.block (Sat.loop (ι := Nat × Wd Fp) (fun p => ⟨[(4, ptr n4 0), (6, ptr n6 0), (8, ptr n8 0), (9, ptr n9 0), (10, ptr n10 0), (11, ptr n11 0), (12, ptr n12 0), (13, ptr n13 0), (14, i64 (255 - (p.1 : Int)))], [⟨n13, (wdc p.2).cells, 168, 128⟩, ⟨n12, (wdc (Wd.add fD (Wd.of P) (Wd.of Q))).cells, 168, 128⟩, ⟨n11, (wdc (Wd.of Q)).cells, 168, 128⟩, ⟨n10, (wdc (Wd.of P)).cells, 168, 128⟩, ⟨n9, bytesV (fb (fD + fD)), 77, 32⟩, ⟨n8, Point.zero.cells, 79, 64⟩, ⟨n6, bytesV b, 77, (bytesV b).length⟩, ⟨n4, bytesV a, 77, (bytesV a).length⟩]⟩) (fun p => p.1 ≤ 256 ∧ p.2.rep (cv.lin (le a / 2 ^ (256 - p.1)) (le b / 2 ^ (256 - p.1)) P Q)) (fun p => 256 - p.1) ((0, Wd.of zero)) ?_ ?_ ?_)))))))))
 · exact ⟨Nat.zero_le _, lin_first a b ha hb P Q⟩
 · exact weak_perm (wk1 rfl (wk1 rfl (wk1 rfl (wk1 rfl (wk1 rfl (wk1 rfl (wk1 rfl (wk1 rfl (wk1 rfl wk0))))))))) (pm_cons rM (pm_cons rM (pm_cons rM (pm_cons rM (pm_cons rM (pm_cons rM (pm_cons rM (pm_cons rM pm_nil))))))))
 ·
  rintro p ⟨hj1, hw⟩
  refine Sat.seq (Sat.seq (Sat.region (Tr.move J J J (Tr.geq J J J J J (Tr.nil (at_n (Sat.condP J (fun hc1 => ?_) (fun hc1 => ?_))))))))
  ·
   have hj : p.1 < 256 := by omega
   refine Sat.skip (at_n (Sat.join (ι := Wd Fp) (fun u => ⟨[(4, ptr n4 0), (6, ptr n6 0), (8, ptr n8 0), (9, ptr n9 0), (10, ptr n10 0), (11, ptr n11 0), (12, ptr n12 0), (13, ptr n13 0), (14, i64 (((255 - p.1 : Nat) : Int)))], [⟨n13, (wdc u).cells, 168, 128⟩, ⟨n12, (wdc (Wd.add fD (Wd.of P) (Wd.of Q))).cells, 168, 128⟩, ⟨n11, (wdc (Wd.of Q)).cells, 168, 128⟩, ⟨n10, (wdc (Wd.of P)).cells, 168, 128⟩, ⟨n9, bytesV (fb (fD + fD)), 77, 32⟩, ⟨n8, Point.zero.cells, 79, 64⟩, ⟨n6, bytesV b, 77, (bytesV b).length⟩, ⟨n4, bytesV a, 77, (bytesV a).length⟩]⟩) (fun u => u.rep (cv.lin (le a / 2 ^ (256 - (p.1 + 1))) (le b / 2 ^ (256 - (p.1 + 1))) P Q)) ?_ ?_))
   ·
    refine Sat.block (Sat.seq (Sat.region (Tr.callL (L := [⟨n13, (wdc p.2).cells, 168, 128⟩]) J J J J J Body181 (wide_double n13 p.2) (pm_cons rM pm_nil) (lent_ok J) (fun w h => own_blk h Z0) ?_)))
    rintro v41 out41 rfl
    simp only [List.cons_append, List.nil_append]
    rw [show (255 : Int) - (p.1 : Int) = ((255 - p.1 : Nat) : Int) by omega]
    refine Tr.nil (at_n (Sat.seq (Sat.draw [(1, 0), (0, 1), (1, 3), (0, 4), (3, 2), (3, 5), (0, 6)] Mixed zK (Tr.loadAll J J J Y77 J Sz77 (by exact mem7) (by (simp [ha]; done)) ?_))))
    refine Tr.move J J J (Tr.loadAll J J J Y77 J Sz77 (by exact mem6) (by (simp [hb]; done)) ?_)
    refine Tr.move J J J (Tr.callB J J J J Body182 (scalar_bit_at a ha (255 - p.1) oM) (fun _ _ => trivial) (fun hs10_20 => ?_) (fun hs10_20 => ?_))
    ·
     have hs10_2 := nd_t hs10_20
     have hs10_2 := hs10_20
     refine Tr.callB J J J J Body182 (scalar_bit_at b hb (255 - p.1) oM) (fun _ _ => trivial) (fun hs10_50 => ?_) (fun hs10_50 => ?_)
     ·
      have hs10_5 := nd_t hs10_50
      have hs10_5 := hs10_50
      refine Tr.build (cs := [.bool true, .bool true]) J J J (fun w => by kernel_rfl) ?_
      refine Tr.nil (at_n (Sat.block (Sat.seq (Sat.region (Tr.build (cs := [.bool true, .bool true]) J J J (fun w => by kernel_rfl) ?_)))))
      refine Tr.eql_rec (q := (true == true && true == true)) (r := true) J J J J pair_eg (fun w => pair_eq true true true true w) J (Tr.assign J J J (Tr.nil (at_n (Sat.cond_t J J (Sat.region (Tr.loadAll J J J Y77 J Sz77 Z4 zF ?_))))))
      refine Tr.callL (L := [⟨n13, (wdc (Wd.dbl p.2)).cells, 168, 128⟩]) J J J J J Body180 (wide_addD n13 n12 (Wd.dbl p.2) (Wd.add fD (Wd.of P) (Wd.of Q))) (pm_cons rM pm_nil) (lent_ok J) (fun w h => ⟨own_blk h Z0, sees_own h Z1, own_ne (b1 := ⟨n13, (wdc (Wd.dbl p.2)).cells, 168, 128⟩) (b2 := ⟨n12, (wdc (Wd.add fD (Wd.of P) (Wd.of Q))).cells, 168, 128⟩) h (pm_cons rM (pm_cons rM pm_nil))⟩) ?_
      rintro v53 out53 rfl
      simp only [List.cons_append, List.nil_append]
      refine Tr.nil (bl_n (bl_n (at_n ?_)))
      (exact ⟨Wd.add fD (Wd.dbl p.2) (Wd.add fD (Wd.of P) (Wd.of Q)), (by rw [lin_tt hj hP hQ hs10_2 hs10_5]; exact cv.rep_add (cv.rep_dbl hw (cv.on_lin hP hQ _ _)) (cv.rep_add (cv.rep_of P) (cv.rep_of Q) hP hQ) (cv.on_add (cv.on_lin hP hQ _ _) (cv.on_lin hP hQ _ _)) (cv.on_add hP hQ)), weak_perm (wk1 rfl (wk1 rfl (wk1 rfl (wk1 rfl (wk1 rfl (wk1 rfl (wk1 rfl (wk1 rfl (wk1 rfl wk0))))))))) (pm_cons rM (pm_cons rM (pm_cons rM (pm_cons rM (pm_cons rM (pm_cons rM (pm_cons rM (pm_cons rM pm_nil))))))))⟩)
     ·
      have hs10_5 := nd_f hs10_50
      have hs10_5 := hs10_50
      refine Tr.build (cs := [.bool true, .bool false]) J J J (fun w => by kernel_rfl) ?_
      refine Tr.nil (at_n (Sat.block (Sat.seq (Sat.region (Tr.build (cs := [.bool true, .bool true]) J J J (fun w => by kernel_rfl) ?_)))))
      refine Tr.eql_rec (q := (true == true && false == true)) (r := false) J J J J pair_eg (fun w => pair_eq true false true true w) J (Tr.assign J J J (Tr.nil (at_n (Sat.cond_f J J (Sat.seq (Sat.region (Tr.build (cs := [.bool true, .bool false]) J J J (fun w => by kernel_rfl) ?_)))))))
      refine Tr.eql_rec (q := (true == true && false == false)) (r := true) J J J J pair_eg (fun w => pair_eq true false true false w) J (Tr.assign J J J (Tr.nil (at_n (Sat.cond_t J J (Sat.region (Tr.loadAll J J J Y77 J Sz77 Z4 zF ?_))))))
      refine Tr.callL (L := [⟨n13, (wdc (Wd.dbl p.2)).cells, 168, 128⟩]) J J J J J Body180 (wide_addD n13 n10 (Wd.dbl p.2) (Wd.of P)) (pm_cons rM pm_nil) (lent_ok J) (fun w h => ⟨own_blk h Z0, sees_own h Z3, own_ne (b1 := ⟨n13, (wdc (Wd.dbl p.2)).cells, 168, 128⟩) (b2 := ⟨n10, (wdc (Wd.of P)).cells, 168, 128⟩) h (pm_cons rM (pm_cons rM pm_nil))⟩) ?_
      rintro v58 out58 rfl
      simp only [List.cons_append, List.nil_append]
      refine Tr.nil (bl_n (bl_n (at_n ?_)))
      (exact ⟨Wd.add fD (Wd.dbl p.2) (Wd.of P), (by rw [lin_tf hj hP hQ hs10_2 hs10_5]; exact cv.rep_add (cv.rep_dbl hw (cv.on_lin hP hQ _ _)) (cv.rep_of P) (cv.on_add (cv.on_lin hP hQ _ _) (cv.on_lin hP hQ _ _)) hP), weak_perm (wk1 rfl (wk1 rfl (wk1 rfl (wk1 rfl (wk1 rfl (wk1 rfl (wk1 rfl (wk1 rfl (wk1 rfl wk0))))))))) (pm_cons rM (pm_cons rM (pm_cons rM (pm_cons rM (pm_cons rM (pm_cons rM (pm_cons rM (pm_cons rM pm_nil))))))))⟩)
    ·
     have hs10_2 := nd_f hs10_20
     have hs10_2 := hs10_20
     refine Tr.callB J J J J Body182 (scalar_bit_at b hb (255 - p.1) oM) (fun _ _ => trivial) (fun hs10_50 => ?_) (fun hs10_50 => ?_)
     ·
      have hs10_5 := nd_t hs10_50
      have hs10_5 := hs10_50
      refine Tr.build (cs := [.bool false, .bool true]) J J J (fun w => by kernel_rfl) ?_
      refine Tr.nil (at_n (Sat.block (Sat.seq (Sat.region (Tr.build (cs := [.bool true, .bool true]) J J J (fun w => by kernel_rfl) ?_)))))
      refine Tr.eql_rec (q := (false == true && true == true)) (r := false) J J J J pair_eg (fun w => pair_eq false true true true w) J (Tr.assign J J J (Tr.nil (at_n (Sat.cond_f J J (Sat.seq (Sat.region (Tr.build (cs := [.bool true, .bool false]) J J J (fun w => by kernel_rfl) ?_)))))))
      refine Tr.eql_rec (q := (false == true && true == false)) (r := false) J J J J pair_eg (fun w => pair_eq false true true false w) J (Tr.assign J J J (Tr.nil (at_n (Sat.cond_f J J (Sat.seq (Sat.region (Tr.build (cs := [.bool false, .bool true]) J J J (fun w => by kernel_rfl) ?_)))))))
      refine Tr.eql_rec (q := (false == false && true == true)) (r := true) J J J J pair_eg (fun w => pair_eq false true false true w) J (Tr.assign J J J (Tr.nil (at_n (Sat.cond_t J J (Sat.region (Tr.loadAll J J J Y77 J Sz77 Z4 zF ?_))))))
      refine Tr.callL (L := [⟨n13, (wdc (Wd.dbl p.2)).cells, 168, 128⟩]) J J J J J Body180 (wide_addD n13 n11 (Wd.dbl p.2) (Wd.of Q)) (pm_cons rM pm_nil) (lent_ok J) (fun w h => ⟨own_blk h Z0, sees_own h Z2, own_ne (b1 := ⟨n13, (wdc (Wd.dbl p.2)).cells, 168, 128⟩) (b2 := ⟨n11, (wdc (Wd.of Q)).cells, 168, 128⟩) h (pm_cons rM (pm_cons rM pm_nil))⟩) ?_
      rintro v63 out63 rfl
      simp only [List.cons_append, List.nil_append]
      refine Tr.nil (bl_n (bl_n (at_n ?_)))
      (exact ⟨Wd.add fD (Wd.dbl p.2) (Wd.of Q), (by rw [lin_ft hj hP hQ hs10_2 hs10_5]; exact cv.rep_add (cv.rep_dbl hw (cv.on_lin hP hQ _ _)) (cv.rep_of Q) (cv.on_add (cv.on_lin hP hQ _ _) (cv.on_lin hP hQ _ _)) hQ), weak_perm (wk1 rfl (wk1 rfl (wk1 rfl (wk1 rfl (wk1 rfl (wk1 rfl (wk1 rfl (wk1 rfl (wk1 rfl wk0))))))))) (pm_cons rM (pm_cons rM (pm_cons rM (pm_cons rM (pm_cons rM (pm_cons rM (pm_cons rM (pm_cons rM pm_nil))))))))⟩)
     ·
      have hs10_5 := nd_f hs10_50
      have hs10_5 := hs10_50
      refine Tr.build (cs := [.bool false, .bool false]) J J J (fun w => by kernel_rfl) ?_
      refine Tr.nil (at_n (Sat.block (Sat.seq (Sat.region (Tr.build (cs := [.bool true, .bool true]) J J J (fun w => by kernel_rfl) ?_)))))
      refine Tr.eql_rec (q := (false == true && false == true)) (r := false) J J J J pair_eg (fun w => pair_eq false false true true w) J (Tr.assign J J J (Tr.nil (at_n (Sat.cond_f J J (Sat.seq (Sat.region (Tr.build (cs := [.bool true, .bool false]) J J J (fun w => by kernel_rfl) ?_)))))))
      refine Tr.eql_rec (q := (false == true && false == false)) (r := false) J J J J pair_eg (fun w => pair_eq false false true false w) J (Tr.assign J J J (Tr.nil (at_n (Sat.cond_f J J (Sat.seq (Sat.region (Tr.build (cs := [.bool false, .bool true]) J J J (fun w => by kernel_rfl) ?_)))))))
      refine Tr.eql_rec (q := (false == false && false == true)) (r := false) J J J J pair_eg (fun w => pair_eq false false false true w) J (Tr.assign J J J (Tr.nil (at_n (Sat.cond_f J J (Sat.skip (bl_n (bl_n (at_n ?_))))))))
      (exact ⟨Wd.dbl p.2, (by rw [lin_ff hj hP hQ hs10_2 hs10_5]; exact (cv.rep_dbl hw (cv.on_lin hP hQ _ _))), weak_perm (wk1 rfl (wk1 rfl (wk1 rfl (wk1 rfl (wk1 rfl (wk1 rfl (wk1 rfl (wk1 rfl (wk1 rfl wk0))))))))) (pm_cons rM (pm_cons rM (pm_cons rM (pm_cons rM (pm_cons rM (pm_cons rM (pm_cons rM (pm_cons rM pm_nil))))))))⟩)
   ·
    intro u hj
    have hu := hj
    refine Sat.region (Tr.move J J J (Tr.sub_i64 J J J J oM (Tr.assign J J J (Tr.nil (at_n ?_)))))
    exact ⟨(p.1 + 1, u), ⟨by simp only []; omega, hu⟩, by simp only []; omega, weak_perm (wk1 rfl (wk1 rfl (wk1 rfl (wk1 rfl (wk1 rfl (wk1 rfl (wk1 rfl (wk1 rfl (wk1 (congrArg (fun z => some (i64 z)) (show ((255 - p.1 : Nat) : Int) - 1 = 255 - ((p.1 + 1 : Nat) : Int) by omega)) wk0))))))))) (pm_cons rM (pm_cons rM (pm_cons rM (pm_cons rM (pm_cons rM (pm_cons rM (pm_cons rM (pm_cons rM pm_nil))))))))⟩
  ·
   have hje : p.1 = 256 := by omega
   have hfin : p.2.rep (cv.lin (le a) (le b) P Q) := by rw [hje, lin_last] at hw; exact hw
   refine Sat.exit (at_x (at_x (bl_h (at_n (Sat.seq (Sat.region (Tr.callV J J J J Body183 (wide_pointR n13 p.2 _ hfin) (fun w h => sees_own h Z0) ?_)))))))
   refine Tr.storeAll J J J J (Point.isCell zP) Sz79 (Point.length zP) (by exact mem5) (Point.length zZ) (by exact upd5) ?_
   refine Tr.nil (at_n (Sat.ret (en_r ?_)))
   refine ⟨_, [], res_cell J J Y79 J Sz79 (by exact mem5) (by exact Point.length zP), sP, sP, ?_, rfl⟩
   rfl

theorem ptc_y (P : Pt Fp) : (ptc P).fY = fb P.y := rfl
theorem le_zero32 : le (List.replicate 32 0) = 0 := by kernel_rfl
theorem curve_Mul2z (a : List UInt8) (P : Pt Fp) (ha : a.length = 32) (hP : cv.on P) : Meets Tryz.prog 109 [agg (bytesV a), agg (ptc P).cells, agg (bytesV (List.replicate 32 0)), agg (ptc (zero : Pt Fp)).cells] [] (fun _ => True) (fun v out => v = agg (ptc (cv.mul (le a) P)).cells ∧ out = []) := by
  have h := curve_Mul2 a (List.replicate 32 0) P zero ha rfl hP cv.on_zero
  rwa [le_zero32, lin_one] at h

theorem curve_Mul (a : List UInt8) (P : Pt Fp) (ha : a.length = 32) (hP : cv.on P) : Meets Tryz.prog 159 [agg (bytesV a), agg (ptc P).cells] [] (fun _ => True) (fun v out => v = agg (ptc (cv.mul (le a) P)).cells ∧ out = []) := by
 intro W hW
 refine calls_of (hp0 := []) Tryz.func159 J 10 Tryz.ntmps159 J (HRep.nil _) (Sat.seq (Sat.region (Tr.boxA J J ?_)))
 intro n2 hn2 hf2
 refine Tr.boxA J J ?_
 intro n3 hn3 hf3
 refine Tr.alloc (cs := Point.zero.cells) J Point.zr J ?_
 intro n4 hn4 hf4
 refine Tr.nil (at_n (Sat.seq (Sat.draw [(1, 0), (1, 1), (0, 2), (3, 3), (3, 4), (4, 5)] Mixed zK (Tr.loadAll J J J Y77 J Sz77 Z2 (by (simp [ha]; done)) ?_))))
 refine Tr.loadAll J J J Y79 J Sz79 Z1 (Point.length zP) ?_
 refine Tr.build (cs := bytesV (List.replicate 32 0)) J J J (fun w => by kernel_rfl) ?_
 refine Tr.callV J J J J Body178 (curve_Zero) (fun _ _ => trivial) (Tr.callV J J J J Body109 (curve_Mul2z a P ha hP) (fun _ _ => trivial) (Tr.storeAll J J J J (Point.isCell zP) Sz79 (Point.length zP) Z0 (Point.length zZ) zU ?_))
 refine Tr.nil (at_n (Sat.ret (en_r ?_)))
 refine ⟨_, [], res_cell J J Y79 J Sz79 Z0 (by exact Point.length zP), sP, sP, ?_, rfl⟩
 rfl

theorem curve_Neg (P : Pt Fp) (hP : cv.on P) : Meets Tryz.prog 111 [agg (ptc P).cells] [] (fun _ => True) (fun v out => v = agg (ptc (neg P)).cells ∧ out = []) := by
 intro W hW
 refine calls_of (hp0 := []) Tryz.func111 J 13 Tryz.ntmps111 J (HRep.nil _) (Sat.seq (Sat.region (Tr.boxA J J ?_)))
 intro n1 hn1 hf1
 refine Tr.alloc (cs := Point.zero.cells) J Point.zr J ?_
 intro n2 hn2 hf2
 refine Tr.nil (at_n (Sat.seq (Sat.seq (Sat.region (Tr.loadAll J J J Y79 J Sz79 Z1 (Point.length zP) ?_)))))
 refine Tr.callV J J J J Body177 (curve_Check_on P hP) (fun _ _ => trivial) (Tr.nei J J J J (show (!decide _) = false from congrArg not (decide_eq_true (rfl))) (Tr.nil (at_n (Sat.cond_f J (rfl) (Sat.skip (at_n (Sat.seq (Sat.draw [(0, 0), (1, 1), (0, 3), (1, 4), (3, 2), (0, 5), (4, 6)] Mixed zK (Tr.fld J J J Y79 J Sz77 dE _ J (Tr.loadN (bytesV _) J J J Y77 J Sz77 Z1 (Point.row_fX zP) (Point.rl_fX zP) ?_))))))))))
 refine Tr.fld J J J Y79 J Sz77 dE _ J (Tr.loadN (bytesV _) J J J Y77 J Sz77 Z1 (Point.row_fY zP) (Point.rl_fY zP) ?_)
 refine Tr.callV J J J J Body176 (f_neg _) (fun _ _ => trivial) (Tr.build (cs := (ptc (neg P)).cells) J J J (fun w => by kernel_rfl) ?_)
 refine Tr.storeAll J J J J (Point.isCell zP) Sz79 (Point.length zP) Z0 (Point.length zZ) zU ?_
 refine Tr.nil (at_n (Sat.ret (en_r ?_)))
 refine ⟨_, [], res_cell J J Y79 J Sz79 Z0 (by exact Point.length zP), sP, sP, ?_, rfl⟩
 rfl

theorem curve_Bytes (P : Pt Fp) (hP : cv.on P) : Meets Tryz.prog 158 [agg (ptc P).cells] [] (fun _ => True) (fun v out => v = .tuple #[agg (bytesV (pb P)), i64 0] ∧ out = []) := by
 intro W hW
 refine calls_of (hp0 := []) Tryz.func158 J 22 Tryz.ntmps158 J (HRep.nil _) (Sat.seq (Sat.region (Tr.boxA J J ?_)))
 intro n1 hn1 hf1
 refine Tr.alloc (cs := (bytesV (List.replicate 32 0))) J Zr23 J ?_
 intro n2 hn2 hf2
 refine Tr.assign J J J (Tr.nil (at_n (Sat.seq (Sat.seq (Sat.region (Tr.loadAll J J J Y79 J Sz79 Z1 (Point.length zP) ?_))))))
 refine Tr.callV J J J J Body177 (curve_Check_on P hP) (fun _ _ => trivial) (Tr.assign J J J (Tr.nil (at_n (Sat.seq (Sat.region (Tr.move J J J (Tr.nei J J J J (show (!decide _) = false from congrArg not (decide_eq_true (rfl))) (Tr.nil (at_n (Sat.cond_f J (rfl) (Sat.skip (at_n (Sat.seq (Sat.region (Tr.fld J J J Y79 J Sz77 dE _ J (Tr.loadN (bytesV _) J J J Y77 J Sz77 Z1 (Point.row_fY zP) (Point.rl_fY zP) ?_))))))))))))))))
 refine Tr.alloc (cs := (bytesV (List.replicate 32 0))) J Zr23 J ?_
 intro n5 hn5 hf5
 refine Tr.storeAll J J J J zE Sz23 (by (simp [fb_length, ptc_y]; done)) Z0 sP zU ?_
 refine Tr.nil (at_n (Sat.join (ι := Unit) (fun _u => ⟨[(2, ptr n2 0), (5, ptr n5 0)], [⟨n5, bytesV (pb P), 23, 32⟩, ⟨n2, bytesV (List.replicate 32 0), 23, 32⟩]⟩) (fun _u => True) ?_ ?_))
 ·
  refine Sat.seq (Sat.region (Tr.fld J J J Y79 J Sz77 dE _ J (Tr.loadN (bytesV _) J J J Y77 J Sz77 Z2 (Point.row_fX zP) (Point.rl_fX zP) ?_)))
  refine Tr.callV J J J J Body215 (f_odd P.x) (fun _ _ => trivial) (Tr.nil (at_n (Sat.condP J (fun hc1 => ?_) (fun hc1 => ?_))))
  ·
   refine Sat.region (Tr.idxArr1 J J J J Y23 Sz5 31 J dE (Tr.load1 J J J Y5 J Z0 (by rfl) ?_))
   refine Tr.or_u8 J J J (show evIn _ _ = some (u8 128) from rfl) (Tr.idxArr1 J J J J Y23 Sz5 31 J dE (Tr.store1 J J J J J Sz5 Z0 (by (simp [fb_length, ptc_y]; done)) (by exact set_bytes _ _ _) zU ?_))
   refine Tr.nil (at_n ?_)
   (rw [show pb P = (fb P.y).set 31 ((fb P.y).getD 31 0 ||| 128) from if_pos hc1]; exact ⟨(), trivial, weak_of (wk1 rfl (wk1 rfl wk0)) (wh1 Z0 (wh1 Z1 wh0)) nD⟩)
  ·
   refine Sat.skip (at_n ?_)
   (rw [show pb P = fb P.y from if_neg hc1]; exact ⟨(), trivial, weak_of (wk1 rfl (wk1 rfl wk0)) (wh1 Z0 (wh1 Z1 wh0)) nD⟩)
 ·
  intro _u hj
  skip
  refine Sat.seq (Sat.region (Tr.loadAll J J J Y23 J Sz23 Z0 (by (simp [pb_length]; done)) ?_))
  refine Tr.storeAll J J J J zE Sz23 (by (simp [pb_length]; done)) Z1 sP zV ?_
  refine Tr.assign J J J (Tr.nil (at_n (Sat.ret (en_r ?_))))
  refine ⟨_, [], res_cell_tmp J J J Y23 J Sz23 Z1 (by simp [pb_length]), sP, sP, ?_, rfl⟩
  rfl

def rdV (b : List UInt8) : Value := match rdP b with
  | some P => .tuple #[agg (ptc P).cells, i64 0]
  | none => .tuple #[agg Point.zero.cells, i64 4]
theorem rdV_none {b : List UInt8} (h : rdP b = none) : rdV b = .tuple #[agg Point.zero.cells, i64 4] := by rw [rdV, h]
theorem rdV_some {b : List UInt8} {P : Pt Fp} (h : rdP b = some P) : rdV b = .tuple #[agg (ptc P).cells, i64 0] := by rw [rdV, h]
theorem rd_n1 {b : List UInt8} (h : ¬ fb (fe (le (lowB b))) = lowB b) : rdP b = none := by rw [rdP, if_neg h]
theorem rd_n2 {b : List UInt8} {r : Fp × Bool} (hx : xOf (fe (le (lowB b))) = r) (h : r.2 = false) : rdP b = none := by
  rw [rdP]
  split
  · rw [hx, if_neg (by rw [h]; simp)]
  · rfl
theorem rd_n3 {b : List UInt8} {r : Fp × Bool} (hx : xOf (fe (le (lowB b))) = r) (h1 : topB b = true) (h : fb r.1 = List.replicate 32 0) : rdP b = none := by
  have h2 : r.1 = 0 := fb_inj.1 (h.trans fb_zero.symm)
  rw [rdP]
  split
  · rw [hx, if_neg (fun e => e.2 ⟨h1, h2⟩)]
  · rfl
theorem rd_s1 {b : List UInt8} {r : Fp × Bool} (hc : fb (fe (le (lowB b))) = lowB b) (hx : xOf (fe (le (lowB b))) = r) (h2 : r.2 = true) (h1 : topB b = true) (h : ¬ fb r.1 = List.replicate 32 0) : rdP b = some ⟨-r.1, fe (le (lowB b))⟩ := by
  rw [rdP, if_pos hc, hx, if_pos ⟨h2, fun e => h (by rw [e.2, fb_zero])⟩, if_pos h1]
theorem rd_s2 {b : List UInt8} {r : Fp × Bool} (hc : fb (fe (le (lowB b))) = lowB b) (hx : xOf (fe (le (lowB b))) = r) (h2 : r.2 = true) (h1 : topB b = false) : rdP b = some ⟨r.1, fe (le (lowB b))⟩ := by
  rw [rdP, if_pos hc, hx, if_pos ⟨h2, fun e => by rw [h1] at e; cases e.1⟩, if_neg (by rw [h1]; decide)]
theorem topB_t {b : List UInt8} (h : ¬ ((b.getD 31 0 &&& 128).toNat : Int) = 0) : topB b = true := by rw [topB, decide_eq_false h]; rfl
theorem topB_f {b : List UInt8} (h : ((b.getD 31 0 &&& 128).toNat : Int) = 0) : topB b = false := by rw [topB, decide_eq_true h]; rfl

theorem curve_Read (b : List UInt8) (hb : b.length = 32) : Meets Tryz.prog 108 [agg (bytesV b)] [] (fun _ => True) (fun v out => v = rdV b ∧ out = []) := by
 intro W hW
 have hll := lowB_length hb
 obtain ⟨Y, hY⟩ : ∃ Y, fe (le (lowB b)) = Y := ⟨_, rfl⟩
 have hcan := field_Canon (lowB b) hll
 have hmul := field_Mul (lowB b) (lowB b) hll hll
 have hinv := f_inv (fD * (Y * Y) + 1)
 have hxo : xOf Y = fRoot ((Y * Y - 1) * finv (fD * (Y * Y) + 1)) := rfl
 revert hinv hxo
 generalize finv (fD * (Y * Y) + 1) = iz
 intro hinv hxo
 have hroot := field_Root (fb ((Y * Y - 1) * iz)) ((Y * Y - 1) * iz) (fb_length _) (fe_fb _)
 revert hroot hxo
 generalize fRoot ((Y * Y - 1) * iz) = xr
 intro hxo hroot
 rw [← hY] at hxo
 rw [hY] at hcan hmul
 refine calls_of (hp0 := []) Tryz.func108 J 60 Tryz.ntmps108 J (HRep.nil _) (Sat.seq (Sat.region (Tr.boxA J J ?_)))
 intro n1 hn1 hf1
 refine Tr.alloc (cs := Point.zero.cells) J Point.zr J ?_
 intro n2 hn2 hf2
 refine Tr.assign J J J (Tr.nil (at_n (Sat.seq (Sat.region (Tr.idxArr1 J J J J Y23 Sz5 31 J dE (Tr.load1 J J J Y5 J Z1 zG ?_))))))
 refine Tr.and_u8 J J J (show evIn _ _ = some (u8 128) from rfl) (two (fun r hr k => Tr.nei J J J J hr k) (fun hs1_30 => ?_) (fun hs1_30 => ?_))
 ·
  have hs1_3 := nd_t hs1_30
  refine Tr.assign J J J (Tr.nil (at_n (Sat.seq (Sat.region (Tr.loadAll J J J Y23 J Sz23 Z1 (by (simp [hb]; done)) ?_)))))
  refine Tr.alloc (cs := (bytesV (List.replicate 32 0))) J Zr77 J ?_
  intro n5 hn5 hf5
  refine Tr.storeAll J J J J zE Sz77 (by (simp [hb]; done)) Z0 sP zU ?_
  refine Tr.nil (at_n (Sat.seq (Sat.region (Tr.idxArr1 J J J J Y77 Sz5 31 J dE (Tr.load1 J J J Y5 J Z0 zG ?_)))))
  refine Tr.and_u8 J J J (show evIn _ _ = some (u8 127) from rfl) (Tr.idxArr1 J J J J Y77 Sz5 31 J dE (Tr.store1 J J J J J Sz5 Z0 (by (simp [hb]; done)) (by exact set_bytes _ _ _) zU ?_))
  refine Tr.nil (at_n (Sat.seq (Sat.seq (Sat.region (Tr.loadAll J J J Y77 J Sz77 Z0 (by (simp [hb]; done)) ?_)))))
  refine Tr.callV J J J J Body168 (hcan) (fun _ _ => trivial) (Tr.not J J J (Tr.nil (at_n (Sat.cond J (fun hc0 => ?_) (fun hc0 => ?_)))))
  ·
   have hcn : ¬ fb Y = lowB b := of_decide_eq_false (by simpa using hc0)
   refine Sat.seq (Sat.region (Tr.build (cs := Point.zero.cells) J J J (fun w => by kernel_rfl) ?_))
   refine Tr.storeAll J J J J (Point.isCell zZ) Sz79 (Point.length zZ) Z1 (Point.length zZ) zV ?_
   refine Tr.assign J J J (Tr.nil (at_n (Sat.ret (at_r (en_r ?_)))))
   refine ⟨_, [], res_cell_tmp J J J Y79 J Sz79 Z1 (by exact Point.length zZ), sP, sP, ?_, rfl⟩
   exact (rdV_none (rd_n1 (by rw [hY]; exact hcn))).symm
  ·
   have hcy : fb Y = lowB b := of_decide_eq_true (by simpa using hc0)
   refine Sat.skip (at_n (Sat.seq (Sat.region (Tr.loadAll J J J Y77 J Sz77 Z0 (by (simp [hb]; done)) ?_))))
   refine Tr.loadAll J J J Y77 J Sz77 Z0 (by (simp [hb]; done)) ?_
   refine Tr.callV J J J J Body169 (hmul) (fun _ _ => trivial) (Tr.alloc (cs := (bytesV (List.replicate 32 0))) J Zr77 J ?_)
   intro n6 hn6 hf6
   refine Tr.storeAll J J J J zE Sz77 zF Z0 sP zU ?_
   refine Tr.nil (at_n (Sat.seq (Sat.draw [(1, 0), (3, 1), (3, 2), (2, 3), (4, 4)] Mixed zK (Tr.loadAll J J J Y77 J Sz77 Z0 zF ?_))))
   refine Tr.callV J J J J Body171 (f_one) (fun _ _ => trivial) (Tr.callV J J J J Body170 (f_sub _ _) (fun _ _ => trivial) (Tr.alloc (cs := (bytesV (List.replicate 32 0))) J Zr77 J ?_))
   intro n7 hn7 hf7
   refine Tr.storeAll J J J J zE Sz77 zF Z0 sP zU ?_
   refine Tr.nil (at_n (Sat.seq (Sat.draw [(1, 1), (3, 0), (3, 2), (3, 3), (3, 4), (2, 5), (4, 6)] Mixed zK (Tr.loadAll J J J Y77 J Sz77 Z1 zF ?_))))
   refine Tr.callV J J J J Body173 (curve_D) (fun _ _ => trivial) (Tr.callV J J J J Body169 (f_mul _ _) (fun _ _ => trivial) (Tr.callV J J J J Body171 (f_one) (fun _ _ => trivial) (Tr.callV J J J J Body172 (f_add _ _) (fun _ _ => trivial) (Tr.alloc (cs := (bytesV (List.replicate 32 0))) J Zr77 J ?_))))
   intro n8 hn8 hf8
   refine Tr.storeAll J J J J zE Sz77 zF Z0 sP zU ?_
   refine Tr.nil (at_n (Sat.seq (Sat.draw [(1, 0), (1, 1), (3, 2), (3, 3), (3, 4), (0, 5), (0, 6), (0, 7), (2, 8), (4, 9), (0, 10)] Mixed zK (Tr.loadAll J J J Y77 J Sz77 Z1 zF ?_))))
   refine Tr.loadAll J J J Y77 J Sz77 Z0 zF ?_
   refine Tr.callV J J J J Body175 (hinv) (fun _ _ => trivial) (Tr.callV J J J J Body169 (f_mul _ _) (fun _ _ => trivial) (Tr.callV J J J J Body174 (hroot) (fun _ _ => trivial) (Tr.move J J J (Tr.extract J J J J (Tr.extractB J J J J (fun hs9_70 => ?_) (fun hs9_70 => ?_))))))
   ·
    have hs9_7 := hs9_70
    refine Tr.alloc (cs := (bytesV (List.replicate 32 0))) J Zr77 J ?_
    intro n9 hn9 hf9
    refine Tr.storeAll J J J J zE Sz77 zF Z0 sP zU ?_
    refine Tr.assign J J J (Tr.nil (at_n (Sat.seq (Sat.seq (Sat.region (Tr.move J J J (Tr.not J J J (Tr.move J J J (Tr.move J J J (Tr.move J J J (Tr.loadAll J J J Y77 J Sz77 Z0 zF ?_)))))))))))
    refine Tr.build (cs := bytesV (List.replicate 32 0)) J J J (fun w => by kernel_rfl) ?_
    refine two (fun r hr k => Tr.eql_bytes J J J J Tryz.eqGuardType77 Y77 Y5 Sz5 zF sP hr k) (fun hs10_70 => ?_) (fun hs10_70 => ?_)
    ·
     have hs10_7 := of_decide_eq_true hs10_70
     refine Tr.pick J J J J J J (Tr.pick J J J J J J (Tr.nil (at_n (Sat.cond_t J J (Sat.seq (Sat.region (Tr.build (cs := Point.zero.cells) J J J (fun w => by kernel_rfl) ?_)))))))
     refine Tr.storeAll J J J J (Point.isCell zZ) Sz79 (Point.length zZ) (by exact mem5) (Point.length zZ) (by exact upd5) ?_
     refine Tr.assign J J J (Tr.nil (at_n (Sat.ret (at_r (en_r ?_)))))
     refine ⟨_, [], res_cell_tmp J J J Y79 J Sz79 (by exact mem5) (by exact Point.length zZ), sP, sP, ?_, rfl⟩
     exact (rdV_none (rd_n3 hxo (topB_t hs1_3) hs10_7)).symm
    ·
     have hs10_7 := of_decide_eq_false hs10_70
     refine Tr.pick J J J J J J (Tr.pick J J J J J J (Tr.nil (at_n (Sat.cond_f J J (Sat.skip (at_n (Sat.seq (Sat.seq (Sat.region (Tr.move J J J (Tr.nil (at_n (Sat.cond_t J J (Sat.region (Tr.loadAll J J J Y77 J Sz77 Z0 zF ?_)))))))))))))))
     refine Tr.callV J J J J Body176 (f_neg _) (fun _ _ => trivial) (Tr.storeAll J J J J zE Sz77 zF Z0 zF zU ?_)
     refine Tr.nil (at_n (Sat.seq (Sat.region ?_)))
     rw [show b.set 31 (b.getD 31 0 &&& 127) = fb Y from hcy.symm]
     refine Tr.loadAll J J J Y77 J Sz77 Z0 zF ?_
     refine Tr.loadAll J J J Y77 J Sz77 Z4 zF ?_
     refine Tr.build (cs := (⟨fb (-xr.1), fb Y⟩ : Point).cells) J J J (fun w => by kernel_rfl) ?_
     refine Tr.storeAll J J J J (Point.isCell (by exact ⟨fb32 _, fb32 _⟩)) Sz79 (Point.length (by exact ⟨fb32 _, fb32 _⟩)) (by exact mem5) (Point.length zZ) (by exact upd5) ?_
     refine Tr.assign J J J (Tr.nil (at_n (Sat.ret (en_r ?_))))
     refine ⟨_, [], res_cell_tmp J J J Y79 J Sz79 (by exact mem5) (by exact Point.length (by exact ⟨fb32 _, fb32 _⟩)), sP, sP, ?_, rfl⟩
     (rw [rdV_some (rd_s1 (by rw [hY]; exact hcy) hxo hs9_7 (topB_t hs1_3) hs10_7), hY]; rfl)
   ·
    have hs9_7 := hs9_70
    refine Tr.alloc (cs := (bytesV (List.replicate 32 0))) J Zr77 J ?_
    intro n9 hn9 hf9
    refine Tr.storeAll J J J J zE Sz77 zF Z0 sP zU ?_
    refine Tr.assign J J J (Tr.nil (at_n (Sat.seq (Sat.seq (Sat.region (Tr.move J J J (Tr.not J J J (Tr.move J J J (Tr.skp J J (Tr.skp J J (Tr.skp J J (Tr.skp J J (Tr.skp J J (Tr.skp J J (Tr.pick J J J J J J (Tr.nil (at_n (Sat.cond_t J J (Sat.seq (Sat.region (Tr.build (cs := Point.zero.cells) J J J (fun w => by kernel_rfl) ?_)))))))))))))))))))))
    refine Tr.storeAll J J J J (Point.isCell zZ) Sz79 (Point.length zZ) (by exact mem5) (Point.length zZ) (by exact upd5) ?_
    refine Tr.assign J J J (Tr.nil (at_n (Sat.ret (at_r (en_r ?_)))))
    refine ⟨_, [], res_cell_tmp J J J Y79 J Sz79 (by exact mem5) (by exact Point.length zZ), sP, sP, ?_, rfl⟩
    exact (rdV_none (rd_n2 hxo hs9_7)).symm
 ·
  have hs1_3 := nd_f hs1_30
  refine Tr.assign J J J (Tr.nil (at_n (Sat.seq (Sat.region (Tr.loadAll J J J Y23 J Sz23 Z1 (by (simp [hb]; done)) ?_)))))
  refine Tr.alloc (cs := (bytesV (List.replicate 32 0))) J Zr77 J ?_
  intro n5 hn5 hf5
  refine Tr.storeAll J J J J zE Sz77 (by (simp [hb]; done)) Z0 sP zU ?_
  refine Tr.nil (at_n (Sat.seq (Sat.region (Tr.idxArr1 J J J J Y77 Sz5 31 J dE (Tr.load1 J J J Y5 J Z0 zG ?_)))))
  refine Tr.and_u8 J J J (show evIn _ _ = some (u8 127) from rfl) (Tr.idxArr1 J J J J Y77 Sz5 31 J dE (Tr.store1 J J J J J Sz5 Z0 (by (simp [hb]; done)) (by exact set_bytes _ _ _) zU ?_))
  refine Tr.nil (at_n (Sat.seq (Sat.seq (Sat.region (Tr.loadAll J J J Y77 J Sz77 Z0 (by (simp [hb]; done)) ?_)))))
  refine Tr.callV J J J J Body168 (hcan) (fun _ _ => trivial) (Tr.not J J J (Tr.nil (at_n (Sat.cond J (fun hc0 => ?_) (fun hc0 => ?_)))))
  ·
   have hcn : ¬ fb Y = lowB b := of_decide_eq_false (by simpa using hc0)
   refine Sat.seq (Sat.region (Tr.build (cs := Point.zero.cells) J J J (fun w => by kernel_rfl) ?_))
   refine Tr.storeAll J J J J (Point.isCell zZ) Sz79 (Point.length zZ) Z1 (Point.length zZ) zV ?_
   refine Tr.assign J J J (Tr.nil (at_n (Sat.ret (at_r (en_r ?_)))))
   refine ⟨_, [], res_cell_tmp J J J Y79 J Sz79 Z1 (by exact Point.length zZ), sP, sP, ?_, rfl⟩
   exact (rdV_none (rd_n1 (by rw [hY]; exact hcn))).symm
  ·
   have hcy : fb Y = lowB b := of_decide_eq_true (by simpa using hc0)
   refine Sat.skip (at_n (Sat.seq (Sat.region (Tr.loadAll J J J Y77 J Sz77 Z0 (by (simp [hb]; done)) ?_))))
   refine Tr.loadAll J J J Y77 J Sz77 Z0 (by (simp [hb]; done)) ?_
   refine Tr.callV J J J J Body169 (hmul) (fun _ _ => trivial) (Tr.alloc (cs := (bytesV (List.replicate 32 0))) J Zr77 J ?_)
   intro n6 hn6 hf6
   refine Tr.storeAll J J J J zE Sz77 zF Z0 sP zU ?_
   refine Tr.nil (at_n (Sat.seq (Sat.draw [(1, 0), (3, 1), (3, 2), (2, 3), (4, 4)] Mixed zK (Tr.loadAll J J J Y77 J Sz77 Z0 zF ?_))))
   refine Tr.callV J J J J Body171 (f_one) (fun _ _ => trivial) (Tr.callV J J J J Body170 (f_sub _ _) (fun _ _ => trivial) (Tr.alloc (cs := (bytesV (List.replicate 32 0))) J Zr77 J ?_))
   intro n7 hn7 hf7
   refine Tr.storeAll J J J J zE Sz77 zF Z0 sP zU ?_
   refine Tr.nil (at_n (Sat.seq (Sat.draw [(1, 1), (3, 0), (3, 2), (3, 3), (3, 4), (2, 5), (4, 6)] Mixed zK (Tr.loadAll J J J Y77 J Sz77 Z1 zF ?_))))
   refine Tr.callV J J J J Body173 (curve_D) (fun _ _ => trivial) (Tr.callV J J J J Body169 (f_mul _ _) (fun _ _ => trivial) (Tr.callV J J J J Body171 (f_one) (fun _ _ => trivial) (Tr.callV J J J J Body172 (f_add _ _) (fun _ _ => trivial) (Tr.alloc (cs := (bytesV (List.replicate 32 0))) J Zr77 J ?_))))
   intro n8 hn8 hf8
   refine Tr.storeAll J J J J zE Sz77 zF Z0 sP zU ?_
   refine Tr.nil (at_n (Sat.seq (Sat.draw [(1, 0), (1, 1), (3, 2), (3, 3), (3, 4), (0, 5), (0, 6), (0, 7), (2, 8), (4, 9), (0, 10)] Mixed zK (Tr.loadAll J J J Y77 J Sz77 Z1 zF ?_))))
   refine Tr.loadAll J J J Y77 J Sz77 Z0 zF ?_
   refine Tr.callV J J J J Body175 (hinv) (fun _ _ => trivial) (Tr.callV J J J J Body169 (f_mul _ _) (fun _ _ => trivial) (Tr.callV J J J J Body174 (hroot) (fun _ _ => trivial) (Tr.move J J J (Tr.extract J J J J (Tr.extractB J J J J (fun hs9_70 => ?_) (fun hs9_70 => ?_))))))
   ·
    have hs9_7 := hs9_70
    refine Tr.alloc (cs := (bytesV (List.replicate 32 0))) J Zr77 J ?_
    intro n9 hn9 hf9
    refine Tr.storeAll J J J J zE Sz77 zF Z0 sP zU ?_
    refine Tr.assign J J J (Tr.nil (at_n (Sat.seq (Sat.seq (Sat.region (Tr.move J J J (Tr.not J J J (Tr.move J J J (Tr.move J J J (Tr.move J J J (Tr.skp J J (Tr.skp J J (Tr.skp J J (Tr.pick J J J J J J (Tr.pick J J J J J J (Tr.nil (at_n (Sat.cond_f J J (Sat.skip (at_n (Sat.seq (Sat.seq (Sat.region (Tr.move J J J (Tr.nil (at_n (Sat.cond_f J J (Sat.skip (at_n (Sat.seq (Sat.region ?_)))))))))))))))))))))))))))))))
    rw [show b.set 31 (b.getD 31 0 &&& 127) = fb Y from hcy.symm]
    refine Tr.loadAll J J J Y77 J Sz77 Z0 zF ?_
    refine Tr.loadAll J J J Y77 J Sz77 Z4 zF ?_
    refine Tr.build (cs := (⟨fb xr.1, fb Y⟩ : Point).cells) J J J (fun w => by kernel_rfl) ?_
    refine Tr.storeAll J J J J (Point.isCell (by exact ⟨fb32 _, fb32 _⟩)) Sz79 (Point.length (by exact ⟨fb32 _, fb32 _⟩)) (by exact mem5) (Point.length zZ) (by exact upd5) ?_
    refine Tr.assign J J J (Tr.nil (at_n (Sat.ret (en_r ?_))))
    refine ⟨_, [], res_cell_tmp J J J Y79 J Sz79 (by exact mem5) (by exact Point.length (by exact ⟨fb32 _, fb32 _⟩)), sP, sP, ?_, rfl⟩
    (rw [rdV_some (rd_s2 (by rw [hY]; exact hcy) hxo hs9_7 (topB_f hs1_3)), hY]; rfl)
   ·
    have hs9_7 := hs9_70
    refine Tr.alloc (cs := (bytesV (List.replicate 32 0))) J Zr77 J ?_
    intro n9 hn9 hf9
    refine Tr.storeAll J J J J zE Sz77 zF Z0 sP zU ?_
    refine Tr.assign J J J (Tr.nil (at_n (Sat.seq (Sat.seq (Sat.region (Tr.move J J J (Tr.not J J J (Tr.move J J J (Tr.skp J J (Tr.skp J J (Tr.skp J J (Tr.skp J J (Tr.skp J J (Tr.skp J J (Tr.pick J J J J J J (Tr.nil (at_n (Sat.cond_t J J (Sat.seq (Sat.region (Tr.build (cs := Point.zero.cells) J J J (fun w => by kernel_rfl) ?_)))))))))))))))))))))
    refine Tr.storeAll J J J J (Point.isCell zZ) Sz79 (Point.length zZ) (by exact mem5) (Point.length zZ) (by exact upd5) ?_
    refine Tr.assign J J J (Tr.nil (at_n (Sat.ret (at_r (en_r ?_)))))
    refine ⟨_, [], res_cell_tmp J J J Y79 J Sz79 (by exact mem5) (by exact Point.length zZ), sP, sP, ?_, rfl⟩
    exact (rdV_none (rd_n2 hxo hs9_7)).symm

end Go.Proofs.YtpacobmjjjillaaGreat
end

section
namespace Go.Proofs.YtpacobmjjjillaaGreat
open Go Hw
set_option linter.unusedVariables false
set_option linter.unusedSimpArgs false

open Ed

/-- SHA-512 -/
def sha512 (l : List UInt8) : List UInt8 := sumUp (allW kW startW l) 64
theorem sha512_length (l : List UInt8) : (sha512 l).length = 64 := sumUp_length _ _
theorem sha_StartS (s : List UInt64) (h : Hid (startW = s)) : Meets Tryz.prog 204 [] [] (fun _ => True) (fun v out => v = agg (wordsV s) ∧ out = []) := by
  rw [← h.out]; exact sha_Start

theorem sha_Sum512 (p : Option Addr) (n c : Nat) (ss : List Sl) (ls : List (List UInt8)) (hss : ss.length = n) (hls : ls.length = n) (hsl : ∀ j, j < n → (ss.getD j Sl.nil).n = (ls.getD j []).length ∧ ((ss.getD j Sl.nil).p = none → (ss.getD j Sl.nil).n = 0)) (F : List UInt8) (hF : ls.flatten = F) (htot : F.length ≤ 90000) (hn : n ≤ 1000000) (s : List UInt8) (hs : Hid (sha512 F = s))  : Meets Tryz.prog 160 [.slice p n c] [] (fun W => SeesP W p (ss.map Sl.v) ∧ ∀ j, j < n → SeesP W (ss.getD j Sl.nil).p (bytesV (ls.getD j []))) (fun v out => v = agg (bytesV s) ∧ out = []) := by
 intro W hW
 have hs64 : s.length = 64 := by rw [← hs.out]; exact sha512_length F
 obtain ⟨k, hk⟩ : ∃ k, Hid (kW = k) := ⟨_, ⟨rfl⟩⟩
 obtain ⟨st, hst⟩ : ∃ k, Hid (startW = k) := ⟨_, ⟨rfl⟩⟩
 obtain ⟨r, hr⟩ : ∃ r, Hid (allW k st F = r) := ⟨_, ⟨rfl⟩⟩
 have hk80 : k.length = 80 := by rw [← hk.out]; rfl
 have hst8 : st.length = 8 := by rw [← hst.out]; rfl
 have hr8 : r.length = 8 := by rw [← hr.out, allW_length]; exact hst8
 have hs2 : Hid (sumUp r 64 = s) := ⟨by rw [← hs.out, sha512, hk.out, hst.out, hr.out]⟩
 refine calls_of (hp0 := []) Tryz.func160 J 7 Tryz.ntmps160 J (HRep.nil _) (Sat.seq (Sat.region (Tr.alloc (cs := (bytesV (List.replicate 64 0))) J Zr26 J ?_)))
 intro n2 hn2 hf2
 refine Tr.nil (at_n (Sat.seq (Sat.region (Tr.callV J J J J Body204 (sha_StartS st hst) (fun _ _ => trivial) (Tr.move J J J (Tr.callV J J J J Body127 (sha_whole st hst8 k hk hk80 p n c ss ls hss hls hsl F hF htot hn) (fun w h => ⟨seesP_ext h J hW.1, fun j hj => seesP_ext h J (hW.2 j hj)⟩) ?_))))))
 rw [hr.out]
 refine Tr.callV J J J J Body126 (sha_sum r hr8 s hs2) (fun _ _ => trivial) (Tr.storeAll J J J J zE Sz26 (by (simp [hs64]; done)) Z0 sP zU ?_)
 refine Tr.nil (at_n (Sat.ret (en_r ?_)))
 refine ⟨_, [], res_cell J J Y26 J Sz26 Z0 (by simp [hs64]), sP, sP, ?_, rfl⟩
 rfl

theorem sign_residue (p : Option Addr) (n c : Nat) (ss : List Sl) (ls : List (List UInt8)) (hss : ss.length = n) (hls : ls.length = n) (hsl : ∀ j, j < n → (ss.getD j Sl.nil).n = (ls.getD j []).length ∧ ((ss.getD j Sl.nil).p = none → (ss.getD j Sl.nil).n = 0)) (F : List UInt8) (hF : ls.flatten = F) (htot : F.length ≤ 90000) (hn : n ≤ 1000000) (s : List UInt8) (hs : Hid (sha512 F = s))  : Meets Tryz.prog 105 [.slice p n c] [] (fun W => SeesP W p (ss.map Sl.v) ∧ ∀ j, j < n → SeesP W (ss.getD j Sl.nil).p (bytesV (ls.getD j []))) (fun v out => v = agg (bytesV (leb 32 (le s % L))) ∧ out = []) := by
 intro W hW
 have hs64 : s.length = 64 := by rw [← hs.out]; exact sha512_length F
 refine calls_of (hp0 := []) Tryz.func105 J 14 Tryz.ntmps105 J (HRep.nil _) (Sat.seq (Sat.region (Tr.alloc (cs := (bytesV (List.replicate 32 0))) J Zr77 J ?_)))
 intro n2 hn2 hf2
 refine Tr.nil (at_n (Sat.seq (Sat.region (Tr.move J J J (Tr.callV J J J J Body160 (sha_Sum512 p n c ss ls hss hls hsl F hF htot hn s hs) (fun w h => ⟨seesP_ext h J hW.1, fun j hj => seesP_ext h J (hW.2 j hj)⟩) (Tr.alloc (cs := (bytesV (List.replicate 64 0))) J Zr26 J ?_))))))
 intro n3 hn3 hf3
 refine Tr.storeAll J J J J zE Sz26 (by (simp [hs64]; done)) Z0 sP zU ?_
 refine Tr.nil (at_n (Sat.seq (Sat.region (Tr.sliceArr J J J Y26 Sz5 (Tr.callV J J J J Body161 (scalar_rest n3 0 64 64 s hs64 dE) (fun w h => sees_own h Z0) ?_)))))
 refine Tr.move J J J (Tr.extract J J J J (Tr.extract J J J J (Tr.alloc (cs := (bytesV (List.replicate 32 0))) J Zr77 J ?_)))
 intro n4 hn4 hf4
 refine Tr.storeAll J J J J zE Sz77 (by (simp [leb_length]; done)) Z0 sP zU ?_
 refine Tr.assign J J J (Tr.nil (at_n (Sat.seq (Sat.region (Tr.loadAll J J J Y77 J Sz77 Z0 (by (simp [leb_length]; done)) ?_)))))
 refine Tr.storeAll J J J J zE Sz77 (by (simp [leb_length]; done)) Z2 sP (by exact upd2) ?_
 refine Tr.nil (at_n (Sat.ret (en_r ?_)))
 refine ⟨_, [], res_cell J J Y77 J Sz77 Z2 (by simp [leb_length]), sP, sP, ?_, rfl⟩
 rfl

theorem sign_multiple (a : List UInt8) (ha : a.length = 32) : Meets Tryz.prog 103 [agg (bytesV a)] [] (fun _ => True) (fun v out => v = agg (bytesV (pb (cv.mul (le a) bP))) ∧ out = []) := by
 intro W hW
 obtain ⟨Q, hQ⟩ : ∃ Q, cv.mul (le a) bP = Q := ⟨_, rfl⟩
 have hQo : cv.on Q := by rw [← hQ]; exact cv.on_mul bP_on _
 have hmul := curve_Mul a bP ha bP_on
 rw [hQ] at hmul ⊢
 refine calls_of (hp0 := []) Tryz.func103 J 13 Tryz.ntmps103 J (HRep.nil _) (Sat.seq (Sat.region (Tr.boxA J J ?_)))
 intro n1 hn1 hf1
 refine Tr.alloc (cs := (bytesV (List.replicate 32 0))) J Zr23 J ?_
 intro n2 hn2 hf2
 refine Tr.nil (at_n (Sat.seq (Sat.draw [(1, 0), (3, 1), (3, 2), (3, 3), (0, 4), (0, 5), (0, 6), (2, 7), (4, 8), (0, 9)] Mixed zK (Tr.loadAll J J J Y77 J Sz77 Z1 (by (simp [ha]; done)) ?_))))
 refine Tr.callV J J J J Body110 (curve_Base) (fun _ _ => trivial) (Tr.callV J J J J Body159 (hmul) (fun _ _ => trivial) (Tr.callV J J J J Body158 (curve_Bytes Q hQo) (fun _ _ => trivial) (Tr.move J J J (Tr.extract J J J J (Tr.extract J J J J (Tr.alloc (cs := (bytesV (List.replicate 32 0))) J Zr23 J ?_))))))
 intro n3 hn3 hf3
 refine Tr.storeAll J J J J zE Sz23 (by (simp [pb_length]; done)) Z0 sP zU ?_
 refine Tr.assign J J J (Tr.nil (at_n (Sat.seq (Sat.region (Tr.loadAll J J J Y23 J Sz23 Z0 (by (simp [pb_length]; done)) ?_)))))
 refine Tr.storeAll J J J J zE Sz23 (by (simp [pb_length]; done)) Z1 sP zV ?_
 refine Tr.nil (at_n (Sat.ret (en_r ?_)))
 refine ⟨_, [], res_cell J J Y23 J Sz23 Z1 (by simp [pb_length]), sP, sP, ?_, rfl⟩
 rfl

/-- the secret number of 32 bytes -/
def clampB (l : List UInt8) : List UInt8 := (l.set 0 (l.getD 0 0 &&& 248)).set 31 (((l.getD 31 0) &&& 127) ||| 64)
theorem clampB_length {l : List UInt8} (h : l.length = 32) : (clampB l).length = 32 := by simp [clampB, h]
theorem clamp_all (l z : List UInt8) (h : l.length = 32) : ((l ++ z).set 0 ((l ++ z).getD 0 0 &&& 248)).set 31 (((((l ++ z).set 0 ((l ++ z).getD 0 0 &&& 248)).getD 31 0) &&& 127) ||| 64) = clampB l ++ z := by
  have g : ∀ i, i < 32 → (l ++ z).getD i 0 = l.getD i 0 := fun i hi => by
    rw [List.getD_eq_getElem?_getD, List.getElem?_append_left oM, ← List.getD_eq_getElem?_getD]
  have g2 : ((l ++ z).set 0 ((l ++ z).getD 0 0 &&& 248)).getD 31 0 = l.getD 31 0 := by
    rw [List.getD_eq_getElem?_getD, List.getElem?_set_ne dE, ← List.getD_eq_getElem?_getD, g 31 dE]
  rw [g2, g 0 dE, List.set_append_left _ _ oM, List.set_append_left _ _ (by simp; omega)]
  rfl
def secB (h : List UInt8) : secrets := ⟨clampB (h.take 32), h.drop 32⟩
theorem secB_ok {h : List UInt8} (hl : h.length = 64) : (secB h).ok := ⟨clampB_length (by rw [List.length_take, hl]; rfl), by show (h.drop 32).length = 32; rw [List.length_drop, hl]⟩
theorem sec_first (l : List UInt8) : ({ secrets.zero with fNumber := l } : secrets).cells = bytesV (l ++ List.replicate 32 0) := by
  show bytesV l ++ bytesV (List.replicate 32 0) = _
  simp [bytesV]
theorem sec_last (l : List UInt8) : bytesV (clampB l ++ List.replicate 32 0) = (⟨clampB l, List.replicate 32 0⟩ : secrets).cells := by
  show _ = bytesV (clampB l) ++ bytesV (List.replicate 32 0)
  simp [bytesV]
theorem d64 {s : List UInt8} (h : s.length = 64) : (s.drop 32).take 32 = s.drop 32 := List.take_of_length_le (by rw [List.length_drop, h]; decide)

theorem sign_expand (seed : List UInt8) (h32 : seed.length = 32) (s : List UInt8) (hs : Hid (sha512 seed = s)) : Meets Tryz.prog 104 [agg (bytesV seed)] [] (fun _ => True) (fun v out => v = agg (secB s).cells ∧ out = []) := by
 intro W hW
 have hs64 : s.length = 64 := by rw [← hs.out]; exact sha512_length seed
 have ht32 : (s.take 32).length = 32 := by rw [List.length_take, hs64]; rfl
 have hd32 : (s.drop 32).length = 32 := by rw [List.length_drop, hs64]
 refine calls_of (hp0 := []) Tryz.func104 J 29 Tryz.ntmps104 J (HRep.nil _) (Sat.seq (Sat.region (Tr.boxA J J ?_)))
 intro n1 hn1 hf1
 refine Tr.alloc (cs := secrets.zero.cells) J secrets.zr J ?_
 intro n2 hn2 hf2
 refine Tr.nil (at_n (Sat.seq (Sat.region (Tr.sliceArr J J J Y23 Sz5 (Tr.mkRow2 (z := .slice none 0 0) [.slice (some ⟨n1, 0, none⟩) 32 32] [.slice (some ⟨n1, 0, none⟩) 32 32] rfl J Y133 Sz39 Zr39 J J (by intro v hv; rw [List.mem_singleton.1 hv]; rfl) dE J ?_)))))
 intro q5
 refine Tr.callV J J J J Body160 (sha_Sum512 (some ⟨q5, 0, none⟩) 1 1 [⟨some ⟨n1, 0, none⟩, 32, 32⟩] [seed] rfl J (fun j hj => (by obtain rfl : j = 0 := oM; exact ⟨by simp [h32], fun e => by cases e⟩)) seed sP oM dE s hs) (fun w h => ⟨SeesP.of (sees_own h Z0), fun j hj => (by obtain rfl : j = 0 := oM; exact SeesP.of (sees_own h Z2))⟩) ?_
 refine Tr.alloc (cs := (bytesV (List.replicate 64 0))) J Zr26 J ?_
 intro n3 hn3 hf3
 refine Tr.storeAll J J J J zE Sz26 (by (simp [hs64]; done)) Z0 sP zU ?_
 refine Tr.nil (at_n (Sat.seq (Sat.region (Tr.sliceArrHi 32 J J J J J dE dE Y26 Sz5 (Tr.s2a J J J Y77 oM (Tr.loadN (bytesV (s.take 32)) J J J Y77 J Sz77 Z0 (by rw [List.drop_zero, ← List.map_take]) (by rw [List.length_map]; exact ht32) ?_))))))
 refine Tr.fld J J J Tryz.underlying114 J Sz77 dE _ J (Tr.storeN (bytesV _) J J J J J zE Sz77 (by simp [hs64]) Z2 (by rw [secrets.length (by exact secrets.zero_ok)]; simp [hs64]) (secrets.upd_fNumber (by exact secrets.zero_ok) _ (by simp [ht32])) (by exact upd2) ?_)
 refine Tr.nil (at_n (Sat.seq (Sat.region ?_)))
 rw [sec_first]
 refine Tr.fld J J J Tryz.underlying114 J Sz77 dE _ J (Tr.idxArr1 J J J J Y77 Sz5 0 J dE (Tr.load1 J J J Y5 J Z2 (get_bytes (by simp [ht32])) ?_))
 refine Tr.and_u8 J J J (show evIn _ _ = some (u8 248) from rfl) (Tr.fld J J J Tryz.underlying114 J Sz77 dE _ J (Tr.idxArr1 J J J J Y77 Sz5 0 J dE (Tr.store1 J J J J J Sz5 Z2 (by rw [bytesV, List.length_map]; simp [ht32]) (by exact set_bytes _ 0 _) (by exact upd2) ?_)))
 refine Tr.nil (at_n (Sat.seq (Sat.region (Tr.fld J J J Tryz.underlying114 J Sz77 dE _ J (Tr.idxArr1 J J J J Y77 Sz5 31 J dE (Tr.load1 J J J Y5 J Z2 (get_bytes (by simp [ht32])) ?_))))))
 refine Tr.and_u8 J J J (show evIn _ _ = some (u8 127) from rfl) (Tr.or_u8 J J J (show evIn _ _ = some (u8 64) from rfl) (Tr.fld J J J Tryz.underlying114 J Sz77 dE _ J (Tr.idxArr1 J J J J Y77 Sz5 31 J dE (Tr.store1 J J J J J Sz5 Z2 (by rw [bytesV, List.length_map]; simp [ht32]) (by exact set_bytes _ 31 _) (by exact upd2) ?_))))
 refine Tr.nil (at_n (Sat.seq (Sat.region ?_)))
 rw [clamp_all _ _ ht32, sec_last]
 refine Tr.sliceArrLo 32 J J J J J dE Y26 Sz5 (Tr.s2a J J J Y23 oM (Tr.loadN (bytesV (s.drop 32)) J J J Y23 J Sz23 Z0 (by show ((s.map u8).drop 32).take 32 = _; rw [← List.map_drop, ← List.map_take, d64 hs64]) (by rw [List.length_map]; exact hd32) ?_))
 refine Tr.fld J J J Tryz.underlying114 J Sz23 dE _ J (Tr.storeN (bytesV _) J J J J J zE Sz23 (by simp [hs64]) Z2 (by rw [secrets.length (by exact ⟨clampB_length ht32, rfl⟩)]; simp [hs64]) (secrets.upd_fRest (by exact ⟨clampB_length ht32, rfl⟩) _ (by simp [hd32])) (by exact upd2) ?_)
 refine Tr.nil (at_n (Sat.seq (Sat.region (Tr.loadAll J J J Tryz.underlying114 J Sz114 Z2 (secrets.length (by exact secB_ok hs64)) ?_))))
 refine Tr.storeAll J J J J (secrets.isCell (by exact secB_ok hs64)) Sz114 (secrets.length (by exact secB_ok hs64)) Z2 (secrets.length (by exact secB_ok hs64)) (by exact upd2) ?_
 refine Tr.nil (at_n (Sat.ret (en_r ?_)))
 refine ⟨_, [], res_cell J J Tryz.underlying114 J Sz114 Z2 (by exact secrets.length (by exact secB_ok hs64)), sP, sP, ?_, rfl⟩
 rfl

theorem sign_Key (seed : List UInt8) (h32 : seed.length = 32) (s : List UInt8) (hs : Hid (sha512 seed = s)) : Meets Tryz.prog 58 [agg (bytesV seed)] [] (fun _ => True) (fun v out => v = agg (bytesV (pb (cv.mul (le (clampB (s.take 32))) bP))) ∧ out = []) := by
 intro W hW
 have hs64 : s.length = 64 := by rw [← hs.out]; exact sha512_length seed
 have hc32 : (clampB (s.take 32)).length = 32 := clampB_length (by rw [List.length_take, hs64]; rfl)
 have hm := sign_multiple (clampB (s.take 32)) hc32
 refine calls_of (hp0 := []) Tryz.func58 J 7 Tryz.ntmps58 J (HRep.nil _) (Sat.seq (Sat.region (Tr.boxA J J ?_)))
 intro n1 hn1 hf1
 refine Tr.alloc (cs := (bytesV (List.replicate 32 0))) J Zr25 J ?_
 intro n2 hn2 hf2
 refine Tr.nil (at_n (Sat.seq (Sat.region (Tr.loadAll J J J Y23 J Sz23 Z1 (by (simp [h32]; done)) ?_))))
 refine Tr.callV J J J J Body104 (sign_expand seed h32 s hs) (fun _ _ => trivial) (Tr.fieldN (bytesV (clampB (s.take 32))) J J J Tryz.underlying114 J Y77 J Sz77 (secrets.row_fNumber (secB_ok hs64)) (Tr.callV J J J J Body103 (hm) (fun _ _ => trivial) (Tr.storeAll J J J J zE Sz25 (by (simp [pb_length]; done)) Z0 sP zU ?_)))
 refine Tr.nil (at_n (Sat.ret (en_r ?_)))
 refine ⟨_, [], res_cell J J Y25 J Sz25 Z0 (by simp [pb_length]), sP, sP, ?_, rfl⟩
 rfl

end Go.Proofs.YtpacobmjjjillaaGreat
end
