/- The scalars' word arithmetic as plain functions, and what it is as numbers; no program. No conditions. -/
import Derived.Test.YtjeggfgbcafenaaNum
namespace Hw
open Go
set_option linter.unusedSimpArgs false
set_option linter.unusedVariables false
set_option maxRecDepth 100000

def modW : List UInt64 := [1152921504606846976, 0, 1503914060200516822, 6346243789798364141]
theorem modW_length : modW.length = 4 := rfl
/-- twice a number, and a bit -/
def dblW (w : List UInt64) (b : UInt64) : List UInt64 :=
  [shl64 (w.getD 0 0) 1 ||| shr64 (w.getD 1 0) 63, shl64 (w.getD 1 0) 1 ||| shr64 (w.getD 2 0) 63, shl64 (w.getD 2 0) 1 ||| shr64 (w.getD 3 0) 63, shl64 (w.getD 3 0) 1 ||| b]
theorem dblW_length (w : List UInt64) (b : UInt64) : (dblW w b).length = 4 := rfl
/-- the words of bytes, after k rounds -/
def ldW (a : List UInt8) : Nat → List UInt64
  | 0 => List.replicate 4 0
  | k + 1 => (ldW a k).set (k / 8) (shl64 ((ldW a k).getD (k / 8) 0) 8 ||| (a.getD (31 - k) 0).toUInt64)
theorem ldW_length (a : List UInt8) : ∀ k, (ldW a k).length = 4
  | 0 => rfl
  | k + 1 => by simp [ldW, ldW_length a k]
/-- the bytes of words, after k rounds -/
def stB (w : List UInt64) : Nat → List UInt8
  | 0 => List.replicate 32 0
  | k + 1 => (stB w k).set (31 - k) (shr64 (w.getD (k / 8) 0) (56 - 8 * (k % 8))).toUInt8
theorem stB_length (w : List UInt64) : ∀ k, (stB w k).length = 32
  | 0 => rfl
  | k + 1 => by simp [stB, stB_length w k]
/-- a difference of words with a borrow, after t words from the low end -/
def mnsW (w m : List UInt64) : Nat → List UInt64 × UInt64
  | 0 => (w, 0)
  | t + 1 =>
    let p := mnsW w m t
    let x := (p.1.getD (3 - t) 0).toNat
    let y := (m.getD (3 - t) 0).toNat
    (p.1.set (3 - t) (w64 (x + 2 ^ 64 - y - p.2.toNat)), if x < y + p.2.toNat then 1 else 0)
theorem mnsW_length (w m : List UInt64) : ∀ t, (mnsW w m t).1.length = w.length
  | 0 => rfl
  | t + 1 => by simp [mnsW, mnsW_length w m t]
theorem mnsW_borrow (w m : List UInt64) : ∀ t, (mnsW w m t).2.toNat ≤ 1
  | 0 => by simp [mnsW]
  | t + 1 => by simp only [mnsW]; split <;> simp
/-- the entry of math/bits.Sub64 -/
def sub64E : Array Value → Sem Value := fun args => do
  let (x, y, b) ← Extern.MathBitsCarry.three "Sub64" args
  pure (Extern.MathBitsCarry.pair ((x + Extern.MathBitsCarry.m64 - y - b) % Extern.MathBitsCarry.m64) (if x < y + b then 1 else 0))

/-! ### what they are as numbers -/

theorem le_take_drop (l : List UInt8) (k : Nat) (h : k ≤ l.length) : le l = le (l.take k) + 256 ^ k * le (l.drop k) := by
  have := le_append (l.take k) (l.drop k)
  rw [List.take_append_drop] at this
  rw [this, List.length_take, Nat.min_eq_left h]

theorem le_drop (l : List UInt8) (k : Nat) (h : k ≤ l.length) : le l / 256 ^ k = le (l.drop k) := by
  have h1 := le_lt (l.take k)
  rw [List.length_take, Nat.min_eq_left h] at h1
  rw [le_take_drop l k h, Nat.add_mul_div_left _ _ (Nat.pow_pos (by decide)), Nat.div_eq_of_lt h1, Nat.zero_add]

theorem acc8 (x : UInt64) (b : UInt8) : shl64 x 8 ||| b.toUInt64 = w64 (x.toNat * 256 + b.toNat) := by
  apply UInt64.toNat_inj.1
  have hb := b.toNat_lt
  have hx := x.toNat_lt
  rw [UInt64.toNat_or, shl64_toNat, w64_toNat, UInt8.toNat_toUInt64]
  have e : x.toNat * 2 ^ 8 % 2 ^ 64 = 2 ^ 8 * (x.toNat % 2 ^ 56) := by omega
  rw [e, Nat.two_pow_add_eq_or_of_lt (by omega) (x.toNat % 2 ^ 56) |>.symm]
  omega

theorem w64_acc (m b : Nat) : w64 ((w64 m).toNat * 256 + b) = w64 (m * 256 + b) := by
  apply UInt64.toNat_inj.1
  rw [w64_toNat, w64_toNat, w64_toNat]
  omega

theorem w64_mod {m n : Nat} (h : m % 2 ^ 64 = n % 2 ^ 64) : w64 m = w64 n := by
  apply UInt64.toNat_inj.1
  rw [w64_toNat, w64_toNat, h]

theorem ldW_exp (a0 a1 a2 a3 a4 a5 a6 a7 a8 a9 a10 a11 a12 a13 a14 a15 a16 a17 a18 a19 a20 a21 a22 a23 a24 a25 a26 a27 a28 a29 a30 a31 : UInt8) : ldW [a0, a1, a2, a3, a4, a5, a6, a7, a8, a9, a10, a11, a12, a13, a14, a15, a16, a17, a18, a19, a20, a21, a22, a23, a24, a25, a26, a27, a28, a29, a30, a31] 32 = words4 (le [a0, a1, a2, a3, a4, a5, a6, a7, a8, a9, a10, a11, a12, a13, a14, a15, a16, a17, a18, a19, a20, a21, a22, a23, a24, a25, a26, a27, a28, a29, a30, a31]) := by
  have d24 := le_drop [a0, a1, a2, a3, a4, a5, a6, a7, a8, a9, a10, a11, a12, a13, a14, a15, a16, a17, a18, a19, a20, a21, a22, a23, a24, a25, a26, a27, a28, a29, a30, a31] 24 (Nat.le_of_ble_eq_true rfl)
  have d16 := le_drop [a0, a1, a2, a3, a4, a5, a6, a7, a8, a9, a10, a11, a12, a13, a14, a15, a16, a17, a18, a19, a20, a21, a22, a23, a24, a25, a26, a27, a28, a29, a30, a31] 16 (Nat.le_of_ble_eq_true rfl)
  have d8 := le_drop [a0, a1, a2, a3, a4, a5, a6, a7, a8, a9, a10, a11, a12, a13, a14, a15, a16, a17, a18, a19, a20, a21, a22, a23, a24, a25, a26, a27, a28, a29, a30, a31] 8 (Nat.le_of_ble_eq_true rfl)
  rw [words4, show (2 : Nat) ^ 192 = 256 ^ 24 by decide, show (2 : Nat) ^ 128 = 256 ^ 16 by decide, show (2 : Nat) ^ 64 = 256 ^ 8 by decide, d24, d16, d8]
  clear d24 d16 d8
  simp only [ldW, List.drop_succ_cons, List.drop_zero, le, List.getD_cons_succ, List.getD_cons_zero, List.set_cons_succ, List.set_cons_zero, List.replicate, Nat.reduceDiv, Nat.reduceSub, acc8]
  simp only [w64_acc, UInt64.toNat_zero]
  simp only [List.cons.injEq, and_true]
  refine ⟨w64_mod ?_, w64_mod ?_, w64_mod ?_, w64_mod ?_⟩ <;> omega

theorem ldW_eq {a : List UInt8} (h : a.length = 32) : ldW a 32 = words4 (le a) := by
  obtain ⟨f, hf⟩ : ∃ f : Nat → UInt8, a = (List.range 32).map f := ⟨fun i => a.getD i 0, by
    apply List.ext_getElem (by simp [h])
    intro i h1 h2
    simp [List.getD, h1]⟩
  subst hf
  exact ldW_exp (f 0) (f 1) (f 2) (f 3) (f 4) (f 5) (f 6) (f 7) (f 8) (f 9) (f 10) (f 11) (f 12) (f 13) (f 14) (f 15) (f 16) (f 17) (f 18) (f 19) (f 20) (f 21) (f 22) (f 23) (f 24) (f 25) (f 26) (f 27) (f 28) (f 29) (f 30) (f 31)

theorem leb_get : ∀ (k n i : Nat), i < k → (leb k n)[i]? = some (UInt8.ofNat (n / 256 ^ i))
  | 0, _, _, h => by omega
  | k + 1, n, 0, _ => by simp [leb]
  | k + 1, n, i + 1, h => by
    rw [leb, List.getElem?_cons_succ, leb_get k _ i (by omega), Nat.div_div_eq_div_mul, Nat.pow_succ, Nat.mul_comm]

theorem stB_get (w : List UInt64) : ∀ (k i : Nat), k ≤ 32 → i < 32 → (stB w k)[i]? = some (if 31 - i < k then (shr64 (w.getD ((31 - i) / 8) 0) (56 - 8 * ((31 - i) % 8))).toUInt8 else 0)
  | 0, i, _, h => by
    simp only [stB]
    rw [List.getElem?_replicate, if_pos h]; rfl
  | k + 1, i, hk, h => by
    rw [stB, List.getElem?_set]
    by_cases he : 31 - k = i
    · have e : 31 - i = k := by omega
      subst he
      rw [if_pos rfl, if_pos (by rw [stB_length]; omega), e, if_pos (by omega)]
    · rw [if_neg he, stB_get w k i (by omega) h]
      congr 1
      by_cases h1 : 31 - i < k
      · rw [if_pos h1, if_pos (by omega)]
      · rw [if_neg h1, if_neg (by omega)]

theorem byte_at (m s : Nat) (h : s + 8 ≤ 64) : m % 2 ^ 64 / 2 ^ s % 256 = m / 2 ^ s % 256 := by
  have e : (2 : Nat) ^ 64 = 2 ^ s * 2 ^ (64 - s) := by rw [← Nat.pow_add]; congr 1; omega
  rw [e, Nat.mod_mul_right_div_self]
  have e2 : (256 : Nat) ∣ 2 ^ (64 - s) := by
    refine ⟨2 ^ (56 - s), ?_⟩
    rw [show (256 : Nat) = 2 ^ 8 by decide, ← Nat.pow_add]; congr 1; omega
  exact Nat.mod_mod_of_dvd _ e2

theorem stB_eq (n : Nat) : stB (words4 n) 32 = leb 32 n := by
  apply List.ext_getElem?
  intro i
  rcases Nat.lt_or_ge i 32 with h | h
  · rw [leb_get 32 n i h, stB_get _ 32 i (by omega) h, if_pos (by omega)]
    congr 1
    apply UInt8.toNat_inj.1
    rw [UInt64.toNat_toUInt8, shr64_toNat, UInt8.toNat_ofNat']
    have key : ∀ j s : Nat, j < 4 → s + 8 ≤ 64 → ((words4 n).getD j 0).toNat / 2 ^ s % 2 ^ 8 = n / 2 ^ (64 * (3 - j) + s) % 2 ^ 8 := by
      intro j s hj hs
      have : (words4 n).getD j 0 = w64 (n / 2 ^ (64 * (3 - j))) := by
        match j, hj with
        | 0, _ => rfl
        | 1, _ => rfl
        | 2, _ => rfl
        | 3, _ => simp [words4]
      rw [this, w64_toNat, Nat.pow_add, ← Nat.div_div_eq_div_mul]
      exact byte_at _ s hs
    have := key ((31 - i) / 8) (56 - 8 * ((31 - i) % 8)) (by omega) (by omega)
    rw [this, show (256 : Nat) = 2 ^ 8 by decide, ← Nat.pow_mul]
    congr 3
    omega
  · rw [List.getElem?_eq_none (by rw [stB_length]; exact h), List.getElem?_eq_none (by rw [leb_length]; exact h)]

theorem dblW_eq (n : Nat) (b : UInt64) (hb : b.toNat ≤ 1) : dblW (words4 n) b = words4 (2 * n + b.toNat) := by
  have two : ∀ (x y : Nat), shl64 (w64 x) 1 ||| shr64 (w64 y) 63 = w64 (2 * x + y % 2 ^ 64 / 2 ^ 63) := by
    intro x y
    apply UInt64.toNat_inj.1
    rw [UInt64.toNat_or, shl64_toNat, shr64_toNat, w64_toNat, w64_toNat, w64_toNat]
    have e : x % 2 ^ 64 * 2 ^ 1 % 2 ^ 64 = 2 ^ 1 * (x % 2 ^ 63) := by omega
    rw [e, Nat.two_pow_add_eq_or_of_lt (by omega) (x % 2 ^ 63) |>.symm]
    omega
  have one : shl64 (w64 n) 1 ||| b = w64 (2 * n + b.toNat) := by
    apply UInt64.toNat_inj.1
    rw [UInt64.toNat_or, shl64_toNat, w64_toNat, w64_toNat]
    have e : n % 2 ^ 64 * 2 ^ 1 % 2 ^ 64 = 2 ^ 1 * (n % 2 ^ 63) := by omega
    rw [e, Nat.two_pow_add_eq_or_of_lt (by omega) (n % 2 ^ 63) |>.symm]
    omega
  simp only [dblW, words4, List.getD_cons_succ, List.getD_cons_zero, two, one, List.cons.injEq, and_true]
  refine ⟨w64_mod ?_, w64_mod ?_, w64_mod ?_⟩ <;> omega

theorem mnsW_eq {w m : List UInt64} (hw : w.length = 4) (hm : m.length = 4) : (mnsW w m 4).1 = words4 (wv w + 2 ^ 256 - wv m) := by
  match w, hw, m, hm with
  | [a, b, c, d], _, [e, f, g, h], _ =>
    rw [wv4, wv4]
    have ha := a.toNat_lt; have hb := b.toNat_lt; have hc := c.toNat_lt; have hd := d.toNat_lt
    have he := e.toNat_lt; have hf := f.toNat_lt; have hg := g.toNat_lt; have hh := h.toNat_lt
    simp only [mnsW, words4, Nat.sub_zero, Nat.reduceSub, List.getD_cons_succ, List.getD_cons_zero, List.set_cons_succ, List.set_cons_zero, List.cons.injEq, and_true, UInt64.toNat_zero, Nat.add_zero]
    generalize hx1 : (if d.toNat < h.toNat then (1 : UInt64) else 0) = x1
    have y1 : (d.toNat < h.toNat ∧ x1.toNat = 1) ∨ (¬ d.toNat < h.toNat ∧ x1.toNat = 0) := by subst hx1; split <;> simp [*]
    generalize hx2 : (if c.toNat < g.toNat + x1.toNat then (1 : UInt64) else 0) = x2
    have y2 : (c.toNat < g.toNat + x1.toNat ∧ x2.toNat = 1) ∨ (¬ c.toNat < g.toNat + x1.toNat ∧ x2.toNat = 0) := by subst hx2; split <;> simp [*]
    generalize hx3 : (if b.toNat < f.toNat + x2.toNat then (1 : UInt64) else 0) = x3
    have y3 : (b.toNat < f.toNat + x2.toNat ∧ x3.toNat = 1) ∨ (¬ b.toNat < f.toNat + x2.toNat ∧ x3.toNat = 0) := by subst hx3; split <;> simp [*]
    clear hx1 hx2 hx3
    refine ⟨w64_mod ?_, w64_mod ?_, w64_mod ?_, w64_mod ?_⟩ <;> omega

theorem modW_eq : modW = words4 L := by decide
theorem wv_modW : wv modW = L := by decide

/-- one bit of a residue -/
theorem res_step (A x t : Nat) (hx : x < 2 ^ 64) (ht : t < 64) : let m := (A * 2 ^ t + x / 2 ^ (64 - t)) % L
    (if 2 * m + x / 2 ^ (63 - t) % 2 < L then 2 * m + x / 2 ^ (63 - t) % 2 else 2 * m + x / 2 ^ (63 - t) % 2 - L) = (A * 2 ^ (t + 1) + x / 2 ^ (63 - t)) % L := by
  intro m
  have e1 : x / 2 ^ (64 - t) = x / 2 ^ (63 - t) / 2 := by
    rw [Nat.div_div_eq_div_mul, ← Nat.pow_succ]; congr 2; omega
  have e2 : x / 2 ^ (63 - t) = 2 * (x / 2 ^ (64 - t)) + x / 2 ^ (63 - t) % 2 := by omega
  have e3 : A * 2 ^ (t + 1) + x / 2 ^ (63 - t) = 2 * (A * 2 ^ t + x / 2 ^ (64 - t)) + x / 2 ^ (63 - t) % 2 := by
    rw [Nat.pow_succ]
    have : A * (2 ^ t * 2) = 2 * (A * 2 ^ t) := by rw [← Nat.mul_assoc, Nat.mul_comm]
    omega
  rw [e3]
  show (if 2 * m + _ < L then _ else _) = _
  have hm : m = (A * 2 ^ t + x / 2 ^ (64 - t)) % L := rfl
  clear_value m
  generalize A * 2 ^ t + x / 2 ^ (64 - t) = B at hm ⊢
  generalize x / 2 ^ (63 - t) = y
  have hL : L = 7237005577332262213973186563042994240857116359379907606001950938285454250989 := rfl
  have hy : y % 2 < 2 := Nat.mod_lt _ (by decide)
  generalize y % 2 = z at hy ⊢
  have hd := Nat.div_add_mod B L
  rw [← hm] at hd
  have hlt : m < L := by rw [hm]; exact Nat.mod_lt _ (by decide)
  generalize B / L = q at hd
  have e4 : 2 * B + z = L * (2 * q) + (2 * m + z) := by
    have : L * (2 * q) = 2 * (L * q) := by rw [← Nat.mul_assoc, Nat.mul_comm L 2, Nat.mul_assoc]
    omega
  rw [e4, Nat.mul_add_mod]
  split
  · rename_i h; rw [Nat.mod_eq_of_lt h]
  · rename_i h; rw [Nat.mod_eq_sub_mod (by omega), Nat.mod_eq_of_lt (by omega)]


/-! ### a product of words -/

def innM (x : UInt64) (y : List UInt64) (i : Nat) (l : List UInt64) : Nat → List UInt64 × UInt64
  | 0 => (l, 0)
  | q + 1 =>
    let p := innM x y i l q
    let t := x.toNat * (y.getD (3 - q) 0).toNat + (p.1.getD (i + (3 - q) + 1) 0).toNat + p.2.toNat
    (p.1.set (i + (3 - q) + 1) (w64 t), w64 (t / 2 ^ 64))

def outM (x y l : List UInt64) : Nat → List UInt64
  | 0 => l
  | p + 1 =>
    let r := innM (x.getD (3 - p) 0) y (3 - p) (outM x y l p) 4
    r.1.set (3 - p) (r.1.getD (3 - p) 0 + r.2)

theorem innM_length (x : UInt64) (y : List UInt64) (i : Nat) (l : List UInt64) : ∀ q, (innM x y i l q).1.length = l.length
  | 0 => rfl
  | q + 1 => by simp [innM, innM_length x y i l q]

theorem outM_length (x y l : List UInt64) : ∀ p, (outM x y l p).length = l.length
  | 0 => rfl
  | p + 1 => by simp [outM, innM_length, outM_length x y l p]

theorem mul_lt (x y : UInt64) : x.toNat * y.toNat ≤ 340282366920938463426481119284349108225 :=
  Nat.mul_le_mul (show x.toNat ≤ 18446744073709551615 from Nat.le_of_lt_succ x.toNat_lt) (show y.toNat ≤ 18446744073709551615 from Nat.le_of_lt_succ y.toNat_lt)

theorem ma_lo (x y l c : UInt64) : w64 ((w64 ((x * y).toNat + l.toNat + (0 : UInt64).toNat)).toNat + c.toNat + (0 : UInt64).toNat) = w64 (x.toNat * y.toNat + l.toNat + c.toNat) := by
  apply w64_mod
  rw [w64_toNat, UInt64.toNat_mul, UInt64.toNat_zero]
  omega

theorem ma_hi (x y l c : UInt64) : mulHi x y + w64 (((x * y).toNat + l.toNat + (0 : UInt64).toNat) / 2 ^ 64) + w64 (((w64 ((x * y).toNat + l.toNat + (0 : UInt64).toNat)).toNat + c.toNat + (0 : UInt64).toNat) / 2 ^ 64) = w64 ((x.toNat * y.toNat + l.toNat + c.toNat) / 2 ^ 64) := by
  have h := mul_lt x y
  have hl := l.toNat_lt; have hc := c.toNat_lt
  apply UInt64.toNat_inj.1
  simp only [UInt64.toNat_add, mulHi_toNat, w64_toNat, UInt64.toNat_mul, UInt64.toNat_zero]
  generalize x.toNat * y.toNat = p at h ⊢
  omega

theorem row_val (p0 p1 p2 p3 l0 l1 l2 l3 u0 u1 u2 u3 : Nat) (h3 : u3 = p3 + l3) (h2 : u2 = p2 + l2 + u3 / 2 ^ 64) (h1 : u1 = p1 + l1 + u2 / 2 ^ 64) (h0 : u0 = p0 + l0 + u1 / 2 ^ 64) :
    (((u0 % 2 ^ 64) * 2 ^ 64 + u1 % 2 ^ 64) * 2 ^ 64 + u2 % 2 ^ 64) * 2 ^ 64 + u3 % 2 ^ 64 + u0 / 2 ^ 64 * 2 ^ 256 = ((p0 * 2 ^ 64 + p1) * 2 ^ 64 + p2) * 2 ^ 64 + p3 + (((l0 * 2 ^ 64 + l1) * 2 ^ 64 + l2) * 2 ^ 64 + l3) := by
  omega

theorem dist4 (x y0 y1 y2 y3 : Nat) : x * (((y0 * 2 ^ 64 + y1) * 2 ^ 64 + y2) * 2 ^ 64 + y3) = ((x * y0 * 2 ^ 64 + x * y1) * 2 ^ 64 + x * y2) * 2 ^ 64 + x * y3 := by
  grind

def wv8 (a b c d e f g h : UInt64) : Nat := ((((((a.toNat * 2 ^ 64 + b.toNat) * 2 ^ 64 + c.toNat) * 2 ^ 64 + d.toNat) * 2 ^ 64 + e.toNat) * 2 ^ 64 + f.toNat) * 2 ^ 64 + g.toNat) * 2 ^ 64 + h.toNat

theorem innM_fst (x : UInt64) (y : List UInt64) (i : Nat) (l : List UInt64) (q : Nat) : (innM x y i l (q + 1)).1 =
    (innM x y i l q).1.set (i + (3 - q) + 1) (w64 ((w64 ((x * y.getD (3 - q) 0).toNat + ((innM x y i l q).1.getD (i + (3 - q) + 1) 0).toNat + (0 : UInt64).toNat)).toNat + (innM x y i l q).2.toNat + (0 : UInt64).toNat)) := by
  rw [ma_lo]; rfl
theorem innM_snd (x : UInt64) (y : List UInt64) (i : Nat) (l : List UInt64) (q : Nat) : (innM x y i l (q + 1)).2 =
    mulHi x (y.getD (3 - q) 0) + w64 (((x * y.getD (3 - q) 0).toNat + ((innM x y i l q).1.getD (i + (3 - q) + 1) 0).toNat + (0 : UInt64).toNat) / 2 ^ 64) + w64 (((w64 ((x * y.getD (3 - q) 0).toNat + ((innM x y i l q).1.getD (i + (3 - q) + 1) 0).toNat + (0 : UInt64).toNat)).toNat + (innM x y i l q).2.toNat + (0 : UInt64).toNat) / 2 ^ 64) := by
  rw [ma_hi]; rfl

/-- one row: four words and a carry -/
structure Row (z : Nat) (a b c d a' b' c' d' r : UInt64) : Prop where
  val : ((a'.toNat * 2 ^ 64 + b'.toNat) * 2 ^ 64 + c'.toNat) * 2 ^ 64 + d'.toNat + r.toNat * 2 ^ 256 = z + (((a.toNat * 2 ^ 64 + b.toNat) * 2 ^ 64 + c.toNat) * 2 ^ 64 + d.toNat)

theorem carry_ok (x y l c : UInt64) : (w64 ((x.toNat * y.toNat + l.toNat + c.toNat) / 2 ^ 64)).toNat = (x.toNat * y.toNat + l.toNat + c.toNat) / 2 ^ 64 := by
  have h := mul_lt x y
  have hl := l.toNat_lt; have hc := c.toNat_lt
  rw [w64_toNat]
  generalize x.toNat * y.toNat = p at h ⊢
  omega

def rowF (x y0 y1 y2 y3 a b c d : UInt64) : UInt64 × UInt64 × UInt64 × UInt64 × UInt64 :=
  let t3 := x.toNat * y3.toNat + d.toNat + (0 : UInt64).toNat
  let t2 := x.toNat * y2.toNat + c.toNat + (w64 (t3 / 2 ^ 64)).toNat
  let t1 := x.toNat * y1.toNat + b.toNat + (w64 (t2 / 2 ^ 64)).toNat
  let t0 := x.toNat * y0.toNat + a.toNat + (w64 (t1 / 2 ^ 64)).toNat
  (w64 t0, w64 t1, w64 t2, w64 t3, w64 (t0 / 2 ^ 64))

theorem row_core (x y0 y1 y2 y3 a b c d : UInt64) (t3 t2 t1 t0 : Nat) (h3 : t3 = x.toNat * y3.toNat + d.toNat + (0 : UInt64).toNat) (h2 : t2 = x.toNat * y2.toNat + c.toNat + (w64 (t3 / 2 ^ 64)).toNat)
    (h1 : t1 = x.toNat * y1.toNat + b.toNat + (w64 (t2 / 2 ^ 64)).toNat) (h0 : t0 = x.toNat * y0.toNat + a.toNat + (w64 (t1 / 2 ^ 64)).toNat) :
    Row (x.toNat * wv [y0, y1, y2, y3]) a b c d (w64 t0) (w64 t1) (w64 t2) (w64 t3) (w64 (t0 / 2 ^ 64)) := by
  have k3 : (w64 (t3 / 2 ^ 64)).toNat = t3 / 2 ^ 64 := by rw [h3]; exact carry_ok _ _ _ _
  have k2 : (w64 (t2 / 2 ^ 64)).toNat = t2 / 2 ^ 64 := by rw [h2]; exact carry_ok _ _ _ _
  have k1 : (w64 (t1 / 2 ^ 64)).toNat = t1 / 2 ^ 64 := by rw [h1]; exact carry_ok _ _ _ _
  have k0 : (w64 (t0 / 2 ^ 64)).toNat = t0 / 2 ^ 64 := by rw [h0]; exact carry_ok _ _ _ _
  rw [k3] at h2; rw [k2] at h1; rw [k1] at h0
  rw [UInt64.toNat_zero, Nat.add_zero] at h3
  constructor
  rw [k0, w64_toNat t0, w64_toNat t1, w64_toNat t2, w64_toNat t3, wv4, dist4]
  exact row_val _ _ _ _ _ _ _ _ _ _ _ _ h3 h2 h1 h0

theorem row_ok (x y0 y1 y2 y3 a b c d : UInt64) {z : Nat} (hz : x.toNat * wv [y0, y1, y2, y3] = z) : ∃ a' b' c' d' r, rowF x y0 y1 y2 y3 a b c d = (a', b', c', d', r) ∧ Row z a b c d a' b' c' d' r := by
  rw [← hz]
  exact ⟨_, _, _, _, _, rfl, row_core x y0 y1 y2 y3 a b c d _ _ _ _ rfl rfl rfl rfl⟩

section
variable (x y0 y1 y2 y3 a b c d h0 h1 h2 h3 k0 k1 k2 : UInt64)
theorem inn3 : innM x [y0, y1, y2, y3] 3 [h0, h1, h2, h3, a, b, c, d] 4 = ([h0, h1, h2, h3, (rowF x y0 y1 y2 y3 a b c d).1, (rowF x y0 y1 y2 y3 a b c d).2.1, (rowF x y0 y1 y2 y3 a b c d).2.2.1, (rowF x y0 y1 y2 y3 a b c d).2.2.2.1], (rowF x y0 y1 y2 y3 a b c d).2.2.2.2) := rfl
theorem inn2 : innM x [y0, y1, y2, y3] 2 [h0, h1, h2, a, b, c, d, k0] 4 = ([h0, h1, h2, (rowF x y0 y1 y2 y3 a b c d).1, (rowF x y0 y1 y2 y3 a b c d).2.1, (rowF x y0 y1 y2 y3 a b c d).2.2.1, (rowF x y0 y1 y2 y3 a b c d).2.2.2.1, k0], (rowF x y0 y1 y2 y3 a b c d).2.2.2.2) := rfl
theorem inn1 : innM x [y0, y1, y2, y3] 1 [h0, h1, a, b, c, d, k0, k1] 4 = ([h0, h1, (rowF x y0 y1 y2 y3 a b c d).1, (rowF x y0 y1 y2 y3 a b c d).2.1, (rowF x y0 y1 y2 y3 a b c d).2.2.1, (rowF x y0 y1 y2 y3 a b c d).2.2.2.1, k0, k1], (rowF x y0 y1 y2 y3 a b c d).2.2.2.2) := rfl
theorem inn0 : innM x [y0, y1, y2, y3] 0 [h0, a, b, c, d, k0, k1, k2] 4 = ([h0, (rowF x y0 y1 y2 y3 a b c d).1, (rowF x y0 y1 y2 y3 a b c d).2.1, (rowF x y0 y1 y2 y3 a b c d).2.2.1, (rowF x y0 y1 y2 y3 a b c d).2.2.2.1, k0, k1, k2], (rowF x y0 y1 y2 y3 a b c d).2.2.2.2) := rfl
end

theorem five (r a b d e : Nat) : (((r * 2 ^ 64 + a) * 2 ^ 64 + b) * 2 ^ 64 + d) * 2 ^ 64 + e = ((a * 2 ^ 64 + b) * 2 ^ 64 + d) * 2 ^ 64 + e + r * 2 ^ 256 := by omega

theorem last4 {Q0 Q1 Q2 Q3 e0 e1 e2 e3 z0 z1 z2 z3 C : Nat} (w0 : Q0 * 2 ^ 64 + e0 = z0 + Q1) (w1 : Q1 * 2 ^ 64 + e1 = z1 + Q2) (w2 : Q2 * 2 ^ 64 + e2 = z2 + Q3) (w3 : Q3 * 2 ^ 64 + e3 = z3 + C) :
    (((Q0 * 2 ^ 64 + e0) * 2 ^ 64 + e1) * 2 ^ 64 + e2) * 2 ^ 64 + e3 = ((z0 * 2 ^ 64 + z1) * 2 ^ 64 + z2) * 2 ^ 64 + z3 + C := by
  rw [w0, Nat.add_mul z0 Q1, Nat.add_assoc _ (Q1 * 2 ^ 64) e1, w1, ← Nat.add_assoc, Nat.add_mul _ Q2, Nat.add_assoc _ (Q2 * 2 ^ 64) e2, w2, ← Nat.add_assoc, Nat.add_mul _ Q3, Nat.add_assoc _ (Q3 * 2 ^ 64) e3, w3, ← Nat.add_assoc]

theorem outM_val (x0 x1 x2 x3 y0 y1 y2 y3 c0 c1 c2 c3 : UInt64) :
    wv (outM [x0, x1, x2, x3] [y0, y1, y2, y3] [0, 0, 0, 0, c0, c1, c2, c3] 4) = wv [x0, x1, x2, x3] * wv [y0, y1, y2, y3] + wv [c0, c1, c2, c3] := by
  have key : ∀ (a b c d e f g h : UInt64), wv [a, b, c, d, e, f, g, h] = wv8 a b c d e f g h := by
    intro a b c d e f g h; simp [wv, wv8]
  obtain ⟨z0, hz0⟩ : ∃ z, x0.toNat * wv [y0, y1, y2, y3] = z := ⟨_, rfl⟩
  obtain ⟨z1, hz1⟩ : ∃ z, x1.toNat * wv [y0, y1, y2, y3] = z := ⟨_, rfl⟩
  obtain ⟨z2, hz2⟩ : ∃ z, x2.toNat * wv [y0, y1, y2, y3] = z := ⟨_, rfl⟩
  obtain ⟨z3, hz3⟩ : ∃ z, x3.toNat * wv [y0, y1, y2, y3] = z := ⟨_, rfl⟩
  obtain ⟨a3, b3, d3, e3, r3, q3, v3⟩ := row_ok x3 y0 y1 y2 y3 c0 c1 c2 c3 hz3
  obtain ⟨a2, b2, d2, e2, r2, q2, v2⟩ := row_ok x2 y0 y1 y2 y3 r3 a3 b3 d3 hz2
  obtain ⟨a1, b1, d1, e1, r1, q1, v1⟩ := row_ok x1 y0 y1 y2 y3 r2 a2 b2 d2 hz1
  obtain ⟨a0, b0, d0, e0, r0, q0, v0⟩ := row_ok x0 y0 y1 y2 y3 r1 a1 b1 d1 hz0
  have o1 : outM [x0, x1, x2, x3] [y0, y1, y2, y3] [0, 0, 0, 0, c0, c1, c2, c3] 1 = [0, 0, 0, r3, a3, b3, d3, e3] := by
    simp only [outM, Nat.sub_zero, List.getD_cons_succ, List.getD_cons_zero, inn3, q3, List.set_cons_succ, List.set_cons_zero, UInt64.zero_add]
  have o2 : outM [x0, x1, x2, x3] [y0, y1, y2, y3] [0, 0, 0, 0, c0, c1, c2, c3] 2 = [0, 0, r2, a2, b2, d2, e2, e3] := by
    rw [outM, o1]
    simp only [Nat.reduceSub, List.getD_cons_succ, List.getD_cons_zero, inn2, q2, List.set_cons_succ, List.set_cons_zero, UInt64.zero_add]
  have o3 : outM [x0, x1, x2, x3] [y0, y1, y2, y3] [0, 0, 0, 0, c0, c1, c2, c3] 3 = [0, r1, a1, b1, d1, e1, e2, e3] := by
    rw [outM, o2]
    simp only [Nat.reduceSub, List.getD_cons_succ, List.getD_cons_zero, inn1, q1, List.set_cons_succ, List.set_cons_zero, UInt64.zero_add]
  have o4 : outM [x0, x1, x2, x3] [y0, y1, y2, y3] [0, 0, 0, 0, c0, c1, c2, c3] 4 = [r0, a0, b0, d0, e0, e1, e2, e3] := by
    rw [outM, o3]
    simp only [Nat.reduceSub, List.getD_cons_succ, List.getD_cons_zero, inn0, q0, List.set_cons_succ, List.set_cons_zero, UInt64.zero_add]
  have hd : wv [x0, x1, x2, x3] * wv [y0, y1, y2, y3] = ((z0 * 2 ^ 64 + z1) * 2 ^ 64 + z2) * 2 ^ 64 + z3 := by
    rw [wv4 x0, ← hz0, ← hz1, ← hz2, ← hz3]
    generalize wv [y0, y1, y2, y3] = Y
    grind
  rw [o4, key, hd, wv4, wv8]
  replace v3 := v3.val; replace v2 := v2.val; replace v1 := v1.val; replace v0 := v0.val
  clear hd q0 q1 q2 q3 o1 o2 o3 o4 key hz0 hz1 hz2 hz3
  obtain ⟨C, hC⟩ : ∃ C, ((c0.toNat * 2 ^ 64 + c1.toNat) * 2 ^ 64 + c2.toNat) * 2 ^ 64 + c3.toNat = C := ⟨_, rfl⟩
  obtain ⟨Q3, hQ3⟩ : ∃ C, ((r3.toNat * 2 ^ 64 + a3.toNat) * 2 ^ 64 + b3.toNat) * 2 ^ 64 + d3.toNat = C := ⟨_, rfl⟩
  obtain ⟨Q2, hQ2⟩ : ∃ C, ((r2.toNat * 2 ^ 64 + a2.toNat) * 2 ^ 64 + b2.toNat) * 2 ^ 64 + d2.toNat = C := ⟨_, rfl⟩
  obtain ⟨Q1, hQ1⟩ : ∃ C, ((r1.toNat * 2 ^ 64 + a1.toNat) * 2 ^ 64 + b1.toNat) * 2 ^ 64 + d1.toNat = C := ⟨_, rfl⟩
  obtain ⟨Q0, hQ0⟩ : ∃ C, ((r0.toNat * 2 ^ 64 + a0.toNat) * 2 ^ 64 + b0.toNat) * 2 ^ 64 + d0.toNat = C := ⟨_, rfl⟩
  rw [hC] at v3 ⊢
  rw [hQ3] at v2
  rw [hQ2] at v1
  rw [hQ1] at v0
  rw [hQ0]
  have w3 := five r3.toNat a3.toNat b3.toNat d3.toNat e3.toNat
  have w2 := five r2.toNat a2.toNat b2.toNat d2.toNat e2.toNat
  have w1 := five r1.toNat a1.toNat b1.toNat d1.toNat e1.toNat
  have w0 := five r0.toNat a0.toNat b0.toNat d0.toNat e0.toNat
  rw [hQ3, v3] at w3
  rw [hQ2, v2] at w2
  rw [hQ1, v1] at w1
  rw [hQ0, v0] at w0
  exact last4 w0 w1 w2 w3

theorem maW_val {x y c : List UInt64} (hx : x.length = 4) (hy : y.length = 4) (hc : c.length = 4) : wv (outM x y ([0, 0, 0, 0] ++ c) 4) = wv x * wv y + wv c := by
  match x, hx, y, hy, c, hc with
  | [_, _, _, _], _, [_, _, _, _], _, [_, _, _, _], _ => exact outM_val _ _ _ _ _ _ _ _ _ _ _ _

end Hw
