/- Byte-wise school arithmetic as numbers: padded bytes, sums with a carry, differences with a borrow; no program. No conditions. -/
import Derived.Test.YtjeggfgbcafenaaSDef2
namespace Hw
open Go
set_option linter.unusedSimpArgs false
set_option linter.unusedVariables false
set_option maxRecDepth 100000

/-- the low k bytes of a number, and zeros up to N -/
def padB (N n k : Nat) : List UInt8 := leb k n ++ List.replicate (N - k) 0
theorem padB_length (N n k : Nat) (h : k ≤ N) : (padB N n k).length = N := by simp [padB, leb_length]; omega
theorem padB_zero (N n : Nat) : padB N n 0 = List.replicate N 0 := by simp [padB, leb]
theorem padB_all (N n : Nat) : padB N n N = leb N n := by simp [padB]
theorem leb_getD (k n i : Nat) (h : i < k) : (leb k n).getD i 0 = UInt8.ofNat (n / 256 ^ i) := by
  rw [List.getD_eq_getElem?_getD, leb_get k n i h]; rfl
theorem ofNat8 {m n : Nat} (h : m % 256 = n % 256) : UInt8.ofNat m = UInt8.ofNat n := by
  apply UInt8.toNat_inj.1
  rw [UInt8.toNat_ofNat', UInt8.toNat_ofNat']; exact h
theorem byte_low (A m k i : Nat) (h : i < k) : (A + 256 ^ k * m) / 256 ^ i % 256 = A / 256 ^ i % 256 := by
  have e : 256 ^ k * m = 256 ^ i * (256 * (256 ^ (k - i - 1) * m)) := by
    rw [← Nat.mul_assoc, ← Nat.mul_assoc, ← Nat.pow_succ, ← Nat.pow_add]
    congr 2; omega
  rw [e, Nat.add_mul_div_left _ _ (Nat.pow_pos (by decide)), Nat.add_mul_mod_self_left]
theorem leb_low (A m k : Nat) : leb k (A + 256 ^ k * m) = leb k A := by
  apply List.ext_getElem?
  intro i
  rcases Nat.lt_or_ge i k with h | h
  · rw [leb_get _ _ i h, leb_get _ _ i h]
    congr 1
    exact ofNat8 (byte_low A m k i h)
  · rw [List.getElem?_eq_none (by rw [leb_length]; exact h), List.getElem?_eq_none (by rw [leb_length]; exact h)]
theorem leb_succ' (k n : Nat) : leb (k + 1) n = leb k n ++ [UInt8.ofNat (n / 256 ^ k)] := by
  apply List.ext_getElem?
  intro i
  rcases Nat.lt_trichotomy i k with h | h | h
  · rw [leb_get _ _ i (by omega), List.getElem?_append_left (by rw [leb_length]; exact h), leb_get _ _ i h]
  · subst h
    rw [leb_get _ _ i (by omega), List.getElem?_append_right (by rw [leb_length]; omega), leb_length, Nat.sub_self]; rfl
  · rw [List.getElem?_eq_none (by rw [leb_length]; omega), List.getElem?_eq_none (by simp [leb_length]; omega)]
theorem byteOf_mod (s : Int) : byteOf (s % 256) = byteOf s := by simp [byteOf]
theorem byteOf_nat (n : Nat) : byteOf (n : Int) = UInt8.ofNat n := by
  apply ofNat8
  omega
theorem set_end {α : Type} (l : List α) (x y : α) (r : List α) (k : Nat) (h : l.length = k) : (l ++ x :: r).set k y = l ++ [y] ++ r := by
  subst h; simp
/-- one byte of a sum with a carry -/
theorem padB_step (N A m k : Nat) (hk : k < N) (s : Int) (hs : s = ((A / 256 ^ k + m : Nat) : Int)) :
    (padB N A k).set k (byteOf s) = padB N (A + 256 ^ k * m) (k + 1) := by
  subst hs
  have e : List.replicate (N - k) (0 : UInt8) = 0 :: List.replicate (N - (k + 1)) 0 := by
    rw [show N - k = (N - (k + 1)) + 1 by omega]; rfl
  rw [padB, e, set_end _ _ _ _ _ (leb_length k A), padB, leb_succ', leb_low, Nat.add_mul_div_left _ _ (Nat.pow_pos (by decide)), byteOf_nat]
theorem carry_step (A m k : Nat) (s : Int) (hs : s = ((A / 256 ^ k + m : Nat) : Int)) : s / 256 = (((A + 256 ^ k * m) / 256 ^ (k + 1) : Nat) : Int) := by
  subst hs
  rw [Nat.pow_succ, ← Nat.div_div_eq_div_mul, Nat.add_mul_div_left _ _ (Nat.pow_pos (by decide))]
  omega
theorem leb_mod (k n m : Nat) (h : n % 256 ^ k = m % 256 ^ k) : leb k n = leb k m := by
  have e1 := leb_low (n % 256 ^ k) (n / 256 ^ k) k
  have e2 := leb_low (m % 256 ^ k) (m / 256 ^ k) k
  rw [Nat.mod_add_div] at e1 e2
  rw [e1, e2, h]
/-- the order of numbers is that of their highest differing bytes -/
theorem le_lt_at {a b : List UInt8} {i : Nat} (ha : a.length = 32) (hb : b.length = 32) (hi : i < 32) (hd : a.drop (i + 1) = b.drop (i + 1)) (hne : (a.getD i 0).toNat ≠ (b.getD i 0).toNat) :
    ((a.getD i 0).toNat < (b.getD i 0).toNat) ↔ le a < le b := by
  have h1 := le_take_drop a (i + 1) (by omega)
  have h2 := le_take_drop b (i + 1) (by omega)
  rw [le_take_succ a i (by omega)] at h1
  rw [le_take_succ b i (by omega), ← hd] at h2
  have l1 := le_take_lt a i
  have l2 := le_take_lt b i
  generalize 256 ^ (i + 1) * le (a.drop (i + 1)) = X at h1 h2
  generalize hP : 256 ^ i = P at h1 h2 l1 l2
  generalize (a.getD i 0).toNat = x at *
  generalize (b.getD i 0).toNat = y at *
  rw [h1, h2]
  constructor
  · intro h
    have : P * (x + 1) ≤ P * y := Nat.mul_le_mul_left _ h
    rw [Nat.mul_add, Nat.mul_one] at this
    omega
  · intro h
    apply Nat.lt_of_not_le
    intro h'
    have : P * (y + 1) ≤ P * x := Nat.mul_le_mul_left _ (by omega)
    rw [Nat.mul_add, Nat.mul_one] at this
    omega
theorem drop_step {a b : List UInt8} {i : Nat} (ha : a.length = 32) (hb : b.length = 32) (hi : i < 32) (hd : a.drop (i + 1) = b.drop (i + 1)) (he : (a.getD i 0).toNat = (b.getD i 0).toNat) : a.drop i = b.drop i := by
  rw [List.drop_eq_getElem_cons (by omega), List.drop_eq_getElem_cons (l := b) (by omega), hd]
  congr 1
  have := UInt8.toNat_inj.1 he
  rw [List.getD_eq_getElem?_getD, List.getD_eq_getElem?_getD, List.getElem?_eq_getElem (by omega), List.getElem?_eq_getElem (by omega)] at this
  exact this

/-- the borrow of (D + m) - m below byte k -/
def bor (D m k : Nat) : Nat := (D % 256 ^ k + m % 256 ^ k) / 256 ^ k
theorem bor_zero (D m : Nat) : bor D m 0 = 0 := by simp [bor, Nat.mod_one]
theorem mod_succ256 (n k : Nat) : n % 256 ^ (k + 1) = n % 256 ^ k + 256 ^ k * (n / 256 ^ k % 256) := by
  rw [Nat.pow_succ, Nat.mod_mul]
theorem bor_step (D m k : Nat) : bor D m (k + 1) = (D / 256 ^ k % 256 + m / 256 ^ k % 256 + bor D m k) / 256 := by
  unfold bor
  rw [mod_succ256, mod_succ256, Nat.pow_succ, ← Nat.div_div_eq_div_mul]
  have e : D % 256 ^ k + 256 ^ k * (D / 256 ^ k % 256) + (m % 256 ^ k + 256 ^ k * (m / 256 ^ k % 256)) = (D % 256 ^ k + m % 256 ^ k) + 256 ^ k * (D / 256 ^ k % 256 + m / 256 ^ k % 256) := by
    rw [Nat.mul_add]; omega
  rw [e, Nat.add_mul_div_left _ _ (Nat.pow_pos (by decide)), Nat.add_comm (_ / _)]
theorem bor_le (D m k : Nat) : bor D m k ≤ 1 := by
  unfold bor
  have h1 : D % 256 ^ k < 256 ^ k := Nat.mod_lt _ (Nat.pow_pos (by decide))
  have h2 : m % 256 ^ k < 256 ^ k := Nat.mod_lt _ (Nat.pow_pos (by decide))
  rw [← Nat.lt_succ_iff, Nat.div_lt_iff_lt_mul (Nat.pow_pos (by decide))]
  omega
theorem sum_byte (D m k : Nat) : (D + m) / 256 ^ k % 256 = (D / 256 ^ k % 256 + m / 256 ^ k % 256 + bor D m k) % 256 := by
  have e : D + m = (D % 256 ^ k + m % 256 ^ k) + 256 ^ k * (D / 256 ^ k + m / 256 ^ k) := by
    have h1 := Nat.mod_add_div D (256 ^ k)
    have h2 := Nat.mod_add_div m (256 ^ k)
    rw [Nat.mul_add]; omega
  rw [e, Nat.add_mul_div_left _ _ (Nat.pow_pos (by decide))]
  change (bor D m k + _) % 256 = _
  omega
/-- a difference, its low k bytes done -/
def subB (D m k : Nat) : List UInt8 := leb k D ++ (leb 32 (D + m)).drop k
theorem subB_length (D m k : Nat) (h : k ≤ 32) : (subB D m k).length = 32 := by simp [subB, leb_length]; omega
theorem subB_zero (D m : Nat) : subB D m 0 = leb 32 (D + m) := by simp [subB, leb]
theorem subB_all (D m : Nat) : subB D m 32 = leb 32 D := by simp [subB, leb_length]
theorem subB_get (D m k : Nat) (h : k < 32) : (subB D m k).getD k 0 = UInt8.ofNat ((D + m) / 256 ^ k) := by
  rw [List.getD_eq_getElem?_getD, subB, List.getElem?_append_right (by rw [leb_length]; omega), leb_length, Nat.sub_self, List.getElem?_drop, Nat.add_zero, leb_get _ _ _ h]; rfl
theorem subB_step (D m k : Nat) (h : k < 32) (d : Int) (hd : d = (((D + m) / 256 ^ k % 256 : Nat) : Int) - ((m / 256 ^ k % 256 : Nat) : Int) + -((bor D m k : Nat) : Int)) :
    (subB D m k).set k (byteOf (d + 256)) = subB D m (k + 1) := by
  have e : (leb 32 (D + m)).drop k = UInt8.ofNat ((D + m) / 256 ^ k) :: (leb 32 (D + m)).drop (k + 1) := by
    rw [List.drop_eq_getElem_cons (by rw [leb_length]; omega)]
    congr 1
    have := leb_get 32 (D + m) k h
    rw [List.getElem?_eq_getElem (by rw [leb_length]; omega)] at this
    exact Option.some.inj this
  rw [subB, e, set_end _ _ _ _ _ (leb_length k D), subB, leb_succ' k D]
  congr 2
  have hb := sum_byte D m k
  have hle := bor_le D m k
  generalize bor D m k = c at *
  generalize (D + m) / 256 ^ k % 256 = x at *
  have hm : m / 256 ^ k % 256 < 256 := Nat.mod_lt _ (by decide)
  generalize m / 256 ^ k % 256 = y at *
  rw [show UInt8.ofNat (D / 256 ^ k) = UInt8.ofNat (D / 256 ^ k % 256) from ofNat8 (by omega)]
  have hz : D / 256 ^ k % 256 < 256 := Nat.mod_lt _ (by decide)
  generalize D / 256 ^ k % 256 = z at *
  congr 1
  apply ofNat8
  subst hd
  omega
theorem bor_next (D m k : Nat) (d : Int) (hd : d = (((D + m) / 256 ^ k % 256 : Nat) : Int) - ((m / 256 ^ k % 256 : Nat) : Int) + -((bor D m k : Nat) : Int)) :
    (d < 0 → bor D m (k + 1) = 1) ∧ (¬ d < 0 → bor D m (k + 1) = 0) := by
  rw [bor_step]
  have hb := sum_byte D m k
  have hle := bor_le D m k
  generalize bor D m k = c at *
  generalize (D + m) / 256 ^ k % 256 = x at *
  have hm : m / 256 ^ k % 256 < 256 := Nat.mod_lt _ (by decide)
  generalize m / 256 ^ k % 256 = y at *
  have hz : D / 256 ^ k % 256 < 256 := Nat.mod_lt _ (by decide)
  generalize D / 256 ^ k % 256 = z at *
  subst hd
  omega
theorem ofNat8_toNat (n : Nat) : (UInt8.ofNat n).toNat = n % 256 := by rw [UInt8.toNat_ofNat']
theorem wordOf_id (n : Int) (h : 0 ≤ n ∧ n < 18446744073709551616) : ((wordOf n).toNat : Int) = n := by
  rw [wordOf, UInt64.toNat_ofNat']; omega
theorem zero_set (n : UInt64) (k : Nat) (hk : k < 8) : (padB 32 n.toNat k).set k (shr64 n (8 * k)).toUInt8 = padB 32 n.toNat (k + 1) := by
  have e : List.replicate (32 - k) (0 : UInt8) = 0 :: List.replicate (32 - (k + 1)) 0 := by
    rw [show 32 - k = (32 - (k + 1)) + 1 by omega]; rfl
  rw [padB, e, set_end _ _ _ _ _ (leb_length k _), padB, leb_succ']
  congr 3
  apply UInt8.toNat_inj.1
  rw [UInt64.toNat_toUInt8, shr64_toNat, UInt8.toNat_ofNat', pow256]
theorem pad_small (n : UInt64) : padB 32 n.toNat 8 = leb 32 n.toNat := by
  have h := n.toNat_lt
  apply List.ext_getElem?
  intro i
  rw [padB]
  rcases Nat.lt_or_ge i 8 with hi | hi
  · rw [List.getElem?_append_left (by rw [leb_length]; exact hi), leb_get _ _ _ hi, leb_get _ _ _ (by omega)]
  · rw [List.getElem?_append_right (by rw [leb_length]; exact hi), leb_length]
    rcases Nat.lt_or_ge i 32 with h2 | h2
    · rw [leb_get _ _ _ h2, List.getElem?_replicate, if_pos (by omega), Nat.div_eq_of_lt]; rfl
      refine Nat.lt_of_lt_of_le h ?_
      rw [pow256]; exact Nat.pow_le_pow_right (by decide) (by omega)
    · rw [List.getElem?_replicate, if_neg (by omega), List.getElem?_eq_none (by rw [leb_length]; exact h2)]
theorem div_bit (n j : Nat) : n / 2 ^ j = 2 * (n / 2 ^ (j + 1)) + (if n.testBit j then 1 else 0) := by
  rw [Nat.pow_succ, ← Nat.div_div_eq_div_mul, Nat.testBit_eq_decide_div_mod_eq]
  by_cases h : n / 2 ^ j % 2 = 1
  · rw [if_pos (decide_eq_true h)]; omega
  · rw [if_neg (by simpa using h)]; omega
theorem le_one' : le ((List.replicate 32 0).set 0 1) = 1 := by decide
theorem dbl_mod (m : Nat) : (m % L + m % L) % L = (2 * m) % L := by
  rw [← Nat.add_mod, Nat.two_mul]
theorem dbl_mod1 (m : Nat) : ((m % L + m % L) % L + 1) % L = (2 * m + 1) % L := by
  rw [← Nat.add_mod, Nat.mod_add_mod, Nat.two_mul]
theorem le_zero_div (xs : List UInt8) (n : Nat) (h : xs.length = n) : le xs / 2 ^ (8 * n) = 0 := by
  apply Nat.div_eq_of_lt
  rw [← pow256, ← h]; exact le_lt xs
theorem leb_zero32 : leb 32 0 = List.replicate 32 0 := by decide
theorem zero_modL : 0 % L = 0 := Nat.zero_mod L
theorem add_neg_mod (x : Nat) : (x + (L - x % L) % L) % L = 0 := by
  have h := Nat.mod_lt x L_pos
  rw [Nat.add_mod_mod, ← Nat.mod_add_mod, show x % L + (L - x % L) = L by omega, Nat.mod_self]
theorem neg_add_add (x y : Nat) : ((L - x % L) % L + (x + y) % L) % L = y % L := by
  have h := Nat.mod_lt x L_pos
  rw [← Nat.add_mod, Nat.add_comm x y, show L - x % L + (y + x) = y + (L - x % L) + x by omega, ← Nat.add_mod_mod, show y + (L - x % L) + x % L = y + L by omega, Nat.add_mod_right]
theorem canon_eq (a : List UInt8) (ha : a.length = 32) : (decide (le a < L) == decide (leb 32 (le a % L) = a)) = true := by
  rw [beq_iff_eq, decide_eq_decide]
  constructor
  · intro h
    rw [Nat.mod_eq_of_lt h, ← ha]; exact leb_le a
  · intro h
    have := congrArg le h
    rw [le_leb32 (lm _)] at this
    rw [← this]; exact Nat.mod_lt _ L_pos
theorem ring_assoc (x y z : Nat) : (x + y) % L + z = (x + y) % L + z := rfl
theorem mod_bit (n k : Nat) : n % 2 ^ (k + 1) = n % 2 ^ k + (if n.testBit k then 2 ^ k else 0) := by
  rw [Nat.pow_succ, Nat.mod_mul, Nat.testBit_eq_decide_div_mod_eq]
  by_cases h : n / 2 ^ k % 2 = 1
  · rw [if_pos (decide_eq_true h), h, Nat.mul_one]
  · rw [if_neg (by simpa using h), show n / 2 ^ k % 2 = 0 by omega, Nat.mul_zero]
theorem u32_64 (x : UInt32) : x.toUInt64.toNat = x.toNat := UInt32.toNat_toUInt64 x
theorem u32_lt (x : UInt32) : x.toUInt64.toNat < 2 ^ 256 := Nat.lt_trans x.toUInt64.toNat_lt (by decide)
theorem u32_add (x y : UInt32) : (x.toUInt64 + y.toUInt64).toNat = x.toUInt64.toNat + y.toUInt64.toNat := by
  have := x.toNat_lt; have := y.toNat_lt
  rw [UInt64.toNat_add, u32_64, u32_64]; omega
theorem u32_mul (x y : UInt32) : (x.toUInt64 * y.toUInt64).toNat = x.toUInt64.toNat * y.toUInt64.toNat := by
  have h1 := x.toNat_lt; have h2 := y.toNat_lt
  rw [UInt64.toNat_mul, u32_64, u32_64, Nat.mod_eq_of_lt]
  calc x.toNat * y.toNat ≤ 2 ^ 32 * y.toNat := Nat.mul_le_mul_right _ (Nat.le_of_lt h1)
    _ < 2 ^ 32 * 2 ^ 32 := Nat.mul_lt_mul_of_pos_left h2 (by decide)
    _ = 2 ^ 64 := by decide
theorem u64_modL (z : UInt64) : z.toNat % L = z.toNat := Nat.mod_eq_of_lt (Nat.lt_trans z.toNat_lt (by decide))
theorem u64_256 (z : UInt64) : z.toNat < 2 ^ 256 := Nat.lt_trans z.toNat_lt (by decide)
theorem u32_of {a : Int} (h : (Lit.int .u32 a).wf = true) : ∃ x : UInt32, Value.int .u32 a = u32 x := by
  have m0 : IntKind.u32.min = 0 := by decide
  have m1 : IntKind.u32.max = 4294967295 := by decide
  simp [Lit.wf] at h
  refine ⟨halfOf a, ?_⟩
  rw [u32, ← wrap_u32, IntKind.wrap_u32]
  congr 1
  omega
end Hw
