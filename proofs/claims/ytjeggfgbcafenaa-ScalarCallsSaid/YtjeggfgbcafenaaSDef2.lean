/- Words of long byte strings, shifts of bits, and small facts on scalars as numbers; no program. No conditions. -/
import Derived.Test.YtjeggfgbcafenaaSDef
import Derived.Test.YtjeggfgbcafenaaOps8
namespace Hw
open Go
set_option linter.unusedSimpArgs false
set_option linter.unusedVariables false
set_option maxRecDepth 100000

/-- eight words, highest first -/
theorem lt_sp {n a b c : Nat} (h : n < 2 ^ c) (hc : a + b = c) : n < 2 ^ a * 2 ^ b := by subst hc; rw [← Nat.pow_add]; exact h
theorem top_sp {n a b c : Nat} (h : n < 2 ^ c) (hc : a + b = c) : n / 2 ^ a % 2 ^ b = n / 2 ^ a := Nat.mod_eq_of_lt (Nat.div_lt_of_lt_mul (lt_sp h hc))
theorem le_2p {a c : Nat} (h : a ≤ c) : 2 ^ a ≤ 2 ^ c := Nat.pow_le_pow_right (by decide) h
theorem pos_2p (c : Nat) : 0 < 2 ^ c := Nat.pow_pos (by decide)
def words8 (n : Nat) : List UInt64 := [448, 384, 320, 256, 192, 128, 64, 0].map fun e => w64 (n / 2 ^ e)
theorem words8_length (n : Nat) : (words8 n).length = 8 := rfl
theorem words8_zero : words8 0 = List.replicate 8 0 := by
  simp only [words8, List.map_cons, List.map_nil, Nat.zero_div]; rfl
theorem wvo8 (a b c d e f g h : UInt64) : wv [a, b, c, d, e, f, g, h] = ((((((a.toNat * 2 ^ 64 + b.toNat) * 2 ^ 64 + c.toNat) * 2 ^ 64 + d.toNat) * 2 ^ 64 + e.toNat) * 2 ^ 64 + f.toNat) * 2 ^ 64 + g.toNat) * 2 ^ 64 + h.toNat := by
  simp [wv]
theorem horner (n k : Nat) : n / 2 ^ (k + 64) * 2 ^ 64 + n / 2 ^ k % 2 ^ 64 = n / 2 ^ k := by
  rw [Nat.pow_add, ← Nat.div_div_eq_div_mul, Nat.mul_comm]
  exact Nat.div_add_mod _ _
theorem horn2 {n k m : Nat} (h : k + 64 = m) : n / 2 ^ m * 2 ^ 64 + n / 2 ^ k % 2 ^ 64 = n / 2 ^ k := by subst h; exact horner n k
theorem wv_words8 {n : Nat} (h : n < 2 ^ 512) : wv (words8 n) = n := by
  simp only [words8, List.map_cons, List.map_nil]
  rw [wvo8]
  simp only [w64_toNat]
  have h0 := top_sp (a := 448) (b := 64) h rfl
  rw [h0, horn2 (k := 384) (m := 448) rfl, horn2 (k := 320) (m := 384) rfl, horn2 (k := 256) (m := 320) rfl, horn2 (k := 192) (m := 256) rfl, horn2 (k := 128) (m := 192) rfl, horn2 (k := 64) (m := 128) rfl, horn2 (k := 0) (m := 64) rfl, Nat.pow_zero, Nat.div_one]
theorem words8_get (n : Nat) : ∀ j, j < 8 → (words8 n)[7 - j]? = some (w64 (n / 2 ^ (64 * j))) := fun j hj => by
  have e : ∀ j, j < 8 → ([448, 384, 320, 256, 192, 128, 64, 0] : List Nat)[7 - j]? = some (64 * j) := by decide
  rw [words8, List.getElem?_map, e j hj]; rfl
theorem pow256 (k : Nat) : 256 ^ k = 2 ^ (8 * k) := by rw [show (256 : Nat) = 2 ^ 8 by decide, ← Nat.pow_mul]
/-- one byte more -/
theorem words8_step (n k : Nat) (x : UInt8) (hn : n < 256 ^ k) (hk : k < 64) :
    words8 (n + 256 ^ k * x.toNat) = (words8 n).set (7 - k / 8) ((words8 n).getD (7 - k / 8) 0 ||| shl64 x.toUInt64 (8 * (k % 8))) := by
  have hx := x.toNat_lt
  apply List.ext_getElem?
  intro i
  rcases Nat.lt_or_ge i 8 with hi | hi
  · obtain ⟨j, hj, rfl⟩ : ∃ j, j < 8 ∧ i = 7 - j := ⟨7 - i, by omega, by omega⟩
    rw [words8_get _ j hj, List.getElem?_set, List.getD, words8_get _ (k / 8) (by omega), Option.getD_some]
    rw [pow256] at hn
    rcases Nat.lt_trichotomy j (k / 8) with h | h | h
    · rw [if_neg (by omega), words8_get _ j hj, pow256]
      congr 1
      apply UInt64.toNat_inj.1
      rw [w64_toNat, w64_toNat]
      have e : 2 ^ (8 * k) * x.toNat = 2 ^ (64 * j) * (2 ^ 64 * (2 ^ (8 * k - 64 * j - 64) * x.toNat)) := by
        rw [← Nat.mul_assoc, ← Nat.mul_assoc, ← Nat.pow_add, ← Nat.pow_add]
        congr 2; omega
      rw [e, Nat.add_mul_div_left _ _ (Nat.pow_pos (by decide)), Nat.add_mul_mod_self_left]
    · subst h
      rw [if_pos rfl, if_pos (by rw [words8_length]; omega), pow256]
      congr 1
      apply UInt64.toNat_inj.1
      rw [UInt64.toNat_or, shl64_toNat, w64_toNat, w64_toNat, UInt8.toNat_toUInt64]
      have e : 2 ^ (8 * k) * x.toNat = 2 ^ (64 * (k / 8)) * (2 ^ (8 * (k % 8)) * x.toNat) := by
        rw [← Nat.mul_assoc, ← Nat.pow_add]
        congr 2; omega
      have hl : n / 2 ^ (64 * (k / 8)) < 2 ^ (8 * (k % 8)) := by
        apply Nat.div_lt_of_lt_mul
        rw [← Nat.pow_add]
        rw [show 64 * (k / 8) + 8 * (k % 8) = 8 * k by omega]; exact hn
      have hm : 8 * (k % 8) ≤ 56 := by omega
      have h8 : 2 ^ (8 * (k % 8)) ≤ 2 ^ 56 := Nat.pow_le_pow_right (by decide) hm
      have hb : x.toNat * 2 ^ (8 * (k % 8)) < 2 ^ 64 := by
        calc x.toNat * 2 ^ (8 * (k % 8)) ≤ x.toNat * 2 ^ 56 := Nat.mul_le_mul_left _ h8
          _ < 2 ^ 64 := by omega
      rw [e, Nat.add_mul_div_left _ _ (Nat.pow_pos (by decide)), Nat.mod_eq_of_lt hb, Nat.mod_eq_of_lt (Nat.lt_of_lt_of_le hl (Nat.le_trans h8 (by decide)))]
      rw [Nat.mul_comm x.toNat, Nat.or_comm, ← Nat.two_pow_add_eq_or_of_lt hl, Nat.add_comm, Nat.mod_eq_of_lt]
      calc 2 ^ (8 * (k % 8)) * x.toNat + n / 2 ^ (64 * (k / 8)) < 2 ^ (8 * (k % 8)) * (x.toNat + 1) := by rw [Nat.mul_add]; omega
        _ ≤ 2 ^ (8 * (k % 8)) * 2 ^ 8 := Nat.mul_le_mul_left _ hx
        _ = 2 ^ (8 * (k % 8) + 8) := by rw [Nat.pow_add]
        _ ≤ 2 ^ 64 := Nat.pow_le_pow_right (by decide) (by omega)
    · rw [if_neg (by omega), words8_get _ j hj, pow256]
      congr 1
      have hp : 2 ^ (8 * (k + 1)) ≤ 2 ^ (64 * j) := Nat.pow_le_pow_right (by decide) (by omega)
      have h1 : n + 2 ^ (8 * k) * x.toNat < 2 ^ (8 * (k + 1)) := by
        rw [show 8 * (k + 1) = 8 * k + 8 by omega, Nat.pow_add]
        calc n + 2 ^ (8 * k) * x.toNat < 2 ^ (8 * k) * (x.toNat + 1) := by rw [Nat.mul_add]; omega
          _ ≤ 2 ^ (8 * k) * 2 ^ 8 := Nat.mul_le_mul_left _ hx
      rw [Nat.div_eq_of_lt (Nat.lt_of_lt_of_le h1 hp), Nat.div_eq_of_lt (Nat.lt_of_lt_of_le (Nat.lt_of_le_of_lt (Nat.le_add_right _ _) h1) hp)]
  · rw [List.getElem?_eq_none (by rw [words8_length]; exact hi), List.getElem?_eq_none (by rw [List.length_set, words8_length]; exact hi)]

theorem le_take_succ (l : List UInt8) (k : Nat) (h : k < l.length) : le (l.take (k + 1)) = le (l.take k) + 256 ^ k * (l.getD k 0).toNat := by
  rw [List.take_succ_eq_append_getElem h, le_append, List.length_take, Nat.min_eq_left (by omega)]
  simp [le, List.getD, h]
theorem le_take_lt (l : List UInt8) (k : Nat) : le (l.take k) < 256 ^ k := by
  refine Nat.lt_of_lt_of_le (le_lt _) (Nat.pow_le_pow_right (by decide) ?_)
  rw [List.length_take]; omega
theorem take_512 (l : List UInt8) (k : Nat) (h : k ≤ 64) : le (l.take k) < 2 ^ 512 := by
  refine Nat.lt_of_lt_of_le (le_take_lt l k) ?_
  rw [pow256]; exact le_2p (c := 512) (by omega)
theorem zero_512 : 0 < 2 ^ 512 := pos_2p 512
theorem le_zeros : ∀ k, le (List.replicate k 0) = 0
  | 0 => rfl
  | k + 1 => by simp [List.replicate, le, le_zeros k]
theorem le_one : le (1 :: List.replicate 31 0) = 1 := by decide
theorem words4_eq_zero {n : Nat} (h : n < 2 ^ 256) : words4 n = List.replicate 4 0 ↔ n = 0 := by
  constructor
  · intro e
    have := wv_words4 n
    rw [e, Nat.mod_eq_of_lt h] at this
    rw [← this]; decide
  · rintro rfl; decide
theorem L_pos : 0 < L := by decide
theorem L_lt : L < 2 ^ 256 := by decide
theorem le_leb32 {n : Nat} (h : n < 2 ^ 256) : le (leb 32 n) = n := by
  rw [le_leb]; exact Nat.mod_eq_of_lt h
theorem lm (n : Nat) : n % L < 2 ^ 256 := Nat.lt_trans (Nat.mod_lt _ L_pos) L_lt
/-- bit i of a number; none outside 0..255 -/
def bitV (n : Nat) (i : Int) : Bool := decide (0 ≤ i ∧ i < 256) && n.testBit i.toNat
theorem le_byte (l : List UInt8) (k : Nat) : (l.getD k 0).toNat = le l / 256 ^ k % 256 := by
  rcases Nat.lt_or_ge k l.length with h | h
  · rw [le_drop l k (Nat.le_of_lt h)]
    have : l.drop k = l.getD k 0 :: l.drop (k + 1) := by
      rw [List.getD_eq_getElem?_getD, List.getElem?_eq_getElem h]
      exact List.drop_eq_getElem_cons h
    rw [this, le]
    have := (l.getD k 0).toNat_lt
    omega
  · rw [List.getD_eq_getElem?_getD, List.getElem?_eq_none h, Nat.div_eq_of_lt (Nat.lt_of_lt_of_le (le_lt l) (Nat.pow_le_pow_right (by decide) h))]
    rfl
theorem le_bit (l : List UInt8) (k : Nat) : (l.getD (k / 8) 0).toNat / 2 ^ (k % 8) % 2 = le l / 2 ^ k % 2 := by
  rw [le_byte, pow256, show (256 : Nat) = 2 ^ (k % 8) * 2 ^ (8 - k % 8) by rw [← Nat.pow_add, show k % 8 + (8 - k % 8) = 8 by omega], Nat.mod_mul_right_div_self, Nat.div_div_eq_div_mul, ← Nat.pow_add, show 8 * (k / 8) + k % 8 = k by omega]
  exact Nat.mod_mod_of_dvd _ ⟨2 ^ (8 - k % 8 - 1), by rw [← Nat.pow_succ']; congr 1; omega⟩
theorem bit_and (l : List UInt8) (k : Nat) : (decide (((shr8 (l.getD (k / 8) 0) (k % 8) &&& 1).toNat : Int) = 1)) = (le l).testBit k := by
  rw [UInt8.toNat_and, shr8_toNat, show (1 : UInt8).toNat = 2 ^ 1 - 1 by decide, Nat.and_two_pow_sub_one_eq_mod, Nat.pow_one, le_bit, Nat.testBit_eq_decide_div_mod_eq]
  congr 1
  apply propext; omega
theorem bit_rem (l : List UInt8) (k : Nat) : (decide (((UInt8.ofNat ((shr8 (l.getD (k / 8) 0) (k % 8)).toNat % 2)).toNat : Int) = 1)) = (le l).testBit k := by
  rw [shr8_toNat, le_bit, UInt8.toNat_ofNat', Nat.testBit_eq_decide_div_mod_eq]
  congr 1
  apply propext; omega
end Hw
