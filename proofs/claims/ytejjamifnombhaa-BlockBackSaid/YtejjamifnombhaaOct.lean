/- How a number is written in bytes: plain lists. It proves no statement by itself; it has no conditions. -/
import Derived.Test.YtejjamifnombhaaMisc
namespace Hw
open Go
set_option linter.unusedSimpArgs false
set_option linter.unusedVariables false

theorem bytesV_cell (l : List UInt8) : ∀ u ∈ bytesV l, isCell u = true := fun u hu => by
  simp only [bytesV, List.mem_map] at hu
  obtain ⟨_, _, rfl⟩ := hu
  rfl
def bLen (n : Nat) : Nat := if n = 0 then 0 else Nat.log2 n + 1
theorem bLen_le {n k : Nat} : bLen n ≤ k ↔ n < 2 ^ k := by
  unfold bLen
  by_cases h : n = 0
  · subst h; simp; exact Nat.pow_pos (by decide)
  · rw [if_neg h, Nat.succ_le_iff, Nat.log2_lt h]
theorem bLen_shr {n k : Nat} (h : 2 ^ k ≤ n) : bLen n = k + bLen (n / 2 ^ k) := by
  have key : ∀ j, bLen n ≤ k + j ↔ bLen (n / 2 ^ k) ≤ j := fun j => by
    rw [bLen_le, bLen_le, Nat.pow_add, Nat.div_lt_iff_lt_mul (Nat.pow_pos (by decide)), Nat.mul_comm]
  have h1 := (key (bLen (n / 2 ^ k))).2 (Nat.le_refl _)
  have h2 : k < bLen n := by
    rcases Nat.lt_or_ge k (bLen n) with h | h
    · exact h
    · rw [ge_iff_le, bLen_le] at h; omega
  have h3 := (key (bLen n - k)).1 (by omega)
  omega
def szN (n : Nat) : Nat := min ((bLen (n ||| 1) + 6) / 7) 9
theorem szN_pos (n : Nat) : 1 ≤ szN n ∧ szN n ≤ 9 := by
  have : 1 ≤ bLen (n ||| 1) := by
    rcases Nat.lt_or_ge 0 (bLen (n ||| 1)) with h | h
    · exact h
    · rw [ge_iff_le, bLen_le] at h
      have h1 : 1 ≤ n ||| 1 := Nat.right_le_or
      simp at h
  unfold szN
  omega
def tailB (x : UInt64) : Nat → List UInt8
  | 0 => []
  | k + 1 => (shr64 x (8 * k)).toUInt8 :: tailB x k
theorem tailB_length (x : UInt64) : ∀ k, (tailB x k).length = k
  | 0 => rfl
  | k + 1 => by simp [tailB, tailB_length x k]
theorem tailB_get (x : UInt64) : ∀ k j, j < k → (tailB x k)[j]? = some (shr64 x (8 * (k - 1 - j))).toUInt8
  | 0, j, h => by omega
  | k + 1, 0, h => by simp [tailB]
  | k + 1, j + 1, h => by
    rw [tailB, List.getElem?_cons_succ, tailB_get x k j (by omega)]
    congr 4
    omega
def headB (x : UInt64) : UInt8 := shl8 255 (9 - szN x.toNat) ||| (shr64 x (8 * (szN x.toNat - 1))).toUInt8
/-- the bytes of a number -/
def numB (x : UInt64) : List UInt8 := headB x :: tailB x (szN x.toNat - 1)
theorem numB_length (x : UInt64) : (numB x).length = szN x.toNat := by
  have := szN_pos x.toNat
  simp [numB, tailB_length]; omega
/-- the first j bytes behind the first one -/
def numUp (x : UInt64) (j : Nat) : List UInt8 := headB x :: (tailB x (szN x.toNat - 1)).take j
theorem numUp_length (x : UInt64) (j : Nat) (h : j ≤ szN x.toNat - 1) : (numUp x j).length = 1 + j := by
  simp [numUp, tailB_length]; omega
theorem numUp_step (x : UInt64) (j : Nat) (h : j < szN x.toNat - 1) : numUp x (j + 1) = numUp x j ++ [(shr64 x (8 * (szN x.toNat - 2 - j))).toUInt8] := by
  have hl : j < (tailB x (szN x.toNat - 1)).length := by rw [tailB_length]; exact h
  have hg := tailB_get x (szN x.toNat - 1) j h
  rw [List.getElem?_eq_getElem hl, Option.some.injEq] at hg
  rw [numUp, numUp, List.take_succ_eq_append_getElem hl, hg, show szN x.toNat - 1 - 1 - j = szN x.toNat - 2 - j by omega]
  rfl
theorem numUp_all (x : UInt64) : numUp x (szN x.toNat - 1) = numB x := by
  rw [numUp, List.take_of_length_le (by rw [tailB_length]; omega), numB]
theorem numUp_zero (x : UInt64) : numUp x 0 = [headB x] := by simp [numUp]
/-! ### reading -/
def cntB (f : UInt8) : Nat := 9 - bLen (255 ^^^ f).toNat
theorem b8_le (f : UInt8) : bLen (255 ^^^ f).toNat ≤ 8 := bLen_le.2 (255 ^^^ f).toNat_lt
def foldB (a : UInt64) : List UInt8 → UInt64
  | [] => a
  | b :: l => foldB (shl64 a 8 ||| b.toUInt64) l
theorem foldB_snoc (b : UInt8) : ∀ (l : List UInt8) (a : UInt64), foldB a (l ++ [b]) = shl64 (foldB a l) 8 ||| b.toUInt64
  | [], a => rfl
  | x :: l, a => by rw [List.cons_append, foldB, foldB_snoc b l, foldB]
def headV (f : UInt8) : UInt64 := (f &&& shr8 255 (cntB f)).toUInt64
def numV (xs : List UInt8) (a : Nat) : UInt64 := foldB (headV (xs.getD a 0)) ((xs.drop (a + 1)).take (cntB (xs.getD a 0) - 1))
theorem foldB_step (xs : List UInt8) (s a : Nat) (v : UInt64) (h : s + a < xs.length) : foldB v ((xs.drop s).take (a + 1)) = shl64 (foldB v ((xs.drop s).take a)) 8 ||| (xs.getD (s + a) 0).toUInt64 := by
  have hl : a < (xs.drop s).length := by simp; omega
  rw [List.take_succ_eq_append_getElem hl, foldB_snoc]
  congr 2
  simp [List.getD, List.getElem?_eq_getElem h]
theorem cnt_word (f : UInt8) : (wordOf (8 - ((bLen (255 ^^^ f).toNat : Nat) : Int) + 1 - 1)).toNat = cntB f - 1 := by
  have := b8_le f
  rw [show (8 - ((bLen (255 ^^^ f).toNat : Nat) : Int) + 1 - 1) = ((8 - bLen (255 ^^^ f).toNat : Nat) : Int) by omega, cntB]
  simp only [wordOf, UInt64.toNat_ofNat']
  omega
end Hw
