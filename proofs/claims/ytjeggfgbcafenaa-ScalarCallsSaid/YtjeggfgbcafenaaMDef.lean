/- Columns of the school product of two numbers, as lists; no program. No conditions. -/
import Derived.Test.YtjeggfgbcafenaaRDef
namespace Hw
open Go
set_option linter.unusedSimpArgs false
set_option linter.unusedVariables false
set_option maxRecDepth 100000

def ev : List Nat → Nat
  | [] => 0
  | x :: l => x + 256 * ev l
def addC (l : List Nat) (k v : Nat) : List Nat := l.set k (l.getD k 0 + v)
theorem addC_length (l : List Nat) (k v : Nat) : (addC l k v).length = l.length := by simp [addC]
theorem ev_addC : ∀ (l : List Nat) (k v : Nat), k < l.length → ev (addC l k v) = ev l + v * 256 ^ k
  | [], _, _, h => by simp at h
  | x :: l, 0, v, _ => by simp [addC, ev]; omega
  | x :: l, k + 1, v, h => by
    have := ev_addC l k v (by simpa using h)
    simp only [addC, List.set_cons_succ, List.getD_cons_succ, ev] at this ⊢
    rw [this, Nat.pow_succ, Nat.mul_add, Nat.add_assoc, ← Nat.mul_assoc v, Nat.mul_comm (v * 256 ^ k) 256]
def inn (a b : List UInt8) (i : Nat) (l : List Nat) : Nat → List Nat
  | 0 => l
  | q + 1 => addC (inn a b i l q) (i + q) ((a.getD i 0).toNat * (b.getD q 0).toNat)
theorem inn_length (a b : List UInt8) (i : Nat) (l : List Nat) : ∀ q, (inn a b i l q).length = l.length
  | 0 => rfl
  | q + 1 => by rw [inn, addC_length, inn_length a b i l q]
def out (a b : List UInt8) : Nat → List Nat
  | 0 => List.replicate 64 0
  | p + 1 => inn a b p (out a b p) 32
theorem out_length (a b : List UInt8) : ∀ p, (out a b p).length = 64
  | 0 => by simp [out]
  | p + 1 => by rw [out, inn_length, out_length a b p]
theorem ev_inn (a b : List UInt8) (i : Nat) (l : List Nat) (hb : b.length = 32) (hi : i < 32) (hl : l.length = 64) : ∀ q, q ≤ 32 → ev (inn a b i l q) = ev l + (a.getD i 0).toNat * 256 ^ i * le (b.take q)
  | 0, _ => by simp [inn, le]
  | q + 1, h => by
    rw [inn, ev_addC _ _ _ (by rw [inn_length]; omega), ev_inn a b i l hb hi hl q (by omega), le_take_succ b q (by omega), Nat.mul_add, Nat.add_assoc, Nat.pow_add]
    congr 2
    rw [Nat.mul_assoc, Nat.mul_assoc, Nat.mul_comm (b.getD q 0).toNat, Nat.mul_assoc]
theorem ev_zeros : ∀ k, ev (List.replicate k 0) = 0
  | 0 => rfl
  | k + 1 => by simp [List.replicate, ev, ev_zeros k]
theorem ev_out (a b : List UInt8) (ha : a.length = 32) (hb : b.length = 32) : ∀ p, p ≤ 32 → ev (out a b p) = le (a.take p) * le b
  | 0, _ => by rw [out, ev_zeros, List.take_zero, le, Nat.zero_mul]
  | p + 1, h => by
    rw [out, ev_inn a b p _ hb (by omega) (out_length a b p) 32 (by omega), ev_out a b ha hb p (by omega), le_take_succ a p (by omega), List.take_of_length_le (l := b) (by omega), Nat.add_mul, Nat.mul_comm (256 ^ p)]
/-- a bound for each column -/
theorem addC_le (l : List Nat) (k v M N : Nat) (h : ∀ j, l.getD j 0 ≤ M) (hv : v ≤ N) : ∀ j, (addC l k v).getD j 0 ≤ M + N := fun j => by
  have hj := h j
  have hk := h k
  simp only [addC, List.getD_eq_getElem?_getD, List.getElem?_set] at *
  by_cases e : k = j
  · subst e
    rw [if_pos rfl]
    split
    · simp only [Option.getD_some]; omega
    · simp
  · rw [if_neg e]; omega
theorem inn_le' (a b : List UInt8) (i : Nat) (l : List Nat) (M K : Nat) (hK : K = 255 * 255) (h : ∀ j, l.getD j 0 ≤ M) : ∀ q j, (inn a b i l q).getD j 0 ≤ M + K * q
  | 0, j => by simpa [inn] using h j
  | q + 1, j => by
    have hx := (a.getD i 0).toNat_lt
    have hy := (b.getD q 0).toNat_lt
    have hm : (a.getD i 0).toNat * (b.getD q 0).toNat ≤ K := by rw [hK]; exact Nat.mul_le_mul (by omega) (by omega)
    have := addC_le _ (i + q) _ _ _ (inn_le' a b i l M K hK h q) hm j
    rw [inn, Nat.mul_add, Nat.mul_one, ← Nat.add_assoc]
    exact this
theorem inn_le (a b : List UInt8) (i : Nat) (l : List Nat) (M : Nat) (h : ∀ j, l.getD j 0 ≤ M) (q j : Nat) : (inn a b i l q).getD j 0 ≤ M + 65025 * q := inn_le' a b i l M 65025 rfl h q j
theorem out_le' (a b : List UInt8) (K : Nat) (hK : K = 65025 * 32) : ∀ p j, (out a b p).getD j 0 ≤ K * p
  | 0, j => by
    rw [out, List.getD_eq_getElem?_getD, List.getElem?_replicate]
    split
    · rw [Option.getD_some]; exact Nat.zero_le _
    · rw [Option.getD_none]; exact Nat.zero_le _
  | p + 1, j => by
    have := inn_le a b p (out a b p) _ (out_le' a b K hK p) 32 j
    rw [out, Nat.mul_add, Nat.mul_one]
    rw [← hK] at this
    exact this
theorem out_le (a b : List UInt8) (p j : Nat) : (out a b p).getD j 0 ≤ 2080800 * p := out_le' a b 2080800 rfl p j
theorem ev_take_succ : ∀ (l : List Nat) (k : Nat), k < l.length → ev (l.take (k + 1)) = ev (l.take k) + 256 ^ k * l.getD k 0
  | [], _, h => by simp at h
  | x :: l, 0, _ => by simp [ev]
  | x :: l, k + 1, h => by
    have := ev_take_succ l k (by simpa using h)
    simp only [List.take_succ_cons, ev, List.getD_cons_succ] at this ⊢
    rw [this, Nat.mul_add, Nat.pow_succ, Nat.add_assoc, Nat.mul_comm (256 ^ k) 256, Nat.mul_assoc]
theorem ev_take_le (l : List Nat) (M : Nat) (h : ∀ j, l.getD j 0 ≤ M) : ∀ k, ev (l.take k) / 256 ^ k ≤ M
  | 0 => by simp [ev]
  | k + 1 => by
    rcases Nat.lt_or_ge k l.length with hk | hk
    · rw [ev_take_succ l k hk, Nat.pow_succ, ← Nat.div_div_eq_div_mul, Nat.add_mul_div_left _ _ (Nat.pow_pos (by decide))]
      have h1 := ev_take_le l M h k
      have h2 := h k
      omega
    · have h1 := ev_take_le l M h k
      rw [List.take_of_length_le (by omega), Nat.pow_succ, ← Nat.div_div_eq_div_mul]
      rw [List.take_of_length_le hk] at h1
      exact Nat.le_trans (Nat.div_le_self _ _) h1
def natsV (l : List Nat) : List Value := l.map fun (n : Nat) => i64 (n : Int)
theorem natsV_length (l : List Nat) : (natsV l).length = l.length := by simp [natsV]
theorem get_nats {l : List Nat} {o : Nat} (h : o < l.length) : (natsV l)[o]? = some (i64 ((l.getD o 0 : Nat) : Int)) := by
  simp [natsV, List.getElem?_map, List.getD, h]
theorem set_nats (l : List Nat) (o v : Nat) : (natsV l).set o (i64 (v : Int)) = natsV (l.set o v) := by simp [natsV, List.map_set]
theorem addC_set (l : List Nat) (k x y : Nat) : natsV (addC l k (x * y)) = (natsV l).set k (i64 (((l.getD k 0 : Nat) : Int) + (x : Int) * (y : Int))) := by
  rw [addC, ← set_nats, Int.natCast_add, Int.natCast_mul]
theorem natsV_zeros (n : Nat) : natsV (List.replicate n 0) = intsV (List.replicate n 0) := by simp [natsV, intsV]
theorem natCast_mul_le {x y : Nat} (hx : x < 256) (hy : y < 256) : (0 : Int) ≤ (x : Int) * (y : Int) ∧ (x : Int) * (y : Int) ≤ 65025 := by
  rw [← Int.natCast_mul]
  have : x * y ≤ 255 * 255 := Nat.mul_le_mul (by omega) (by omega)
  omega
theorem le512 {a b : List UInt8} (ha : a.length = 32) (hb : b.length = 32) : le a * le b < 256 ^ 64 := by
  have h1 := le_lt a
  have h2 := le_lt b
  rw [ha] at h1; rw [hb] at h2
  exact Nat.lt_of_lt_of_eq (Nat.mul_lt_mul'' h1 h2) (Nat.pow_add 256 32 32).symm
theorem neg_ref (x : Nat) : ((L - 1) * x) % L = (L - x % L) % L := by
  have h0 := L_pos
  have h1 : ((L - 1) * x + x) % L = 0 := by
    rw [← Nat.succ_mul, show (L - 1).succ = L by omega, Nat.mul_mod_right]
  have h2 := add_neg_mod x
  rcases Nat.eq_zero_or_pos (x % L) with hx | hx
  · rw [hx, Nat.sub_zero, Nat.mod_self, Nat.mul_mod, hx, Nat.mul_zero, Nat.zero_mod]
  · have hl : x % L < L := Nat.mod_lt _ h0
    rw [Nat.mod_eq_of_lt (a := L - x % L) (by omega)]
    have h3 : (((L - 1) * x) % L + x % L) % L = 0 := by rw [← Nat.add_mod]; exact h1
    have h4 : ((L - 1) * x) % L < L := Nat.mod_lt _ h0
    rcases Nat.lt_or_ge (((L - 1) * x) % L + x % L) L with h | h
    · rw [Nat.mod_eq_of_lt h] at h3; omega
    · rw [Nat.mod_eq_sub_mod h, Nat.mod_eq_of_lt (by omega)] at h3; omega
theorem L_less : (leb 32 L).set 0 ((leb 32 L).getD 0 0 - 1) = leb 32 (L - 1) := by decide
theorem ev_all (a b : List UInt8) (ha : a.length = 32) (hb : b.length = 32) : ev ((out a b 32).take 64) = le a * le b := by
  rw [List.take_of_length_le (by rw [out_length]; omega), ev_out a b ha hb 32 (by omega), List.take_of_length_le (by omega)]
end Hw
