/- Numbers as bytes: what is written is read back, and only that. It proves no statement by itself; it has no conditions. -/
import Derived.Test.YtejjamifnombhaaAcc
import Derived.Test.YtejjamifnombhaaOct
namespace Hw
open Go
set_option linter.unusedSimpArgs false
set_option linter.unusedVariables false

/-- the first byte that a count and the top bits have -/
def headOf (s h : Nat) : UInt8 := shl8 255 (9 - s) ||| UInt8.ofNat h
theorem head_facts : ∀ s, s < 10 → 1 ≤ s → ∀ h, h < 2 ^ (8 - s) → (s = 9 → h = 0) → cntB (headOf s h) = s ∧ (headV (headOf s h)).toNat = h := by
  decide +kernel
theorem head_back : ∀ n, n < 256 → 1 ≤ cntB (UInt8.ofNat n) ∧ cntB (UInt8.ofNat n) ≤ 9 ∧ (headV (UInt8.ofNat n)).toNat < 2 ^ (8 - cntB (UInt8.ofNat n)) ∧ (cntB (UInt8.ofNat n) = 9 → (headV (UInt8.ofNat n)).toNat = 0) ∧ headOf (cntB (UInt8.ofNat n)) (headV (UInt8.ofNat n)).toNat = UInt8.ofNat n := by
  decide +kernel
theorem head_of (f : UInt8) : 1 ≤ cntB f ∧ cntB f ≤ 9 ∧ (headV f).toNat < 2 ^ (8 - cntB f) ∧ (cntB f = 9 → (headV f).toNat = 0) ∧ headOf (cntB f) (headV f).toNat = f := by
  have h := head_back f.toNat f.toNat_lt
  rwa [UInt8.ofNat_toNat] at h

/-- the number of bytes, the high one first -/
def beN : List UInt8 → Nat
  | [] => 0
  | b :: l => b.toNat * 256 ^ l.length + beN l
theorem beN_lt : ∀ l, beN l < 256 ^ l.length
  | [] => by simp [beN]
  | b :: l => by
    have h1 := beN_lt l
    have h2 := b.toNat_lt
    rw [beN, List.length_cons, Nat.pow_succ]
    have : b.toNat * 256 ^ l.length + 256 ^ l.length ≤ 256 ^ l.length * 256 := by
      rw [← Nat.succ_mul, Nat.mul_comm]
      exact Nat.mul_le_mul_left _ (by omega)
    omega
theorem beN_inj : ∀ (a b : List UInt8), a.length = b.length → beN a = beN b → a = b
  | [], [], _, _ => rfl
  | x :: a, y :: b, hl, h => by
    simp only [List.length_cons, Nat.add_right_cancel_iff] at hl
    rw [beN, beN, hl] at h
    have h1 := beN_lt a
    have h2 := beN_lt b
    rw [hl] at h1
    have hp : 0 < 256 ^ b.length := Nat.pow_pos (by decide)
    have e1 : x.toNat = y.toNat := by
      have d1 : (x.toNat * 256 ^ b.length + beN a) / 256 ^ b.length = x.toNat := by rw [Nat.mul_comm, Nat.mul_add_div hp, Nat.div_eq_of_lt h1, Nat.add_zero]
      have d2 : (y.toNat * 256 ^ b.length + beN b) / 256 ^ b.length = y.toNat := by rw [Nat.mul_comm, Nat.mul_add_div hp, Nat.div_eq_of_lt h2, Nat.add_zero]
      rw [← d1, ← d2, h]
    rw [e1] at h
    rw [UInt8.toNat_inj.1 e1, beN_inj a b hl (by omega)]
theorem beN_tail (x : UInt64) : ∀ k, k ≤ 8 → beN (tailB x k) = x.toNat % 256 ^ k
  | 0, _ => by simp [tailB, beN, Nat.mod_one]
  | k + 1, hk => by
    have hp : 0 < 256 ^ k := Nat.pow_pos (by decide)
    have e : (2 : Nat) ^ (8 * k) = 256 ^ k := by rw [Nat.pow_mul]
    rw [tailB, beN, tailB_length, beN_tail x k (by omega), UInt64.toNat_toUInt8]
    have e1 : (shr64 x (8 * k)).toNat = x.toNat / 256 ^ k := by
      have h : x.toNat / 2 ^ (8 * k) ≤ x.toNat := Nat.div_le_self _ _
      have := x.toNat_lt
      rw [shr64, UInt64.toNat_ofNat', Nat.mod_eq_of_lt (by omega), e]
    rw [e1]
    have h3 := Nat.mod_mul (a := 256 ^ k) (b := 256) (x := x.toNat)
    have e2 : (256 : Nat) ^ (k + 1) = 256 ^ k * 256 := Nat.pow_succ ..
    have e3 : (2 : Nat) ^ 8 = 256 := by decide
    rw [e2, h3, e3, Nat.mul_comm (256 ^ k)]
    omega
theorem foldB_nat : ∀ (l : List UInt8) (a : UInt64), a.toNat * 256 ^ l.length + beN l < 2 ^ 64 → (foldB a l).toNat = a.toNat * 256 ^ l.length + beN l
  | [], a, _ => by simp [foldB, beN]
  | b :: l, a, h => by
    rw [beN, List.length_cons, Nat.pow_succ] at h
    have hb := b.toNat_lt
    have hp : 0 < 256 ^ l.length := Nat.pow_pos (by decide)
    have e : a.toNat * (256 ^ l.length * 256) + (b.toNat * 256 ^ l.length + beN l) = (a.toNat * 256 + b.toNat) * 256 ^ l.length + beN l := by
      rw [Nat.add_mul, Nat.mul_assoc, Nat.mul_comm 256, Nat.add_assoc]
    rw [e] at h
    have h1 : a.toNat * 256 + b.toNat < 18446744073709551616 := by
      rw [show (2 : Nat) ^ 64 = 18446744073709551616 by decide] at h
      have : (a.toNat * 256 + b.toNat) * 1 ≤ (a.toNat * 256 + b.toNat) * 256 ^ l.length := Nat.mul_le_mul_left _ hp
      omega
    have hs : (shl64 a 8).toNat = a.toNat * 256 := by
      have e0 : a.toNat * 2 ^ 8 = a.toNat * 256 := rfl
      rw [shl64, UInt64.toNat_ofNat', e0, Nat.mod_eq_of_lt (Nat.lt_of_le_of_lt (Nat.le_add_right _ b.toNat) h1)]
    have ho : (shl64 a 8 ||| b.toUInt64).toNat = a.toNat * 256 + b.toNat := by
      rw [UInt64.toNat_or, hs, show b.toUInt64.toNat = b.toNat from by simp]
      rw [show a.toNat * 256 = 2 ^ 8 * a.toNat by omega, Nat.two_pow_add_eq_or_of_lt (by omega)]
    rw [foldB, foldB_nat l _ (by rw [ho]; exact h), ho, beN, List.length_cons, Nat.pow_succ, e]

/-! ### how many bytes a number has -/
theorem bLen_mono {a b : Nat} (h : a ≤ b) : bLen a ≤ bLen b := bLen_le.2 (Nat.lt_of_le_of_lt h (bLen_le.1 (Nat.le_refl _)))
theorem or_one (x : Nat) : x ||| 1 = if x % 2 = 0 then x + 1 else x := by
  have h := Nat.or_mod_two_pow (a := x) (b := 1) (n := 1)
  have h2 := Nat.or_div_two_pow (a := x) (b := 1) (n := 1)
  simp only [Nat.pow_one] at h h2
  have e : x % 2 = 0 ∨ x % 2 = 1 := by omega
  have hm : (x ||| 1) % 2 = 1 := by
    rw [h]
    rcases e with e | e <;> rw [e] <;> rfl
  have hd : (x ||| 1) / 2 = x / 2 := by rw [h2]; simp
  split <;> omega
theorem or_one_lt {x k : Nat} (hk : 1 ≤ k) : (x ||| 1) < 2 ^ k ↔ x < 2 ^ k := by
  rw [or_one]
  have : 2 ^ k = 2 * 2 ^ (k - 1) := by rw [← Nat.pow_succ']; congr 1; omega
  split <;> omega
theorem szN_le {x s : Nat} (hs : 1 ≤ s) (h8 : s ≤ 8) : szN x ≤ s ↔ x < 2 ^ (7 * s) := by
  rw [← or_one_lt (by omega), ← bLen_le]
  unfold szN
  omega
theorem szN_hi {x : Nat} (hs : szN x ≤ 8) : x < 2 ^ (7 * szN x) := (szN_le (szN_pos x).1 hs).1 (Nat.le_refl _)

theorem headB_of (x : UInt64) : ∃ h, headB x = headOf (szN x.toNat) h ∧ h < 2 ^ (8 - szN x.toNat) ∧ (szN x.toNat = 9 → h = 0) ∧ x.toNat = h * 256 ^ (szN x.toNat - 1) + x.toNat % 256 ^ (szN x.toNat - 1) := by
  have hp := szN_pos x.toNat
  have hx := x.toNat_lt
  have e : (2 : Nat) ^ (8 * (szN x.toNat - 1)) = 256 ^ (szN x.toNat - 1) := by rw [Nat.pow_mul]
  have e1 : (shr64 x (8 * (szN x.toNat - 1))).toNat = x.toNat / 256 ^ (szN x.toNat - 1) := by
    have h : x.toNat / 2 ^ (8 * (szN x.toNat - 1)) ≤ x.toNat := Nat.div_le_self _ _
    rw [shr64, UInt64.toNat_ofNat', Nat.mod_eq_of_lt (by omega), e]
  have hlt : x.toNat / 256 ^ (szN x.toNat - 1) < 2 ^ (8 - szN x.toNat) ∧ (szN x.toNat = 9 → x.toNat / 256 ^ (szN x.toNat - 1) = 0) := by
    by_cases h9 : szN x.toNat = 9
    · rw [h9]
      have : x.toNat / 256 ^ (9 - 1) = 0 := Nat.div_eq_of_lt (by rw [show (256 : Nat) ^ (9 - 1) = 2 ^ 64 by decide]; exact hx)
      rw [this]
      exact ⟨by decide, fun _ => rfl⟩
    · refine ⟨?_, fun h => absurd h h9⟩
      rw [Nat.div_lt_iff_lt_mul (Nat.pow_pos (by decide)), ← e, ← Nat.pow_add]
      have := szN_hi (x := x.toNat) (by omega)
      rwa [show 8 - szN x.toNat + 8 * (szN x.toNat - 1) = 7 * szN x.toNat by omega]
  refine ⟨x.toNat / 256 ^ (szN x.toNat - 1), ?_, hlt.1, hlt.2, (Nat.div_add_mod' _ _).symm⟩
  unfold headB headOf
  congr 1
  apply UInt8.toNat_inj.1
  rw [UInt64.toNat_toUInt8, e1, UInt8.toNat_ofNat']

/-- what numB has written -/
theorem num_back (x : UInt64) : cntB (headB x) = szN x.toNat ∧ foldB (headV (headB x)) (tailB x (szN x.toNat - 1)) = x := by
  obtain ⟨h, h1, h2, h3, h4⟩ := headB_of x
  have hp := szN_pos x.toNat
  have hf := head_facts (szN x.toNat) (by omega) hp.1 h h2 h3
  rw [h1]
  refine ⟨hf.1, UInt64.toNat_inj.1 ?_⟩
  have hb := beN_tail x (szN x.toNat - 1) (by omega)
  rw [foldB_nat _ _ (by rw [tailB_length, hf.2, hb, ← h4]; exact x.toNat_lt), tailB_length, hf.2, hb, ← h4]

/-- what is read as a number, with as many bytes as it has, are its bytes -/
theorem num_only {f : UInt8} {l : List UInt8} (hl : l.length = cntB f - 1) (hs : szN (foldB (headV f) l).toNat = cntB f) : numB (foldB (headV f) l) = f :: l := by
  obtain ⟨h1, h2, h3, h4, h5⟩ := head_of f
  have hb := beN_lt l
  rw [hl] at hb
  have hbound : (headV f).toNat * 256 ^ l.length + beN l < 2 ^ 64 := by
    rw [hl]
    have e8 : (256 : Nat) ^ (cntB f - 1) = 2 ^ (8 * (cntB f - 1)) := by rw [Nat.pow_mul]
    by_cases h9 : cntB f = 9
    · have e9 : (256 : Nat) ^ (cntB f - 1) = 2 ^ 64 := by rw [h9]
      rw [h4 h9, Nat.zero_mul, Nat.zero_add, ← e9]
      exact hb
    · have h6 : (headV f).toNat * 256 ^ (cntB f - 1) + 256 ^ (cntB f - 1) ≤ 2 ^ (8 - cntB f) * 256 ^ (cntB f - 1) := by
        rw [← Nat.succ_mul]; exact Nat.mul_le_mul_right _ h3
      have h7 : 2 ^ (8 - cntB f) * 256 ^ (cntB f - 1) = 2 ^ (7 * cntB f) := by
        rw [e8, ← Nat.pow_add]; congr 1; omega
      have h8 : 2 ^ (7 * cntB f) ≤ 2 ^ 64 := Nat.pow_le_pow_right (by decide) (by omega)
      omega
  have hv := foldB_nat l (headV f) hbound
  obtain ⟨x, hx⟩ : ∃ x, foldB (headV f) l = x := ⟨_, rfl⟩
  rw [hx] at hs hv ⊢
  rw [hl] at hv
  have hp : 0 < 256 ^ (cntB f - 1) := Nat.pow_pos (by decide)
  have hdiv : x.toNat / 256 ^ (cntB f - 1) = (headV f).toNat := by
    rw [hv, Nat.mul_comm, Nat.mul_add_div hp, Nat.div_eq_of_lt hb, Nat.add_zero]
  have hmod : x.toNat % 256 ^ (cntB f - 1) = beN l := by
    rw [hv, Nat.mul_comm, Nat.mul_add_mod, Nat.mod_eq_of_lt hb]
  obtain ⟨h, g1, g2, g3, g4⟩ := headB_of x
  rw [hs] at g1 g2 g3 g4
  have hh : h = (headV f).toNat := by
    rw [← hdiv]
    have hm := Nat.mod_lt x.toNat hp
    rw [g4, Nat.mul_comm, Nat.mul_add_div hp, Nat.div_eq_of_lt hm, Nat.add_zero]
  unfold numB
  rw [g1, hh, h5, hs]
  congr 1
  apply beN_inj
  · rw [tailB_length, hl]
  · rw [beN_tail x _ (by omega), hmod]
end Hw
