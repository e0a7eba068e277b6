/- Plain facts on bytes, words and numbers; no program. No conditions. -/
import Derived.Test.YtjeggfgbcafenaaOps
import Derived.Laws.MathBits
namespace Hw
open Go

/-- the number of bytes, little-endian -/
def le : List UInt8 → Nat
  | [] => 0
  | b :: l => b.toNat + 256 * le l

/-- the bytes of a number, little-endian -/
def leb : Nat → Nat → List UInt8
  | 0, _ => []
  | k + 1, n => UInt8.ofNat n :: leb k (n / 256)

def w64 (n : Nat) : UInt64 := UInt64.ofNat n

/-- the number of words, the highest first -/
def wv (l : List UInt64) : Nat := l.foldl (fun a x => a * 2 ^ 64 + x.toNat) 0

def words4 (n : Nat) : List UInt64 := [w64 (n / 2 ^ 192), w64 (n / 2 ^ 128), w64 (n / 2 ^ 64), w64 n]

theorem leb_length : ∀ k n, (leb k n).length = k
  | 0, _ => rfl
  | k + 1, n => by simp [leb, leb_length k]

theorem le_leb : ∀ k n, le (leb k n) = n % 256 ^ k
  | 0, n => by simp [le, leb, Nat.mod_one]
  | k + 1, n => by
    rw [leb, le, le_leb k, Nat.pow_succ, Nat.mul_comm (256 ^ k) 256, Nat.mod_mul]
    simp

theorem le_lt : ∀ l : List UInt8, le l < 256 ^ l.length
  | [] => by simp [le]
  | b :: l => by
    have := le_lt l
    have := b.toNat_lt
    rw [le, List.length_cons, Nat.pow_succ]
    omega

theorem le32 {l : List UInt8} (h : l.length = 32) : le l < 2 ^ 256 := by
  have := le_lt l; rw [h] at this; exact this

theorem leb_le : ∀ l : List UInt8, leb l.length (le l) = l
  | [] => rfl
  | b :: l => by
    have h := b.toNat_lt
    have h1 : (b.toNat + 256 * le l) / 256 = le l := by omega
    have h2 : UInt8.ofNat (b.toNat + 256 * le l) = b := by
      apply UInt8.toNat_inj.1
      rw [UInt8.toNat_ofNat']
      omega
    rw [le, List.length_cons, leb, h1, h2, leb_le l]

theorem le_inj {a b : List UInt8} (hl : a.length = b.length) (h : le a = le b) : a = b := by
  rw [← leb_le a, ← leb_le b, hl, h]

theorem le_append : ∀ a b : List UInt8, le (a ++ b) = le a + 256 ^ a.length * le b
  | [], b => by simp [le]
  | x :: a, b => by
    have : 256 ^ a.length * 256 * le b = 256 * (256 ^ a.length * le b) := by rw [Nat.mul_comm (256 ^ a.length) 256, Nat.mul_assoc]
    rw [List.cons_append, le, le_append a b, le, List.length_cons, Nat.pow_succ, this]
    omega

theorem w64_toNat (n : Nat) : (w64 n).toNat = n % 2 ^ 64 := by simp [w64]

theorem wv4 (a b c d : UInt64) : wv [a, b, c, d] = ((a.toNat * 2 ^ 64 + b.toNat) * 2 ^ 64 + c.toNat) * 2 ^ 64 + d.toNat := by
  simp [wv]

theorem words4_length (n : Nat) : (words4 n).length = 4 := rfl

theorem wv_take_succ (l : List UInt64) (k : Nat) (h : k < l.length) : wv (l.take (k + 1)) = wv (l.take k) * 2 ^ 64 + (l.getD k 0).toNat := by
  rw [List.take_succ_eq_append_getElem h, wv, List.foldl_append]
  simp [wv, List.getD, h]

theorem words4_wv {l : List UInt64} (h : l.length = 4) : words4 (wv l) = l := by
  match l, h with
  | [a, b, c, d], _ =>
    have ha := a.toNat_lt; have hb := b.toNat_lt; have hc := c.toNat_lt; have hd := d.toNat_lt
    rw [wv4]
    simp only [words4]
    have e1 : w64 ((((a.toNat * 2 ^ 64 + b.toNat) * 2 ^ 64 + c.toNat) * 2 ^ 64 + d.toNat) / 2 ^ 192) = a := by
      apply UInt64.toNat_inj.1; rw [w64_toNat]; omega
    have e2 : w64 ((((a.toNat * 2 ^ 64 + b.toNat) * 2 ^ 64 + c.toNat) * 2 ^ 64 + d.toNat) / 2 ^ 128) = b := by
      apply UInt64.toNat_inj.1; rw [w64_toNat]; omega
    have e3 : w64 ((((a.toNat * 2 ^ 64 + b.toNat) * 2 ^ 64 + c.toNat) * 2 ^ 64 + d.toNat) / 2 ^ 64) = c := by
      apply UInt64.toNat_inj.1; rw [w64_toNat]; omega
    have e4 : w64 ((((a.toNat * 2 ^ 64 + b.toNat) * 2 ^ 64 + c.toNat) * 2 ^ 64 + d.toNat)) = d := by
      apply UInt64.toNat_inj.1; rw [w64_toNat]; omega
    rw [e1, e2, e3, e4]

theorem wv_words4 (n : Nat) : wv (words4 n) = n % 2 ^ 256 := by
  rw [words4, wv4]
  simp only [w64_toNat]
  omega

theorem wv_lt {l : List UInt64} (h : l.length = 4) : wv l < 2 ^ 256 := by
  rw [← words4_wv h, wv_words4]; exact Nat.mod_lt _ (by decide)

theorem words4_mod (n : Nat) : words4 (n % 2 ^ 256) = words4 n := by
  rw [← wv_words4, words4_wv rfl]

/-- the order of the group -/
def L : Nat := 7237005577332262213973186563042994240857116359379907606001950938285454250989


/-! ### words compared -/

def cmp1 (x y : UInt64) : Int := if x.toNat < y.toNat then -1 else if y.toNat < x.toNat then 1 else 0

def cmpW : List UInt64 → List UInt64 → Int
  | x :: xs, y :: ys => if cmp1 x y = 0 then cmpW xs ys else cmp1 x y
  | _, _ => 0

theorem cmp1_self (x : UInt64) : cmp1 x x = 0 := by simp [cmp1]

theorem cmpW_at : ∀ (k : Nat) (xs ys : List UInt64), (∀ j, j < k → xs.getD j 0 = ys.getD j 0) → k < xs.length → k < ys.length → cmp1 (xs.getD k 0) (ys.getD k 0) ≠ 0 → cmpW xs ys = cmp1 (xs.getD k 0) (ys.getD k 0)
  | _, [], _, _, h, _, _ => by simp at h
  | _, _, [], _, _, h, _ => by simp at h
  | 0, x :: xs, y :: ys, _, _, _, hc => by
    simp at hc
    simp [cmpW, hc]
  | k + 1, x :: xs, y :: ys, h, hx, hy, hc => by
    have h0 := h 0 (by omega)
    simp at h0
    subst h0
    have := cmpW_at k xs ys (fun j hj => by have := h (j + 1) (by omega); simpa using this) (by simpa using hx) (by simpa using hy) (by simpa using hc)
    simpa [cmpW, cmp1_self] using this

theorem cmpW_all : ∀ (xs ys : List UInt64), xs.length = ys.length → (∀ j, j < xs.length → xs.getD j 0 = ys.getD j 0) → cmpW xs ys = 0
  | [], _, _, _ => by simp [cmpW]
  | _ :: _, [], h, _ => by simp at h
  | x :: xs, y :: ys, hl, h => by
    have h0 := h 0 (by simp)
    simp at h0
    subst h0
    have := cmpW_all xs ys (by simpa using hl) (fun j hj => by have := h (j + 1) (by simp; omega); simpa using this)
    simpa [cmpW, cmp1_self] using this

theorem cmp1_eq {x y : UInt64} (h : cmp1 x y = 0) : x = y := by
  apply UInt64.toNat_inj.1
  unfold cmp1 at h
  split at h
  · simp at h
  · split at h
    · simp at h
    · omega

theorem cmpW_lt {w m : List UInt64} (hw : w.length = 4) (hm : m.length = 4) : cmpW w m < 0 ↔ wv w < wv m := by
  match w, hw, m, hm with
  | [a, b, c, d], _, [e, f, g, h], _ =>
    rw [wv4, wv4]
    have ha := a.toNat_lt; have hb := b.toNat_lt; have hc := c.toNat_lt; have hd := d.toNat_lt
    have he := e.toNat_lt; have hf := f.toNat_lt; have hg := g.toNat_lt; have hh := h.toNat_lt
    simp only [cmpW, cmp1]
    repeat' split
    all_goals omega

/-! ### products of words -/

def mulHi (x y : UInt64) : UInt64 :=
  let x0 := x &&& 4294967295
  let x1 := shr64 x 32
  let y0 := y &&& 4294967295
  let y1 := shr64 y 32
  let t := x1 * y0 + shr64 (x0 * y0) 32
  x1 * y1 + shr64 t 32 + shr64 ((t &&& 4294967295) + x0 * y1) 32

theorem shr64_toNat (x : UInt64) (n : Nat) : (shr64 x n).toNat = x.toNat / 2 ^ n := by
  have h : x.toNat / 2 ^ n ≤ x.toNat := Nat.div_le_self _ _
  have := x.toNat_lt
  rw [shr64, UInt64.toNat_ofNat', Nat.mod_eq_of_lt (by omega)]
theorem shl64_toNat (x : UInt64) (n : Nat) : (shl64 x n).toNat = x.toNat * 2 ^ n % 2 ^ 64 := by rw [shl64, UInt64.toNat_ofNat']
theorem and32_toNat (x : UInt64) : (x &&& 4294967295).toNat = x.toNat % 4294967296 := by
  rw [UInt64.toNat_and]
  exact Nat.and_two_pow_sub_one_eq_mod x.toNat 32

theorem mulHi_toNat (x y : UInt64) : (mulHi x y).toNat = x.toNat * y.toNat / 2 ^ 64 := by
  have hx := x.toNat_lt; have hy := y.toNat_lt
  have key := mul64_arith (x.toNat : Int) (y.toNat : Int) (by omega) (by omega) (by omega) (by omega)
  simp only [mulHi, UInt64.toNat_add, UInt64.toNat_mul, shr64_toNat, and32_toNat]
  have e : ((x.toNat * y.toNat / 2 ^ 64 : Nat) : Int) = (x.toNat : Int) * y.toNat / 18446744073709551616 := by simp
  apply Int.ofNat.inj
  show ((_ : Nat) : Int) = ((_ : Nat) : Int)
  rw [e, ← key]
  simp

end Hw
