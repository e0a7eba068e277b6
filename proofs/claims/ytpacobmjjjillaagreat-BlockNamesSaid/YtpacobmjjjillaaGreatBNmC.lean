/- BlockNames returns true at every start, and leaves all old memory as it was. Conditions: none beyond the given statement's own. -/
import Derived.WalkKit
import Derived.Orders
import Derived.Deep.LoopGhost
import Derived.IntWalk
import Derived.Laws.StructEq
import Derived.Test.YtpacobmjjjillaaGreatRows
import Derived.KernelRfl
import Derived.ArgAppend
import Derived.Deep.AppendSrc
import Derived.Lib.Bytealg
import Derived.Lib.BytesEntry
import Derived.Laws.IdiomStrings
import Derived.Laws.Externs
import Derived.WideKeyArr2
import Derived.ProofKit
import Derived.OpenShut
import Derived.Deep.Slices
import Derived.Laws.Pointers
import Derived.Laws.Cover3
import Derived.LaidEqlPtr
import Derived.LoopN
import Derived.RangeFuncLeaves
import Derived.RangeFuncSeq
import Derived.OrdersIn
import Derived.Defers
import Derived.Laws.MathBits
import Derived.ChangeOld
import Derived.Below
import Derived.Test.YtpacobmjjjillaaGreatBNmC4
set_option maxRecDepth 100000
set_option maxHeartbeats 8000000
section
namespace Ed
open Hw Go
set_option linter.unusedVariables false

def mr : List Nat → List Nat → Nat
  | w :: ws, b :: bs => w + 2 ^ b * mr ws bs
  | _, _ => 0
def dg (n : Nat) : List Nat → List Nat
  | b :: bs => n % 2 ^ b :: dg (n / 2 ^ b) bs
  | [] => []
def carL (c : Nat) : List Nat → List Nat → List Nat
  | w :: ws, b :: bs => (w + c) % 2 ^ b :: carL ((w + c) / 2 ^ b) ws bs
  | _, _ => []
theorem dg_length : ∀ (bs : List Nat) (n : Nat), (dg n bs).length = bs.length
  | [], _ => rfl
  | b :: bs, n => by simp [dg, dg_length bs]
theorem carL_dg : ∀ (bs ws : List Nat) (c : Nat), ws.length = bs.length → carL c ws bs = dg (mr ws bs + c) bs
  | [], ws, c, h => by cases ws <;> simp_all [carL, dg]
  | b :: bs, [], c, h => by simp at h
  | b :: bs, w :: ws, c, h => by
    have hp : 0 < 2 ^ b := Nat.pow_pos dE
    have h1 : mr (w :: ws) (b :: bs) + c = (w + c) + 2 ^ b * mr ws bs := by rw [mr]; omega
    rw [carL, dg, h1, Nat.add_mul_mod_self_left, Nat.add_mul_div_left _ _ hp, carL_dg bs ws _ (by simpa using h), Nat.add_comm (mr ws bs)]
theorem mr_dg : ∀ (bs : List Nat) (n : Nat), mr (dg n bs) bs = n % 2 ^ bs.sum
  | [], n => by simp [mr, dg, Nat.mod_one]
  | b :: bs, n => by
    rw [dg, mr, mr_dg bs, List.sum_cons, Nat.pow_add, Nat.mod_mul]
def b10 : List Nat := [26, 25, 26, 25, 26, 25, 26, 25, 26, 25]
theorem b10_sum : b10.sum = 255 := rfl
def bitsAt (i : Nat) : Nat := if i % 2 = 0 then 26 else 25
def v10 (w : List Nat) : Nat := mr w b10
/-- one step of a carry -/
def stepC (w : List Nat) (i : Nat) : List Nat :=
  if i = 9 then (w.set i (w.getD i 0 % 2 ^ bitsAt i)).set 0 ((w.set i (w.getD i 0 % 2 ^ bitsAt i)).getD 0 0 + 19 * (w.getD i 0 / 2 ^ bitsAt i))
  else (w.set i (w.getD i 0 % 2 ^ bitsAt i)).set (i + 1) ((w.set i (w.getD i 0 % 2 ^ bitsAt i)).getD (i + 1) 0 + w.getD i 0 / 2 ^ bitsAt i)
def carAt (w : List Nat) : Nat → List Nat
  | 0 => w
  | i + 1 => stepC (carAt w i) i
def car10 (w : List Nat) : List Nat := (dg (v10 w) b10).set 0 (v10 w % 2 ^ 26 + 19 * (v10 w / 2 ^ 255))
theorem len10 {w : List Nat} (h : w.length = 10) : ∃ a b c d e f g i j k, w = [a, b, c, d, e, f, g, i, j, k] := by
  match w, h with
  | [a, b, c, d, e, f, g, i, j, k], _ => exact ⟨a, b, c, d, e, f, g, i, j, k, rfl⟩
def cout (c : Nat) : List Nat → List Nat → Nat
  | w :: ws, b :: bs => cout ((w + c) / 2 ^ b) ws bs
  | _, _ => c
theorem cout_eq : ∀ (bs ws : List Nat) (c : Nat), ws.length = bs.length → cout c ws bs = (mr ws bs + c) / 2 ^ bs.sum
  | [], ws, c, h => by cases ws <;> simp_all [cout, mr]
  | b :: bs, [], c, h => by simp at h
  | b :: bs, w :: ws, c, h => by
    have hp : 0 < 2 ^ b := Nat.pow_pos dE
    have h1 : mr (w :: ws) (b :: bs) + c = (w + c) + 2 ^ b * mr ws bs := by rw [mr]; omega
    rw [cout, h1, List.sum_cons, Nat.pow_add, ← Nat.div_div_eq_div_mul, Nat.add_mul_div_left _ _ hp, cout_eq bs ws _ (by simpa using h), Nat.add_comm (mr ws bs)]
theorem stepC_0 (a b c d e f g i j k : Nat) : stepC [a, b, c, d, e, f, g, i, j, k] 0 = [a % 2 ^ 26, b + a / 2 ^ 26, c, d, e, f, g, i, j, k] := rfl
theorem stepC_1 (a b c d e f g i j k : Nat) : stepC [a, b, c, d, e, f, g, i, j, k] 1 = [a, b % 2 ^ 25, c + b / 2 ^ 25, d, e, f, g, i, j, k] := rfl
theorem stepC_2 (a b c d e f g i j k : Nat) : stepC [a, b, c, d, e, f, g, i, j, k] 2 = [a, b, c % 2 ^ 26, d + c / 2 ^ 26, e, f, g, i, j, k] := rfl
theorem stepC_3 (a b c d e f g i j k : Nat) : stepC [a, b, c, d, e, f, g, i, j, k] 3 = [a, b, c, d % 2 ^ 25, e + d / 2 ^ 25, f, g, i, j, k] := rfl
theorem stepC_4 (a b c d e f g i j k : Nat) : stepC [a, b, c, d, e, f, g, i, j, k] 4 = [a, b, c, d, e % 2 ^ 26, f + e / 2 ^ 26, g, i, j, k] := rfl
theorem stepC_5 (a b c d e f g i j k : Nat) : stepC [a, b, c, d, e, f, g, i, j, k] 5 = [a, b, c, d, e, f % 2 ^ 25, g + f / 2 ^ 25, i, j, k] := rfl
theorem stepC_6 (a b c d e f g i j k : Nat) : stepC [a, b, c, d, e, f, g, i, j, k] 6 = [a, b, c, d, e, f, g % 2 ^ 26, i + g / 2 ^ 26, j, k] := rfl
theorem stepC_7 (a b c d e f g i j k : Nat) : stepC [a, b, c, d, e, f, g, i, j, k] 7 = [a, b, c, d, e, f, g, i % 2 ^ 25, j + i / 2 ^ 25, k] := rfl
theorem stepC_8 (a b c d e f g i j k : Nat) : stepC [a, b, c, d, e, f, g, i, j, k] 8 = [a, b, c, d, e, f, g, i, j % 2 ^ 26, k + j / 2 ^ 26] := rfl
theorem stepC_9 (a b c d e f g i j k : Nat) : stepC [a, b, c, d, e, f, g, i, j, k] 9 = [a + 19 * (k / 2 ^ 25), b, c, d, e, f, g, i, j, k % 2 ^ 25] := rfl
theorem carAt_car {w : List Nat} (h : w.length = 10) : carAt w 10 = (carL 0 w b10).set 0 ((carL 0 w b10).getD 0 0 + 19 * cout 0 w b10) := by
  obtain ⟨a, b, c, d, e, f, g, i, j, k, rfl⟩ := len10 h
  simp only [carAt, stepC_0, stepC_1, stepC_2, stepC_3, stepC_4, stepC_5, stepC_6, stepC_7, stepC_8, stepC_9, b10, carL, cout, Nat.add_zero, List.set_cons_zero, List.getD_cons_zero]
theorem carAt_eq {w : List Nat} (h : w.length = 10) : carAt w 10 = car10 w := by
  rw [carAt_car h, carL_dg b10 w 0 h, cout_eq b10 w 0 h, b10_sum]
  rfl
theorem car10_length (w : List Nat) : (car10 w).length = 10 := by simp [car10, dg_length, b10]
/-- words within their bits; the lowest may have a little more -/
structure Fit10 (w : List Nat) : Prop where
  len : w.length = 10
  lo : w.getD 0 0 < 2 ^ 26 + 128
  hi : ∀ i, 0 < i → i < 10 → w.getD i 0 < 2 ^ bitsAt i
theorem dg_lt : ∀ (bs : List Nat) (n i : Nat), i < bs.length → (dg n bs).getD i 0 < 2 ^ bs.getD i 0
  | b :: bs, n, 0, _ => Nat.mod_lt _ (Nat.pow_pos dE)
  | b :: bs, n, i + 1, h => dg_lt bs (n / 2 ^ b) i (by simpa using h)
theorem b10_at : ∀ i : _root_.Fin 10, b10.getD i.val 0 = bitsAt i.val := by decide
theorem car10_fit {w : List Nat} (h : v10 w < 6 * 2 ^ 255) : Fit10 (car10 w) := by
  refine ⟨car10_length w, ?_, fun i h1 h2 => ?_⟩
  · show v10 w % 2 ^ 26 + 19 * (v10 w / 2 ^ 255) < _
    have : v10 w / 2 ^ 255 < 6 := Nat.div_lt_of_lt_mul oM
    have := Nat.mod_lt (v10 w) (show 0 < 2 ^ 26 by decide)
    omega
  · have h3 := dg_lt b10 (v10 w) i h2
    rw [b10_at ⟨i, h2⟩] at h3
    rwa [car10, List.getD_eq_getElem?_getD, List.getElem?_set_ne oM, ← List.getD_eq_getElem?_getD]
theorem car10_val (w : List Nat) : v10 (car10 w) = v10 w % 2 ^ 255 + 19 * (v10 w / 2 ^ 255) := by
  have h1 : dg (v10 w) b10 = v10 w % 2 ^ 26 :: dg (v10 w / 2 ^ 26) [25, 26, 25, 26, 25, 26, 25, 26, 25] := rfl
  have h2 : mr (dg (v10 w) b10) b10 = v10 w % 2 ^ 255 := mr_dg b10 (v10 w)
  rw [← h2, v10, car10, h1]
  show (v10 w % 2 ^ 26 + 19 * (v10 w / 2 ^ 255)) + 2 ^ 26 * _ = (v10 w % 2 ^ 26 + 2 ^ 26 * _) + _
  generalize mr _ _ = x
  omega
theorem car10_v (w : List Nat) : fe (v10 (car10 w)) = fe (v10 w) := by
  rw [car10_val]
  have h4 : v10 w = v10 w % 2 ^ 255 + 2 ^ 255 * (v10 w / 2 ^ 255) := (Nat.mod_add_div _ _).symm
  generalize v10 w / 2 ^ 255 = q at *
  generalize v10 w % 2 ^ 255 = r at *
  rw [h4, fe_eq]
  have e : r + 2 ^ 255 * q = (r + 19 * q) + PF * q := by
    have : (2 : Nat) ^ 255 = 19 + PF := by decide
    rw [this, Nat.add_mul]; omega
  rw [e, Nat.add_mul_mod_self_left]
def atOf (i : Nat) : Nat := (51 * i + 1) / 2
def coef (i k : Nat) : Nat := (if i + k > 9 then 19 else 1) * (if i % 2 = 1 ∧ k % 2 = 1 then 2 else 1)
theorem coef_le (i k : Nat) : coef i k ≤ 38 := by
  unfold coef
  split <;> split <;> omega
def coefOk (i k : Nat) : Bool := Nat.beq (2 ^ atOf ((i + k) % 10) * coef i k % PF) (2 ^ atOf i * 2 ^ atOf k % PF)
def coefAll : Bool := (List.range 10).all fun i => (List.range 10).all fun k => coefOk i k
theorem coef_all : coefAll = true := by kernel_rfl
theorem coef_fe {i k : Nat} (hi : i < 10) (hk : k < 10) : fe (2 ^ atOf ((i + k) % 10) * coef i k) = fe (2 ^ atOf i) * fe (2 ^ atOf k) := by
  have h := coef_all
  unfold coefAll at h
  rw [List.all_eq_true] at h
  have h1 := h i (List.mem_range.2 hi)
  rw [List.all_eq_true] at h1
  have h2 := h1 k (List.mem_range.2 hk)
  rw [← fe_mul]
  exact fe_eq.2 (Nat.eq_of_beq_eq_true h2)
theorem mr_set (p : Nat) : ∀ (bs w : List Nat) (m : Nat), w.length = bs.length → m < w.length → mr (w.set m (w.getD m 0 + p)) bs = mr w bs + 2 ^ (bs.take m).sum * p
  | [], [], m, _, h => by simp at h
  | b :: bs, x :: w, 0, _, _ => by
    show (x + p) + 2 ^ b * mr w bs = (x + 2 ^ b * mr w bs) + 2 ^ 0 * p
    omega
  | b :: bs, x :: w, m + 1, h1, h2 => by
    have ih := mr_set p bs w m (by simpa using h1) (by simpa using h2)
    show x + 2 ^ b * mr (w.set m (w.getD m 0 + p)) bs = (x + 2 ^ b * mr w bs) + 2 ^ (b + (bs.take m).sum) * p
    rw [ih, Nat.mul_add, Nat.pow_add, Nat.mul_assoc, Nat.add_assoc]
theorem at_sum : ∀ m : _root_.Fin 10, (b10.take m.val).sum = atOf m.val := by decide
theorem v10_set {w : List Nat} (h : w.length = 10) (p : Nat) {m : Nat} (hm : m < 10) : v10 (w.set m (w.getD m 0 + p)) = v10 w + 2 ^ atOf m * p := by
  rw [v10, mr_set p b10 w m h oM, at_sum ⟨m, hm⟩]; rfl
def tCell (x y : List Nat) (i k : Nat) (o : List Nat) : List Nat := o.set ((i + k) % 10) (o.getD ((i + k) % 10) 0 + coef i k * (x.getD i 0 * y.getD k 0))
def tRow (x y : List Nat) (i : Nat) (o : List Nat) : Nat → List Nat
  | 0 => o
  | k + 1 => tCell x y i k (tRow x y i o k)
def tAll (x y : List Nat) : Nat → List Nat
  | 0 => List.replicate 10 0
  | i + 1 => tRow x y i (tAll x y i) 10
theorem tRow_length (x y : List Nat) (i : Nat) {o : List Nat} (h : o.length = 10) : ∀ k, (tRow x y i o k).length = 10
  | 0 => h
  | k + 1 => by rw [tRow, tCell, List.length_set, tRow_length x y i h k]
theorem tAll_length (x y : List Nat) : ∀ i, (tAll x y i).length = 10
  | 0 => rfl
  | i + 1 => tRow_length x y i (tAll_length x y i) 10
/-- the value of the first words -/
def pv (w : List Nat) : Nat → Fp
  | 0 => 0
  | k + 1 => pv w k + fe (2 ^ atOf k) * fe (w.getD k 0)
theorem pv_all {w : List Nat} (h : w.length = 10) : pv w 10 = fe (v10 w) := by
  obtain ⟨a, b, c, d, e, f, g, i, j, k, rfl⟩ := len10 h
  have e1 : v10 [a, b, c, d, e, f, g, i, j, k] = 2 ^ atOf 0 * a + 2 ^ atOf 1 * b + 2 ^ atOf 2 * c + 2 ^ atOf 3 * d + 2 ^ atOf 4 * e + 2 ^ atOf 5 * f + 2 ^ atOf 6 * g + 2 ^ atOf 7 * i + 2 ^ atOf 8 * j + 2 ^ atOf 9 * k := by
    simp only [v10, mr, b10, atOf, Nat.mul_add, ← Nat.mul_assoc, ← Nat.pow_add, Nat.mul_zero, Nat.add_zero, ← Nat.add_assoc]
    simp
  rw [e1]
  simp only [fe_add, fe_mul, pv, List.getD_cons_zero, List.getD_cons_succ]
  grind
theorem tRow_v (x y : List Nat) (i : Nat) (hi : i < 10) {o : List Nat} (h : o.length = 10) : ∀ k, k ≤ 10 → fe (v10 (tRow x y i o k)) = fe (v10 o) + fe (2 ^ atOf i) * fe (x.getD i 0) * pv y k
  | 0, _ => by simp only [tRow, pv]; grind
  | k + 1, hk => by
    have ih := tRow_v x y i hi h k oM
    have hc := coef_fe hi (show k < 10 by omega)
    rw [tRow, tCell, v10_set (tRow_length x y i h k) _ (Nat.mod_lt _ dE), fe_add, ih, ← Nat.mul_assoc, fe_mul, hc, fe_mul, pv]
    generalize fe (2 ^ atOf i) = A
    generalize fe (2 ^ atOf k) = B
    grind
theorem tAll_v {x y : List Nat} (hy : y.length = 10) : ∀ i, i ≤ 10 → fe (v10 (tAll x y i)) = pv x i * fe (v10 y)
  | 0, _ => by
    have e : fe (v10 (List.replicate 10 0)) = 0 := by kernel_rfl
    rw [tAll, e, pv]; grind
  | i + 1, hi => by
    rw [tAll, tRow_v x y i oM (tAll_length x y i) 10 (Nat.le_refl _), tAll_v hy i oM, pv_all hy, pv]
    grind
def ones : List Nat → Nat
  | b :: bs => 1 + 2 ^ b * ones bs
  | [] => 0
theorem mr_le (B : Nat) : ∀ bs w : List Nat, w.length = bs.length → (∀ m, m < w.length → w.getD m 0 ≤ B) → mr w bs ≤ B * ones bs
  | [], [], _, _ => Nat.zero_le _
  | b :: bs, x :: w, h1, h2 => by
    have ih := mr_le B bs w (by simpa using h1) (fun m hm => h2 (m + 1) (by simpa using hm))
    have hx : x ≤ B := h2 0 sP
    have h3 : 2 ^ b * mr w bs ≤ 2 ^ b * (B * ones bs) := Nat.mul_le_mul_left _ ih
    show x + 2 ^ b * mr w bs ≤ B * (1 + 2 ^ b * ones bs)
    rw [Nat.mul_add, Nat.mul_one, Nat.mul_left_comm B]
    omega
theorem ones_lt : Nat.ble (ones b10 + 1) (2 ^ 231) = true := by kernel_rfl
theorem v10_le {w : List Nat} (h : w.length = 10) (B : Nat) (h2 : ∀ m, m < 10 → w.getD m 0 ≤ B) : v10 w ≤ B * 2 ^ 231 :=
  Nat.le_trans (mr_le B b10 w h (by rw [h]; exact h2)) (Nat.mul_le_mul_left _ (Nat.le_of_succ_le (Nat.le_of_ble_eq_true ones_lt)))
theorem getD_set' {l : List Nat} {i j v : Nat} (hi : i < l.length) : (l.set i v).getD j 0 = if j = i then v else l.getD j 0 := by
  rw [List.getD_eq_getElem?_getD, List.getElem?_set]
  split
  · rename_i e; subst e; rw [if_pos rfl]; simp
  · rename_i e; rw [if_neg (fun h => e h.symm), List.getD_eq_getElem?_getD]
theorem tRow_le {x y : List Nat} {B i : Nat} (hi : i < 10) (hb : ∀ k, k < 10 → coef i k * (x.getD i 0 * y.getD k 0) ≤ B) {o : List Nat} (h : o.length = 10) : ∀ k, k ≤ 10 → ∀ m, m < 10 → (tRow x y i o k).getD m 0 ≤ o.getD m 0 + (if (m + 10 - i) % 10 < k then B else 0)
  | 0, _, m, hm => by rw [if_neg oM]; exact Nat.le_refl _
  | k + 1, hk, m, hm => by
    have ih := tRow_le hi hb h k oM
    have hl := tRow_length x y i h k
    rw [tRow, tCell, getD_set' (by rw [hl]; exact Nat.mod_lt _ dE)]
    split
    · rename_i e
      have h1 := ih m hm
      have h2 := hb k oM
      rw [if_neg oM] at h1
      rw [if_pos oM, ← e]
      omega
    · rename_i e
      have h1 := ih m hm
      refine Nat.le_trans h1 (Nat.add_le_add_left ?_ _)
      split
      · rw [if_pos oM]; exact Nat.le_refl _
      · exact Nat.zero_le _
theorem tAll_le {x y : List Nat} {B : Nat} (hb : ∀ i k, i < 10 → k < 10 → coef i k * (x.getD i 0 * y.getD k 0) ≤ B) : ∀ i, i ≤ 10 → ∀ m, m < 10 → (tAll x y i).getD m 0 ≤ i * B
  | 0, _, m, hm => by
    show (List.replicate 10 0).getD m 0 ≤ _
    rw [List.getD_eq_getElem?_getD, List.getElem?_replicate_of_lt hm, Nat.zero_mul]; exact Nat.le_refl _
  | i + 1, hi, m, hm => by
    have h1 := tRow_le oM (fun k hk => hb i k oM hk) (tAll_length x y i) 10 (Nat.le_refl _) m hm
    have h2 := tAll_le hb i oM m hm
    rw [if_pos (Nat.mod_lt _ dE)] at h1
    rw [tAll, Nat.succ_mul]
    omega
theorem Fit10.all {w : List Nat} (h : Fit10 w) {m : Nat} (hm : m < 10) : w.getD m 0 < 2 ^ 27 := by
  by_cases h0 : m = 0
  · subst h0; have := h.lo; omega
  · have h1 := h.hi m oM hm
    refine Nat.lt_of_lt_of_le h1 ?_
    unfold bitsAt; split <;> decide
theorem term_le {x y : List Nat} (hx : Fit10 x) (hy : Fit10 y) (i k : Nat) (hi : i < 10) (hk : k < 10) : coef i k * (x.getD i 0 * y.getD k 0) ≤ 38 * (2 ^ 27 * 2 ^ 27) :=
  Nat.mul_le_mul (coef_le i k) (Nat.mul_le_mul (Nat.le_of_lt (hx.all hi)) (Nat.le_of_lt (hy.all hk)))
def mulT (x y : List Nat) : List Nat := car10 (car10 (tAll x y 10))
theorem mulT_v {x y : List Nat} (hx : x.length = 10) (hy : y.length = 10) : fe (v10 (mulT x y)) = fe (v10 x) * fe (v10 y) := by
  rw [mulT, car10_v, car10_v, tAll_v hy 10 (Nat.le_refl _), pv_all hx]
theorem mr_lt : ∀ bs w : List Nat, w.length = bs.length → (∀ m, m < w.length → w.getD m 0 < 2 ^ bs.getD m 0) → mr w bs + 1 ≤ 2 ^ bs.sum
  | [], [], _, _ => Nat.le_refl _
  | b :: bs, x :: w, h1, h2 => by
    have ih := mr_lt bs w (by simpa using h1) (fun m hm => h2 (m + 1) (by simpa using hm))
    have hx : x < 2 ^ b := h2 0 sP
    have h3 : 2 ^ b * (mr w bs + 1) ≤ 2 ^ b * 2 ^ bs.sum := Nat.mul_le_mul_left _ ih
    rw [mr, List.sum_cons, Nat.pow_add]
    rw [Nat.mul_add, Nat.mul_one] at h3
    omega
theorem Fit10.v {w : List Nat} (h : Fit10 w) : v10 w < 2 ^ 255 + 128 := by
  have hl := h.len
  have h0 := h.lo
  have h1 := h.hi
  cases w with
  | nil => simp at hl
  | cons a t =>
    have h2 := mr_lt [25, 26, 25, 26, 25, 26, 25, 26, 25] t (by simpa using hl) (fun m hm => by
      have h3 := h1 (m + 1) oM (by simp at hl; omega)
      have h4 := b10_at ⟨m + 1, by simp at hl; omega⟩
      rw [← h4] at h3
      exact h3)
    have h5 : [25, 26, 25, 26, 25, 26, 25, 26, 25].sum = 229 := rfl
    rw [h5] at h2
    have h6 : a < 2 ^ 26 + 128 := h0
    show a + 2 ^ 26 * mr t _ < _
    omega
theorem mulT_fit {x y : List Nat} (hx : Fit10 x) (hy : Fit10 y) : Fit10 (mulT x y) := by
  have h1 := tAll_le (term_le hx hy) 10 (Nat.le_refl _)
  have h2 := v10_le (tAll_length x y 10) _ h1
  refine car10_fit ?_
  have h4 : v10 (tAll x y 10) / 2 ^ 255 < 2 ^ 40 := Nat.div_lt_of_lt_mul oM
  have h5 := Nat.mod_lt (v10 (tAll x y 10)) (show 0 < 2 ^ 255 by decide)
  rw [car10_val]
  omega
theorem mulT_length (x y : List Nat) : (mulT x y).length = 10 := car10_length _
def addAt (x y : List Nat) : Nat → List Nat
  | 0 => x
  | i + 1 => (addAt x y i).set i ((addAt x y i).getD i 0 + y.getD i 0)
theorem addAt_length {x : List Nat} (y : List Nat) (h : x.length = 10) : ∀ i, (addAt x y i).length = 10
  | 0 => h
  | i + 1 => by rw [addAt, List.length_set, addAt_length y h i]
def npv (w : List Nat) : Nat → Nat
  | 0 => 0
  | k + 1 => npv w k + 2 ^ atOf k * w.getD k 0
theorem addAt_v {x y : List Nat} (h : x.length = 10) : ∀ i, i ≤ 10 → v10 (addAt x y i) = v10 x + npv y i
  | 0, _ => rfl
  | i + 1, hi => by rw [addAt, v10_set (addAt_length y h i) _ oM, addAt_v h i oM, npv, Nat.add_assoc]
theorem npv_all {w : List Nat} (h : w.length = 10) : npv w 10 = v10 w := by
  obtain ⟨a, b, c, d, e, f, g, i, j, k, rfl⟩ := len10 h
  simp only [v10, mr, b10, atOf, Nat.mul_add, ← Nat.mul_assoc, ← Nat.pow_add, Nat.mul_zero, Nat.add_zero, ← Nat.add_assoc, npv, List.getD_cons_zero, List.getD_cons_succ]
  simp
def plusT (x y : List Nat) : List Nat := car10 (addAt x y 10)
theorem plusT_v {x y : List Nat} (hx : x.length = 10) (hy : y.length = 10) : fe (v10 (plusT x y)) = fe (v10 x) + fe (v10 y) := by
  rw [plusT, car10_v, addAt_v hx 10 (Nat.le_refl _), npv_all hy, fe_add]
theorem plusT_fit {x y : List Nat} (hx : Fit10 x) (hy : Fit10 y) : Fit10 (plusT x y) := by
  refine car10_fit ?_
  rw [addAt_v hx.len 10 (Nat.le_refl _), npv_all hy.len]
  have := hx.v
  have := hy.v
  omega
/-- four times the prime, in words -/
def p4 (i : Nat) : Nat := 4 * (2 ^ bitsAt i - 1 - (if i = 0 then 18 else 0))
def subAt (x y : List Nat) : Nat → List Nat
  | 0 => x
  | i + 1 => (subAt x y i).set i ((subAt x y i).getD i 0 + (p4 i - y.getD i 0))
theorem subAt_length {x : List Nat} (y : List Nat) (h : x.length = 10) : ∀ i, (subAt x y i).length = 10
  | 0 => h
  | i + 1 => by rw [subAt, List.length_set, subAt_length y h i]
def p4v : Nat → Nat
  | 0 => 0
  | k + 1 => p4v k + 2 ^ atOf k * p4 k
theorem p4v_all : p4v 10 = 4 * PF := by kernel_rfl
theorem p4_ge {y : List Nat} (hy : Fit10 y) {i : Nat} (hi : i < 10) : y.getD i 0 ≤ p4 i := by
  unfold p4
  by_cases h0 : i = 0
  · subst h0
    have := hy.lo
    rw [if_pos rfl]
    show _ ≤ 4 * (2 ^ 26 - 1 - 18)
    omega
  · have h1 := hy.hi i oM hi
    rw [if_neg h0]
    have : 1 ≤ 2 ^ bitsAt i := Nat.pow_pos dE
    omega
theorem subAt_v {x y : List Nat} (h : x.length = 10) (hy : Fit10 y) : ∀ i, i ≤ 10 → v10 (subAt x y i) + npv y i = v10 x + p4v i
  | 0, _ => rfl
  | i + 1, hi => by
    have ih := subAt_v h hy i oM
    have h1 := p4_ge hy (show i < 10 by omega)
    have h2 : 2 ^ atOf i * (p4 i - y.getD i 0) + 2 ^ atOf i * y.getD i 0 = 2 ^ atOf i * p4 i := by
      rw [← Nat.mul_add, Nat.sub_add_cancel h1]
    rw [subAt, v10_set (subAt_length y h i) _ oM, npv, p4v]
    omega
def minusT (x y : List Nat) : List Nat := car10 (subAt x y 10)
theorem minusT_v {x y : List Nat} (hx : x.length = 10) (hy : Fit10 y) : fe (v10 (minusT x y)) = fe (v10 x) - fe (v10 y) := by
  have h := congrArg fe (subAt_v hx hy 10 (Nat.le_refl _))
  rw [npv_all hy.len, p4v_all, fe_add, fe_add, fe_four] at h
  rw [minusT, car10_v]
  generalize fe (v10 (subAt x y 10)) = u at *
  generalize fe (v10 x) = a at *
  generalize fe (v10 y) = b at *
  grind
theorem minusT_fit {x y : List Nat} (hx : Fit10 x) (hy : Fit10 y) : Fit10 (minusT x y) := by
  refine car10_fit ?_
  have h := subAt_v hx.len hy 10 (Nat.le_refl _)
  rw [p4v_all] at h
  have h1 := hx.v
  have h2 : PF < 2 ^ 255 := by decide
  omega
theorem car10_low {w : List Nat} (h : v10 w < 2 ^ 255) : car10 w = dg (v10 w) b10 := by
  rw [car10, Nat.div_eq_of_lt h, Nat.mul_zero, Nat.add_zero]; rfl
theorem v10_dg {n : Nat} (h : n < 2 ^ 255) : v10 (dg n b10) = n := by rw [v10, mr_dg, b10_sum, Nat.mod_eq_of_lt h]
/-- the number below 2^255 that four carries leave -/
def low10 (w : List Nat) : Nat := v10 w % 2 ^ 255 + 19 * (v10 w / 2 ^ 255)
theorem low10_fe (w : List Nat) : fe (low10 w) = fe (v10 w) := by rw [low10, ← car10_val, car10_v]
theorem low10_lt {w : List Nat} (h : Fit10 w) : low10 w < 2 ^ 255 := by
  have h1 := h.v
  rw [low10]
  omega
theorem car10_four {w : List Nat} (h : Fit10 w) : car10 (car10 (car10 (car10 w))) = dg (low10 w) b10 := by
  have h1 := low10_lt h
  have h2 : v10 (car10 w) = low10 w := car10_val w
  have h3 : car10 (car10 w) = dg (low10 w) b10 := by rw [car10_low (by rw [h2]; exact h1), h2]
  have h4 : car10 (dg (low10 w) b10) = dg (low10 w) b10 := by rw [car10_low (by rw [v10_dg h1]; exact h1), v10_dg h1]
  rw [h3, h4, h4]
end Ed
end

section
namespace Ed
open Hw Go
set_option linter.unusedVariables false

structure Mid10 (w : List Nat) : Prop where
  len : w.length = 10
  le : ∀ m, m < 10 → w.getD m 0 ≤ 7205759403792793600
theorem bits_ge (i : Nat) : 33554432 ≤ 2 ^ bitsAt i := by unfold bitsAt; split <;> decide
theorem bits_le (i : Nat) : 2 ^ bitsAt i ≤ 67108864 := by unfold bitsAt; split <;> decide
theorem bits_26 (i : Nat) : bitsAt i ≤ 26 := by unfold bitsAt; split <;> decide
theorem carAt_length {w : List Nat} (h : w.length = 10) : ∀ i, (carAt w i).length = 10
  | 0 => h
  | i + 1 => by rw [carAt, stepC]; split <;> simp [carAt_length h i]
theorem div_bits (x i : Nat) (h : x ≤ 7205759403792793600 + 274877906944) : x / 2 ^ bitsAt i ≤ 274877906944 := by
  have h1 : x / 2 ^ bitsAt i ≤ x / 33554432 := Nat.div_le_div_left (bits_ge i) dE
  omega
theorem carAt_le {w : List Nat} (h : Mid10 w) : ∀ i, i < 10 → ∀ m, m < 10 → (carAt w i).getD m 0 ≤ (if m = i then 7205759403792793600 + 274877906944 else 7205759403792793600)
  | 0, _, m, hm => by
    have := h.le m hm
    rw [carAt]
    split <;> omega
  | i + 1, hi, m, hm => by
    have ih := carAt_le h i oM
    have hl := carAt_length h.len i
    have h2 := ih i oM
    rw [if_pos rfl] at h2
    rw [carAt, stepC, if_neg oM, getD_set' (by rw [List.length_set, hl]; omega)]
    split
    · rename_i e
      rw [getD_set' (by rw [hl]; omega), if_neg oM]
      have h1 := ih (i + 1) oM
      rw [if_neg oM] at h1
      have h3 := div_bits _ i h2
      omega
    · rename_i e
      rw [getD_set' (by rw [hl]; omega)]
      split
      · have h3 : (carAt w i).getD i 0 % 2 ^ bitsAt i < 2 ^ bitsAt i := Nat.mod_lt _ (Nat.pow_pos dE)
        have h4 := bits_le i
        omega
      · rename_i e2
        have h1 := ih m hm
        rw [if_neg e2] at h1
        exact h1
/-- what one round of a carry needs -/
structure CarK (w : List Nat) (k : Nat) : Prop where
  len : (carAt w k).length = 10
  x : (carAt w k).getD k 0 ≤ 7480637310737687 * 1000
  q : (carAt w k).getD k 0 / 2 ^ bitsAt k ≤ 274877906944
  nx : k < 9 → ((carAt w k).set k ((carAt w k).getD k 0 % 2 ^ bitsAt k)).getD (k + 1) 0 ≤ 7205759403792793600
  fs : k = 9 → ((carAt w k).set k ((carAt w k).getD k 0 % 2 ^ bitsAt k)).getD 0 0 ≤ 7205759403792793600
theorem carK {w : List Nat} (h : Mid10 w) {k : Nat} (hk : k < 10) : CarK w k := by
  have hl := carAt_length h.len k
  have h0 := carAt_le h k hk
  have h1 := h0 k hk
  rw [if_pos rfl] at h1
  refine ⟨hl, by omega, div_bits _ k h1, fun h9 => ?_, fun h9 => ?_⟩
  · rw [getD_set' (by rw [hl]; omega), if_neg oM]
    have := h0 (k + 1) oM
    rwa [if_neg oM] at this
  · rw [getD_set' (by rw [hl]; omega), if_neg oM]
    have := h0 0 oM
    rwa [if_neg oM] at this
theorem car_cut (x n : Nat) : x / 2 ^ n * 2 ^ n ≤ x ∧ x - x / 2 ^ n * 2 ^ n = x % 2 ^ n := by
  have := Nat.mod_add_div x (2 ^ n)
  rw [Nat.mul_comm] at this
  omega
theorem stepC_nine {w : List Nat} {k : Nat} (h : k = 9) : stepC w k = (w.set k (w.getD k 0 % 2 ^ bitsAt k)).set 0 ((w.set k (w.getD k 0 % 2 ^ bitsAt k)).getD 0 0 + 19 * (w.getD k 0 / 2 ^ bitsAt k)) := if_pos h
theorem stepC_low {w : List Nat} {k : Nat} (h : ¬ k = 9) : stepC w k = (w.set k (w.getD k 0 % 2 ^ bitsAt k)).set (k + 1) ((w.set k (w.getD k 0 % 2 ^ bitsAt k)).getD (k + 1) 0 + w.getD k 0 / 2 ^ bitsAt k) := if_neg h
theorem Fit10.mid {w : List Nat} (h : Fit10 w) : Mid10 w := ⟨h.len, fun m hm => by have := h.all hm; omega⟩
theorem car10_mid {w : List Nat} (h : v10 w < 2 ^ 300) : Mid10 (car10 w) := by
  refine ⟨car10_length w, fun m hm => ?_⟩
  have hl : (dg (v10 w) b10).length = 10 := by rw [dg_length]; rfl
  rw [car10, getD_set' (by rw [hl]; decide)]
  split
  · have h1 : v10 w / 2 ^ 255 < 2 ^ 45 := Nat.div_lt_of_lt_mul oM
    have h2 := Nat.mod_lt (v10 w) (show 0 < 2 ^ 26 by decide)
    omega
  · have h3 := dg_lt b10 (v10 w) m hm
    rw [b10_at ⟨m, hm⟩] at h3
    have := bits_le m
    simp only at h3
    omega
theorem tAll_mid {x y : List Nat} (hx : Fit10 x) (hy : Fit10 y) : Mid10 (tAll x y 10) :=
  ⟨tAll_length x y 10, fun m hm => by have := tAll_le (term_le hx hy) 10 (Nat.le_refl _) m hm; omega⟩
theorem tAll_v10 {x y : List Nat} (hx : Fit10 x) (hy : Fit10 y) : v10 (tAll x y 10) < 2 ^ 300 := by
  have h1 := tAll_le (term_le hx hy) 10 (Nat.le_refl _)
  have h2 := v10_le (tAll_length x y 10) _ h1
  omega
theorem addAt_get {x y : List Nat} (h : x.length = 10) : ∀ i, i ≤ 10 → ∀ m, m < 10 → (addAt x y i).getD m 0 = x.getD m 0 + (if m < i then y.getD m 0 else 0)
  | 0, _, m, hm => by rw [addAt, if_neg oM]; rfl
  | i + 1, hi, m, hm => by
    have ih := addAt_get (y := y) h i oM
    have hl := addAt_length y h i
    rw [addAt, getD_set' (by rw [hl]; omega)]
    split
    · rename_i e
      subst e
      rw [ih m hm, if_neg oM, if_pos oM]; rfl
    · rename_i e
      rw [ih m hm]
      by_cases h1 : m < i
      · rw [if_pos h1, if_pos oM]
      · rw [if_neg h1, if_neg oM]
theorem addAt_mid {x y : List Nat} (hx : Fit10 x) (hy : Fit10 y) : Mid10 (addAt x y 10) :=
  ⟨addAt_length y hx.len 10, fun m hm => by
    rw [addAt_get hx.len 10 (Nat.le_refl _) m hm, if_pos hm]
    have := hx.all hm
    have := hy.all hm
    omega⟩
theorem subAt_get {x y : List Nat} (h : x.length = 10) : ∀ i, i ≤ 10 → ∀ m, m < 10 → (subAt x y i).getD m 0 = x.getD m 0 + (if m < i then p4 m - y.getD m 0 else 0)
  | 0, _, m, hm => by rw [subAt, if_neg oM]; rfl
  | i + 1, hi, m, hm => by
    have ih := subAt_get (y := y) h i oM
    have hl := subAt_length y h i
    rw [subAt, getD_set' (by rw [hl]; omega)]
    split
    · rename_i e
      subst e
      rw [ih m hm, if_neg oM, if_pos oM]; rfl
    · rename_i e
      rw [ih m hm]
      by_cases h1 : m < i
      · rw [if_pos h1, if_pos oM]
      · rw [if_neg h1, if_neg oM]
theorem p4_le (m : Nat) : p4 m ≤ 268435456 := by
  have := bits_le m
  unfold p4
  omega
theorem subAt_mid {x y : List Nat} (hx : Fit10 x) : Mid10 (subAt x y 10) :=
  ⟨subAt_length y hx.len 10, fun m hm => by
    rw [subAt_get hx.len 10 (Nat.le_refl _) m hm, if_pos hm]
    have := hx.all hm
    have := p4_le m
    omega⟩
def o10 : List Nat := [26, 25, 26, 25, 26, 25, 26, 25, 26, 26]
def opB (i : Nat) : Nat := if i = 9 then 26 else bitsAt i
def opD (N : Nat) : List Nat := dg N o10
def opAt (N i : Nat) : List Nat := (opD N).take i ++ List.replicate (10 - i) 0
theorem opD_length (N : Nat) : (opD N).length = 10 := by rw [opD, dg_length]; rfl
theorem opAt_length (N i : Nat) (h : i ≤ 10) : (opAt N i).length = 10 := by
  rw [opAt, List.length_append, List.length_take, opD_length, List.length_replicate]; omega
theorem dg_get : ∀ (bs : List Nat) (n i : Nat), i < bs.length → (dg n bs).getD i 0 = n / 2 ^ (bs.take i).sum % 2 ^ bs.getD i 0
  | b :: bs, n, 0, _ => by
    show n % 2 ^ b = n / 2 ^ 0 % 2 ^ b
    rw [Nat.pow_zero, Nat.div_one]
  | b :: bs, n, i + 1, h => by
    have ih := dg_get bs (n / 2 ^ b) i (by simpa using h)
    show (dg (n / 2 ^ b) bs).getD i 0 = n / 2 ^ (b + (bs.take i).sum) % 2 ^ bs.getD i 0
    rw [ih, Nat.div_div_eq_div_mul, ← Nat.pow_add]
theorem o10_at : ∀ i : _root_.Fin 10, o10.getD i.val 0 = opB i.val ∧ (o10.take i.val).sum = atOf i.val := by decide
theorem opD_get (N : Nat) {i : Nat} (h : i < 10) : (opD N).getD i 0 = N / 2 ^ atOf i % 2 ^ opB i := by
  have h1 := o10_at ⟨i, h⟩
  rw [opD, dg_get o10 N i h, h1.1, h1.2]
theorem opAt_set (N : Nat) {i : Nat} (h : i < 10) : (opAt N i).set i (N / 2 ^ atOf i % 2 ^ opB i) = opAt N (i + 1) := by
  rw [← opD_get N h]
  have hl := opD_length N
  have e : (opD N).take (i + 1) = (opD N).take i ++ [(opD N).getD i 0] := by
    rw [List.getD_eq_getElem?_getD, List.getElem?_eq_getElem oM, Option.getD_some]
    exact List.take_succ_eq_append_getElem oM
  rw [opAt, opAt, show 10 - i = (10 - (i + 1)) + 1 by omega, List.replicate_succ, List.set_append_right _ _ (by rw [List.length_take, hl]; omega), List.length_take, hl, show i - min i 10 = 0 by omega, List.set_cons_zero, e, List.append_assoc]
  rfl
theorem opAt_first (N : Nat) {i : Nat} (h : i < 10) : (opAt N i).set i (N / 2 ^ atOf i % 2 ^ 0) = opAt N i := by
  have hl := opD_length N
  rw [Nat.pow_zero, Nat.mod_one, opAt, show 10 - i = (10 - (i + 1)) + 1 by omega, List.replicate_succ, List.set_append_right _ _ (by rw [List.length_take, hl]; omega), List.length_take, hl, show i - min i 10 = 0 by omega, List.set_cons_zero]
theorem opAt_ten (N : Nat) : opAt N 10 = opD N := by
  rw [opAt, Nat.sub_self, List.replicate_zero, List.append_nil, List.take_of_length_le (by rw [opD_length]; exact Nat.le_refl _)]
theorem opD_v {N : Nat} (h : N < 2 ^ 256) : v10 (opD N) = N := by
  have h1 : v10 (opD N) = mr (dg N o10) o10 := by simp [v10, opD, o10, b10, dg, mr]
  rw [h1, mr_dg]
  exact Nat.mod_eq_of_lt h
theorem opD_mid (N : Nat) : Mid10 (opD N) := ⟨opD_length N, fun m hm => by
  rw [opD_get N hm]
  have h1 : N / 2 ^ atOf m % 2 ^ opB m < 2 ^ opB m := Nat.mod_lt _ (Nat.pow_pos dE)
  have h2 : 2 ^ opB m ≤ 67108864 := by
    unfold opB
    split
    · decide
    · exact bits_le m
  omega⟩
def openT (N : Nat) : List Nat := car10 (opD N)
theorem openT_fit {N : Nat} (h : N < 2 ^ 256) : Fit10 (openT N) := car10_fit (by rw [opD_v h]; omega)
theorem openT_v {N : Nat} (h : N < 2 ^ 256) : fe (v10 (openT N)) = fe N := by rw [openT, car10_v, opD_v h]
theorem openT_length (N : Nat) : (openT N).length = 10 := car10_length _
theorem op_bit (N i k : Nat) : N / 2 ^ atOf i % 2 ^ (k + 1) = N / 2 ^ atOf i % 2 ^ k + (if N.testBit (atOf i + k) then 2 ^ k else 0) := by
  rw [mod_bit, Nat.testBit_div_two_pow, Nat.add_comm k]
theorem at_succ {i : Nat} (h : i < 10) : atOf i + bitsAt i = atOf (i + 1) := by
  have : ∀ i : _root_.Fin 10, atOf i.val + bitsAt i.val = atOf (i.val + 1) := by decide
  exact this ⟨i, h⟩
theorem at_le {i : Nat} (h : i < 10) : atOf i ≤ 230 := by unfold atOf; omega
theorem at_op {i : Nat} (h : i < 10) : atOf i + opB i ≤ 256 := by
  have : ∀ i : _root_.Fin 10, atOf i.val + opB i.val ≤ 256 := by decide
  exact this ⟨i, h⟩
theorem op_le (i : Nat) : opB i ≤ 26 := by
  unfold opB
  split
  · exact Nat.le_refl _
  · exact bits_26 i
theorem byte_hi {n i : Nat} (h : n < 256 ^ i) : n / 256 ^ i = 0 := Nat.div_eq_of_lt h
theorem bit_set (X : Nat) {m : Nat} (hm : m < 256) (hb : X.testBit m = true) : (leb 32 (X % 2 ^ m)).set (m / 8) ((leb 32 (X % 2 ^ m)).getD (m / 8) 0 + shl8 1 (m % 8)) = leb 32 (X % 2 ^ (m + 1)) := by
  have e1 : X % 2 ^ (m + 1) = X % 2 ^ m + 2 ^ m := by rw [mod_bit, if_pos hb]
  have e2 : (2 : Nat) ^ m = 256 ^ (m / 8) * 2 ^ (m % 8) := by rw [pow256, ← Nat.pow_add]; congr 1; omega
  have hlt : X % 2 ^ m < 2 ^ m := Nat.mod_lt _ (Nat.pow_pos dE)
  rw [e1]
  generalize X % 2 ^ m = A at *
  have hc : 2 ^ (m % 8) < 256 := Nat.pow_lt_pow_of_lt (a := 2) (n := m % 8) (m := 8) dE oM
  have hj : m / 8 < 32 := by omega
  generalize m / 8 = j at *
  apply List.ext_getElem?
  intro i
  rcases Nat.lt_or_ge i 32 with hi | hi
  · rw [List.getElem?_set, leb_length, leb_get 32 (A + 2 ^ m) i hi]
    split
    · rename_i e
      subst e
      rw [leb_getD 32 A _ hj]
      congr 1
      rw [shl8, show (1 : UInt8).toNat = 1 from rfl, Nat.one_mul, e2, Nat.add_mul_div_left _ _ (Nat.pow_pos dE), ← UInt8.ofNat_add]
    · rename_i e
      rw [leb_get 32 A i hi]
      congr 1
      apply ofNat8
      rcases Nat.lt_or_ge i j with h | h
      · rw [e2, byte_low A _ j i h]
      · have h2 : j + 1 ≤ i := by omega
        have h3 : A + 2 ^ m < 256 ^ i := by
          have h4 : (256 : Nat) ^ (j + 1) ≤ 256 ^ i := Nat.pow_le_pow_right dE h2
          have h5 : (2 : Nat) ^ m + 2 ^ m ≤ 256 ^ (j + 1) := by
            rw [e2, Nat.pow_succ, ← Nat.mul_add]
            refine Nat.mul_le_mul_left _ ?_
            have h6 : 2 ^ (m % 8) ≤ 2 ^ 7 := Nat.pow_le_pow_right dE oM
            omega
          omega
        rw [byte_hi h3, byte_hi oM]
  · rw [List.getElem?_eq_none (by rw [List.length_set, leb_length]; exact hi), List.getElem?_eq_none (by rw [leb_length]; exact hi)]
theorem bit_off (X m : Nat) (hb : X.testBit m = false) : leb 32 (X % 2 ^ m) = leb 32 (X % 2 ^ (m + 1)) := by
  rw [mod_bit, if_neg (by rw [hb]; decide), Nat.add_zero]
/-- bit k of word i -/
theorem dg_bit (X : Nat) {i k : Nat} (hi : i < 10) (hk : k < bitsAt i) : ((dg X b10).getD i 0).testBit k = X.testBit (atOf i + k) := by
  have h1 := b10_at ⟨i, hi⟩
  have h2 := at_sum ⟨i, hi⟩
  rw [dg_get b10 X i hi, h1, h2, Nat.testBit_mod_two_pow, Nat.testBit_div_two_pow, decide_eq_true hk, Bool.true_and, Nat.add_comm k]
theorem dg_bit_dec (X : Nat) {i k : Nat} (hi : i < 10) (hk : k < bitsAt i) : ((((dg X b10).getD i 0 / 2 ^ k : Nat) : Int) % 2 = 1) ↔ X.testBit (atOf i + k) = true := by
  rw [← dg_bit X hi hk, Nat.testBit_eq_decide_div_mod_eq, decide_eq_true_eq]
  omega
def topL (d : Nat) : List UInt8 := UInt8.ofNat (237 + d) :: (List.replicate 30 255 ++ [127])
theorem top_all : ((List.range 19).all fun d => leb 32 (PF + d) == topL d && leb 32 d == UInt8.ofNat d :: List.replicate 31 0) = true := by kernel_rfl
theorem top_at {d : Nat} (h : d < 19) : leb 32 (PF + d) = topL d ∧ leb 32 d = UInt8.ofNat d :: List.replicate 31 0 := by
  have := List.all_eq_true.1 top_all d (List.mem_range.2 h)
  rw [Bool.and_eq_true] at this
  exact ⟨eq_of_beq this.1, eq_of_beq this.2⟩
theorem pf_19 : PF + 19 = 2 ^ 255 := by decide
theorem fb_low {X : Nat} (h : X < PF) : leb 32 X = fb (fe X) := by rw [fb_fe, Nat.mod_eq_of_lt h]
theorem not_top {X : Nat} (hX : X < 2 ^ 255) (h : ¬ (237 ≤ ((leb 32 X).getD 0 0).toNat ∧ ((leb 32 X).getD 31 0).toNat = 127)) : leb 32 X = fb (fe X) := by
  rcases Nat.lt_or_ge X PF with h1 | h1
  · exact fb_low h1
  · exfalso
    have h2 := pf_19
    obtain ⟨d, rfl⟩ : ∃ d, X = PF + d := ⟨X - PF, by omega⟩
    have hd : d < 19 := by omega
    rw [(top_at hd).1] at h
    refine h ⟨?_, rfl⟩
    show 237 ≤ (UInt8.ofNat (237 + d)).toNat
    rw [UInt8.toNat_ofNat']
    omega
theorem not_mid {X i : Nat} (hX : X < 2 ^ 255) (hi : 0 < i) (hi2 : i < 31) (h : ¬ ((leb 32 X).getD i 0).toNat = 255) : leb 32 X = fb (fe X) := by
  rcases Nat.lt_or_ge X PF with h1 | h1
  · exact fb_low h1
  · exfalso
    have h2 := pf_19
    obtain ⟨d, rfl⟩ : ∃ d, X = PF + d := ⟨X - PF, by omega⟩
    have hd : d < 19 := by omega
    rw [(top_at hd).1] at h
    refine h ?_
    obtain ⟨j, rfl⟩ : ∃ j, i = j + 1 := ⟨i - 1, by omega⟩
    show ((List.replicate 30 (255 : UInt8) ++ [127]).getD j 0).toNat = 255
    rw [List.getD_eq_getElem?_getD, List.getElem?_append_left (by rw [List.length_replicate]; omega), List.getElem?_replicate_of_lt oM]
    rfl
theorem u8_eq (x y : UInt8) (h : x.toNat = y.toNat) : x = y := UInt8.toNat_inj.1 h
theorem top_list {l : List UInt8} {d : Nat} (hl : l.length = 32) (hd19 : d < 19) (hd : (l.getD 0 0).toNat = 237 + d) (h31 : (l.getD 31 0).toNat = 127) (hm : ∀ i, 0 < i → i < 31 → (l.getD i 0).toNat = 255) : l = topL d := by
  apply List.ext_getElem?
  intro i
  rcases Nat.lt_or_ge i 32 with hi | hi
  · have g : l[i]? = some (l.getD i 0) := by
      rw [List.getD_eq_getElem?_getD, List.getElem?_eq_getElem oM]; rfl
    rw [g]
    by_cases h1 : i = 0
    · rw [h1]
      show _ = some (UInt8.ofNat (237 + d))
      refine congrArg some (u8_eq _ _ ?_)
      rw [hd, UInt8.toNat_ofNat']
      exact (Nat.mod_eq_of_lt oM).symm
    · obtain ⟨j, rfl⟩ : ∃ j, i = j + 1 := ⟨i - 1, by omega⟩
      show _ = (List.replicate 30 (255 : UInt8) ++ [127])[j]?
      by_cases h2 : j = 30
      · rw [h2]
        exact congrArg some (u8_eq _ _ h31)
      · rw [List.getElem?_append_left (by rw [List.length_replicate]; omega), List.getElem?_replicate_of_lt oM]
        exact congrArg some (u8_eq _ _ (hm (j + 1) oM oM))
  · rw [List.getElem?_eq_none oM, List.getElem?_eq_none (by simp only [topL, List.length_cons, List.length_append, List.length_replicate, List.length_nil]; omega)]
theorem top_sub : ∀ d : _root_.Fin 19, UInt8.ofNat (237 + d.val) - 237 = UInt8.ofNat d.val := by decide
theorem top_val {X d : Nat} (hX : X < 2 ^ 255) (hd : d < 19) (h : leb 32 X = topL d) : X = PF + d := by
  have h5 := (top_at hd).1
  rw [← h] at h5
  have h6 := congrArg le h5
  have h7 := pf_19
  rw [le_leb, le_leb] at h6
  generalize PF = p at *
  rw [Nat.mod_eq_of_lt (Nat.lt_of_lt_of_le (show p + d < 2 ^ 255 by omega) (Nat.le_of_lt dE)), Nat.mod_eq_of_lt (Nat.lt_trans hX dE)] at h6
  exact h6.symm
theorem is_top {X : Nat} (hX : X < 2 ^ 255) (h0 : 237 ≤ ((leb 32 X).getD 0 0).toNat) (h31 : ((leb 32 X).getD 31 0).toNat = 127) (hm : ∀ i, 0 < i → i < 31 → ((leb 32 X).getD i 0).toNat = 255) : ((leb 32 X).getD 0 0 - 237) :: List.replicate 31 0 = fb (fe X) := by
  have h3 := ((leb 32 X).getD 0 0).toNat_lt
  obtain ⟨d, hd⟩ : ∃ d, ((leb 32 X).getD 0 0).toNat = 237 + d := ⟨((leb 32 X).getD 0 0).toNat - 237, by omega⟩
  have hd19 : d < 19 := by omega
  have e := top_list (leb_length 32 X) hd19 hd h31 hm
  have e2 := top_val hX hd19 e
  have e3 : (leb 32 X).getD 0 0 = UInt8.ofNat (237 + d) := by rw [e]; rfl
  have h7 : fe X = fe d := by rw [e2, fe_eq, Nat.add_mod_left]
  rw [h7, fb_fe, Nat.mod_eq_of_lt (Nat.lt_trans hd19 dE), (top_at hd19).2, e3, top_sub ⟨d, hd19⟩]
theorem finv_mulF (a b : Fp) : finv (a * b) = finv a * finv b := mulpow dE
def cA : Fp := fe 121666
def cB : Fp := fe 121665
theorem cA_ne : cA ≠ 0 := by
  intro h
  have := congrArg Fin.val h
  revert this
  decide
theorem fD_cA : fD * cA = -cB := by kernel_rfl
theorem ref_quot (Y : Fp) : cA * (Y * Y - 1) * finv (cA - cB * (Y * Y)) = (Y * Y - 1) * finv (fD * (Y * Y) + 1) := by
  have h1 : cA - cB * (Y * Y) = cA * (fD * (Y * Y) + 1) := by
    have := fD_cA
    generalize Y * Y = q at *
    generalize cA = a at *
    generalize cB = b at *
    generalize fD = d at *
    grind
  have h2 := finv_mul cA_ne
  rw [h1, finv_mulF]
  generalize finv (fD * (Y * Y) + 1) = u at *
  generalize finv cA = v at *
  generalize cA = a at *
  grind
theorem ref_D : -cB * finv cA = fD := by
  have h1 := fD_cA
  have h2 := finv_mul cA_ne
  generalize finv cA = v at *
  generalize cA = a at *
  generalize cB = b at *
  generalize fD = d at *
  grind
end Ed
end

section
namespace Go.Proofs.YtpacobmjjjillaaGreat
open Go Hw
set_option linter.unusedVariables false
set_option linter.unusedSimpArgs false

open Ed

theorem bits_even {i : Nat} (h : (i : Int).tmod 2 = 0) : bitsAt i = 26 := by 
  unfold bitsAt
  have e : (i : Int).tmod 2 = ((i % 2 : Nat) : Int) := rfl
  rw [if_pos oM]
theorem bits_odd {i : Nat} (h : ¬ (i : Int).tmod 2 = 0) : bitsAt i = 25 := by 
  unfold bitsAt
  have e : (i : Int).tmod 2 = ((i % 2 : Nat) : Int) := rfl
  rw [if_neg oM]
theorem bits_w (i : Nat) : ((UInt64.ofNat (bitsAt i)).toNat : Int) = ((bitsAt i : Nat) : Int) := by
  have := bits_26 i
  rw [UInt64.toNat_ofNat', Nat.mod_eq_of_lt oM]
theorem bits_wn (i : Nat) : (UInt64.ofNat (bitsAt i)).toNat = bitsAt i := by
  have := bits_26 i
  rw [UInt64.toNat_ofNat', Nat.mod_eq_of_lt oM]
theorem carAt_nine {w : List Nat} {k : Nat} (h : (k : Int) = 9) : carAt w (k + 1) = ((carAt w k).set k ((carAt w k).getD k 0 % 2 ^ bitsAt k)).set 0 (((carAt w k).set k ((carAt w k).getD k 0 % 2 ^ bitsAt k)).getD 0 0 + 19 * ((carAt w k).getD k 0 / 2 ^ bitsAt k)) := stepC_nine oM
theorem carAt_low {w : List Nat} {k : Nat} (h : ¬ (k : Int) = 9) : carAt w (k + 1) = ((carAt w k).set k ((carAt w k).getD k 0 % 2 ^ bitsAt k)).set (k + 1) (((carAt w k).set k ((carAt w k).getD k 0 % 2 ^ bitsAt k)).getD (k + 1) 0 + (carAt w k).getD k 0 / 2 ^ bitsAt k) := stepC_low oM
theorem opB_nine {i : Nat} (h : (i : Int) = 9) : opB i = 26 := if_pos oM
theorem opB_low {i : Nat} (h : ¬ (i : Int) = 9) : opB i = bitsAt i := if_neg oM
theorem natc {a b : Nat} (h : a = b) : some (i64 (a : Int)) = some (i64 (b : Int)) := by rw [h]

theorem r3_bits (i : Nat) (hi : i < 10) : Meets Tryz.prog 229 [i64 (i : Int)] [] (fun _ => True) (fun v out => v = u64 (UInt64.ofNat (bitsAt i)) ∧ out = []) := by
 intro W hW
 refine calls_of (hp0 := []) Tryz.func229 J 6 Tryz.ntmps229 J (HRep.nil _) (Sat.seq (Sat.region (Tr.assign J J (show evIn _ _ = some (u64 0) from rfl) (Tr.nil (at_n (Sat.seq (Sat.seq (Sat.region (Tr.move J J J (Tr.rem_i64 J J J J oM (Tr.eqi J J J J J (Tr.nil (at_n (Sat.condP J (fun hc0 => ?_) (fun hc0 => ?_)))))))))))))))
 ·
  rw [bits_even hc0]
  refine Sat.seq (Sat.region (Tr.assign J J (show evIn _ _ = some (u64 26) from rfl) (Tr.nil (at_n (Sat.ret (at_r (en_r ?_)))))))
  refine ⟨_, [], res_tmp J J, sP, sP, ?_, rfl⟩
  rfl
 ·
  rw [bits_odd hc0]
  refine Sat.skip (at_n (Sat.seq (Sat.region (Tr.assign J J (show evIn _ _ = some (u64 25) from rfl) (Tr.nil (at_n (Sat.ret (en_r ?_))))))))
  refine ⟨_, [], res_tmp J J, sP, sP, ?_, rfl⟩
  rfl

theorem r3_carry (w : List Nat) (h : Mid10 w) : Meets Tryz.prog 230 [agg (wdsV w)] [] (fun _ => True) (fun v out => v = agg (wdsV (car10 w)) ∧ out = []) := by
 intro W hW
 have hlw := h.len
 obtain ⟨u, hu0⟩ : ∃ u, Hid (car10 w = u) := ⟨_, ⟨rfl⟩⟩
 have hul : u.length = 10 := by rw [← hu0.out]; exact car10_length w
 rw [hu0.out]
 refine calls_of (hp0 := []) Tryz.func230 J 43 Tryz.ntmps230 J (HRep.nil _) (Sat.seq (Sat.region (Tr.boxA J J ?_)))
 intro n1 hn1 hf1
 refine Tr.alloc (cs := (intsV (List.replicate 10 0))) J Zr177 J ?_
 intro n2 hn2 hf2
 refine Tr.nil (at_n (Sat.seq (Sat.seq (Sat.region (Tr.assign J J J (Tr.nil (at_n (Sat.block (Sat.loop (ι := Nat) (fun k => ⟨[(1, ptr n1 0), (2, ptr n2 0), (3, i64 (k : Int))], [⟨n2, (intsV (List.replicate 10 0)), 177, 10⟩, ⟨n1, wdsV (carAt w k), 177, (wdsV w).length⟩]⟩) (fun k => k ≤ 10) (fun k => 10 - k) (0) ?_ ?_ ?_)))))))))
 · omega
 · exact weak_of (wk1 rfl (wk1 rfl (wk1 rfl wk0))) (wh1 Z0 (wh1 Z1 wh0)) nD
 ·
  rintro k hi
  have hlc := carAt_length h.len k
  refine Sat.seq (Sat.seq (Sat.region (Tr.move J J J (Tr.lss J J J J J (Tr.nil (at_n (Sat.condP J (fun hc0 => ?_) (fun hc0 => ?_))))))))
  ·
   have hk2 : k < 10 := by omega
   have ck := carK h hk2
   have hb26 := bits_26 k
   have hcut := car_cut ((carAt w k).getD k 0) (bitsAt k)
   have hx := ck.x
   have hq := ck.q
   have hsl : ((carAt w k).set k ((carAt w k).getD k 0 % 2 ^ bitsAt k)).length = 10 := by rw [List.length_set]; exact hlc
   refine Sat.skip (at_n (Sat.seq (Sat.block (Sat.seq (Sat.draw [(0, 0), (0, 1), (1, 2), (0, 3), (3, 4), (0, 5), (0, 6)] Mixed zK (Tr.move J J J (Tr.idxArr1 J J J J Y177 Sz2 _ J oM (Tr.load1 J J J Y2 J Z1 (by exact get_wds oM) ?_))))))))
   refine Tr.move J J J (Tr.callV J J J J Body229 (r3_bits k hk2) (fun _ _ => trivial) (Tr.shrN ((carAt w k).getD k 0) (bitsAt k) J J J J (bits_w k) oM (Tr.assign J J J (Tr.nil (at_n (Sat.seq (Sat.draw [(0, 0), (0, 1), (0, 2), (1, 3), (0, 4), (0, 5), (3, 6), (0, 7), (0, 8), (0, 9), (4, 10)] Mixed zK (Tr.move J J J (Tr.move J J J (Tr.idxArr1 J J J J Y177 Sz2 _ J oM (Tr.load1 J J J Y2 J Z1 (by exact get_wds oM) ?_)))))))))))
   refine Tr.move J J J (Tr.move J J J (Tr.callV J J J J Body229 (r3_bits k hk2) (fun _ _ => trivial) (Tr.shlN ((carAt w k).getD k 0 / 2 ^ bitsAt k) (bitsAt k) J J J J (bits_w k) oM oM (Tr.subN ((carAt w k).getD k 0) ((carAt w k).getD k 0 / 2 ^ bitsAt k * 2 ^ bitsAt k) J J J J oM (Tr.idxArr1 J J J J Y177 Sz2 _ J oM ?_)))))
   rw [hcut.2]
   refine Tr.store1 J J J J J Sz2 Z1 (by (simp [wdsV_length]; omega)) (by exact set_wds _ _ _) zV ?_
   refine Tr.nil (at_n (Sat.seq (Sat.region (Tr.move J J J (Tr.eqi J J J J J (Tr.nil (at_n (Sat.condP J (fun hc1 => ?_) (fun hc1 => ?_)))))))))
   ·
    have hfs := ck.fs oM
    refine Sat.region (Tr.idxArr1 J J J J Y177 Sz2 0 J dE (Tr.load1 J J J Y2 J Z1 (by exact get_wds oM) ?_))
    refine Tr.move J J J (Tr.mulN (19) ((carAt w k).getD k 0 / 2 ^ bitsAt k) J J J J oM (Tr.addN (((carAt w k).set k ((carAt w k).getD k 0 % 2 ^ bitsAt k)).getD 0 0) (19 * ((carAt w k).getD k 0 / 2 ^ bitsAt k)) J J J J oM (Tr.idxArr1 J J J J Y177 Sz2 0 J dE (Tr.store1 J J J J J Sz2 Z1 (by (simp [wdsV_length]; omega)) (by exact set_wds _ _ _) zV ?_))))
    refine Tr.nil (bl_n (at_n (Sat.region (Tr.move J J J (Tr.add_i64 J J J J oM (Tr.assign J J J (Tr.nil (at_n ?_))))))))
    exact ⟨k + 1, by omega, by omega, weak_of (wk1 rfl (wk1 rfl (wk1 rfl wk0))) (wh1 Z0 (wh1 (by (rw [carAt_nine hc1]; exact mem1)) wh0)) nD⟩
   ·
    have hnx := ck.nx oM
    refine Sat.region (Tr.move J J J (Tr.addN (k) (1) J J J J oM (Tr.move J J J (Tr.addN (k) (1) J J J J oM (Tr.idxArr1 J J J J Y177 Sz2 _ J oM (Tr.load1 J J J Y2 J Z1 (by exact get_wds oM) ?_))))))
    refine Tr.move J J J (Tr.addN (((carAt w k).set k ((carAt w k).getD k 0 % 2 ^ bitsAt k)).getD (k + 1) 0) ((carAt w k).getD k 0 / 2 ^ bitsAt k) J J J J oM (Tr.idxArr1 J J J J Y177 Sz2 _ J oM (Tr.store1 J J J J J Sz2 Z1 (by (simp [wdsV_length]; omega)) (by exact set_wds _ _ _) zV ?_)))
    refine Tr.nil (bl_n (at_n (Sat.region (Tr.move J J J (Tr.add_i64 J J J J oM (Tr.assign J J J (Tr.nil (at_n ?_))))))))
    exact ⟨k + 1, by omega, by omega, weak_of (wk1 rfl (wk1 rfl (wk1 rfl wk0))) (wh1 Z0 (wh1 (by (rw [carAt_low hc1]; exact mem1)) wh0)) nD⟩
  ·
   rw [show carAt w k = u from by rw [show k = 10 by omega, carAt_eq h.len, hu0.out]]
   refine Sat.exit (at_x (at_x (bl_h (at_n (Sat.seq (Sat.region (Tr.loadAll J J J Y177 J Sz177 Z1 (by (simp [wdsV_length, hul]; done)) ?_)))))))
   refine Tr.storeAll J J J J (by exact wdsV_cell _) Sz177 (by (simp [wdsV_length, hul]; done)) Z0 sP zU ?_
   refine Tr.nil (at_n (Sat.ret (en_r ?_)))
   refine ⟨_, [], res_cell J J Y177 J Sz177 Z0 (by simp [wdsV_length, hul]), sP, sP, ?_, rfl⟩
   rfl

theorem op_on {N i k : Nat} (hi : i < 10) (hb : N.testBit (atOf i + k) = true) : ((opAt N i).set i (N / 2 ^ atOf i % 2 ^ k)).set i (((opAt N i).set i (N / 2 ^ atOf i % 2 ^ k)).getD i 0 + 1 * 2 ^ k) = (opAt N i).set i (N / 2 ^ atOf i % 2 ^ (k + 1)) := by
  have hl := opAt_length N i oM
  rw [getD_set' oM, if_pos rfl, List.set_set, op_bit, hb, if_pos rfl, Nat.one_mul]
theorem op_off {N i k : Nat} (hb : N.testBit (atOf i + k) = false) : (opAt N i).set i (N / 2 ^ atOf i % 2 ^ k) = (opAt N i).set i (N / 2 ^ atOf i % 2 ^ (k + 1)) := by
  rw [op_bit, hb, if_neg dE, Nat.add_zero]
theorem op_val {N i k : Nat} (hi : i < 10) (hk : k ≤ 26) : ((opAt N i).set i (N / 2 ^ atOf i % 2 ^ k)).getD i 0 ≤ 67108864 ∧ 2 ^ k ≤ 67108864 := by
  have hl := opAt_length N i oM
  have h1 : 2 ^ k ≤ 2 ^ 26 := Nat.pow_le_pow_right dE hk
  have h2 : N / 2 ^ atOf i % 2 ^ k < 2 ^ k := Nat.mod_lt _ (Nat.pow_pos dE)
  rw [getD_set' oM, if_pos rfl]
  omega
theorem bit_is {a : List UInt8} {m : Nat} (h : (((UInt8.ofNat ((shr8 (a.getD (m / 8) 0) (m % 8)).toNat % 2)).toNat : Int) = 1)) : (le a).testBit m = true := by rw [← bit_rem]; exact decide_eq_true h
theorem bit_isn {a : List UInt8} {m : Nat} (h : ¬ (((UInt8.ofNat ((shr8 (a.getD (m / 8) 0) (m % 8)).toNat % 2)).toNat : Int) = 1)) : (le a).testBit m = false := by rw [← bit_rem]; exact decide_eq_false h

theorem r3_Open (a : List UInt8) (ha : a.length = 32) : Meets Tryz.prog 188 [agg (bytesV a)] [] (fun _ => True) (fun v out => v = agg (wdsV (openT (le a))) ∧ out = []) := by
 intro W hW
 obtain ⟨u, hu⟩ : ∃ u, Hid (openT (le a) = u) := ⟨_, ⟨rfl⟩⟩
 obtain ⟨D, hD⟩ : ∃ D, Hid (opD (le a) = D) := ⟨_, ⟨rfl⟩⟩
 have hu10 : u.length = 10 := by rw [← hu.out]; exact openT_length _
 have hd10 : D.length = 10 := by rw [← hD.out]; exact opD_length _
 have hc := r3_carry D (by rw [← hD.out]; exact opD_mid _)
 rw [show car10 D = u from by rw [← hD.out]; exact hu.out] at hc
 rw [hu.out]
 have hsl := hd10
 refine calls_of (hp0 := []) Tryz.func188 J 58 Tryz.ntmps188 J (HRep.nil _) (Sat.seq (Sat.region (Tr.boxA J J ?_)))
 intro n1 hn1 hf1
 refine Tr.alloc (cs := (intsV (List.replicate 10 0))) J Zr177 J ?_
 intro n2 hn2 hf2
 refine Tr.nil (at_n (Sat.seq (Sat.region (Tr.alloc (cs := (intsV (List.replicate 10 0))) J Zr177 J ?_))))
 intro n3 hn3 hf3
 refine Tr.nil (at_n (Sat.seq (Sat.region (Tr.assign J J J (Tr.nil (at_n (Sat.seq (Sat.seq (Sat.region (Tr.assign J J J (Tr.nil (at_n (Sat.block (Sat.loop (ι := Nat) (fun i => ⟨[(1, ptr n1 0), (2, ptr n2 0), (3, ptr n3 0), (4, i64 ((atOf i : Nat) : Int)), (5, i64 (i : Int))], [⟨n3, wdsV (opAt (le a) i), 177, 10⟩, ⟨n2, (intsV (List.replicate 10 0)), 177, 10⟩, ⟨n1, bytesV a, 77, (bytesV a).length⟩]⟩) (fun i => i ≤ 10) (fun i => 10 - i) (0) ?_ ?_ ?_))))))))))))))
 · omega
 · exact weak_of (wk1 rfl (wk1 rfl (wk1 rfl (wk1 rfl (wk1 rfl wk0))))) (wh1 (by rw [show wdsV (opAt (le a) 0) = intsV (List.replicate 10 0) from rfl]; exact mem0) (wh1 Z1 (wh1 Z2 wh0))) nD
 ·
  rintro i hi
  refine Sat.seq (Sat.seq (Sat.region (Tr.move J J J (Tr.lss J J J J J (Tr.nil (at_n (Sat.condP J (fun hc0 => ?_) (fun hc0 => ?_))))))))
  ·
   have hi2 : i < 10 := by omega
   have hb26 := bits_26 i
   have hbw := bits_wn i
   have hop := at_op hi2
   have hopl := op_le i
   have hat := at_le hi2
   refine Sat.skip (at_n (Sat.seq (Sat.block (Sat.seq (Sat.region (Tr.move J J J (Tr.callV J J J J Body229 (r3_bits i hi2) (fun _ _ => trivial) (Tr.conv J J J Y35 Y3 (cv_u64_i64 oM) ?_))))))))
   rw [bits_wn]
   refine Tr.assign J J J (Tr.nil (at_n (Sat.join (ι := Unit) (fun _u => ⟨[(1, ptr n1 0), (2, ptr n2 0), (3, ptr n3 0), (4, i64 ((atOf i : Nat) : Int)), (5, i64 (i : Int)), (6, i64 ((opB i : Nat) : Int))], [⟨n3, wdsV (opAt (le a) i), 177, 10⟩, ⟨n2, (intsV (List.replicate 10 0)), 177, 10⟩, ⟨n1, bytesV a, 77, (bytesV a).length⟩]⟩) (fun _u => True) ?_ ?_)))
   ·
    refine Sat.seq (Sat.region (Tr.move J J J (Tr.eqi J J J J J (Tr.nil (at_n (Sat.condP J (fun hc1 => ?_) (fun hc1 => ?_)))))))
    ·
     refine Sat.region (Tr.assign J J J (Tr.nil (at_n ?_)))
     (rw [opB_nine hc1]; exact ⟨(), trivial, weak_of (wk1 rfl (wk1 rfl (wk1 rfl (wk1 rfl (wk1 rfl (wk1 rfl wk0)))))) (wh1 Z0 (wh1 Z1 (wh1 Z2 wh0))) nD⟩)
    ·
     refine Sat.skip (at_n ?_)
     (rw [opB_low hc1]; exact ⟨(), trivial, weak_of (wk1 rfl (wk1 rfl (wk1 rfl (wk1 rfl (wk1 rfl (wk1 rfl wk0)))))) (wh1 Z0 (wh1 Z1 (wh1 Z2 wh0))) nD⟩)
   ·
    intro _u hj
    skip
    refine Sat.seq (Sat.seq (Sat.region (Tr.assign J J J (Tr.nil (at_n (Sat.block (Sat.loop (ι := Nat) (fun k => ⟨[(1, ptr n1 0), (2, ptr n2 0), (3, ptr n3 0), (4, i64 ((atOf i : Nat) : Int)), (5, i64 (i : Int)), (6, i64 ((opB i : Nat) : Int)), (7, i64 (k : Int))], [⟨n3, wdsV ((opAt (le a) i).set i (le a / 2 ^ atOf i % 2 ^ k)), 177, 10⟩, ⟨n2, (intsV (List.replicate 10 0)), 177, 10⟩, ⟨n1, bytesV a, 77, (bytesV a).length⟩]⟩) (fun k => k ≤ opB i) (fun k => opB i - k) (0) ?_ ?_ ?_)))))))
    · exact Nat.zero_le _
    · exact weak_of (wk1 rfl (wk1 rfl (wk1 rfl (wk1 rfl (wk1 rfl (wk1 rfl (wk1 rfl wk0))))))) (wh1 (by rw [opAt_first _ hi2]; exact mem0) (wh1 Z1 (wh1 Z2 wh0))) nD
    ·
     rintro k hk
     have hsl : ((opAt (le a) i).set i (le a / 2 ^ atOf i % 2 ^ k)).length = 10 := by rw [List.length_set]; exact opAt_length _ i oM
     refine Sat.seq (Sat.seq (Sat.region (Tr.move J J J (Tr.move J J J (two (fun r hr k => Tr.lss J J J J hr k) (fun hs10_20 => ?_) (fun hs10_20 => ?_))))))
     ·
      have hs10_2 := of_decide_eq_true hs10_20
      skip
      refine Tr.move J J J (Tr.move J J J (Tr.move J J J (Tr.addN (atOf i) (k) J J J J oM (Tr.lss J J J J (decide_eq_true oM) (Tr.pick J J J J J J (Tr.nil (at_n (Sat.cond_t J J (Sat.skip (at_n (Sat.seq (Sat.block (Sat.seq (Sat.region (Tr.move J J J (Tr.move J J J (Tr.addN (atOf i) (k) J J J J oM (Tr.quoN (atOf i + k) (8) J J J J ⟨by decide, by omega⟩ ?_))))))))))))))))))
      refine Tr.idxArr1 J J J J Y77 Sz5 _ J oM (Tr.load1 J J J Y5 J Z2 zG ?_)
      refine Tr.move J J J (Tr.move J J J (Tr.addN (atOf i) (k) J J J J oM (Tr.remN (atOf i + k) (8) J J J J dE (Tr.conv J J J Y3 Y35 (cv_i64_u64 _) (Tr.shr_u8 J J J J ((atOf i + k) % 8) (by rw [wordOf_id _ oM]) oM ?_)))))
      refine Tr.rem_u8 J J J J 2 J dE (Tr.eqi J J J J J (Tr.nil (at_n (Sat.condP J (fun hc3 => ?_) (fun hc3 => ?_)))))
      ·
       have hbt := bit_is hc3
       have hov := op_val (N := le a) hi2 (show k ≤ 26 by omega)
       refine Sat.region (Tr.move J J J (Tr.move J J J (Tr.idxArr1 J J J J Y177 Sz2 _ J oM (Tr.load1 J J J Y2 J Z0 (by exact get_wds oM) ?_))))
       refine Tr.move J J J (Tr.conv J J J Y3 Y35 (cv_i64_u64 _) (Tr.shlN 1 k J J J J (wordOf_id _ oM) oM oM (Tr.addN (((opAt (le a) i).set i (le a / 2 ^ atOf i % 2 ^ k)).getD i 0) (1 * 2 ^ k) J J J J oM (Tr.idxArr1 J J J J Y177 Sz2 _ J oM (Tr.store1 J J J J J Sz2 Z0 (by (simp [wdsV_length, hsl]; omega)) (by exact set_wds _ _ _) zU ?_)))))
       refine Tr.nil (bl_n (at_n (Sat.region (Tr.move J J J (Tr.add_i64 J J J J oM (Tr.assign J J J (Tr.nil (at_n ?_))))))))
       exact ⟨k + 1, by omega, by omega, weak_of (wk1 rfl (wk1 rfl (wk1 rfl (wk1 rfl (wk1 rfl (wk1 rfl (wk1 rfl wk0))))))) (wh1 (by (rw [← op_on hi2 hbt]; exact mem0)) (wh1 Z1 (wh1 Z2 wh0))) nD⟩
      ·
       have hbf := bit_isn hc3
       refine Sat.skip (bl_n (at_n (Sat.region (Tr.move J J J (Tr.add_i64 J J J J oM (Tr.assign J J J (Tr.nil (at_n ?_))))))))
       exact ⟨k + 1, by omega, by omega, weak_of (wk1 rfl (wk1 rfl (wk1 rfl (wk1 rfl (wk1 rfl (wk1 rfl (wk1 rfl wk0))))))) (wh1 (by (rw [← op_off hbf]; exact mem0)) (wh1 Z1 (wh1 Z2 wh0))) nD⟩
     ·
      have hs10_2 := of_decide_eq_false hs10_20
      skip
      refine Tr.move J J J (Tr.skp J J (Tr.skp J J (Tr.skp J J (Tr.skp J J (Tr.pick J J J J J J (Tr.nil (at_n (Sat.cond_f J J (Sat.exit (at_x (at_x (bl_h (at_n (Sat.region (Tr.move J J J (Tr.move J J J (Tr.callV J J J J Body229 (r3_bits i hi2) (fun _ _ => trivial) (Tr.conv J J J Y35 Y3 (cv_u64_i64 oM) ?_))))))))))))))))))
      rw [bits_wn]
      refine Tr.addN (atOf i) (bitsAt i) J J J J oM (Tr.assign J J J (Tr.nil (bl_n (at_n (Sat.region (Tr.move J J J (Tr.add_i64 J J J J oM (Tr.assign J J J (Tr.nil (at_n ?_))))))))))
      exact ⟨i + 1, by omega, by omega, weak_of (wk1 rfl (wk1 rfl (wk1 rfl (wk1 (natc (at_succ hi2)) (wk1 rfl wk0))))) (wh1 (by rw [← opAt_set (le a) hi2, show opB i = k by omega]; exact mem0) (wh1 Z1 (wh1 Z2 wh0))) nD⟩
  ·
   rw [show opAt (le a) i = D from by rw [show i = 10 by omega, opAt_ten]; exact hD.out]
   refine Sat.exit (at_x (at_x (bl_h (at_n (Sat.seq (Sat.region (Tr.loadAll J J J Y177 J Sz177 Z0 (by (simp [wdsV_length, hd10]; done)) ?_)))))))
   refine Tr.callV J J J J Body230 (hc) (fun _ _ => trivial) (Tr.storeAll J J J J (by exact wdsV_cell _) Sz177 (by (simp [wdsV_length, hu10]; done)) Z1 sP zV ?_)
   refine Tr.nil (at_n (Sat.ret (en_r ?_)))
   refine ⟨_, [], res_cell J J Y177 J Sz177 Z1 (by simp [wdsV_length, hu10]), sP, sP, ?_, rfl⟩
   rfl

theorem close_first (X : Nat) : leb 32 (X % 2 ^ atOf 0) = List.replicate 32 0 := by
  rw [show atOf 0 = 0 from rfl, Nat.pow_zero, Nat.mod_one, leb_zero32]

theorem r3_Close (w : List Nat) (hw : Fit10 w) : Meets Tryz.prog 196 [agg (wdsV w)] [] (fun _ => True) (fun v out => v = agg (bytesV (fb (fe (v10 w)))) ∧ out = []) := by
 intro W hW
 have hlw := hw.len
 obtain ⟨X, hX⟩ : ∃ X, Hid (low10 w = X) := ⟨_, ⟨rfl⟩⟩
 have hX255 : X < 2 ^ 255 := by rw [← hX.out]; exact low10_lt hw
 have h4 := car10_four hw
 rw [hX.out] at h4
 have hfx : fe (v10 w) = fe X := by rw [← hX.out]; exact (low10_fe w).symm
 rw [hfx]
 have f1 : Fit10 (car10 w) := car10_fit (by have := hw.v; omega)
 have f2 : Fit10 (car10 (car10 w)) := car10_fit (by have := f1.v; omega)
 have f3 : Fit10 (car10 (car10 (car10 w))) := car10_fit (by have := f2.v; omega)
 have c1 := r3_carry w hw.mid
 have c2 := r3_carry _ f1.mid
 have c3 := r3_carry _ f2.mid
 have c4 := r3_carry _ f3.mid
 rw [h4] at c4
 have hl1 := f1.len
 have hl2 := f2.len
 have hl3 := f3.len
 have hDl : (dg X b10).length = 10 := by rw [dg_length]; rfl
 have hDb : ∀ i k, i < 10 → k < bitsAt i → (((((dg X b10).getD i 0 / 2 ^ k % 2 : Nat) : Int) = 1) ↔ X.testBit (atOf i + k) = true) := fun i k h1 h2 => dg_bit_dec X h1 h2
 have ht := fun h => not_top hX255 h
 have hm := fun i h1 h2 h => not_mid (i := i) hX255 h1 h2 h
 have htop := fun h1 h2 h3 => is_top hX255 h1 h2 h3
 obtain ⟨O, hO⟩ : ∃ O, Hid (leb 32 X = O) := ⟨_, ⟨rfl⟩⟩
 have hOl : O.length = 32 := by rw [← hO.out]; exact leb_length _ _
 rw [hO.out] at ht hm htop
 clear f1 f2 f3 h4
 revert c1 c2 c3 c4 hl1 hl2 hl3 hDl hDb
 generalize car10 (car10 (car10 w)) = w3
 generalize car10 (car10 w) = w2
 generalize car10 w = w1
 generalize dg X b10 = D
 intro c1 c2 c3 c4 hl1 hl2 hl3 hDl hDb
 generalize hFB : fb (fe X) = FB at ht hm htop ⊢
 refine calls_of (hp0 := []) Tryz.func196 J 77 Tryz.ntmps196 J (HRep.nil _) (Sat.seq (Sat.region (Tr.boxA J J ?_)))
 intro n1 hn1 hf1
 refine Tr.alloc (cs := (bytesV (List.replicate 32 0))) J Zr77 J ?_
 intro n2 hn2 hf2
 refine Tr.nil (at_n (Sat.seq (Sat.region (Tr.loadAll J J J Y177 J Sz177 Z1 (by (simp [wdsV_length, hlw]; done)) ?_))))
 refine Tr.callV J J J J Body230 (c1) (fun _ _ => trivial) (Tr.callV J J J J Body230 (c2) (fun _ _ => trivial) (Tr.callV J J J J Body230 (c3) (fun _ _ => trivial) (Tr.callV J J J J Body230 (c4) (fun _ _ => trivial) (Tr.storeAll J J J J (by exact wdsV_cell _) Sz177 (by (simp [wdsV_length, hDl]; done)) Z1 (by (simp [wdsV_length, hlw]; done)) zV ?_))))
 refine Tr.nil (at_n (Sat.seq (Sat.region (Tr.alloc (cs := (bytesV (List.replicate 32 0))) J Zr77 J ?_))))
 intro n3 hn3 hf3
 refine Tr.nil (at_n (Sat.seq (Sat.region (Tr.assign J J J (Tr.nil (at_n (Sat.seq (Sat.seq (Sat.region (Tr.assign J J J (Tr.nil (at_n (Sat.block (Sat.loop (ι := Nat) (fun i => ⟨[(1, ptr n1 0), (2, ptr n2 0), (3, ptr n3 0), (4, i64 ((atOf i : Nat) : Int)), (5, i64 (i : Int))], [⟨n3, bytesV (leb 32 (X % 2 ^ atOf i)), 77, 32⟩, ⟨n2, bytesV (List.replicate 32 0), 77, 32⟩, ⟨n1, wdsV D, 177, (wdsV w).length⟩]⟩) (fun i => i ≤ 10) (fun i => 10 - i) (0) ?_ ?_ ?_))))))))))))))
 · omega
 · exact weak_of (wk1 rfl (wk1 rfl (wk1 rfl (wk1 rfl (wk1 rfl wk0))))) (wh1 (by rw [close_first]; exact mem0) (wh1 Z1 (wh1 Z2 wh0))) nD
 ·
  rintro i hi
  refine Sat.seq (Sat.seq (Sat.region (Tr.move J J J (Tr.lss J J J J J (Tr.nil (at_n (Sat.condP J (fun hc0 => ?_) (fun hc0 => ?_))))))))
  ·
   have hi2 : i < 10 := by omega
   have hb26 := bits_26 i
   have hbw := bits_wn i
   have hat := at_le hi2
   have hat2 := at_succ hi2
   have hat3 : atOf (i + 1) ≤ 255 := by unfold atOf; omega
   refine Sat.skip (at_n (Sat.seq (Sat.block (Sat.seq (Sat.seq (Sat.region (Tr.assign J J J (Tr.nil (at_n (Sat.block (Sat.loop (ι := Nat) (fun k => ⟨[(1, ptr n1 0), (2, ptr n2 0), (3, ptr n3 0), (4, i64 ((atOf i : Nat) : Int)), (5, i64 (i : Int)), (6, i64 (k : Int))], [⟨n3, bytesV (leb 32 (X % 2 ^ (atOf i + k))), 77, 32⟩, ⟨n2, bytesV (List.replicate 32 0), 77, 32⟩, ⟨n1, wdsV D, 177, (wdsV w).length⟩]⟩) (fun k => k ≤ bitsAt i) (fun k => bitsAt i - k) (0) ?_ ?_ ?_)))))))))))
   · exact Nat.zero_le _
   · exact weak_of (wk1 rfl (wk1 rfl (wk1 rfl (wk1 rfl (wk1 rfl (wk1 rfl wk0)))))) (wh1 (by rw [Nat.add_zero]; exact mem0) (wh1 Z1 (wh1 Z2 wh0))) nD
   ·
    rintro k hk
    refine Sat.seq (Sat.seq (Sat.region (Tr.move J J J (Tr.move J J J (Tr.callV J J J J Body229 (r3_bits i hi2) (fun _ _ => trivial) (Tr.conv J J J Y35 Y3 (cv_u64_i64 oM) ?_))))))
    rw [bits_wn]
    refine Tr.lss J J J J J (Tr.nil (at_n (Sat.condP J (fun hc1 => ?_) (fun hc1 => ?_))))
    ·
     refine Sat.skip (at_n (Sat.seq (Sat.block (Sat.seq (Sat.region (Tr.move J J J (Tr.idxArr1 J J J J Y177 Sz2 _ J oM (Tr.load1 J J J Y2 J Z2 (by exact get_wds oM) ?_))))))))
     refine Tr.move J J J (Tr.conv J J J Y3 Y35 (cv_i64_u64 _) (Tr.shrN (D.getD i 0) (k) J J J J (wordOf_id _ oM) oM (Tr.remN (D.getD i 0 / 2 ^ k) (2) J J J J dE (Tr.eqi J J J J J (Tr.nil (at_n (Sat.condP J (fun hc2 => ?_) (fun hc2 => ?_))))))))
     ·
      have hbt := (hDb i k hi2 oM).1 hc2
      have hbs : leb 32 (X % 2 ^ (atOf i + (k + 1))) = _ := (bit_set X (m := atOf i + k) oM hbt).symm
      refine Sat.region (Tr.move J J J (Tr.move J J J (Tr.addN (atOf i) (k) J J J J oM (Tr.quoN (atOf i + k) (8) J J J J ⟨by decide, by omega⟩ ?_))))
      refine Tr.move J J J (Tr.move J J J (Tr.addN (atOf i) (k) J J J J oM (Tr.quoN (atOf i + k) (8) J J J J ⟨by decide, by omega⟩ ?_)))
      refine Tr.idxArr1 J J J J Y77 Sz5 _ J oM (Tr.load1 J J J Y5 J Z0 (by exact get_bytes (by (simp [leb_length]; omega))) ?_)
      refine Tr.move J J J (Tr.move J J J (Tr.addN (atOf i) (k) J J J J oM (Tr.remN (atOf i + k) (8) J J J J dE (Tr.conv J J J Y3 Y35 (cv_i64_u64 _) (Tr.shl_u8 J J (show evIn _ _ = some (u8 1) from rfl) J ((atOf i + k) % 8) (by rw [wordOf_id _ oM]) oM ?_)))))
      refine Tr.add_u8 J J J J (Tr.idxArr1 J J J J Y77 Sz5 _ J oM (Tr.store1 J J J J J Sz5 Z0 (by (simp [leb_length]; omega)) (by exact set_bytes _ _ _) zU ?_))
      refine Tr.nil (bl_n (at_n (Sat.region (Tr.move J J J (Tr.add_i64 J J J J oM (Tr.assign J J J (Tr.nil (at_n ?_))))))))
      exact ⟨k + 1, by omega, by omega, weak_of (wk1 rfl (wk1 rfl (wk1 rfl (wk1 rfl (wk1 rfl (wk1 rfl wk0)))))) (wh1 (by rw [hbs]; exact mem0) (wh1 Z1 (wh1 Z2 wh0))) nD⟩
     ·
      have hbf : X.testBit (atOf i + k) = false := Bool.eq_false_iff.2 (fun e => hc2 ((hDb i k hi2 oM).2 e))
      have hbs : leb 32 (X % 2 ^ (atOf i + (k + 1))) = leb 32 (X % 2 ^ (atOf i + k)) := (bit_off X (atOf i + k) hbf).symm
      refine Sat.skip (bl_n (at_n (Sat.region (Tr.move J J J (Tr.add_i64 J J J J oM (Tr.assign J J J (Tr.nil (at_n ?_))))))))
      exact ⟨k + 1, by omega, by omega, weak_of (wk1 rfl (wk1 rfl (wk1 rfl (wk1 rfl (wk1 rfl (wk1 rfl wk0)))))) (wh1 (by rw [hbs]; exact mem0) (wh1 Z1 (wh1 Z2 wh0))) nD⟩
    ·
     refine Sat.exit (at_x (at_x (bl_h (at_n (Sat.region (Tr.move J J J (Tr.move J J J (Tr.callV J J J J Body229 (r3_bits i hi2) (fun _ _ => trivial) (Tr.conv J J J Y35 Y3 (cv_u64_i64 oM) ?_)))))))))
     rw [bits_wn]
     refine Tr.addN (atOf i) (bitsAt i) J J J J oM (Tr.assign J J J (Tr.nil (bl_n (at_n (Sat.region (Tr.move J J J (Tr.add_i64 J J J J oM (Tr.assign J J J (Tr.nil (at_n ?_))))))))))
     exact ⟨i + 1, by omega, by omega, weak_of (wk1 rfl (wk1 rfl (wk1 rfl (wk1 (natc (at_succ hi2)) (wk1 rfl wk0))))) (wh1 (by rw [← at_succ hi2, show bitsAt i = k by omega]; exact mem0) (wh1 Z1 (wh1 Z2 wh0))) nD⟩
  ·
   rw [show leb 32 (X % 2 ^ atOf i) = O from by rw [show atOf i = 255 from by rw [show i = 10 by omega]; rfl, Nat.mod_eq_of_lt hX255]; exact hO.out]
   refine Sat.exit (at_x (at_x (bl_h (at_n (Sat.seq (Sat.seq (Sat.region (Tr.idxArr1 J J J J Y77 Sz5 0 J dE (Tr.load1 J J J Y5 J Z0 zG ?_)))))))))
   refine two (fun r hr k => Tr.lss J J J J hr k) (fun hs13_20 => ?_) (fun hs13_20 => ?_)
   ·
    have hs13_2 := of_decide_eq_true hs13_20
    refine Tr.move J J J (Tr.skp J J (Tr.skp J J (Tr.skp J J (Tr.pick J J J J J J (Tr.nil (at_n (Sat.cond_t J J (Sat.seq (Sat.region (Tr.loadAll J J J Y77 J Sz77 Z0 (by (simp [hOl]; done)) ?_))))))))))
    refine Tr.storeAll J J J J zE Sz77 (by (simp [hOl]; done)) Z1 sP zV ?_
    refine Tr.nil (at_n (Sat.ret (at_r (en_r ?_))))
    refine ⟨_, [], res_cell J J Y77 J Sz77 Z1 (by simp [hOl]), sP, sP, ?_, rfl⟩
    exact congrArg (fun l => agg (bytesV l)) (ht oM)
   ·
    have hs13_2 := of_decide_eq_false hs13_20
    refine Tr.move J J J (Tr.idxArr1 J J J J Y77 Sz5 31 J dE (Tr.load1 J J J Y5 J Z0 zG ?_))
    refine two (fun r hr k => Tr.nei J J J J hr k) (fun hs13_60 => ?_) (fun hs13_60 => ?_)
    ·
     have hs13_6 := nd_t hs13_60
     refine Tr.pick J J J J J J (Tr.nil (at_n (Sat.cond_t J J (Sat.seq (Sat.region (Tr.loadAll J J J Y77 J Sz77 Z0 (by (simp [hOl]; done)) ?_))))))
     refine Tr.storeAll J J J J zE Sz77 (by (simp [hOl]; done)) Z1 sP zV ?_
     refine Tr.nil (at_n (Sat.ret (at_r (en_r ?_))))
     refine ⟨_, [], res_cell J J Y77 J Sz77 Z1 (by simp [hOl]), sP, sP, ?_, rfl⟩
     exact congrArg (fun l => agg (bytesV l)) (ht oM)
    ·
     have hs13_6 := nd_f hs13_60
     refine Tr.pick J J J J J J (Tr.nil (at_n (Sat.cond_f J J (Sat.skip (at_n (Sat.seq (Sat.seq (Sat.region (Tr.assign J J J (Tr.nil (at_n (Sat.block (Sat.loop (ι := Nat) (fun j => ⟨[(2, ptr n2 0), (3, ptr n3 0), (7, i64 (j : Int))], [⟨n3, bytesV O, 77, 32⟩, ⟨n2, bytesV (List.replicate 32 0), 77, 32⟩]⟩) (fun j => 1 ≤ j ∧ j ≤ 31 ∧ ∀ m, 0 < m → m < j → (O.getD m 0).toNat = 255) (fun j => 31 - j) (1) ?_ ?_ ?_)))))))))))))
     · exact ⟨Nat.le_refl _, by omega, fun m h1 h2 => by omega⟩
     · exact weak_of (wk1 rfl (wk1 rfl (wk1 rfl wk0))) (wh1 Z0 (wh1 Z1 wh0)) nD
     ·
      rintro j ⟨hj1, hj2, hj3⟩
      refine Sat.seq (Sat.seq (Sat.region (Tr.move J J J (Tr.lss J J J J J (Tr.nil (at_n (Sat.condP J (fun hc4 => ?_) (fun hc4 => ?_))))))))
      ·
       refine Sat.skip (at_n (Sat.seq (Sat.block (Sat.seq (Sat.region (Tr.move J J J (Tr.idxArr1 J J J J Y77 Sz5 _ J oM (Tr.load1 J J J Y5 J Z0 zG ?_))))))))
       refine Tr.nei J J J J J (Tr.nil (at_n (Sat.condNP J (fun hc5 => ?_) (fun hc5 => ?_))))
       ·
        refine Sat.seq (Sat.region (Tr.loadAll J J J Y77 J Sz77 Z0 (by (simp [hOl]; done)) ?_))
        refine Tr.storeAll J J J J zE Sz77 (by (simp [hOl]; done)) Z1 sP zV ?_
        refine Tr.nil (at_n (Sat.ret (bl_r (at_r (at_r (bl_r (at_r (en_r ?_))))))))
        refine ⟨_, [], res_cell J J Y77 J Sz77 Z1 (by simp [hOl]), sP, sP, ?_, rfl⟩
        exact congrArg (fun l => agg (bytesV l)) (hm j oM oM oM)
       ·
        refine Sat.skip (bl_n (at_n (Sat.region (Tr.move J J J (Tr.add_i64 J J J J oM (Tr.assign J J J (Tr.nil (at_n ?_))))))))
        exact ⟨j + 1, ⟨by omega, by omega, fun m h1 h2 => by
          by_cases e : m = j
          · rw [e]; omega
          · exact hj3 m h1 oM⟩, by omega, weak_of (wk1 rfl (wk1 rfl (wk1 rfl wk0))) (wh1 Z0 (wh1 Z1 wh0)) nD⟩
      ·
       refine Sat.exit (at_x (at_x (bl_h (at_n (Sat.seq (Sat.region (Tr.idxArr1 J J J J Y77 Sz5 0 J dE (Tr.load1 J J J Y5 J Z0 zG ?_))))))))
       refine Tr.sub_u8 J J J (show evIn _ _ = some (u8 237) from rfl) (Tr.build (cs := bytesV ((O.getD 0 0 - 237) :: List.replicate 31 0)) J J J (fun w => by kernel_rfl) ?_)
       refine Tr.storeAll J J J J zE Sz77 (by (simp [hOl]; done)) Z1 sP zV ?_
       refine Tr.nil (at_n (Sat.ret (en_r ?_)))
       refine ⟨_, [], res_cell J J Y77 J Sz77 Z1 (by simp [hOl]), sP, sP, ?_, rfl⟩
       exact congrArg (fun l => agg (bytesV l)) (htop oM oM (fun m h1 h2 => hj3 m h1 oM))

def p1 (i : Nat) : Nat := 2 ^ bitsAt i - 1 - (if i = 0 then 18 else 0)
theorem p1_z {i : Nat} (h : (i : Int) = 0) : p1 i = 1 * 2 ^ bitsAt i - 1 - 18 := by rw [p1, if_pos oM, Nat.one_mul]
theorem p1_n {i : Nat} (h : ¬ (i : Int) = 0) : p1 i = 1 * 2 ^ bitsAt i - 1 := by rw [p1, if_neg oM, Nat.one_mul, Nat.sub_zero]
theorem p4_p1 (i : Nat) : p4 i = 4 * p1 i := rfl
def cf2 (i k : Nat) : Nat := if i % 2 = 1 ∧ k % 2 = 1 then 2 else 1
theorem cf2_t {i k : Nat} (P : Nat) (h : ((i % 2 : Nat) : Int) = 1) (h2 : ((k % 2 : Nat) : Int) = 1) : cf2 i k * P = 2 * P := by rw [cf2, if_pos ⟨by omega, by omega⟩]
theorem cf2_a {i k : Nat} (P : Nat) (h : ¬ ((i % 2 : Nat) : Int) = 1) : cf2 i k * P = P := by rw [cf2, if_neg (fun e => h oM), Nat.one_mul]
theorem cf2_b {i k : Nat} (P : Nat) (h : ¬ ((k % 2 : Nat) : Int) = 1) : cf2 i k * P = P := by rw [cf2, if_neg (fun e => h oM), Nat.one_mul]
theorem cf2_le (i k : Nat) : cf2 i k ≤ 2 := by unfold cf2; split <;> omega
theorem coef_hi {i k : Nat} (P : Nat) (h : (9 : Int) < ((i + k : Nat) : Int)) : coef i k * P = 19 * (cf2 i k * P) := by
  rw [coef, if_pos oM, Nat.mul_assoc]; rfl
theorem coef_lo {i k : Nat} (P : Nat) (h : ¬ (9 : Int) < ((i + k : Nat) : Int)) : coef i k * P = cf2 i k * P := by
  rw [coef, if_neg oM, Nat.one_mul]; rfl
theorem tRow_bd {x y : List Nat} (hx : Fit10 x) (hy : Fit10 y) {i k m : Nat} (hi : i < 10) (hk : k ≤ 10) (hm : m < 10) : (tRow x y i (tAll x y i) k).getD m 0 ≤ 6845471433603153920 := by
  have h1 := tRow_le hi (fun k hk => term_le hx hy i k hi hk) (tAll_length x y i) k hk m hm
  have h2 := tAll_le (term_le hx hy) i oM m hm
  have h3 : (if (m + 10 - i) % 10 < k then 38 * (2 ^ 27 * 2 ^ 27) else 0) ≤ 38 * (2 ^ 27 * 2 ^ 27) := by split <;> omega
  omega
theorem prod_le {x y : List Nat} (hx : Fit10 x) (hy : Fit10 y) {i k : Nat} (hi : i < 10) (hk : k < 10) : x.getD i 0 * y.getD k 0 ≤ 18014398509481984 :=
  Nat.le_trans (Nat.mul_le_mul (Nat.le_of_lt (hx.all hi)) (Nat.le_of_lt (hy.all hk))) dE

theorem r3_Plus (x y : List Nat) (hx : Fit10 x) (hy : Fit10 y) : Meets Tryz.prog 232 [agg (wdsV x), agg (wdsV y)] [] (fun _ => True) (fun v out => v = agg (wdsV (plusT x y)) ∧ out = []) := by
 intro W hW
 have hxl := hx.len
 have hyl := hy.len
 obtain ⟨A, hA⟩ : ∃ A, Hid (addAt x y 10 = A) := ⟨_, ⟨rfl⟩⟩
 obtain ⟨U, hU⟩ : ∃ U, Hid (plusT x y = U) := ⟨_, ⟨rfl⟩⟩
 have hAl : A.length = 10 := by rw [← hA.out]; exact addAt_length y hx.len 10
 have hUl : U.length = 10 := by rw [← hU.out]; exact car10_length _
 have hc := r3_carry A (by rw [← hA.out]; exact addAt_mid hx hy)
 rw [show car10 A = U from by rw [← hA.out]; exact hU.out] at hc
 rw [hU.out]
 have hal := hAl
 refine calls_of (hp0 := []) Tryz.func232 J 21 Tryz.ntmps232 J (HRep.nil _) (Sat.seq (Sat.region (Tr.boxA J J ?_)))
 intro n2 hn2 hf2
 refine Tr.boxA J J ?_
 intro n3 hn3 hf3
 refine Tr.alloc (cs := (intsV (List.replicate 10 0))) J Zr177 J ?_
 intro n4 hn4 hf4
 refine Tr.nil (at_n (Sat.seq (Sat.seq (Sat.region (Tr.assign J J J (Tr.nil (at_n (Sat.block (Sat.loop (ι := Nat) (fun i => ⟨[(2, ptr n2 0), (3, ptr n3 0), (4, ptr n4 0), (5, i64 (i : Int))], [⟨n4, (intsV (List.replicate 10 0)), 177, 10⟩, ⟨n3, wdsV y, 177, (wdsV y).length⟩, ⟨n2, wdsV (addAt x y i), 177, (wdsV x).length⟩]⟩) (fun i => i ≤ 10) (fun i => 10 - i) (0) ?_ ?_ ?_)))))))))
 · omega
 · exact weak_of (wk1 rfl (wk1 rfl (wk1 rfl (wk1 rfl wk0)))) (wh1 Z0 (wh1 Z1 (wh1 Z2 wh0))) nD
 ·
  rintro i hi
  have hal := addAt_length y hxl i
  refine Sat.seq (Sat.seq (Sat.region (Tr.move J J J (Tr.lss J J J J J (Tr.nil (at_n (Sat.condP J (fun hc0 => ?_) (fun hc0 => ?_))))))))
  ·
   have hi2 : i < 10 := by omega
   have hxi : (addAt x y i).getD i 0 = x.getD i 0 + 0 := by rw [addAt_get hx.len i oM i hi2, if_neg oM]
   have hx2 := hx.all hi2
   have hy2 := hy.all hi2
   refine Sat.skip (at_n (Sat.seq (Sat.block (Sat.draw [(0, 0), (0, 1), (0, 2), (1, 3), (0, 4), (0, 5), (1, 6), (0, 7), (0, 8), (4, 9)] Mixed zK (Tr.move J J J (Tr.move J J J (Tr.idxArr1 J J J J Y177 Sz2 _ J oM (Tr.load1 J J J Y2 J Z2 (by exact get_wds oM) ?_))))))))
   refine Tr.move J J J (Tr.idxArr1 J J J J Y177 Sz2 _ J oM (Tr.load1 J J J Y2 J Z1 (by exact get_wds oM) ?_))
   refine Tr.addN ((addAt x y i).getD i 0) (y.getD i 0) J J J J oM (Tr.idxArr1 J J J J Y177 Sz2 _ J oM (Tr.store1 J J J J J Sz2 Z2 (by (simp [wdsV_length, hal]; omega)) (by exact set_wds _ _ _) (by exact upd2) ?_))
   refine Tr.nil (bl_n (at_n (Sat.region (Tr.move J J J (Tr.add_i64 J J J J oM (Tr.assign J J J (Tr.nil (at_n ?_))))))))
   exact ⟨i + 1, by omega, by omega, weak_of (wk1 rfl (wk1 rfl (wk1 rfl (wk1 rfl wk0)))) (wh1 Z0 (wh1 Z1 (wh1 Z2 wh0))) nD⟩
  ·
   rw [show addAt x y i = A from by rw [show i = 10 by omega]; exact hA.out]
   refine Sat.exit (at_x (at_x (bl_h (at_n (Sat.seq (Sat.region (Tr.loadAll J J J Y177 J Sz177 Z2 (by (simp [wdsV_length, hAl]; done)) ?_)))))))
   refine Tr.callV J J J J Body230 (hc) (fun _ _ => trivial) (Tr.storeAll J J J J (by exact wdsV_cell _) Sz177 (by (simp [wdsV_length, hUl]; done)) Z0 sP zU ?_)
   refine Tr.nil (at_n (Sat.ret (en_r ?_)))
   refine ⟨_, [], res_cell J J Y177 J Sz177 Z0 (by simp [wdsV_length, hUl]), sP, sP, ?_, rfl⟩
   rfl

theorem r3_Minus (x y : List Nat) (hx : Fit10 x) (hy : Fit10 y) : Meets Tryz.prog 231 [agg (wdsV x), agg (wdsV y)] [] (fun _ => True) (fun v out => v = agg (wdsV (minusT x y)) ∧ out = []) := by
 intro W hW
 have hxl := hx.len
 have hyl := hy.len
 obtain ⟨A, hA⟩ : ∃ A, Hid (subAt x y 10 = A) := ⟨_, ⟨rfl⟩⟩
 obtain ⟨U, hU⟩ : ∃ U, Hid (minusT x y = U) := ⟨_, ⟨rfl⟩⟩
 have hAl : A.length = 10 := by rw [← hA.out]; exact subAt_length y hx.len 10
 have hUl : U.length = 10 := by rw [← hU.out]; exact car10_length _
 have hc := r3_carry A (by rw [← hA.out]; exact subAt_mid hx)
 rw [show car10 A = U from by rw [← hA.out]; exact hU.out] at hc
 rw [hU.out]
 have hal := hAl
 refine calls_of (hp0 := []) Tryz.func231 J 33 Tryz.ntmps231 J (HRep.nil _) (Sat.seq (Sat.region (Tr.boxA J J ?_)))
 intro n2 hn2 hf2
 refine Tr.boxA J J ?_
 intro n3 hn3 hf3
 refine Tr.alloc (cs := (intsV (List.replicate 10 0))) J Zr177 J ?_
 intro n4 hn4 hf4
 refine Tr.nil (at_n (Sat.seq (Sat.seq (Sat.region (Tr.assign J J J (Tr.nil (at_n (Sat.block (Sat.loop (ι := Nat) (fun i => ⟨[(2, ptr n2 0), (3, ptr n3 0), (4, ptr n4 0), (5, i64 (i : Int))], [⟨n4, (intsV (List.replicate 10 0)), 177, 10⟩, ⟨n3, wdsV y, 177, (wdsV y).length⟩, ⟨n2, wdsV (subAt x y i), 177, (wdsV x).length⟩]⟩) (fun i => i ≤ 10) (fun i => 10 - i) (0) ?_ ?_ ?_)))))))))
 · omega
 · exact weak_of (wk1 rfl (wk1 rfl (wk1 rfl (wk1 rfl wk0)))) (wh1 Z0 (wh1 Z1 (wh1 Z2 wh0))) nD
 ·
  rintro i hi
  have hal := subAt_length y hxl i
  refine Sat.seq (Sat.seq (Sat.region (Tr.move J J J (Tr.lss J J J J J (Tr.nil (at_n (Sat.condP J (fun hc0 => ?_) (fun hc0 => ?_))))))))
  ·
   have hi2 : i < 10 := by omega
   have hxi : (subAt x y i).getD i 0 = x.getD i 0 + 0 := by rw [subAt_get hx.len i oM i hi2, if_neg oM]
   have hx2 := hx.all hi2
   have hy2 := hy.all hi2
   have hpg := p4_ge hy hi2
   have hpl := p4_le i
   rw [p4_p1] at hpg hpl
   have hbg := bits_ge i
   have hbl := bits_le i
   have hb26 := bits_26 i
   have hsub : (subAt x y i).getD i 0 + 4 * p1 i - y.getD i 0 = (subAt x y i).getD i 0 + (p4 i - y.getD i 0) := by rw [p4_p1]; omega
   refine Sat.skip (at_n (Sat.seq (Sat.block (Sat.seq (Sat.region (Tr.move J J J (Tr.callV J J J J Body229 (r3_bits i hi2) (fun _ _ => trivial) (Tr.shlN (1) (bitsAt i) J J J J (bits_w i) oM oM (Tr.subN (1 * 2 ^ bitsAt i) (1) J J J J oM (Tr.assign J J J (Tr.nil (at_n (Sat.join (ι := Unit) (fun _u => ⟨[(2, ptr n2 0), (3, ptr n3 0), (4, ptr n4 0), (5, i64 (i : Int)), (6, i64 ((p1 i : Nat) : Int))], [⟨n4, (intsV (List.replicate 10 0)), 177, 10⟩, ⟨n3, wdsV y, 177, (wdsV y).length⟩, ⟨n2, wdsV (subAt x y i), 177, (wdsV x).length⟩]⟩) (fun _u => True) ?_ ?_)))))))))))))
   ·
    refine Sat.seq (Sat.region (Tr.move J J J (Tr.eqi J J J J J (Tr.nil (at_n (Sat.condP J (fun hc1 => ?_) (fun hc1 => ?_)))))))
    ·
     refine Sat.region (Tr.move J J J (Tr.subN (1 * 2 ^ bitsAt i - 1) (18) J J J J oM (Tr.assign J J J (Tr.nil (at_n ?_)))))
     (rw [p1_z hc1]; exact ⟨(), trivial, weak_of (wk1 rfl (wk1 rfl (wk1 rfl (wk1 rfl (wk1 rfl wk0))))) (wh1 Z0 (wh1 Z1 (wh1 Z2 wh0))) nD⟩)
    ·
     refine Sat.skip (at_n ?_)
     (rw [p1_n hc1]; exact ⟨(), trivial, weak_of (wk1 rfl (wk1 rfl (wk1 rfl (wk1 rfl (wk1 rfl wk0))))) (wh1 Z0 (wh1 Z1 (wh1 Z2 wh0))) nD⟩)
   ·
    intro _u hj
    skip
    refine Sat.draw [(0, 0), (0, 1), (0, 2), (1, 3), (0, 4), (0, 5), (0, 6), (0, 7), (0, 8), (1, 9), (0, 10), (0, 11), (4, 12)] Mixed zK (Tr.move J J J (Tr.move J J J (Tr.idxArr1 J J J J Y177 Sz2 _ J oM (Tr.load1 J J J Y2 J Z2 (by exact get_wds oM) ?_))))
    refine Tr.move J J J (Tr.mulN (4) (p1 i) J J J J oM (Tr.addN ((subAt x y i).getD i 0) (4 * p1 i) J J J J oM (Tr.move J J J (Tr.idxArr1 J J J J Y177 Sz2 _ J oM (Tr.load1 J J J Y2 J Z1 (by exact get_wds oM) ?_)))))
    refine Tr.subN ((subAt x y i).getD i 0 + 4 * p1 i) (y.getD i 0) J J J J oM (Tr.idxArr1 J J J J Y177 Sz2 _ J oM ?_)
    rw [hsub]
    refine Tr.store1 J J J J J Sz2 Z2 (by (simp [wdsV_length, hal]; omega)) (by exact set_wds _ _ _) (by exact upd2) ?_
    refine Tr.nil (bl_n (at_n (Sat.region (Tr.move J J J (Tr.add_i64 J J J J oM (Tr.assign J J J (Tr.nil (at_n ?_))))))))
    exact ⟨i + 1, by omega, by omega, weak_of (wk1 rfl (wk1 rfl (wk1 rfl (wk1 rfl wk0)))) (wh1 Z0 (wh1 Z1 (wh1 Z2 wh0))) nD⟩
  ·
   rw [show subAt x y i = A from by rw [show i = 10 by omega]; exact hA.out]
   refine Sat.exit (at_x (at_x (bl_h (at_n (Sat.seq (Sat.region (Tr.loadAll J J J Y177 J Sz177 Z2 (by (simp [wdsV_length, hAl]; done)) ?_)))))))
   refine Tr.callV J J J J Body230 (hc) (fun _ _ => trivial) (Tr.storeAll J J J J (by exact wdsV_cell _) Sz177 (by (simp [wdsV_length, hUl]; done)) Z0 sP zU ?_)
   refine Tr.nil (at_n (Sat.ret (en_r ?_)))
   refine ⟨_, [], res_cell J J Y177 J Sz177 Z0 (by simp [wdsV_length, hUl]), sP, sP, ?_, rfl⟩
   rfl

theorem r3_Times (x y : List Nat) (hx : Fit10 x) (hy : Fit10 y) : Meets Tryz.prog 197 [agg (wdsV x), agg (wdsV y)] [] (fun _ => True) (fun v out => v = agg (wdsV (mulT x y)) ∧ out = []) := by
 intro W hW
 have hxl := hx.len
 have hyl := hy.len
 obtain ⟨A, hA⟩ : ∃ A, Hid (tAll x y 10 = A) := ⟨_, ⟨rfl⟩⟩
 obtain ⟨U, hU⟩ : ∃ U, Hid (car10 (tAll x y 10) = U) := ⟨_, ⟨rfl⟩⟩
 have hAl : A.length = 10 := by rw [← hA.out]; exact tAll_length x y 10
 have hUl : U.length = 10 := by rw [← hU.out]; exact car10_length _
 have hc := r3_carry A (by rw [← hA.out]; exact tAll_mid hx hy)
 rw [show car10 A = U from by rw [← hA.out]; exact hU.out] at hc
 have hcc := r3_carry U (by rw [← hU.out]; exact car10_mid (tAll_v10 hx hy))
 obtain ⟨V, hV⟩ : ∃ V, Hid (mulT x y = V) := ⟨_, ⟨rfl⟩⟩
 have hVl : V.length = 10 := by rw [← hV.out]; exact car10_length _
 rw [show car10 U = V from by rw [← hU.out]; exact hV.out] at hcc
 rw [hV.out]
 have hal := hAl
 refine calls_of (hp0 := []) Tryz.func197 J 56 Tryz.ntmps197 J (HRep.nil _) (Sat.seq (Sat.region (Tr.boxA J J ?_)))
 intro n2 hn2 hf2
 refine Tr.boxA J J ?_
 intro n3 hn3 hf3
 refine Tr.alloc (cs := (intsV (List.replicate 10 0))) J Zr177 J ?_
 intro n4 hn4 hf4
 refine Tr.nil (at_n (Sat.seq (Sat.region (Tr.alloc (cs := (intsV (List.replicate 10 0))) J Zr177 J ?_))))
 intro n5 hn5 hf5
 refine Tr.nil (at_n (Sat.seq (Sat.seq (Sat.region (Tr.assign J J J (Tr.nil (at_n (Sat.block (Sat.loop (ι := Nat) (fun i => ⟨[(2, ptr n2 0), (3, ptr n3 0), (4, ptr n4 0), (5, ptr n5 0), (6, i64 (i : Int))], [⟨n5, wdsV (tAll x y i), 177, 10⟩, ⟨n4, (intsV (List.replicate 10 0)), 177, 10⟩, ⟨n3, wdsV y, 177, (wdsV y).length⟩, ⟨n2, wdsV x, 177, (wdsV x).length⟩]⟩) (fun i => i ≤ 10) (fun i => 10 - i) (0) ?_ ?_ ?_)))))))))
 · omega
 · exact weak_of (wk1 rfl (wk1 rfl (wk1 rfl (wk1 rfl (wk1 rfl wk0))))) (wh1 (by rw [show wdsV (tAll x y 0) = intsV (List.replicate 10 0) from rfl]; exact mem0) (wh1 Z1 (wh1 Z2 (wh1 Z3 wh0)))) nD
 ·
  rintro i hi
  refine Sat.seq (Sat.seq (Sat.region (Tr.move J J J (Tr.lss J J J J J (Tr.nil (at_n (Sat.condP J (fun hc0 => ?_) (fun hc0 => ?_))))))))
  ·
   have hi2 : i < 10 := by omega
   refine Sat.skip (at_n (Sat.seq (Sat.block (Sat.seq (Sat.region (Tr.assign J J J (Tr.nil (at_n (Sat.block (Sat.loop (ι := Nat) (fun k => ⟨[(2, ptr n2 0), (3, ptr n3 0), (4, ptr n4 0), (5, ptr n5 0), (6, i64 (i : Int)), (7, i64 (k : Int))], [⟨n5, wdsV (tRow x y i (tAll x y i) k), 177, 10⟩, ⟨n4, (intsV (List.replicate 10 0)), 177, 10⟩, ⟨n3, wdsV y, 177, (wdsV y).length⟩, ⟨n2, wdsV x, 177, (wdsV x).length⟩]⟩) (fun k => k ≤ 10) (fun k => 10 - k) (0) ?_ ?_ ?_))))))))))
   · omega
   · exact weak_of (wk1 rfl (wk1 rfl (wk1 rfl (wk1 rfl (wk1 rfl (wk1 rfl wk0)))))) (wh1 Z0 (wh1 Z1 (wh1 Z2 (wh1 Z3 wh0)))) nD
   ·
    rintro k hk
    have hal := tRow_length x y i (tAll_length x y i) k
    refine Sat.seq (Sat.seq (Sat.region (Tr.move J J J (Tr.lss J J J J J (Tr.nil (at_n (Sat.condP J (fun hc1 => ?_) (fun hc1 => ?_))))))))
    ·
     have hk2 : k < 10 := by omega
     have hxy := prod_le hx hy hi2 hk2
     have hcf : cf2 i k * (x.getD i 0 * y.getD k 0) ≤ 2 * 18014398509481984 := Nat.mul_le_mul (cf2_le i k) hxy
     have hco := term_le hx hy i k hi2 hk2
     have hbd := tRow_bd hx hy (m := (i + k) % 10) hi2 (show k ≤ 10 by omega) (Nat.mod_lt _ dE)
     refine Sat.skip (at_n (Sat.seq (Sat.block (Sat.seq (Sat.draw [(0, 0), (0, 1), (1, 2), (0, 3), (0, 4), (1, 5), (0, 6), (0, 7)] Mixed zK (Tr.move J J J (Tr.idxArr1 J J J J Y177 Sz2 _ J oM (Tr.load1 J J J Y2 J Z3 (by exact get_wds oM) ?_))))))))
     refine Tr.move J J J (Tr.idxArr1 J J J J Y177 Sz2 _ J oM (Tr.load1 J J J Y2 J Z2 (by exact get_wds oM) ?_))
     refine Tr.mulN (x.getD i 0) (y.getD k 0) J J J J oM (Tr.assign J J J (Tr.nil (at_n (Sat.join (ι := Unit) (fun _u => ⟨[(2, ptr n2 0), (3, ptr n3 0), (4, ptr n4 0), (5, ptr n5 0), (6, i64 (i : Int)), (7, i64 (k : Int)), (8, i64 ((cf2 i k * (x.getD i 0 * y.getD k 0) : Nat) : Int))], [⟨n5, wdsV (tRow x y i (tAll x y i) k), 177, 10⟩, ⟨n4, (intsV (List.replicate 10 0)), 177, 10⟩, ⟨n3, wdsV y, 177, (wdsV y).length⟩, ⟨n2, wdsV x, 177, (wdsV x).length⟩]⟩) (fun _u => True) ?_ ?_))))
     ·
      refine Sat.seq (Sat.region (Tr.move J J J (Tr.remN (i) (2) J J J J dE (two (fun r hr k => Tr.eqi J J J J hr k) (fun hs9_20 => ?_) (fun hs9_20 => ?_)))))
      ·
       have hs9_2 := of_decide_eq_true hs9_20
       refine Tr.move J J J (Tr.move J J J (Tr.remN (k) (2) J J J J dE (two (fun r hr k => Tr.eqi J J J J hr k) (fun hs9_60 => ?_) (fun hs9_60 => ?_))))
       ·
        have hs9_6 := of_decide_eq_true hs9_60
        refine Tr.pick J J J J J J (Tr.nil (at_n (Sat.cond_t J J (Sat.region (Tr.move J J J (Tr.mulN (2) (x.getD i 0 * y.getD k 0) J J J J oM (Tr.assign J J J (Tr.nil (at_n ?_)))))))))
        (rw [cf2_t _ hs9_2 hs9_6]; exact ⟨(), trivial, weak_of (wk1 rfl (wk1 rfl (wk1 rfl (wk1 rfl (wk1 rfl (wk1 rfl (wk1 rfl wk0))))))) (wh1 Z0 (wh1 Z1 (wh1 Z2 (wh1 Z3 wh0)))) nD⟩)
       ·
        have hs9_6 := of_decide_eq_false hs9_60
        refine Tr.pick J J J J J J (Tr.nil (at_n (Sat.cond_f J J (Sat.skip (at_n ?_)))))
        (rw [cf2_b _ hs9_6]; exact ⟨(), trivial, weak_of (wk1 rfl (wk1 rfl (wk1 rfl (wk1 rfl (wk1 rfl (wk1 rfl (wk1 rfl wk0))))))) (wh1 Z0 (wh1 Z1 (wh1 Z2 (wh1 Z3 wh0)))) nD⟩)
      ·
       have hs9_2 := of_decide_eq_false hs9_20
       refine Tr.move J J J (Tr.skp J J (Tr.skp J J (Tr.skp J J (Tr.pick J J J J J J (Tr.nil (at_n (Sat.cond_f J J (Sat.skip (at_n ?_)))))))))
       (rw [cf2_a _ hs9_2]; exact ⟨(), trivial, weak_of (wk1 rfl (wk1 rfl (wk1 rfl (wk1 rfl (wk1 rfl (wk1 rfl (wk1 rfl wk0))))))) (wh1 Z0 (wh1 Z1 (wh1 Z2 (wh1 Z3 wh0)))) nD⟩)
     ·
      intro _u hj
      skip
      refine Sat.join (ι := Unit) (fun _u => ⟨[(2, ptr n2 0), (3, ptr n3 0), (4, ptr n4 0), (5, ptr n5 0), (6, i64 (i : Int)), (7, i64 (k : Int)), (8, i64 ((coef i k * (x.getD i 0 * y.getD k 0) : Nat) : Int))], [⟨n5, wdsV (tRow x y i (tAll x y i) k), 177, 10⟩, ⟨n4, (intsV (List.replicate 10 0)), 177, 10⟩, ⟨n3, wdsV y, 177, (wdsV y).length⟩, ⟨n2, wdsV x, 177, (wdsV x).length⟩]⟩) (fun _u => True) ?_ ?_
      ·
       refine Sat.seq (Sat.region (Tr.move J J J (Tr.move J J J (Tr.addN (i) (k) J J J J oM (Tr.gtr J J J J J (Tr.nil (at_n (Sat.condP J (fun hc3 => ?_) (fun hc3 => ?_)))))))))
       ·
        refine Sat.region (Tr.move J J J (Tr.mulN (19) (cf2 i k * (x.getD i 0 * y.getD k 0)) J J J J oM (Tr.assign J J J (Tr.nil (at_n ?_)))))
        (rw [coef_hi _ hc3]; exact ⟨(), trivial, weak_of (wk1 rfl (wk1 rfl (wk1 rfl (wk1 rfl (wk1 rfl (wk1 rfl (wk1 rfl wk0))))))) (wh1 Z0 (wh1 Z1 (wh1 Z2 (wh1 Z3 wh0)))) nD⟩)
       ·
        refine Sat.skip (at_n ?_)
        (rw [coef_lo _ hc3]; exact ⟨(), trivial, weak_of (wk1 rfl (wk1 rfl (wk1 rfl (wk1 rfl (wk1 rfl (wk1 rfl (wk1 rfl wk0))))))) (wh1 Z0 (wh1 Z1 (wh1 Z2 (wh1 Z3 wh0)))) nD⟩)
      ·
       intro _u hj
       skip
       refine Sat.region (Tr.move J J J (Tr.move J J J (Tr.addN (i) (k) J J J J oM (Tr.remN (i + k) (10) J J J J dE (Tr.move J J J (Tr.move J J J (Tr.addN (i) (k) J J J J oM (Tr.remN (i + k) (10) J J J J dE (Tr.idxArr1 J J J J Y177 Sz2 _ J oM (Tr.load1 J J J Y2 J Z0 (by exact get_wds oM) ?_))))))))))
       refine Tr.move J J J (Tr.addN ((tRow x y i (tAll x y i) k).getD ((i + k) % 10) 0) (coef i k * (x.getD i 0 * y.getD k 0)) J J J J oM (Tr.idxArr1 J J J J Y177 Sz2 _ J oM (Tr.store1 J J J J J Sz2 Z0 (by (simp [wdsV_length, hal]; omega)) (by exact set_wds _ _ _) zU ?_)))
       refine Tr.nil (bl_n (at_n (Sat.region (Tr.move J J J (Tr.add_i64 J J J J oM (Tr.assign J J J (Tr.nil (at_n ?_))))))))
       exact ⟨k + 1, by omega, by omega, weak_of (wk1 rfl (wk1 rfl (wk1 rfl (wk1 rfl (wk1 rfl (wk1 rfl wk0)))))) (wh1 Z0 (wh1 Z1 (wh1 Z2 (wh1 Z3 wh0)))) nD⟩
    ·
     refine Sat.exit (at_x (at_x (bl_h (bl_n (at_n (Sat.region (Tr.move J J J (Tr.add_i64 J J J J oM (Tr.assign J J J (Tr.nil (at_n ?_)))))))))))
     exact ⟨i + 1, by omega, by omega, weak_of (wk1 rfl (wk1 rfl (wk1 rfl (wk1 rfl (wk1 rfl wk0))))) (wh1 (by rw [show tAll x y (i + 1) = (tRow x y i (tAll x y i) k) from by rw [show k = 10 by omega]; rfl]; exact mem0) (wh1 Z1 (wh1 Z2 (wh1 Z3 wh0)))) nD⟩
  ·
   rw [show tAll x y i = A from by rw [show i = 10 by omega]; exact hA.out]
   refine Sat.exit (at_x (at_x (bl_h (at_n (Sat.seq (Sat.region (Tr.loadAll J J J Y177 J Sz177 Z0 (by (simp [wdsV_length, hAl]; done)) ?_)))))))
   refine Tr.callV J J J J Body230 (hc) (fun _ _ => trivial) (Tr.callV J J J J Body230 (hcc) (fun _ _ => trivial) (Tr.storeAll J J J J (by exact wdsV_cell _) Sz177 (by (simp [wdsV_length, hVl]; done)) Z1 sP zV ?_))
   refine Tr.nil (at_n (Sat.ret (en_r ?_)))
   refine ⟨_, [], res_cell J J Y177 J Sz177 Z1 (by simp [wdsV_length, hVl]), sP, sP, ?_, rfl⟩
   rfl

end Go.Proofs.YtpacobmjjjillaaGreat
end

section
namespace Ed
open Hw Go
set_option linter.unusedVariables false

def oneT : List Nat := 1 :: List.replicate 9 0
def powT (x : List Nat) (E : Nat) : Nat → List Nat
  | 0 => oneT
  | j + 1 => if E.testBit (255 - j) = true then mulT (mulT (powT x E j) (powT x E j)) x else mulT (powT x E j) (powT x E j)
theorem oneT_v : fe (v10 oneT) = 1 := by kernel_rfl
theorem oneT_fit : Fit10 oneT := ⟨rfl, by decide, fun i h1 h2 => by
  have : ∀ i : _root_.Fin 10, oneT.getD i.val 0 < 2 ^ bitsAt i.val := by decide
  exact this ⟨i, h2⟩⟩
theorem test_div (E j : Nat) (b : Bool) (h : E.testBit j = b) : E / 2 ^ j % 2 = (if b = true then 1 else 0) := by
  rw [← h, Nat.testBit_eq_decide_div_mod_eq]
  simp only [decide_eq_true_eq]
  split <;> omega
theorem powT_ok {x : List Nat} (hx : Fit10 x) {E : Nat} (hE : E < 2 ^ 256) : ∀ j, j ≤ 256 → Fit10 (powT x E j) ∧ fe (v10 (powT x E j)) = fpow (fe (v10 x)) (E / 2 ^ (256 - j))
  | 0, _ => ⟨oneT_fit, by rw [powT, oneT_v, show 256 - 0 = 256 from rfl, Nat.div_eq_of_lt hE, fpow_zero]⟩
  | j + 1, hj => by
    obtain ⟨h1, h2⟩ := powT_ok hx hE j oM
    have h3 : E / 2 ^ (256 - (j + 1)) ≤ E := Nat.div_le_self _ _
    rw [next_div E j oM] at h3 ⊢
    rw [powT]
    cases hb : E.testBit (255 - j) with
    | true =>
      have h4 := test_div E (255 - j) true hb
      rw [if_pos rfl] at h4
      rw [h4] at h3 ⊢
      rw [if_pos rfl]
      refine ⟨mulT_fit (mulT_fit h1 h1) hx, ?_⟩
      rw [mulT_v (mulT_length _ _) hx.len, mulT_v h1.len h1.len, h2, fpow_succ oM, fpow_two oM]
    | false =>
      have h4 := test_div E (255 - j) false hb
      rw [if_neg dE] at h4
      rw [h4] at h3 ⊢
      rw [if_neg dE]
      refine ⟨mulT_fit h1 h1, ?_⟩
      rw [mulT_v h1.len h1.len, h2, Nat.add_zero, fpow_two oM]
theorem powT_all {x : List Nat} (hx : Fit10 x) {E : Nat} (hE : E < 2 ^ 256) : fe (v10 (powT x E 256)) = fpow (fe (v10 x)) E := by
  have h := (powT_ok hx hE 256 (Nat.le_refl _)).2
  rwa [Nat.sub_self, Nat.pow_zero, Nat.div_one] at h
theorem powT_t {x : List Nat} {E j : Nat} (h : E.testBit (255 - j) = true) : powT x E (j + 1) = mulT (mulT (powT x E j) (powT x E j)) x := if_pos h
theorem powT_f {x : List Nat} {E j : Nat} (h : E.testBit (255 - j) = false) : powT x E (j + 1) = mulT (powT x E j) (powT x E j) := if_neg (by rw [h]; decide)
def halfAt (M i : Nat) : List UInt8 := (leb 32 (M / 2)).take i ++ (leb 32 M).drop i
theorem halfAt_length (M i : Nat) (h : i ≤ 32) : (halfAt M i).length = 32 := by
  rw [halfAt, List.length_append, List.length_take, List.length_drop, leb_length, leb_length]; omega
theorem halfAt_zero (M : Nat) : halfAt M 0 = leb 32 M := rfl
theorem halfAt_end (M : Nat) : halfAt M 32 = leb 32 (M / 2) := by
  rw [halfAt, List.take_of_length_le (by rw [leb_length]; exact Nat.le_refl _), List.drop_of_length_le (by rw [leb_length]; exact Nat.le_refl _), List.append_nil]
theorem halfAt_get (M : Nat) {i j : Nat} (hi : i ≤ j) (hj : j < 32) : (halfAt M i).getD j 0 = UInt8.ofNat (M / 256 ^ j) := by
  rw [halfAt, List.getD_eq_getElem?_getD, List.getElem?_append_right (by rw [List.length_take, leb_length]; omega), List.length_take, leb_length, List.getElem?_drop, show i + (j - min i 32) = j by omega, leb_get 32 M j hj]
  rfl
theorem half_byte (M i : Nat) : M / 2 / 256 ^ i % 256 = M / 256 ^ i % 256 / 2 + 128 * (M / 256 ^ (i + 1) % 2) := by
  have e1 : M / 2 / 256 ^ i = M / 256 ^ i / 2 := by rw [Nat.div_div_eq_div_mul, Nat.div_div_eq_div_mul, Nat.mul_comm]
  have e2 : M / 256 ^ (i + 1) = M / 256 ^ i / 256 := by rw [Nat.div_div_eq_div_mul, Nat.pow_succ]
  rw [e1, e2]
  generalize M / 256 ^ i = x
  omega
theorem halfAt_next (M : Nat) {i : Nat} (h : i < 32) (v : UInt8) (hv : v = UInt8.ofNat (M / 2 / 256 ^ i)) : (halfAt M i).set i v = halfAt M (i + 1) := by
  have hl : (leb 32 (M / 2)).length = 32 := leb_length _ _
  have hl2 : (leb 32 M).length = 32 := leb_length _ _
  have e : (leb 32 (M / 2)).take (i + 1) = (leb 32 (M / 2)).take i ++ [v] := by
    have e3 : (leb 32 (M / 2))[i]'oM = v := by
      have := leb_get 32 (M / 2) i h
      rw [List.getElem?_eq_getElem oM] at this
      rw [hv]
      exact Option.some.inj this
    rw [← e3]
    exact List.take_succ_eq_append_getElem oM
  have e2 : (leb 32 M).drop i = (leb 32 M)[i]'oM :: (leb 32 M).drop (i + 1) := List.drop_eq_getElem_cons oM
  rw [halfAt, halfAt, e, e2, List.set_append_right _ _ (by rw [List.length_take, hl]; omega), List.length_take, hl, show i - min i 32 = 0 by omega, List.set_cons_zero, List.append_assoc]
  rfl
theorem half_odd (M : Nat) {i : Nat} (h : i < 31) (hb : (((halfAt M i).set i (UInt8.ofNat (((halfAt M i).getD i 0).toNat / 2))).getD (i + 1) 0).toNat % 2 = 1) :
    ((halfAt M i).set i (UInt8.ofNat (((halfAt M i).getD i 0).toNat / 2))).set i (((halfAt M i).set i (UInt8.ofNat (((halfAt M i).getD i 0).toNat / 2))).getD i 0 + 128) = halfAt M (i + 1) := by
  have hl := halfAt_length M i oM
  have g1 : ((halfAt M i).set i (UInt8.ofNat (((halfAt M i).getD i 0).toNat / 2))).getD i 0 = UInt8.ofNat (((halfAt M i).getD i 0).toNat / 2) := by
    rw [List.getD_eq_getElem?_getD, List.getElem?_set_self oM]; rfl
  have g2 : ((halfAt M i).set i (UInt8.ofNat (((halfAt M i).getD i 0).toNat / 2))).getD (i + 1) 0 = UInt8.ofNat (M / 256 ^ (i + 1)) := by
    rw [List.getD_eq_getElem?_getD, List.getElem?_set_ne oM, ← List.getD_eq_getElem?_getD, halfAt_get M oM oM]
  rw [g2, UInt8.toNat_ofNat'] at hb
  rw [g1, List.set_set]
  refine halfAt_next M oM _ ?_
  rw [halfAt_get M (Nat.le_refl _) oM, show (128 : UInt8) = UInt8.ofNat 128 from rfl, ← UInt8.ofNat_add, UInt8.toNat_ofNat']
  apply ofNat8
  have := half_byte M i
  omega
theorem half_even (M : Nat) {i : Nat} (h : i < 31) (hb : ¬ (((halfAt M i).set i (UInt8.ofNat (((halfAt M i).getD i 0).toNat / 2))).getD (i + 1) 0).toNat % 2 = 1) :
    (halfAt M i).set i (UInt8.ofNat (((halfAt M i).getD i 0).toNat / 2)) = halfAt M (i + 1) := by
  have hl := halfAt_length M i oM
  have g2 : ((halfAt M i).set i (UInt8.ofNat (((halfAt M i).getD i 0).toNat / 2))).getD (i + 1) 0 = UInt8.ofNat (M / 256 ^ (i + 1)) := by
    rw [List.getD_eq_getElem?_getD, List.getElem?_set_ne oM, ← List.getD_eq_getElem?_getD, halfAt_get M oM oM]
  rw [g2, UInt8.toNat_ofNat'] at hb
  refine halfAt_next M oM _ ?_
  rw [halfAt_get M (Nat.le_refl _) oM, UInt8.toNat_ofNat']
  apply ofNat8
  have := half_byte M i
  omega
theorem half_last (M : Nat) (hM : M < 2 ^ 256) : (halfAt M 31).set 31 (UInt8.ofNat (((halfAt M 31).getD 31 0).toNat / 2)) = halfAt M 32 := by
  refine halfAt_next M oM _ ?_
  rw [halfAt_get M (Nat.le_refl _) oM, UInt8.toNat_ofNat']
  apply ofNat8
  have := half_byte M 31
  have h2 : M / 256 ^ (31 + 1) = 0 := Nat.div_eq_of_lt (Nat.lt_of_lt_of_le hM dE)
  omega
theorem ones_leb (f l : UInt8) : leb 32 (le (onesB f l)) = onesB f l := by
  have := leb_le (onesB f l)
  rwa [onesB_length] at this
/-- what the reference raises to -/
def expT (n k : Nat) : List UInt8 := leb 32 (le (onesB (UInt8.ofNat (237 - n)) 127) / 2 ^ k)
theorem expT_length (n k : Nat) : (expT n k).length = 32 := leb_length _ _
theorem expT_inv : le (expT 2 0) = PF - 2 := by kernel_rfl
theorem expT_root : le (expT 5 3) = (PF - 5) / 8 := by kernel_rfl
theorem expT_unit : le (expT 1 2) = (PF - 1) / 4 := by kernel_rfl
theorem root_step (X : Fp) : fpow X ((PF - 5) / 8) * X = fpow X ((PF + 3) / 8) := by
  rw [← fpow_succ dE]
  rfl
end Ed
end

section
namespace Go.Proofs.YtpacobmjjjillaaGreat
open Go Hw
set_option linter.unusedVariables false
set_option linter.unusedSimpArgs false

open Ed

theorem o_fit {a : List UInt8} (ha : a.length = 32) : Fit10 (openT (le a)) := openT_fit (le32 ha)
theorem o_v {a : List UInt8} (ha : a.length = 32) : fe (v10 (openT (le a))) = fe (le a) := openT_v (le32 ha)
/-- closed words -/
theorem r3_Close_v (w : List Nat) (hw : Fit10 w) (X : Fp) (h : fe (v10 w) = X) : Meets Tryz.prog 196 [agg (wdsV w)] [] (fun _ => True) (fun v out => v = agg (bytesV (fb X)) ∧ out = []) := by
  rw [← h]; exact r3_Close w hw

theorem r3_Rest (a : List UInt8) (ha : a.length = 32) : Meets Tryz.prog 195 [agg (bytesV a)] [] (fun _ => True) (fun v out => v = agg (bytesV (fb (fe (le a)))) ∧ out = []) := by
 intro W hW
 refine calls_of (hp0 := []) Tryz.func195 J 6 Tryz.ntmps195 J (HRep.nil _) (Sat.seq (Sat.region (Tr.boxA J J ?_)))
 intro n1 hn1 hf1
 refine Tr.alloc (cs := (bytesV (List.replicate 32 0))) J Zr77 J ?_
 intro n2 hn2 hf2
 refine Tr.nil (at_n (Sat.seq (Sat.region (Tr.loadAll J J J Y77 J Sz77 Z1 (by (simp [ha]; done)) ?_))))
 refine Tr.callV J J J J Body188 (r3_Open (a) (ha)) (fun _ _ => trivial) (Tr.callV J J J J Body196 (r3_Close_v (_) (o_fit ha) (_) (o_v ha)) (fun _ _ => trivial) (Tr.storeAll J J J J zE Sz77 zF Z0 sP zU ?_))
 refine Tr.nil (at_n (Sat.ret (en_r ?_)))
 refine ⟨_, [], res_cell J J Y77 J Sz77 Z0 (by simp [fb_length]), sP, sP, ?_, rfl⟩
 rfl

theorem r3_Canon (a : List UInt8) (ha : a.length = 32) : Meets Tryz.prog 184 [agg (bytesV a)] [] (fun _ => True) (fun v out => v = .bool (decide (fb (fe (le a)) = a)) ∧ out = []) := by
 intro W hW
 refine calls_of (hp0 := []) Tryz.func184 J 7 Tryz.ntmps184 J (HRep.nil _) (Sat.seq (Sat.region (Tr.boxA J J ?_)))
 intro n1 hn1 hf1
 refine Tr.assign J J J (Tr.nil (at_n (Sat.seq (Sat.draw [(1, 0), (1, 2), (3, 1), (0, 3), (0, 4)] Mixed zK (Tr.loadAll J J J Y77 J Sz77 Z0 (by (simp [ha]; done)) ?_)))))
 refine Tr.loadAll J J J Y77 J Sz77 Z0 (by (simp [ha]; done)) ?_
 refine Tr.callV J J J J Body195 (r3_Rest (a) (ha)) (fun _ _ => trivial) (Tr.eql_bytes J J J J Tryz.eqGuardType77 Y77 Y5 Sz5 zF (by (simp [ha]; done)) J ?_)
 refine Tr.assign J J J (Tr.nil (at_n (Sat.ret (en_r ?_))))
 refine ⟨_, [], res_tmp J J, sP, sP, ?_, rfl⟩
 rfl

theorem r3_Same (a b : List UInt8) (ha : a.length = 32) (hb : b.length = 32) : Meets Tryz.prog 234 [agg (bytesV a), agg (bytesV b)] [] (fun _ => True) (fun v out => v = .bool (decide (fe (le a) = fe (le b))) ∧ out = []) := by
 intro W hW
 refine calls_of (hp0 := []) Tryz.func234 J 10 Tryz.ntmps234 J (HRep.nil _) (Sat.seq (Sat.region (Tr.boxA J J ?_)))
 intro n2 hn2 hf2
 refine Tr.boxA J J ?_
 intro n3 hn3 hf3
 refine Tr.assign J J J (Tr.nil (at_n (Sat.seq (Sat.draw [(1, 0), (1, 2), (3, 1), (3, 3), (0, 4), (0, 5)] Mixed zK (Tr.loadAll J J J Y77 J Sz77 Z1 (by (simp [ha]; done)) ?_)))))
 refine Tr.loadAll J J J Y77 J Sz77 Z0 (by (simp [hb]; done)) ?_
 refine Tr.callV J J J J Body195 (r3_Rest (a) (ha)) (fun _ _ => trivial) (Tr.callV J J J J Body195 (r3_Rest (b) (hb)) (fun _ _ => trivial) (Tr.eql_bytes J J J J Tryz.eqGuardType77 Y77 Y5 Sz5 zF zF J (Tr.assign J J J (Tr.nil (at_n (Sat.ret (en_r ?_)))))))
 refine ⟨_, [], res_tmp J J, sP, sP, ?_, rfl⟩
 rw [fb_dec]

theorem odd_byte2 (x : Fp) : decide (((UInt8.ofNat (((fb x).getD 0 0).toNat % 2)).toNat : Int) = 1) = decide (x.val % 2 = 1) := by
  have e : (UInt8.ofNat (((fb x).getD 0 0).toNat % 2)).toNat = x.val % 2 := by
    rw [fb_head, UInt8.toNat_ofNat', UInt8.toNat_ofNat']
    omega
  rw [e]
  congr 1
  exact propext ⟨fun h => by omega, fun h => by omega⟩

theorem r3_Odd (a : List UInt8) (ha : a.length = 32) : Meets Tryz.prog 119 [agg (bytesV a)] [] (fun _ => True) (fun v out => v = .bool (decide ((fe (le a)).val % 2 = 1)) ∧ out = []) := by
 intro W hW
 refine calls_of (hp0 := []) Tryz.func119 J 8 Tryz.ntmps119 J (HRep.nil _) (Sat.seq (Sat.region (Tr.boxA J J ?_)))
 intro n1 hn1 hf1
 refine Tr.assign J J J (Tr.nil (at_n (Sat.seq (Sat.region (Tr.loadAll J J J Y77 J Sz77 Z0 (by (simp [ha]; done)) ?_)))))
 refine Tr.callV J J J J Body195 (r3_Rest (a) (ha)) (fun _ _ => trivial) (Tr.idxA1 J J J J Y77 Sz5 Y5 J 0 J oM (by rfl) ?_)
 refine Tr.rem_u8 J J J J 2 J dE (Tr.eqi J J J J J (Tr.assign J J J (Tr.nil (at_n (Sat.ret (en_r ?_))))))
 refine ⟨_, [], res_tmp J J, sP, sP, ?_, rfl⟩
 exact congrArg Value.bool (odd_byte2 _)

theorem r3_Of (x : UInt64) : Meets Tryz.prog 123 [u64 x] [] (fun _ => True) (fun v out => v = agg (bytesV (fb (fe x.toNat))) ∧ out = []) := by
 intro W hW
 have hpl : True := trivial
 refine calls_of (hp0 := []) Tryz.func123 J 18 Tryz.ntmps123 J (HRep.nil _) (Sat.seq (Sat.region (Tr.alloc (cs := (bytesV (List.replicate 32 0))) J Zr77 J ?_)))
 intro n2 hn2 hf2
 refine Tr.nil (at_n (Sat.seq (Sat.region (Tr.alloc (cs := (bytesV (List.replicate 32 0))) J Zr77 J ?_))))
 intro n3 hn3 hf3
 refine Tr.nil (at_n (Sat.seq (Sat.seq (Sat.region (Tr.assign J J J (Tr.nil (at_n (Sat.block (Sat.loop (ι := Nat) (fun k => ⟨[(0, u64 x), (2, ptr n2 0), (3, ptr n3 0), (4, i64 (k : Int))], [⟨n3, bytesV (padW 32 x.toNat k), 77, 32⟩, ⟨n2, bytesV (List.replicate 32 0), 77, 32⟩]⟩) (fun k => k ≤ 8) (fun k => 8 - k) (0) ?_ ?_ ?_)))))))))
 · omega
 · exact weak_of (wk1 rfl (wk1 rfl (wk1 rfl (wk1 rfl wk0)))) (wh1 (by rw [padW_zero]; exact mem0) (wh1 Z1 wh0)) nD
 ·
  rintro k hi
  have hpl := padW_length 32 x.toNat k oM
  refine Sat.seq (Sat.seq (Sat.region (Tr.move J J J (Tr.lss J J J J J (Tr.nil (at_n (Sat.condP J (fun hc0 => ?_) (fun hc0 => ?_))))))))
  ·
   refine Sat.skip (at_n (Sat.seq (Sat.block (Sat.region (Tr.move J J J (Tr.move J J J (Tr.move J J J (Tr.mul_i64 J J J J oM (Tr.conv J J J Y3 Y35 (cv_i64_u64 _) (Tr.shr_u64 J J J J (8 * k) (by rw [wordOf_id _ oM]; omega) oM ?_))))))))))
   refine Tr.conv J J J Y22 Y5 (cv_u64_u8 _) (Tr.idxArr1 J J J J Y77 Sz5 _ J oM (Tr.store1 J J J J J Sz5 Z0 (by (simp [hpl]; omega)) (by exact set_bytes _ _ _) zU ?_))
   refine Tr.nil (bl_n (at_n (Sat.region (Tr.move J J J (Tr.add_i64 J J J J oM (Tr.assign J J J (Tr.nil (at_n ?_))))))))
   exact ⟨k + 1, by omega, by omega, weak_of (wk1 rfl (wk1 rfl (wk1 rfl (wk1 rfl wk0)))) (wh1 (by rw [← zero_set x k oM]; exact mem0) (wh1 Z1 wh0)) nD⟩
  ·
   obtain rfl : k = 8 := by omega
   rw [pad_small] at *
   refine Sat.exit (at_x (at_x (bl_h (at_n (Sat.seq (Sat.region (Tr.loadAll J J J Y77 J Sz77 Z0 (by (simp [hpl]; done)) ?_)))))))
   refine Tr.storeAll J J J J zE Sz77 (by (simp [hpl]; done)) Z1 sP zV ?_
   refine Tr.nil (at_n (Sat.ret (en_r ?_)))
   refine ⟨_, [], res_cell J J Y77 J Sz77 Z1 (by simp [hpl]), sP, sP, ?_, rfl⟩
   rw [fe_small]

theorem mul_ab {a b : List UInt8} (ha : a.length = 32) (hb : b.length = 32) : fe (v10 (mulT (openT (le a)) (openT (le b)))) = fe (le a) * fe (le b) := by rw [mulT_v (o_fit ha).len (o_fit hb).len, o_v ha, o_v hb]
theorem sub_ab {a b : List UInt8} (ha : a.length = 32) (hb : b.length = 32) : fe (v10 (minusT (openT (le a)) (openT (le b)))) = fe (le a) - fe (le b) := by rw [minusT_v (o_fit ha).len (o_fit hb), o_v ha, o_v hb]

theorem r3_Mul (a b : List UInt8) (ha : a.length = 32) (hb : b.length = 32) : Meets Tryz.prog 122 [agg (bytesV a), agg (bytesV b)] [] (fun _ => True) (fun v out => v = agg (bytesV (fb (fe (le a) * fe (le b)))) ∧ out = []) := by
 intro W hW
 refine calls_of (hp0 := []) Tryz.func122 J 11 Tryz.ntmps122 J (HRep.nil _) (Sat.seq (Sat.region (Tr.boxA J J ?_)))
 intro n2 hn2 hf2
 refine Tr.boxA J J ?_
 intro n3 hn3 hf3
 refine Tr.alloc (cs := (bytesV (List.replicate 32 0))) J Zr77 J ?_
 intro n4 hn4 hf4
 refine Tr.nil (at_n (Sat.seq (Sat.draw [(1, 0), (1, 2), (3, 1), (3, 3), (3, 4), (3, 5), (4, 6)] Mixed zK (Tr.loadAll J J J Y77 J Sz77 Z2 (by (simp [ha]; done)) ?_))))
 refine Tr.loadAll J J J Y77 J Sz77 Z1 (by (simp [hb]; done)) ?_
 refine Tr.callV J J J J Body188 (r3_Open (a) (ha)) (fun _ _ => trivial) (Tr.callV J J J J Body188 (r3_Open (b) (hb)) (fun _ _ => trivial) (Tr.callV J J J J Body197 (r3_Times (_) (_) (o_fit ha) (o_fit hb)) (fun _ _ => trivial) (Tr.callV J J J J Body196 (r3_Close_v (_) (mulT_fit (o_fit ha) (o_fit hb)) (_) (mul_ab ha hb)) (fun _ _ => trivial) (Tr.storeAll J J J J zE Sz77 zF Z0 sP zU ?_))))
 refine Tr.nil (at_n (Sat.ret (en_r ?_)))
 refine ⟨_, [], res_cell J J Y77 J Sz77 Z0 (by simp [fb_length]), sP, sP, ?_, rfl⟩
 rfl

theorem r3_Sub (a b : List UInt8) (ha : a.length = 32) (hb : b.length = 32) : Meets Tryz.prog 194 [agg (bytesV a), agg (bytesV b)] [] (fun _ => True) (fun v out => v = agg (bytesV (fb (fe (le a) - fe (le b)))) ∧ out = []) := by
 intro W hW
 refine calls_of (hp0 := []) Tryz.func194 J 11 Tryz.ntmps194 J (HRep.nil _) (Sat.seq (Sat.region (Tr.boxA J J ?_)))
 intro n2 hn2 hf2
 refine Tr.boxA J J ?_
 intro n3 hn3 hf3
 refine Tr.alloc (cs := (bytesV (List.replicate 32 0))) J Zr77 J ?_
 intro n4 hn4 hf4
 refine Tr.nil (at_n (Sat.seq (Sat.draw [(1, 0), (1, 2), (3, 1), (3, 3), (3, 4), (3, 5), (4, 6)] Mixed zK (Tr.loadAll J J J Y77 J Sz77 Z2 (by (simp [ha]; done)) ?_))))
 refine Tr.loadAll J J J Y77 J Sz77 Z1 (by (simp [hb]; done)) ?_
 refine Tr.callV J J J J Body188 (r3_Open (a) (ha)) (fun _ _ => trivial) (Tr.callV J J J J Body188 (r3_Open (b) (hb)) (fun _ _ => trivial) (Tr.callV J J J J Body231 (r3_Minus (_) (_) (o_fit ha) (o_fit hb)) (fun _ _ => trivial) (Tr.callV J J J J Body196 (r3_Close_v (_) (minusT_fit (o_fit ha) (o_fit hb)) (_) (sub_ab ha hb)) (fun _ _ => trivial) (Tr.storeAll J J J J zE Sz77 zF Z0 sP zU ?_))))
 refine Tr.nil (at_n (Sat.ret (en_r ?_)))
 refine ⟨_, [], res_cell J J Y77 J Sz77 Z0 (by simp [fb_length]), sP, sP, ?_, rfl⟩
 rfl

theorem r3_Neg (a : List UInt8) (ha : a.length = 32) : Meets Tryz.prog 185 [agg (bytesV a)] [] (fun _ => True) (fun v out => v = agg (bytesV (fb (- fe (le a)))) ∧ out = []) := by
 intro W hW
 refine calls_of (hp0 := []) Tryz.func185 J 6 Tryz.ntmps185 J (HRep.nil _) (Sat.seq (Sat.region (Tr.boxA J J ?_)))
 intro n1 hn1 hf1
 refine Tr.alloc (cs := (bytesV (List.replicate 32 0))) J Zr77 J ?_
 intro n2 hn2 hf2
 refine Tr.nil (at_n (Sat.seq (Sat.region (Tr.build (cs := bytesV (List.replicate 32 0)) J J J (fun w => by kernel_rfl) ?_))))
 refine Tr.loadAll J J J Y77 J Sz77 Z1 (by (simp [ha]; done)) ?_
 refine Tr.callV J J J J Body194 (r3_Sub (List.replicate 32 0) (a) (rfl) (ha)) (fun _ _ => trivial) (Tr.storeAll J J J J zE Sz77 zF Z0 sP zU ?_)
 refine Tr.nil (at_n (Sat.ret (en_r ?_)))
 refine ⟨_, [], res_cell J J Y77 J Sz77 Z0 (by simp [fb_length]), sP, sP, ?_, rfl⟩
 rw [show fe (le (List.replicate 32 0)) - fe (le a) = - fe (le a) from by rw [show fe (le (List.replicate 32 0)) = 0 by kernel_rfl]; grind]

theorem oneT_l : oneT.length = 10 := rfl

theorem r3_Power (x : List Nat) (e : List UInt8) (hx : Fit10 x) (he : e.length = 32) : Meets Tryz.prog 233 [agg (wdsV x), agg (bytesV e)] [] (fun _ => True) (fun v out => v = agg (wdsV (powT x (le e) 256)) ∧ out = []) := by
 intro W hW
 have hxl := hx.len
 have hE := le32 he
 obtain ⟨U, hU⟩ : ∃ U, Hid (powT x (le e) 256 = U) := ⟨_, ⟨rfl⟩⟩
 have hUl : U.length = 10 := by rw [← hU.out]; exact (powT_ok hx hE 256 (Nat.le_refl _)).1.len
 rw [hU.out]
 have hpl := hUl
 refine calls_of (hp0 := []) Tryz.func233 J 29 Tryz.ntmps233 J (HRep.nil _) (Sat.seq (Sat.region (Tr.boxA J J ?_)))
 intro n2 hn2 hf2
 refine Tr.boxA J J ?_
 intro n3 hn3 hf3
 refine Tr.alloc (cs := (intsV (List.replicate 10 0))) J Zr177 J ?_
 intro n4 hn4 hf4
 refine Tr.nil (at_n (Sat.seq (Sat.region (Tr.build (cs := wdsV oneT) J J J (fun w => by kernel_rfl) ?_))))
 refine Tr.alloc (cs := (intsV (List.replicate 10 0))) J Zr177 J ?_
 intro n5 hn5 hf5
 refine Tr.storeAll J J J J (by exact wdsV_cell _) Sz177 (by (simp [wdsV_length, oneT_l]; done)) Z0 sP zU ?_
 refine Tr.nil (at_n (Sat.seq (Sat.seq (Sat.region (Tr.assign J J J (Tr.nil (at_n (Sat.block (Sat.loop (ι := Nat) (fun j => ⟨[(2, ptr n2 0), (3, ptr n3 0), (4, ptr n4 0), (5, ptr n5 0), (6, i64 (255 - (j : Int)))], [⟨n5, wdsV (powT x (le e) j), 177, 10⟩, ⟨n4, (intsV (List.replicate 10 0)), 177, 10⟩, ⟨n3, bytesV e, 77, (bytesV e).length⟩, ⟨n2, wdsV x, 177, (wdsV x).length⟩]⟩) (fun j => j ≤ 256) (fun j => 256 - j) (0) ?_ ?_ ?_)))))))))
 · omega
 · exact weak_of (wk1 rfl (wk1 rfl (wk1 rfl (wk1 rfl (wk1 rfl wk0))))) (wh1 (by rw [show powT x (le e) 0 = oneT from rfl]; exact mem0) (wh1 Z1 (wh1 Z2 (wh1 Z3 wh0)))) nD
 ·
  rintro j hj
  obtain ⟨hfit, hfv⟩ := powT_ok hx hE j hj
  have hpl := hfit.len
  have hml : (mulT (powT x (le e) j) (powT x (le e) j)).length = 10 := mulT_length _ _
  refine Sat.seq (Sat.seq (Sat.region (Tr.move J J J (Tr.geq J J J J J (Tr.nil (at_n (Sat.condP J (fun hc0 => ?_) (fun hc0 => ?_))))))))
  ·
   have hj2 : j < 256 := by omega
   rw [show (255 : Int) - (j : Int) = ((255 - j : Nat) : Int) by omega]
   refine Sat.skip (at_n (Sat.seq (Sat.block (Sat.seq (Sat.region (Tr.loadAll J J J Y177 J Sz177 Z0 (by (simp [wdsV_length, hpl]; done)) ?_))))))
   refine Tr.loadAll J J J Y177 J Sz177 Z0 (by (simp [wdsV_length, hpl]; done)) ?_
   refine Tr.callV J J J J Body197 (r3_Times _ _ hfit hfit) (fun _ _ => trivial) (Tr.storeAll J J J J (by exact wdsV_cell _) Sz177 (by (simp [wdsV_length, mulT_length]; done)) Z0 (by (simp [wdsV_length, hpl]; done)) zU ?_)
   refine Tr.nil (at_n (Sat.seq (Sat.region (Tr.move J J J (Tr.quoN (255 - j) (8) J J J J ⟨by decide, by omega⟩ ?_)))))
   refine Tr.idxArr1 J J J J Y77 Sz5 _ J oM (Tr.load1 J J J Y5 J Z2 zG ?_)
   refine Tr.move J J J (Tr.remN (255 - j) (8) J J J J dE (Tr.conv J J J Y3 Y35 (cv_i64_u64 _) (Tr.shr_u8 J J J J ((255 - j) % 8) (by rw [wordOf_id _ oM]) oM ?_)))
   refine Tr.rem_u8 J J J J 2 J dE (Tr.eqi J J J J J (Tr.nil (at_n (Sat.condP J (fun hc1 => ?_) (fun hc1 => ?_)))))
   ·
    have hbt := bit_is hc1
    refine Sat.region (Tr.loadAll J J J Y177 J Sz177 Z0 (by (simp [wdsV_length, mulT_length]; done)) ?_)
    refine Tr.loadAll J J J Y177 J Sz177 Z3 (by (simp [wdsV_length, hxl]; done)) ?_
    refine Tr.callV J J J J Body197 (r3_Times _ _ (mulT_fit hfit hfit) hx) (fun _ _ => trivial) (Tr.storeAll J J J J (by exact wdsV_cell _) Sz177 (by (simp [wdsV_length, mulT_length]; done)) Z0 (by (simp [wdsV_length, mulT_length]; done)) zU ?_)
    refine Tr.nil (bl_n (at_n (Sat.region (Tr.move J J J (Tr.sub_i64 J J J J oM (Tr.assign J J J (Tr.nil (at_n ?_))))))))
    exact ⟨j + 1, by omega, by omega, weak_of (wk1 rfl (wk1 rfl (wk1 rfl (wk1 rfl (wk1 (congrArg (fun z => some (i64 z)) (show ((255 - j : Nat) : Int) - 1 = 255 - ((j + 1 : Nat) : Int) by omega)) wk0))))) (wh1 (by (rw [powT_t hbt]; exact mem0)) (wh1 Z1 (wh1 Z2 (wh1 Z3 wh0)))) nD⟩
   ·
    have hbf := bit_isn hc1
    refine Sat.skip (bl_n (at_n (Sat.region (Tr.move J J J (Tr.sub_i64 J J J J oM (Tr.assign J J J (Tr.nil (at_n ?_))))))))
    exact ⟨j + 1, by omega, by omega, weak_of (wk1 rfl (wk1 rfl (wk1 rfl (wk1 rfl (wk1 (congrArg (fun z => some (i64 z)) (show ((255 - j : Nat) : Int) - 1 = 255 - ((j + 1 : Nat) : Int) by omega)) wk0))))) (wh1 (by (rw [powT_f hbf]; exact mem0)) (wh1 Z1 (wh1 Z2 (wh1 Z3 wh0)))) nD⟩
  ·
   rw [show powT x (le e) j = U from by rw [show j = 256 by omega]; exact hU.out]
   refine Sat.exit (at_x (at_x (bl_h (at_n (Sat.seq (Sat.region (Tr.loadAll J J J Y177 J Sz177 Z0 (by (simp [wdsV_length, hUl]; done)) ?_)))))))
   refine Tr.storeAll J J J J (by exact wdsV_cell _) Sz177 (by (simp [wdsV_length, hUl]; done)) Z1 sP zV ?_
   refine Tr.nil (at_n (Sat.ret (en_r ?_)))
   refine ⟨_, [], res_cell J J Y177 J Sz177 Z1 (by simp [wdsV_length, hUl]), sP, sP, ?_, rfl⟩
   rfl

theorem pow_ab {a e : List UInt8} (ha : a.length = 32) (he : e.length = 32) : fe (v10 (powT (openT (le a)) (le e) 256)) = fpow (fe (le a)) (le e) := by rw [powT_all (o_fit ha) (le32 he), o_v ha]

theorem r3_Pow (a e : List UInt8) (ha : a.length = 32) (he : e.length = 32) : Meets Tryz.prog 198 [agg (bytesV a), agg (bytesV e)] [] (fun _ => True) (fun v out => v = agg (bytesV (fb (fpow (fe (le a)) (le e)))) ∧ out = []) := by
 intro W hW
 refine calls_of (hp0 := []) Tryz.func198 J 10 Tryz.ntmps198 J (HRep.nil _) (Sat.seq (Sat.region (Tr.boxA J J ?_)))
 intro n2 hn2 hf2
 refine Tr.boxA J J ?_
 intro n3 hn3 hf3
 refine Tr.alloc (cs := (bytesV (List.replicate 32 0))) J Zr77 J ?_
 intro n4 hn4 hf4
 refine Tr.nil (at_n (Sat.seq (Sat.draw [(1, 0), (1, 2), (3, 1), (3, 3), (3, 4), (4, 5)] Mixed zK (Tr.loadAll J J J Y77 J Sz77 Z2 (by (simp [ha]; done)) ?_))))
 refine Tr.loadAll J J J Y77 J Sz77 Z1 (by (simp [he]; done)) ?_
 refine Tr.callV J J J J Body188 (r3_Open (a) (ha)) (fun _ _ => trivial) (Tr.callV J J J J Body233 (r3_Power (_) (e) (o_fit ha) (he)) (fun _ _ => trivial) (Tr.callV J J J J Body196 (r3_Close_v (_) ((powT_ok (o_fit ha) (le32 he) 256 (Nat.le_refl _)).1) (_) (pow_ab ha he)) (fun _ _ => trivial) (Tr.storeAll J J J J zE Sz77 zF Z0 sP zU ?_)))
 refine Tr.nil (at_n (Sat.ret (en_r ?_)))
 refine ⟨_, [], res_cell J J Y77 J Sz77 Z0 (by simp [fb_length]), sP, sP, ?_, rfl⟩
 rfl

theorem half_rem {p : UInt8} : ((UInt8.ofNat (p.toNat % 2)).toNat : Int) = 1 ↔ p.toNat % 2 = 1 := by
  rw [UInt8.toNat_ofNat']
  omega
theorem ones_three (n : Nat) : ((List.replicate 32 (255 : UInt8)).set 0 (UInt8.ofNat (237 - n))).set 31 127 = leb 32 (le (onesB (UInt8.ofNat (237 - n)) 127) / 2 ^ 0) := by
  rw [Nat.pow_zero, Nat.div_one, ones_leb]; rfl
theorem half_pow (V j : Nat) : leb 32 (V / 2 ^ (j + 1)) = halfAt (V / 2 ^ j) 32 := by
  rw [halfAt_end, Nat.div_div_eq_div_mul, ← Nat.pow_succ]

theorem r3_shifted (n k : Nat) (hn : n ≤ 237) (hk : k ≤ 9) : Meets Tryz.prog 199 [i64 (n : Int), i64 (k : Int)] [] (fun _ => True) (fun v out => v = agg (bytesV (expT n k)) ∧ out = []) := by
 intro W hW
 obtain ⟨V, hV⟩ : ∃ V, Hid (le (onesB (UInt8.ofNat (237 - n)) 127) = V) := ⟨_, ⟨rfl⟩⟩
 have hV2 : V < 2 ^ 256 := by rw [← hV.out]; exact le32 (onesB_length _ _)
 have hx : expT n k = leb 32 (V / 2 ^ k) := by rw [expT, hV.out]
 rw [hx]
 have hon := ones_three n
 rw [hV.out] at hon
 have hhl : True := trivial
 have hsl : True := trivial
 refine calls_of (hp0 := []) Tryz.func199 J 50 Tryz.ntmps199 J (HRep.nil _) (Sat.seq (Sat.region (Tr.alloc (cs := (bytesV (List.replicate 32 0))) J Zr77 J ?_)))
 intro n4 hn4 hf4
 refine Tr.nil (at_n (Sat.seq (Sat.region (Tr.alloc (cs := (bytesV (List.replicate 32 0))) J Zr77 J ?_))))
 intro n5 hn5 hf5
 refine Tr.nil (at_n (Sat.seq (Sat.seq (Sat.region (Tr.assign J J J (Tr.nil (at_n (Sat.block (Sat.loop (ι := Nat) (fun i => ⟨[(0, i64 (n : Int)), (1, i64 (k : Int)), (4, ptr n4 0), (5, ptr n5 0), (6, i64 (i : Int))], [⟨n5, bytesV (List.replicate i 255 ++ List.replicate (32 - i) 0), 77, 32⟩, ⟨n4, bytesV (List.replicate 32 0), 77, 32⟩]⟩) (fun i => i ≤ 32) (fun i => 32 - i) (0) ?_ ?_ ?_)))))))))
 · omega
 · exact weak_of (wk1 rfl (wk1 rfl (wk1 rfl (wk1 rfl (wk1 rfl wk0))))) (wh1 Z0 (wh1 Z1 wh0)) nD
 ·
  rintro i hi
  refine Sat.seq (Sat.seq (Sat.region (Tr.move J J J (Tr.lss J J J J J (Tr.nil (at_n (Sat.condP J (fun hc0 => ?_) (fun hc0 => ?_))))))))
  ·
   have hi2 : i < 32 := by omega
   refine Sat.skip (at_n (Sat.seq (Sat.block (Sat.region (Tr.move J J J (Tr.idxArr1 J J J J Y77 Sz5 _ J oM (Tr.store1 J J J (show evIn _ _ = some (u8 255) from rfl) J Sz5 Z0 (by (simp; omega)) (by exact set_bytes _ _ _) zU ?_)))))))
   refine Tr.nil (bl_n (at_n (Sat.region (Tr.move J J J (Tr.add_i64 J J J J oM (Tr.assign J J J (Tr.nil (at_n ?_))))))))
   exact ⟨i + 1, by omega, by omega, weak_of (wk1 rfl (wk1 rfl (wk1 rfl (wk1 rfl (wk1 rfl wk0))))) (wh1 (by rw [← ones_step hi2]; exact mem0) (wh1 Z1 wh0)) nD⟩
  ·
   obtain rfl : i = 32 := by omega
   rw [show ((List.replicate 32 255 ++ List.replicate (32 - 32) 0) : List UInt8) = List.replicate 32 255 from rfl]
   refine Sat.exit (at_x (at_x (bl_h (at_n (Sat.seq (Sat.region (Tr.move J J J (Tr.subN (237) (n) J J J J oM (Tr.conv J J J Y3 Y5 (cv_i64_u8 _) (Tr.idxArr1 J J J J Y77 Sz5 0 J dE ?_))))))))))
   rw [byteOf_nat]
   refine Tr.store1 J J J J J Sz5 Z0 sP (by exact set_bytes _ _ _) zU ?_
   refine Tr.idxArr1 J J J J Y77 Sz5 31 J dE (Tr.store1 J J J (show evIn _ _ = some (u8 127) from rfl) J Sz5 Z0 sP (by exact set_bytes _ _ _) zU ?_)
   refine Tr.nil (at_n (Sat.seq (Sat.block (Sat.loop (ι := Nat) (fun j => ⟨[(1, i64 ((k : Int) - (j : Int))), (4, ptr n4 0), (5, ptr n5 0)], [⟨n5, bytesV (leb 32 (V / 2 ^ j)), 77, 32⟩, ⟨n4, bytesV (List.replicate 32 0), 77, 32⟩]⟩) (fun j => j ≤ k) (fun j => k - j) (0) ?_ ?_ ?_))))
   · exact Nat.zero_le _
   · exact weak_of (wk1 (congrArg (fun z => some (i64 z)) (show (k : Int) = (k : Int) - ((0 : Nat) : Int) by omega)) (wk1 rfl (wk1 rfl wk0))) (wh1 (by rw [← hon]; exact mem0) (wh1 Z1 wh0)) nD
   ·
    rintro j hj
    refine Sat.seq (Sat.seq (Sat.region (Tr.move J J J (Tr.gtr J J J J J (Tr.nil (at_n (Sat.condP J (fun hc1 => ?_) (fun hc1 => ?_))))))))
    ·
     have hVj : V / 2 ^ j < 2 ^ 256 := Nat.lt_of_le_of_lt (Nat.div_le_self _ _) hV2
     refine Sat.skip (at_n (Sat.seq (Sat.block (Sat.seq (Sat.region (Tr.assign J J J (Tr.nil (at_n (Sat.block (Sat.loop (ι := Nat) (fun i => ⟨[(1, i64 ((k : Int) - (j : Int))), (4, ptr n4 0), (5, ptr n5 0), (7, i64 (i : Int))], [⟨n5, bytesV (halfAt (V / 2 ^ j) i), 77, 32⟩, ⟨n4, bytesV (List.replicate 32 0), 77, 32⟩]⟩) (fun i => i ≤ 32) (fun i => 32 - i) (0) ?_ ?_ ?_))))))))))
     · omega
     · exact weak_of (wk1 rfl (wk1 rfl (wk1 rfl (wk1 rfl wk0)))) (wh1 (by rw [halfAt_zero]; exact mem0) (wh1 Z1 wh0)) nD
     ·
      rintro i hi
      have hhl := halfAt_length (V / 2 ^ j) i hi
      have hsl : ((halfAt (V / 2 ^ j) i).set i (UInt8.ofNat (((halfAt (V / 2 ^ j) i).getD i 0).toNat / 2))).length = 32 := by rw [List.length_set]; exact hhl
      refine Sat.seq (Sat.seq (Sat.region (Tr.move J J J (Tr.lss J J J J J (Tr.nil (at_n (Sat.condP J (fun hc2 => ?_) (fun hc2 => ?_))))))))
      ·
       have hi2 : i < 32 := by omega
       refine Sat.skip (at_n (Sat.seq (Sat.block (Sat.seq (Sat.region (Tr.move J J J (Tr.move J J J (Tr.idxArr1 J J J J Y77 Sz5 _ J oM (Tr.load1 J J J Y5 J Z0 zG ?_)))))))))
       refine Tr.quo_u8 J J J J 2 J dE (Tr.idxArr1 J J J J Y77 Sz5 _ J oM (Tr.store1 J J J J J Sz5 Z0 (by (simp [hhl]; omega)) (by exact set_bytes _ _ _) zU ?_))
       refine Tr.nil (at_n (Sat.seq (Sat.region (Tr.move J J J (two (fun r hr k => Tr.lss J J J J hr k) (fun hs13_10 => ?_) (fun hs13_10 => ?_))))))
       ·
        have hs13_1 := of_decide_eq_true hs13_10
        refine Tr.move J J J (Tr.move J J J (Tr.addN (i) (1) J J J J oM (Tr.idxArr1 J J J J Y77 Sz5 _ J oM (Tr.load1 J J J Y5 J Z0 zG ?_))))
        refine Tr.rem_u8 J J J J 2 J dE (two (fun r hr k => Tr.eqi J J J J hr k) (fun hs13_80 => ?_) (fun hs13_80 => ?_))
        ·
         have hs13_8 := of_decide_eq_true hs13_80
         refine Tr.pick J J J J J J (Tr.nil (at_n (Sat.cond_t J J (Sat.region (Tr.move J J J (Tr.move J J J (Tr.idxArr1 J J J J Y77 Sz5 _ J oM (Tr.load1 J J J Y5 J Z0 zG ?_))))))))
         refine Tr.add_u8 J J J (show evIn _ _ = some (u8 128) from rfl) (Tr.idxArr1 J J J J Y77 Sz5 _ J oM (Tr.store1 J J J J J Sz5 Z0 (by (simp [hhl]; omega)) (by exact set_bytes _ _ _) zU ?_))
         refine Tr.nil (bl_n (at_n (Sat.region (Tr.move J J J (Tr.add_i64 J J J J oM (Tr.assign J J J (Tr.nil (at_n ?_))))))))
         exact ⟨i + 1, by omega, by omega, weak_of (wk1 rfl (wk1 rfl (wk1 rfl (wk1 rfl wk0)))) (wh1 (by (rw [← half_odd (V / 2 ^ j) oM (half_rem.1 hs13_8)]; exact mem0)) (wh1 Z1 wh0)) nD⟩
        ·
         have hs13_8 := of_decide_eq_false hs13_80
         refine Tr.pick J J J J J J (Tr.nil (at_n (Sat.cond_f J J (Sat.skip (bl_n (at_n (Sat.region (Tr.move J J J (Tr.add_i64 J J J J oM (Tr.assign J J J (Tr.nil (at_n ?_))))))))))))
         exact ⟨i + 1, by omega, by omega, weak_of (wk1 rfl (wk1 rfl (wk1 rfl (wk1 rfl wk0)))) (wh1 (by (rw [← half_even (V / 2 ^ j) oM (fun e => hs13_8 (half_rem.2 e))]; exact mem0)) (wh1 Z1 wh0)) nD⟩
       ·
        have hs13_1 := of_decide_eq_false hs13_10
        refine Tr.move J J J (Tr.skp J J (Tr.skp J J (Tr.skp J J (Tr.skp J J (Tr.skp J J (Tr.skp J J (Tr.pick J J J J J J (Tr.nil (at_n (Sat.cond_f J J (Sat.skip (bl_n (at_n (Sat.region (Tr.move J J J (Tr.add_i64 J J J J oM (Tr.assign J J J (Tr.nil (at_n ?_)))))))))))))))))))
        exact ⟨i + 1, by omega, by omega, weak_of (wk1 rfl (wk1 rfl (wk1 rfl (wk1 rfl wk0)))) (wh1 (by (rw [show i = 31 by omega, ← half_last _ hVj]; exact mem0)) (wh1 Z1 wh0)) nD⟩
      ·
       refine Sat.exit (at_x (at_x (bl_h (bl_n (at_n (Sat.region (Tr.move J J J (Tr.sub_i64 J J J J oM (Tr.assign J J J (Tr.nil (at_n ?_)))))))))))
       exact ⟨j + 1, by omega, by omega, weak_of (wk1 (congrArg (fun z => some (i64 z)) (show (k : Int) - (j : Int) - 1 = (k : Int) - ((j + 1 : Nat) : Int) by omega)) (wk1 rfl (wk1 rfl wk0))) (wh1 (by rw [half_pow, show (32 : Nat) = i by omega]; exact mem0) (wh1 Z1 wh0)) nD⟩
    ·
     obtain rfl : j = k := by omega
     refine Sat.exit (at_x (at_x (bl_h (at_n (Sat.seq (Sat.region (Tr.loadAll J J J Y77 J Sz77 Z0 (by (simp [leb_length]; done)) ?_)))))))
     refine Tr.storeAll J J J J zE Sz77 (by (simp [leb_length]; done)) Z1 sP zV ?_
     refine Tr.nil (at_n (Sat.ret (en_r ?_)))
     refine ⟨_, [], res_cell J J Y77 J Sz77 Z1 (by simp [leb_length]), sP, sP, ?_, rfl⟩
     rfl

theorem r3_Pow_e (a e : List UInt8) (ha : a.length = 32) (he : e.length = 32) (N : Nat) (X : Fp) (hN : le e = N) (hX : fe (le a) = X) : Meets Tryz.prog 198 [agg (bytesV a), agg (bytesV e)] [] (fun _ => True) (fun v out => v = agg (bytesV (fb (fpow X N))) ∧ out = []) := by
  rw [← hN, ← hX]; exact r3_Pow a e ha he

theorem r3_Inv (a : List UInt8) (ha : a.length = 32) : Meets Tryz.prog 124 [agg (bytesV a)] [] (fun _ => True) (fun v out => v = agg (bytesV (fb (finv (fe (le a))))) ∧ out = []) := by
 intro W hW
 obtain ⟨E, hE⟩ : ∃ E, Hid (expT 2 0 = E) := ⟨_, ⟨rfl⟩⟩
 have hEl : E.length = 32 := by rw [← hE.out]; exact expT_length _ _
 have hs := r3_shifted 2 0 dE dE
 rw [hE.out] at hs
 have hp := r3_Pow_e a E ha hEl (PF - 2) _ (by rw [← hE.out]; exact expT_inv) rfl
 rw [show fpow (fe (le a)) (PF - 2) = finv (fe (le a)) from rfl] at hp
 obtain ⟨R, hR⟩ : ∃ R, Hid (finv (fe (le a)) = R) := ⟨_, ⟨rfl⟩⟩
 rw [hR.out] at hp ⊢
 refine calls_of (hp0 := []) Tryz.func124 J 6 Tryz.ntmps124 J (HRep.nil _) (Sat.seq (Sat.region (Tr.boxA J J ?_)))
 intro n1 hn1 hf1
 refine Tr.alloc (cs := (bytesV (List.replicate 32 0))) J Zr77 J ?_
 intro n2 hn2 hf2
 refine Tr.nil (at_n (Sat.seq (Sat.draw [(1, 0), (3, 1), (3, 2), (4, 3)] Mixed zK (Tr.loadAll J J J Y77 J Sz77 Z1 (by (simp [ha]; done)) ?_))))
 refine Tr.callV J J J J Body199 (hs) (fun _ _ => trivial) (Tr.callV J J J J Body198 (hp) (fun _ _ => trivial) (Tr.storeAll J J J J zE Sz77 zF Z0 sP zU ?_))
 refine Tr.nil (at_n (Sat.ret (en_r ?_)))
 refine ⟨_, [], res_cell J J Y77 J Sz77 Z0 (by simp [fb_length]), sP, sP, ?_, rfl⟩
 rfl

end Go.Proofs.YtpacobmjjjillaaGreat
end

section
namespace Go.Proofs.YtpacobmjjjillaaGreat
open Go Hw
set_option linter.unusedSimpArgs false
set_option linter.unusedVariables false
set_option maxRecDepth 100000
structure far where
  fX : List Nat
  fY : List Nat
  fZ : List Nat
def far.cells (x : far) : List Value := wdsV x.fX ++ (wdsV x.fY ++ (wdsV x.fZ))
structure far.ok (x : far) : Prop where
  l_fX : x.fX.length = 10
  l_fY : x.fY.length = 10
  l_fZ : x.fZ.length = 10
theorem far.length {x : far} (h : x.ok) : x.cells.length = 30 := by simp [far.cells, bytesV, wdsV, intsV, h.l_fX, h.l_fY, h.l_fZ]
theorem far.isCell {x : far} (h : x.ok) : ∀ u ∈ x.cells, isCell u = true := by
  intro u hu
  simp only [far.cells, List.mem_append, List.mem_singleton, bytesV, wdsV, intsV, List.mem_map] at hu
  rcases hu with ⟨_, _, rfl⟩ | ⟨_, _, rfl⟩ | ⟨_, _, rfl⟩ <;> rfl
theorem far.row_fX {x : far} (h : x.ok) : (x.cells.drop 0).take 10 = wdsV x.fX := by simp [far.cells, bytesV, wdsV, intsV, h.l_fX, h.l_fY, h.l_fZ, List.drop_append, List.take_append, List.drop_of_length_le, List.take_of_length_le]
theorem far.rl_fX {x : far} (h : x.ok) : (wdsV x.fX).length = 10 := by simp [bytesV, wdsV, intsV, h.l_fX]
theorem far.upd_fX {x : far} (h : x.ok) (l : List Nat) (hl : l.length = 10) : upd x.cells 0 (wdsV l) = ({ x with fX := l }).cells := by
  simp [upd, far.cells, bytesV, wdsV, intsV, h.l_fX, h.l_fY, h.l_fZ, hl, List.drop_append, List.take_append, List.drop_of_length_le, List.take_of_length_le]
theorem far.see_fX {x : far} (h : x.ok) : ∀ (j : Nat) (v : Value), (wdsV x.fX)[j]? = some v → x.cells[0 + j]? = some v := fun j v hj => by
  rw [← far.row_fX h, List.getElem?_take] at hj
  split at hj
  · rwa [List.getElem?_drop] at hj
  · cases hj
theorem far.row_fY {x : far} (h : x.ok) : (x.cells.drop 10).take 10 = wdsV x.fY := by simp [far.cells, bytesV, wdsV, intsV, h.l_fX, h.l_fY, h.l_fZ, List.drop_append, List.take_append, List.drop_of_length_le, List.take_of_length_le]
theorem far.rl_fY {x : far} (h : x.ok) : (wdsV x.fY).length = 10 := by simp [bytesV, wdsV, intsV, h.l_fY]
theorem far.upd_fY {x : far} (h : x.ok) (l : List Nat) (hl : l.length = 10) : upd x.cells 10 (wdsV l) = ({ x with fY := l }).cells := by
  simp [upd, far.cells, bytesV, wdsV, intsV, h.l_fX, h.l_fY, h.l_fZ, hl, List.drop_append, List.take_append, List.drop_of_length_le, List.take_of_length_le]
theorem far.see_fY {x : far} (h : x.ok) : ∀ (j : Nat) (v : Value), (wdsV x.fY)[j]? = some v → x.cells[10 + j]? = some v := fun j v hj => by
  rw [← far.row_fY h, List.getElem?_take] at hj
  split at hj
  · rwa [List.getElem?_drop] at hj
  · cases hj
theorem far.row_fZ {x : far} (h : x.ok) : (x.cells.drop 20).take 10 = wdsV x.fZ := by simp [far.cells, bytesV, wdsV, intsV, h.l_fX, h.l_fY, h.l_fZ, List.drop_append, List.take_append, List.drop_of_length_le, List.take_of_length_le]
theorem far.rl_fZ {x : far} (h : x.ok) : (wdsV x.fZ).length = 10 := by simp [bytesV, wdsV, intsV, h.l_fZ]
theorem far.upd_fZ {x : far} (h : x.ok) (l : List Nat) (hl : l.length = 10) : upd x.cells 20 (wdsV l) = ({ x with fZ := l }).cells := by
  simp [upd, far.cells, bytesV, wdsV, intsV, h.l_fX, h.l_fY, h.l_fZ, hl, List.drop_append, List.take_append, List.drop_of_length_le, List.take_of_length_le]
theorem far.see_fZ {x : far} (h : x.ok) : ∀ (j : Nat) (v : Value), (wdsV x.fZ)[j]? = some v → x.cells[20 + j]? = some v := fun j v hj => by
  rw [← far.row_fZ h, List.getElem?_take] at hj
  split at hj
  · rwa [List.getElem?_drop] at hj
  · cases hj
def far.zero : far := ⟨List.replicate 10 0, List.replicate 10 0, List.replicate 10 0⟩
theorem far.zero_ok : far.zero.ok := by constructor <;> simp [far.zero]
theorem far.zr : Zr Tryz.prog 180 (agg far.zero.cells) := by unfold Zr; kernel_rfl
structure Rdr where
  fB : Sl
  fE : Int
def Rdr.cells (x : Rdr) : List Value := [x.fB.v] ++ ([i64 x.fE])
structure Rdr.ok (x : Rdr) : Prop where
  t : True
theorem Rdr.length {x : Rdr} (h : x.ok) : x.cells.length = 2 := by simp [Rdr.cells, bytesV]
theorem Rdr.isCell {x : Rdr} (h : x.ok) : ∀ u ∈ x.cells, isCell u = true := by
  intro u hu
  simp only [Rdr.cells, List.mem_append, List.mem_singleton, bytesV, List.mem_map] at hu
  rcases hu with rfl | rfl <;> first | rfl
theorem Rdr.get_fB {x : Rdr} (h : x.ok) : x.cells[0]? = some (x.fB.v) := by simp [Rdr.cells, bytesV, List.getElem?_append]
def Rdr.zero : Rdr := ⟨Sl.nil, 0⟩
theorem Rdr.zero_ok : Rdr.zero.ok := by constructor <;> first | exact trivial | simp [Rdr.zero]
theorem Rdr.zr : Zr Tryz.prog 108 (agg Rdr.zero.cells) := by unfold Zr; kernel_rfl
end Go.Proofs.YtpacobmjjjillaaGreat
end

section
namespace Go.Proofs.YtpacobmjjjillaaGreat
open Go Hw
set_option linter.unusedVariables false
set_option linter.unusedSimpArgs false

theorem ref_bit_at (a : List UInt8) (ha : a.length = 32) (k : Nat) (hk : k < 256) : Meets Tryz.prog 192 [agg (bytesV a), i64 (k : Int)] [] (fun _ => True) (fun v out => v = .bool ((le a).testBit k) ∧ out = []) := by
 intro W hW
 refine calls_of (hp0 := []) Tryz.func192 J 23 Tryz.ntmps192 J (HRep.nil _) (Sat.seq (Sat.region (Tr.boxA J J ?_)))
 intro n2 hn2 hf2
 refine Tr.assign J J J (Tr.nil (at_n (Sat.seq (Sat.region (Tr.move J J J (Tr.geq J J J J (decide_eq_true oM) (Tr.move J J J (Tr.move J J J (Tr.lss J J J J (decide_eq_true oM) (Tr.pick J J J J J J (Tr.move J J J (Tr.move J J J (Tr.quo_i64 J J J J oM (Tr.idxArr1 J J J J Y77 Sz5 (k / 8) oM oM (Tr.load1 J J J Y5 J Z0 zG ?_)))))))))))))))
 refine Tr.move J J J (Tr.rem_i64 J J J J oM (Tr.conv J J J Y3 Y35 (cv_i64_u64 _) (Tr.shr_u8 J J J J (k % 8) (by rw [wordOf_id _ oM]; omega) oM ?_)))
 refine Tr.rem_u8 J J J J 2 J dE (Tr.eqi J J J J J (Tr.pick J J J J J J (Tr.assign J J J (Tr.nil (at_n (Sat.ret (en_r ?_)))))))
 refine ⟨_, [], res_tmp J J, sP, sP, ?_, rfl⟩
 rw [← bit_rem a k]; rfl

end Go.Proofs.YtpacobmjjjillaaGreat
end

section
namespace Go.Proofs.YtpacobmjjjillaaGreat
open Go Hw
set_option linter.unusedVariables false
set_option linter.unusedSimpArgs false

open Ed

theorem r_mul (x y : Fp) : Meets Tryz.prog 122 [agg (bytesV (fb x)), agg (bytesV (fb y))] [] (fun _ => True) (fun v out => v = agg (bytesV (fb (x * y))) ∧ out = []) := by
  have h := r3_Mul (fb x) (fb y) (fb_length x) (fb_length y)
  rwa [fe_fb x, fe_fb y] at h

theorem r_sub (x y : Fp) : Meets Tryz.prog 194 [agg (bytesV (fb x)), agg (bytesV (fb y))] [] (fun _ => True) (fun v out => v = agg (bytesV (fb (x - y))) ∧ out = []) := by
  have h := r3_Sub (fb x) (fb y) (fb_length x) (fb_length y)
  rwa [fe_fb x, fe_fb y] at h

theorem r_neg (x : Fp) : Meets Tryz.prog 185 [agg (bytesV (fb x))] [] (fun _ => True) (fun v out => v = agg (bytesV (fb (-x))) ∧ out = []) := by
  have h := r3_Neg (fb x) (fb_length x)
  rwa [fe_fb x] at h

theorem r_inv (x : Fp) : Meets Tryz.prog 124 [agg (bytesV (fb x))] [] (fun _ => True) (fun v out => v = agg (bytesV (fb (finv x))) ∧ out = []) := by
  have h := r3_Inv (fb x) (fb_length x)
  rwa [fe_fb x] at h

theorem r_odd (x : Fp) : Meets Tryz.prog 119 [agg (bytesV (fb x))] [] (fun _ => True) (fun v out => v = .bool (decide (x.val % 2 = 1)) ∧ out = []) := by
  have h := r3_Odd (fb x) (fb_length x)
  rwa [fe_fb x] at h

theorem r_canon (x : Fp) : Meets Tryz.prog 184 [agg (bytesV (fb x))] [] (fun _ => True) (fun v out => v = .bool true ∧ out = []) := by
  have h := r3_Canon (fb x) (fb_length x)
  rw [fe_fb x] at h
  rwa [decide_eq_true rfl] at h
theorem r_same_raw (x : Fp) (a : List UInt8) (ha : a.length = 32) : Meets Tryz.prog 234 [agg (bytesV (fb x)), agg (bytesV a)] [] (fun _ => True) (fun v out => v = .bool (decide (x = fe (le a))) ∧ out = []) := by
  have h := r3_Same (fb x) a (fb_length x) ha
  rwa [fe_fb x] at h
theorem r_of (x : UInt64) (X : Fp) (h : fe x.toNat = X) : Meets Tryz.prog 123 [u64 x] [] (fun _ => True) (fun v out => v = agg (bytesV (fb X)) ∧ out = []) := by
  rw [← h]; exact r3_Of x
theorem r_one : Meets Tryz.prog 123 [u64 1] [] (fun _ => True) (fun v out => v = agg (bytesV (fb 1)) ∧ out = []) := r_of 1 1 rfl
theorem r_cA : Meets Tryz.prog 123 [u64 121666] [] (fun _ => True) (fun v out => v = agg (bytesV (fb cA)) ∧ out = []) := r_of 121666 cA rfl
theorem r_cB : Meets Tryz.prog 123 [u64 121665] [] (fun _ => True) (fun v out => v = agg (bytesV (fb cB)) ∧ out = []) := r_of 121665 cB rfl
theorem r_pow_root (a : List UInt8) (ha : a.length = 32) (X : Fp) (hX : fe (le a) = X) : Meets Tryz.prog 198 [agg (bytesV a), agg (bytesV (expT 5 3))] [] (fun _ => True) (fun v out => v = agg (bytesV (fb (fpow X ((PF - 5) / 8)))) ∧ out = []) := r3_Pow_e a _ ha (expT_length _ _) _ X expT_root hX
theorem r_pow_unit : Meets Tryz.prog 198 [agg (bytesV (fb (fe 2))), agg (bytesV (expT 1 2))] [] (fun _ => True) (fun v out => v = agg (bytesV (fb (fpow (fe 2) ((PF - 1) / 4)))) ∧ out = []) := r3_Pow_e _ _ (fb_length _) (expT_length _ _) _ _ expT_unit (fe_fb _)
theorem r_mul_a (p r : Fp) (a : List UInt8) (ha : a.length = 32) (h : p * fe (le a) = r) : Meets Tryz.prog 122 [agg (bytesV (fb p)), agg (bytesV a)] [] (fun _ => True) (fun v out => v = agg (bytesV (fb r)) ∧ out = []) := by
  have h1 := r3_Mul (fb p) a (fb_length p) ha
  rwa [fe_fb p, h] at h1

theorem r3_Root (a : List UInt8) (X : Fp) (ha : a.length = 32) (hX : fe (le a) = X) : Meets Tryz.prog 200 [agg (bytesV a)] [] (fun _ => True) (fun v out => v = .tuple #[agg (bytesV (fb (fRoot X).1)), .bool (fRoot X).2] ∧ out = []) := by
 intro W hW
 obtain ⟨r0, hr0⟩ : ∃ r, fpow X ((PF + 3) / 8) = r := ⟨_, rfl⟩
 obtain ⟨un, hun⟩ : ∃ r, fpow (fe 2) ((PF - 1) / 4) = r := ⟨_, rfl⟩
 obtain ⟨r1, hr1⟩ : ∃ r, fRoot1 X = r := ⟨_, rfl⟩
 have hp0 := r_pow_root a ha X hX
 have hstep := root_step X
 obtain ⟨p0, hpp⟩ : ∃ r, fpow X ((PF - 5) / 8) = r := ⟨_, rfl⟩
 rw [hpp] at hp0 hstep
 rw [hr0] at hstep
 have hm0 := r_mul_a p0 r0 a ha (by rw [hX]; exact hstep)
 have hpu := r_pow_unit
 rw [hun] at hpu
 have hm := fun y => r_same_raw y a ha
 rw [hX] at hm
 have hr1' : r1 = if r0 * r0 = X then r0 else r0 * un := by rw [← hr1, fRoot1, hr0, hun]
 have hR : fRoot X = if r1 * r1 = X then ((if r1.val % 2 = 1 then -r1 else r1), true) else (0, false) := by rw [fRoot, hr1]
 clear hr1 hstep
 have hs53 := r3_shifted 5 3 dE dE
 have hs12 := r3_shifted 1 2 dE dE
 obtain ⟨E, hE⟩ : ∃ E, Hid (expT 5 3 = E) := ⟨_, ⟨rfl⟩⟩
 obtain ⟨G, hG⟩ : ∃ E, Hid (expT 1 2 = E) := ⟨_, ⟨rfl⟩⟩
 have hEl : E.length = 32 := by rw [← hE.out]; exact expT_length _ _
 have hGl : G.length = 32 := by rw [← hG.out]; exact expT_length _ _
 rw [hE.out] at hs53 hp0
 rw [hG.out] at hs12 hpu
 refine calls_of (hp0 := []) Tryz.func200 J 33 Tryz.ntmps200 J (HRep.nil _) (Sat.seq (Sat.region (Tr.boxA J J ?_)))
 intro n1 hn1 hf1
 refine Tr.alloc (cs := (bytesV (List.replicate 32 0))) J Zr77 J ?_
 intro n2 hn2 hf2
 refine Tr.assign J J J (Tr.nil (at_n (Sat.seq (Sat.draw [(1, 0), (1, 3), (3, 1), (3, 2), (3, 4), (2, 5), (4, 6)] Mixed zK (Tr.loadAll J J J Y77 J Sz77 Z1 (by (simp [ha]; done)) ?_)))))
 refine Tr.loadAll J J J Y77 J Sz77 Z1 (by (simp [ha]; done)) ?_
 refine Tr.callV J J J J Body199 (hs53) (fun _ _ => trivial) (Tr.callV J J J J Body198 (hp0) (fun _ _ => trivial) (Tr.callV J J J J Body122 (hm0) (fun _ _ => trivial) (Tr.alloc (cs := (bytesV (List.replicate 32 0))) J Zr77 J ?_)))
 intro n4 hn4 hf4
 refine Tr.storeAll J J J J zE Sz77 zF Z0 sP zU ?_
 refine Tr.nil (at_n (Sat.join (ι := Unit) (fun _u => ⟨[(1, ptr n1 0), (2, ptr n2 0), (4, ptr n4 0)], [⟨n4, bytesV (fb r1), 77, 32⟩, ⟨n2, bytesV (List.replicate 32 0), 77, 32⟩, ⟨n1, bytesV a, 77, (bytesV a).length⟩]⟩) (fun _u => True) ?_ ?_))
 ·
  refine Sat.seq (Sat.draw [(1, 0), (1, 1), (1, 3), (3, 2), (3, 4), (0, 5)] Mixed zK (Tr.loadAll J J J Y77 J Sz77 Z0 zF ?_))
  refine Tr.loadAll J J J Y77 J Sz77 Z0 zF ?_
  refine Tr.loadAll J J J Y77 J Sz77 Z2 (by (simp [ha]; done)) ?_
  refine Tr.callV J J J J Body122 (r_mul r0 r0) (fun _ _ => trivial) (Tr.callV J J J J Body234 (hm (r0 * r0)) (fun _ _ => trivial) (Tr.not J J J (Tr.nil (at_n (Sat.condNP J (fun hc0 => ?_) (fun hc0 => ?_))))))
  ·
   refine Sat.draw [(1, 0), (3, 1), (3, 2), (3, 3), (3, 4), (4, 5)] Mixed zK (Tr.loadAll J J J Y77 J Sz77 Z0 zF ?_)
   refine Tr.callV J J J J Body123 (r_of 2 (fe 2) J) (fun _ _ => trivial) (Tr.callV J J J J Body199 (hs12) (fun _ _ => trivial) (Tr.callV J J J J Body198 (hpu) (fun _ _ => trivial) (Tr.callV J J J J Body122 (r_mul r0 un) (fun _ _ => trivial) (Tr.storeAll J J J J zE Sz77 zF Z0 zF zU ?_))))
   refine Tr.nil (at_n ?_)
   (rw [hr1', if_neg hc0]; exact ⟨(), trivial, weak_of (wk1 rfl (wk1 rfl (wk1 rfl wk0))) (wh1 Z0 (wh1 Z1 (wh1 Z2 wh0))) nD⟩)
  ·
   refine Sat.skip (at_n ?_)
   (rw [hr1', if_pos hc0]; exact ⟨(), trivial, weak_of (wk1 rfl (wk1 rfl (wk1 rfl wk0))) (wh1 Z0 (wh1 Z1 (wh1 Z2 wh0))) nD⟩)
 ·
  intro _u hj
  skip
  refine Sat.seq (Sat.seq (Sat.draw [(1, 0), (1, 1), (1, 3), (3, 2), (3, 4), (0, 5)] Mixed zK (Tr.loadAll J J J Y77 J Sz77 Z0 zF ?_)))
  refine Tr.loadAll J J J Y77 J Sz77 Z0 zF ?_
  refine Tr.loadAll J J J Y77 J Sz77 Z2 (by (simp [ha]; done)) ?_
  refine Tr.callV J J J J Body122 (r_mul r1 r1) (fun _ _ => trivial) (Tr.callV J J J J Body234 (hm (r1 * r1)) (fun _ _ => trivial) (Tr.not J J J (Tr.nil (at_n (Sat.condNP J (fun hc1 => ?_) (fun hc1 => ?_))))))
  ·
   refine Sat.seq (Sat.region (Tr.build (cs := bytesV (List.replicate 32 0)) J J J (fun w => by kernel_rfl) ?_))
   refine Tr.storeAll J J J J zE Sz77 sP Z1 sP zV ?_
   refine Tr.assign J J J (Tr.nil (at_n (Sat.ret (at_r (en_r ?_)))))
   refine ⟨_, [], res_cell_tmp J J J Y77 J Sz77 Z1 sP, sP, sP, ?_, rfl⟩
   (rw [hR, if_neg hc1, fb_zero]; done)
  ·
   refine Sat.skip (at_n (Sat.join (ι := Unit) (fun _u => ⟨[(2, ptr n2 0), (4, ptr n4 0)], [⟨n4, bytesV (fb (if r1.val % 2 = 1 then -r1 else r1)), 77, 32⟩, ⟨n2, bytesV (List.replicate 32 0), 77, 32⟩]⟩) (fun _u => True) ?_ ?_))
   ·
    refine Sat.seq (Sat.region (Tr.loadAll J J J Y77 J Sz77 Z0 zF ?_))
    refine Tr.callV J J J J Body119 (r_odd r1) (fun _ _ => trivial) (Tr.nil (at_n (Sat.condP J (fun hc2 => ?_) (fun hc2 => ?_))))
    ·
     refine Sat.region (Tr.loadAll J J J Y77 J Sz77 Z0 zF ?_)
     refine Tr.callV J J J J Body185 (r_neg r1) (fun _ _ => trivial) (Tr.storeAll J J J J zE Sz77 zF Z0 zF zU ?_)
     refine Tr.nil (at_n ?_)
     (rw [if_pos hc2]; exact ⟨(), trivial, weak_of (wk1 rfl (wk1 rfl wk0)) (wh1 Z0 (wh1 Z1 wh0)) nD⟩)
    ·
     refine Sat.skip (at_n ?_)
     (rw [if_neg hc2]; exact ⟨(), trivial, weak_of (wk1 rfl (wk1 rfl wk0)) (wh1 Z0 (wh1 Z1 wh0)) nD⟩)
   ·
    intro _u hj
    skip
    refine Sat.seq (Sat.region (Tr.loadAll J J J Y77 J Sz77 Z0 zF ?_))
    refine Tr.storeAll J J J J zE Sz77 zF Z1 sP zV ?_
    refine Tr.assign J J J (Tr.nil (at_n (Sat.ret (en_r ?_))))
    refine ⟨_, [], res_cell_tmp J J J Y77 J Sz77 Z1 (by simp [fb_length]), sP, sP, ?_, rfl⟩
    (rw [hR, if_pos hc1]; done)

theorem check_eq {P : Pt Fp} (h : cv.on P) : cA * (P.y * P.y - P.x * P.x - 1) = -(cB * (P.x * P.x * (P.y * P.y))) := by
  have h1 := (cv.on_iff P).1 h
  have h2 : P.y * P.y - P.x * P.x = 1 + fD * (P.x * P.x * (P.y * P.y)) := h1
  have h3 := fD_cA
  rw [h2]
  generalize P.x * P.x * (P.y * P.y) = q at *
  generalize cA = a at *
  generalize cB = b at *
  generalize fD = d at *
  grind

theorem r5_D  : Meets Tryz.prog 189 [] [] (fun _ => True) (fun v out => v = agg (bytesV (fb fD)) ∧ out = []) := by
 intro W hW
 have hm := r_mul (-cB) (finv cA)
 rw [ref_D] at hm
 have hi := r_inv cA
 revert hm hi
 generalize finv cA = ia
 intro hm hi
 refine calls_of (hp0 := []) Tryz.func189 J 6 Tryz.ntmps189 J (HRep.nil _) (Sat.seq (Sat.region (Tr.alloc (cs := (bytesV (List.replicate 32 0))) J Zr77 J ?_)))
 intro n0 hn0 hf0
 refine Tr.nil (at_n (Sat.seq (Sat.region (Tr.callV J J J J Body123 (r_cB) (fun _ _ => trivial) (Tr.callV J J J J Body185 (r_neg cB) (fun _ _ => trivial) ?_)))))
 refine Tr.callV J J J J Body123 (r_cA) (fun _ _ => trivial) (Tr.callV J J J J Body124 (hi) (fun _ _ => trivial) (Tr.callV J J J J Body122 (hm) (fun _ _ => trivial) (Tr.storeAll J J J J zE Sz77 zF Z0 sP zU ?_)))
 refine Tr.nil (at_n (Sat.ret (en_r ?_)))
 refine ⟨_, [], res_cell J J Y77 J Sz77 Z0 (by simp [fb_length]), sP, sP, ?_, rfl⟩
 rfl

theorem r5_Zero  : Meets Tryz.prog 120 [] [] (fun _ => True) (fun v out => v = agg (ptc (zero : Pt Fp)).cells ∧ out = []) := by
 intro W hW
 refine calls_of (hp0 := []) Tryz.func120 J 3 Tryz.ntmps120 J (HRep.nil _) (Sat.seq (Sat.region (Tr.alloc (cs := Point.zero.cells) J Point.zr J ?_)))
 intro n0 hn0 hf0
 refine Tr.nil (at_n (Sat.seq (Sat.region (Tr.callV J J J J Body123 (r_one) (fun _ _ => trivial) (Tr.build (cs := (⟨fb 0, fb 1⟩ : Point).cells) J J J (fun w => by kernel_rfl) ?_)))))
 refine Tr.storeAll J J J J (Point.isCell (by exact ⟨fb32 _, fb32 _⟩)) Sz79 (Point.length (by exact ⟨fb32 _, fb32 _⟩)) Z0 (Point.length zZ) zU ?_
 refine Tr.nil (at_n (Sat.ret (en_r ?_)))
 refine ⟨_, [], res_cell J J Y79 J Sz79 Z0 (by exact Point.length (by exact ⟨fb32 _, fb32 _⟩)), sP, sP, ?_, rfl⟩
 rfl

theorem r5_root (Y : Fp) : Meets Tryz.prog 125 [agg (bytesV (fb Y))] [] (fun _ => True) (fun v out => v = .tuple #[agg (bytesV (fb (xOf Y).1)), .bool (xOf Y).2] ∧ out = []) := by
 intro W hW
 have hq := ref_quot Y
 have hxo : xOf Y = fRoot ((Y * Y - 1) * finv (fD * (Y * Y) + 1)) := rfl
 rw [← hq] at hxo
 have hinv := r_inv (cA - cB * (Y * Y))
 revert hinv hxo
 clear hq
 generalize finv (cA - cB * (Y * Y)) = iz
 intro hxo hinv
 have hroot := r3_Root (fb (cA * (Y * Y - 1) * iz)) (cA * (Y * Y - 1) * iz) (fb_length _) (fe_fb _)
 rw [← hxo] at hroot
 clear hxo
 revert hroot
 generalize xOf Y = xr
 intro hroot
 refine calls_of (hp0 := []) Tryz.func125 J 27 Tryz.ntmps125 J (HRep.nil _) (Sat.seq (Sat.region (Tr.boxA J J ?_)))
 intro n1 hn1 hf1
 refine Tr.alloc (cs := (bytesV (List.replicate 32 0))) J Zr77 J ?_
 intro n2 hn2 hf2
 refine Tr.assign J J J (Tr.nil (at_n (Sat.seq (Sat.region (Tr.loadAll J J J Y77 J Sz77 Z1 zF ?_)))))
 refine Tr.loadAll J J J Y77 J Sz77 Z1 zF ?_
 refine Tr.callV J J J J Body122 (r_mul Y Y) (fun _ _ => trivial) (Tr.alloc (cs := (bytesV (List.replicate 32 0))) J Zr77 J ?_)
 intro n4 hn4 hf4
 refine Tr.storeAll J J J J zE Sz77 zF Z0 sP zU ?_
 refine Tr.nil (at_n (Sat.seq (Sat.draw [(1, 1), (3, 0), (3, 2), (3, 3), (3, 4), (2, 5), (4, 6)] Mixed zK (Tr.loadAll J J J Y77 J Sz77 Z0 zF ?_))))
 refine Tr.callV J J J J Body123 (r_cA) (fun _ _ => trivial) (Tr.callV J J J J Body123 (r_one) (fun _ _ => trivial) (Tr.callV J J J J Body194 (r_sub (Y * Y) 1) (fun _ _ => trivial) (Tr.callV J J J J Body122 (r_mul cA (Y * Y - 1)) (fun _ _ => trivial) (Tr.alloc (cs := (bytesV (List.replicate 32 0))) J Zr77 J ?_))))
 intro n5 hn5 hf5
 refine Tr.storeAll J J J J zE Sz77 zF Z0 sP zU ?_
 refine Tr.nil (at_n (Sat.seq (Sat.draw [(1, 2), (3, 0), (3, 1), (3, 3), (3, 4), (2, 5), (4, 6)] Mixed zK (Tr.loadAll J J J Y77 J Sz77 Z1 zF ?_))))
 refine Tr.callV J J J J Body123 (r_cA) (fun _ _ => trivial) (Tr.callV J J J J Body123 (r_cB) (fun _ _ => trivial) (Tr.callV J J J J Body122 (r_mul cB (Y * Y)) (fun _ _ => trivial) ?_))
 refine Tr.callV J J J J Body194 (r_sub cA (cB * (Y * Y))) (fun _ _ => trivial) ?_
 refine Tr.alloc (cs := (bytesV (List.replicate 32 0))) J Zr77 J ?_
 intro n6 hn6 hf6
 refine Tr.storeAll J J J J zE Sz77 zF Z0 sP zU ?_
 refine Tr.nil (at_n (Sat.seq (Sat.draw [(1, 0), (1, 1), (3, 2), (3, 3), (3, 4), (0, 5), (0, 6), (4, 7), (0, 8)] Mixed zK (Tr.loadAll J J J Y77 J Sz77 Z1 zF ?_))))
 refine Tr.loadAll J J J Y77 J Sz77 Z0 zF ?_
 refine Tr.callV J J J J Body124 (hinv) (fun _ _ => trivial) (Tr.callV J J J J Body122 (r_mul (cA * (Y * Y - 1)) iz) (fun _ _ => trivial) (Tr.callV J J J J Body200 (hroot) (fun _ _ => trivial) (Tr.extract J J J J (Tr.extract J J J J (Tr.storeAll J J J J zE Sz77 zF Z3 sP (by exact upd3) ?_)))))
 refine Tr.assign J J J (Tr.nil (at_n (Sat.ret (en_r ?_))))
 refine ⟨_, [], res_cell_tmp J J J Y77 J Sz77 Z3 (by simp [fb_length]), sP, sP, ?_, rfl⟩
 rfl

theorem bP_four : fe 4 * finv (fe 5) = bP.y := by
  have h1 : bP.y * fe 5 = fe 4 := by kernel_rfl
  have h2 : fe 5 * finv (fe 5) = 1 := finv_mul (by
    intro h
    have := congrArg Fin.val h
    revert this
    decide)
  generalize finv (fe 5) = v at *
  generalize fe 5 = f at *
  rw [← h1]
  generalize bP.y = y at *
  grind
theorem bP_even : (decide (bP.x.val % 2 = 1)) = false := by kernel_rfl
theorem bP_root : xOf bP.y = (bP.x, true) := by
  have h := xOf_eq (x := bP.x) (y := bP.y) bP_on
  rw [h, if_neg (of_decide_eq_false bP_even)]

theorem r5_Base  : Meets Tryz.prog 67 [] [] (fun _ => True) (fun v out => v = agg (ptc bP).cells ∧ out = []) := by
 intro W hW
 have hm := r_mul (fe 4) (finv (fe 5))
 rw [bP_four] at hm
 have hi := r_inv (fe 5)
 have hr := r5_root bP.y
 rw [bP_root] at hr
 have hb : bP = ⟨bP.x, bP.y⟩ := rfl
 rw [hb]
 clear hb
 revert hm hi hr
 generalize finv (fe 5) = iv
 generalize bP.x = bx
 generalize bP.y = bY
 intro hm hi hr
 refine calls_of (hp0 := []) Tryz.func67 J 16 Tryz.ntmps67 J (HRep.nil _) (Sat.seq (Sat.region (Tr.alloc (cs := Point.zero.cells) J Point.zr J ?_)))
 intro n0 hn0 hf0
 refine Tr.nil (at_n (Sat.seq (Sat.region (Tr.callV J J J J Body123 (r_of 4 (fe 4) J) (fun _ _ => trivial) (Tr.callV J J J J Body123 (r_of 5 (fe 5) J) (fun _ _ => trivial) (Tr.callV J J J J Body124 (hi) (fun _ _ => trivial) (Tr.callV J J J J Body122 (hm) (fun _ _ => trivial) (Tr.alloc (cs := (bytesV (List.replicate 32 0))) J Zr77 J ?_))))))))
 intro n1 hn1 hf1
 refine Tr.storeAll J J J J zE Sz77 zF Z0 sP zU ?_
 refine Tr.nil (at_n (Sat.seq (Sat.region (Tr.loadAll J J J Y77 J Sz77 Z0 zF ?_))))
 refine Tr.callV J J J J Body125 (hr) (fun _ _ => trivial) (Tr.move J J J (Tr.extract J J J J (Tr.extract J J J J (Tr.alloc (cs := (bytesV (List.replicate 32 0))) J Zr77 J ?_))))
 intro n2 hn2 hf2
 refine Tr.storeAll J J J J zE Sz77 zF Z0 sP zU ?_
 refine Tr.assign J J J (Tr.nil (at_n (Sat.seq (Sat.region (Tr.loadAll J J J Y77 J Sz77 Z0 zF ?_)))))
 refine Tr.loadAll J J J Y77 J Sz77 Z1 zF ?_
 refine Tr.build (cs := (ptc (⟨bx, bY⟩ : Pt Fp)).cells) J J J (fun w => by kernel_rfl) ?_
 refine Tr.storeAll J J J J (Point.isCell zP) Sz79 (Point.length zP) Z2 (Point.length zZ) (by exact upd2) ?_
 refine Tr.nil (at_n (Sat.ret (en_r ?_)))
 refine ⟨_, [], res_cell J J Y79 J Sz79 Z2 (by exact Point.length zP), sP, sP, ?_, rfl⟩
 rfl

theorem r5_Check (P : Pt Fp) (hP : cv.on P) : Meets Tryz.prog 118 [agg (ptc P).cells] [] (fun _ => True) (fun v out => v = i64 0 ∧ out = []) := by
 intro W hW
 refine calls_of (hp0 := []) Tryz.func118 J 41 Tryz.ntmps118 J (HRep.nil _) (Sat.seq (Sat.region (Tr.boxA J J ?_)))
 intro n1 hn1 hf1
 refine Tr.assign J J J (Tr.nil (at_n (Sat.seq (Sat.seq (Sat.region (Tr.fld J J J Y79 J Sz77 dE _ J (Tr.loadN (bytesV _) J J J Y77 J Sz77 Z0 (Point.row_fX zP) (Point.rl_fX zP) ?_)))))))
 refine Tr.callV J J J J Body184 (r_canon P.x) (fun _ _ => trivial) (Tr.not J J J (Tr.move J J J (Tr.fld J J J Y79 J Sz77 dE _ J (Tr.loadN (bytesV _) J J J Y77 J Sz77 Z0 (Point.row_fY zP) (Point.rl_fY zP) ?_))))
 refine Tr.callV J J J J Body184 (r_canon P.y) (fun _ _ => trivial) (Tr.not J J J (Tr.pick J J J J J J (Tr.nil (at_n (Sat.cond_f J J (Sat.skip (at_n (Sat.seq (Sat.draw [(0, 0), (1, 1), (0, 2), (1, 3), (0, 5), (1, 6), (0, 7), (1, 8), (3, 4), (3, 9), (2, 10), (2, 11), (4, 12), (4, 13)] Mixed zK (Tr.fld J J J Y79 J Sz77 dE _ J (Tr.loadN (bytesV _) J J J Y77 J Sz77 Z0 (Point.row_fX zP) (Point.rl_fX zP) ?_)))))))))))
 refine Tr.fld J J J Y79 J Sz77 dE _ J (Tr.loadN (bytesV _) J J J Y77 J Sz77 Z0 (Point.row_fX zP) (Point.rl_fX zP) ?_)
 refine Tr.fld J J J Y79 J Sz77 dE _ J (Tr.loadN (bytesV _) J J J Y77 J Sz77 Z0 (Point.row_fY zP) (Point.rl_fY zP) ?_)
 refine Tr.fld J J J Y79 J Sz77 dE _ J (Tr.loadN (bytesV _) J J J Y77 J Sz77 Z0 (Point.row_fY zP) (Point.rl_fY zP) ?_)
 refine Tr.callV J J J J Body122 (r_mul P.x P.x) (fun _ _ => trivial) (Tr.callV J J J J Body122 (r_mul P.y P.y) (fun _ _ => trivial) (Tr.alloc (cs := (bytesV (List.replicate 32 0))) J Zr77 J ?_))
 intro n3 hn3 hf3
 refine Tr.alloc (cs := (bytesV (List.replicate 32 0))) J Zr77 J ?_
 intro n4 hn4 hf4
 refine Tr.storeAll J J J J zE Sz77 zF Z1 sP zV ?_
 refine Tr.storeAll J J J J zE Sz77 zF Z0 sP zU ?_
 refine Tr.nil (at_n (Sat.seq (Sat.draw [(1, 1), (1, 2), (3, 0), (3, 3), (3, 4), (3, 5), (3, 6), (2, 7), (4, 8)] Mixed zK (Tr.loadAll J J J Y77 J Sz77 Z0 zF ?_))))
 refine Tr.loadAll J J J Y77 J Sz77 Z1 zF ?_
 refine Tr.callV J J J J Body123 (r_cA) (fun _ _ => trivial) (Tr.callV J J J J Body194 (r_sub (P.y * P.y) (P.x * P.x)) (fun _ _ => trivial) (Tr.callV J J J J Body123 (r_one) (fun _ _ => trivial) (Tr.callV J J J J Body194 (r_sub (P.y * P.y - P.x * P.x) 1) (fun _ _ => trivial) (Tr.callV J J J J Body122 (r_mul cA (P.y * P.y - P.x * P.x - 1)) (fun _ _ => trivial) (Tr.alloc (cs := (bytesV (List.replicate 32 0))) J Zr77 J ?_)))))
 intro n5 hn5 hf5
 refine Tr.storeAll J J J J zE Sz77 zF Z0 sP zU ?_
 refine Tr.nil (at_n (Sat.seq (Sat.seq (Sat.draw [(1, 0), (1, 2), (1, 3), (3, 1), (3, 4), (3, 5), (3, 6), (0, 7)] Mixed zK (Tr.loadAll J J J Y77 J Sz77 Z0 zF ?_)))))
 refine Tr.loadAll J J J Y77 J Sz77 Z2 zF ?_
 refine Tr.loadAll J J J Y77 J Sz77 Z1 zF ?_
 refine Tr.callV J J J J Body123 (r_cB) (fun _ _ => trivial) (Tr.callV J J J J Body122 (r_mul (P.x * P.x) (P.y * P.y)) (fun _ _ => trivial) (Tr.callV J J J J Body122 (r_mul cB (P.x * P.x * (P.y * P.y))) (fun _ _ => trivial) ?_))
 refine Tr.callV J J J J Body185 (r_neg (cB * (P.x * P.x * (P.y * P.y)))) (fun _ _ => trivial) ?_
 refine Tr.neq_bytes J J J J Tryz.eqGuardType77 Y77 Y5 Sz5 zF zF (show (!decide _) = false from congrArg not (decide_eq_true (congrArg fb (check_eq hP)))) (Tr.nil (at_n (Sat.cond_f J (rfl) (Sat.skip (at_n (Sat.seq (Sat.region (Tr.assign J J J (Tr.nil (at_n (Sat.ret (en_r ?_))))))))))))
 refine ⟨_, [], res_tmp J J, sP, sP, ?_, rfl⟩
 rfl

end Go.Proofs.YtpacobmjjjillaaGreat
end

section
namespace Go.Proofs.YtpacobmjjjillaaGreat
open Go Hw
set_option linter.unusedVariables false
set_option linter.unusedSimpArgs false

open Ed

/-- three words of ten that fit, and what they mean -/
structure FarFit (u : far) : Prop where
  x : Fit10 u.fX
  y : Fit10 u.fY
  z : Fit10 u.fZ
theorem FarFit.ok {x : far} (h : FarFit x) : x.ok := ⟨h.x.len, h.y.len, h.z.len⟩
def farV (x : far) : Fr Fp := ⟨fe (v10 x.fX), fe (v10 x.fY), fe (v10 x.fZ)⟩
structure FarRep (x : far) (P : Pt Fp) : Prop where
  fit : FarFit x
  rep : (farV x).rep P
def frA (p q : far) : List Nat := mulT p.fZ q.fZ
def frM (d : List Nat) (p q : far) : List Nat := mulT d (mulT (mulT p.fX q.fX) (mulT p.fY q.fY))
def frB (p q : far) : List Nat := plusT (mulT p.fX q.fX) (mulT p.fY q.fY)
def frC (p q : far) : List Nat := minusT (mulT (plusT p.fX p.fY) (plusT q.fX q.fY)) (frB p q)
def frF (d : List Nat) (p q : far) : List Nat := minusT (mulT (frA p q) (frA p q)) (frM d p q)
def frG (d : List Nat) (p q : far) : List Nat := plusT (mulT (frA p q) (frA p q)) (frM d p q)
def frT (d : List Nat) (p q : far) : far := ⟨mulT (frA p q) (mulT (frF d p q) (frC p q)), mulT (frA p q) (mulT (frG d p q) (frB p q)), mulT (frF d p q) (frG d p q)⟩
section
variable {d : List Nat} {p q : far}
theorem frA_fit (hp : FarFit p) (hq : FarFit q) : Fit10 (frA p q) := mulT_fit hp.z hq.z
theorem frM_fit (hd : Fit10 d) (hp : FarFit p) (hq : FarFit q) : Fit10 (frM d p q) := mulT_fit hd (mulT_fit (mulT_fit hp.x hq.x) (mulT_fit hp.y hq.y))
theorem frB_fit (hp : FarFit p) (hq : FarFit q) : Fit10 (frB p q) := plusT_fit (mulT_fit hp.x hq.x) (mulT_fit hp.y hq.y)
theorem frC_fit (hp : FarFit p) (hq : FarFit q) : Fit10 (frC p q) := minusT_fit (mulT_fit (plusT_fit hp.x hp.y) (plusT_fit hq.x hq.y)) (frB_fit hp hq)
theorem frF_fit (hd : Fit10 d) (hp : FarFit p) (hq : FarFit q) : Fit10 (frF d p q) := minusT_fit (mulT_fit (frA_fit hp hq) (frA_fit hp hq)) (frM_fit hd hp hq)
theorem frG_fit (hd : Fit10 d) (hp : FarFit p) (hq : FarFit q) : Fit10 (frG d p q) := plusT_fit (mulT_fit (frA_fit hp hq) (frA_fit hp hq)) (frM_fit hd hp hq)
theorem frT_fit (hd : Fit10 d) (hp : FarFit p) (hq : FarFit q) : FarFit (frT d p q) :=
  ⟨mulT_fit (frA_fit hp hq) (mulT_fit (frF_fit hd hp hq) (frC_fit hp hq)), mulT_fit (frA_fit hp hq) (mulT_fit (frG_fit hd hp hq) (frB_fit hp hq)), mulT_fit (frF_fit hd hp hq) (frG_fit hd hp hq)⟩
theorem mv {x y : List Nat} (hx : Fit10 x) (hy : Fit10 y) : fe (v10 (mulT x y)) = fe (v10 x) * fe (v10 y) := mulT_v hx.len hy.len
theorem pv' {x y : List Nat} (hx : Fit10 x) (hy : Fit10 y) : fe (v10 (plusT x y)) = fe (v10 x) + fe (v10 y) := plusT_v hx.len hy.len
theorem nv {x y : List Nat} (hx : Fit10 x) (hy : Fit10 y) : fe (v10 (minusT x y)) = fe (v10 x) - fe (v10 y) := minusT_v hx.len hy
theorem frT_v (hd : Fit10 d) (hp : FarFit p) (hq : FarFit q) : farV (frT d p q) = Fr.add (fe (v10 d)) (farV p) (farV q) := by
  have a := frA_fit hp hq
  have m := frM_fit hd hp hq
  have b := frB_fit hp hq
  have c := frC_fit hp hq
  have f := frF_fit hd hp hq
  have g := frG_fit hd hp hq
  have c1 := mulT_fit hp.x hq.x
  have c2 := mulT_fit hp.y hq.y
  have va : fe (v10 (frA p q)) = fe (v10 p.fZ) * fe (v10 q.fZ) := mv hp.z hq.z
  have vm : fe (v10 (frM d p q)) = fe (v10 d) * (fe (v10 p.fX) * fe (v10 q.fX) * (fe (v10 p.fY) * fe (v10 q.fY))) := by rw [frM, mv hd (mulT_fit c1 c2), mv c1 c2, mv hp.x hq.x, mv hp.y hq.y]
  have vb : fe (v10 (frB p q)) = fe (v10 p.fX) * fe (v10 q.fX) + fe (v10 p.fY) * fe (v10 q.fY) := by rw [frB, pv' c1 c2, mv hp.x hq.x, mv hp.y hq.y]
  have vc : fe (v10 (frC p q)) = (fe (v10 p.fX) + fe (v10 p.fY)) * (fe (v10 q.fX) + fe (v10 q.fY)) - (fe (v10 p.fX) * fe (v10 q.fX) + fe (v10 p.fY) * fe (v10 q.fY)) := by
    rw [frC, nv (mulT_fit (plusT_fit hp.x hp.y) (plusT_fit hq.x hq.y)) b, mv (plusT_fit hp.x hp.y) (plusT_fit hq.x hq.y), pv' hp.x hp.y, pv' hq.x hq.y, vb]
  have vf : fe (v10 (frF d p q)) = fe (v10 (frA p q)) * fe (v10 (frA p q)) - fe (v10 (frM d p q)) := by rw [frF, nv (mulT_fit a a) m, mv a a]
  have vg : fe (v10 (frG d p q)) = fe (v10 (frA p q)) * fe (v10 (frA p q)) + fe (v10 (frM d p q)) := by rw [frG, pv' (mulT_fit a a) m, mv a a]
  unfold farV frT Fr.add
  simp only [mv a (mulT_fit f c), mv f c, mv a (mulT_fit g b), mv g b, mv f g, vf, vg, va, vm, vb, vc]
end
theorem FarRep.add {d : List Nat} {p q : far} {P Q : Pt Fp} (hd : Fit10 d) (hdv : fe (v10 d) = fD) (hp : FarRep p P) (hq : FarRep q Q) (hP : cv.on P) (hQ : cv.on Q) : FarRep (frT d p q) (cv.add P Q) := by
  refine ⟨frT_fit hd hp.fit hq.fit, ?_⟩
  rw [frT_v hd hp.fit hq.fit, hdv]
  exact cv.far_add hp.rep hq.rep hP hQ
/-- a point's words -/
def awT (P : Pt Fp) : far := ⟨openT (le (fb P.x)), openT (le (fb P.y)), openT (le (fb (1 : Fp)))⟩
theorem awT_fit (P : Pt Fp) : FarFit (awT P) := ⟨o_fit (fb_length _), o_fit (fb_length _), o_fit (fb_length _)⟩
theorem awT_rep (P : Pt Fp) : FarRep (awT P) P := by
  refine ⟨awT_fit P, ?_⟩
  have h : farV (awT P) = Fr.of P := by
    unfold farV awT Fr.of
    simp only [o_v (fb_length _), fe_fb]
  rw [h]
  exact cv.far_of P
def dT : List Nat := openT (le (fb fD))
theorem dT_fit : Fit10 dT := o_fit (fb_length _)
theorem dT_v : fe (v10 dT) = fD := by
  have h := o_v (fb_length fD)
  rw [fe_fb] at h
  exact h
theorem r5_openD : Meets Tryz.prog 188 [agg (bytesV (fb fD))] [] (fun _ => True) (fun v out => v = agg (wdsV dT) ∧ out = []) := r3_Open (fb fD) (fb_length _)

theorem r5_plus (d : List Nat) (p q : far) (hd : Fit10 d) (hp : FarFit p) (hq : FarFit q) : Meets Tryz.prog 191 [agg (wdsV d), agg (p).cells, agg (q).cells] [] (fun _ => True) (fun v out => v = agg (frT d p q).cells ∧ out = []) := by
 intro W hW
 have ldd := hd.len
 have hpo := hp.ok
 have hqo := hq.ok
 unfold frT frF frG frC frM frB frA
 have fa := mulT_fit hp.z hq.z
 have ca := r3_Times _ _ hp.z hq.z
 revert fa ca
 generalize mulT p.fZ q.fZ = a
 intro fa ca
 have la := fa.len
 have fb2 := mulT_fit fa fa
 have cb := r3_Times _ _ fa fa
 revert fb2 cb
 generalize mulT a a = b
 intro fb2 cb
 have lb := fb2.len
 have fc := mulT_fit hp.x hq.x
 have cc := r3_Times _ _ hp.x hq.x
 revert fc cc
 generalize mulT p.fX q.fX = c
 intro fc cc
 have lc := fc.len
 have fe2 := mulT_fit hp.y hq.y
 have ce := r3_Times _ _ hp.y hq.y
 revert fe2 ce
 generalize mulT p.fY q.fY = e
 intro fe2 ce
 have le := fe2.len
 have fce := mulT_fit fc fe2
 have cce := r3_Times _ _ fc fe2
 revert fce cce
 generalize mulT c e = ce2
 intro fce cce
 have lce2 := fce.len
 have fm := mulT_fit hd fce
 have cm := r3_Times _ _ hd fce
 revert fm cm
 generalize mulT d ce2 = m
 intro fm cm
 have lm := fm.len
 have ff := minusT_fit fb2 fm
 have cf := r3_Minus _ _ fb2 fm
 revert ff cf
 generalize minusT b m = f
 intro ff cf
 have lf := ff.len
 have fg := plusT_fit fb2 fm
 have cg := r3_Plus _ _ fb2 fm
 revert fg cg
 generalize plusT b m = g
 intro fg cg
 have lg := fg.len
 have fbo := plusT_fit fc fe2
 have cbo := r3_Plus _ _ fc fe2
 revert fbo cbo
 generalize plusT c e = both
 intro fbo cbo
 have lboth := fbo.len
 have fpp := plusT_fit hp.x hp.y
 have cpp := r3_Plus _ _ hp.x hp.y
 revert fpp cpp
 generalize plusT p.fX p.fY = pp
 intro fpp cpp
 have lpp := fpp.len
 have fqq := plusT_fit hq.x hq.y
 have cqq := r3_Plus _ _ hq.x hq.y
 revert fqq cqq
 generalize plusT q.fX q.fY = qq
 intro fqq cqq
 have lqq := fqq.len
 have fpq := mulT_fit fpp fqq
 have cpq := r3_Times _ _ fpp fqq
 revert fpq cpq
 generalize mulT pp qq = pq
 intro fpq cpq
 have lpq := fpq.len
 have fcr := minusT_fit fpq fbo
 have ccr := r3_Minus _ _ fpq fbo
 revert fcr ccr
 generalize minusT pq both = cr
 intro fcr ccr
 have lcr := fcr.len
 have ffc := mulT_fit ff fcr
 have cfc := r3_Times _ _ ff fcr
 revert ffc cfc
 generalize mulT f cr = fcr2
 intro ffc cfc
 have lfcr2 := ffc.len
 have fgb := mulT_fit fg fbo
 have cgb := r3_Times _ _ fg fbo
 revert fgb cgb
 generalize mulT g both = gb
 intro fgb cgb
 have lgb := fgb.len
 have fX := mulT_fit fa ffc
 have cX := r3_Times _ _ fa ffc
 revert fX cX
 generalize mulT a fcr2 = X
 intro fX cX
 have lX := fX.len
 have fY := mulT_fit fa fgb
 have cY := r3_Times _ _ fa fgb
 revert fY cY
 generalize mulT a gb = Y
 intro fY cY
 have lY := fY.len
 have fZ := mulT_fit ff fg
 have cZ := r3_Times _ _ ff fg
 revert fZ cZ
 generalize mulT f g = Z
 intro fZ cZ
 have lZ := fZ.len
 refine calls_of (hp0 := []) Tryz.func191 J 75 Tryz.ntmps191 J (HRep.nil _) (Sat.seq (Sat.region (Tr.boxA J J ?_)))
 intro n3 hn3 hf3
 refine Tr.boxA J J ?_
 intro n4 hn4 hf4
 refine Tr.boxA J J ?_
 intro n5 hn5 hf5
 refine Tr.alloc (cs := far.zero.cells) J far.zr J ?_
 intro n6 hn6 hf6
 refine Tr.nil (at_n (Sat.seq (Sat.region (Tr.fld J J J Tryz.underlying180 J Sz177 dE _ J (Tr.loadN (wdsV _) J J J Y177 J Sz177 Z2 (far.row_fZ (by exact hpo)) (far.rl_fZ (by exact hpo)) ?_)))))
 refine Tr.fld J J J Tryz.underlying180 J Sz177 dE _ J (Tr.loadN (wdsV _) J J J Y177 J Sz177 Z1 (far.row_fZ (by exact hqo)) (far.rl_fZ (by exact hqo)) ?_)
 refine Tr.callV J J J J Body197 (ca) (fun _ _ => trivial) (Tr.alloc (cs := (intsV (List.replicate 10 0))) J Zr177 J ?_)
 intro n7 hn7 hf7
 refine Tr.storeAll J J J J (by exact wdsV_cell _) Sz177 (by (simp [wdsV_length, la]; done)) Z0 sP zU ?_
 refine Tr.nil (at_n (Sat.seq (Sat.region (Tr.loadAll J J J Y177 J Sz177 Z0 (by (simp [wdsV_length, la]; done)) ?_))))
 refine Tr.loadAll J J J Y177 J Sz177 Z0 (by (simp [wdsV_length, la]; done)) ?_
 refine Tr.callV J J J J Body197 (cb) (fun _ _ => trivial) (Tr.alloc (cs := (intsV (List.replicate 10 0))) J Zr177 J ?_)
 intro n8 hn8 hf8
 refine Tr.storeAll J J J J (by exact wdsV_cell _) Sz177 (by (simp [wdsV_length, lb]; done)) Z0 sP zU ?_
 refine Tr.nil (at_n (Sat.seq (Sat.draw [(0, 0), (1, 1), (0, 2), (1, 3), (0, 5), (1, 6), (0, 7), (1, 8), (3, 4), (3, 9), (2, 10), (2, 11), (4, 12), (4, 13)] Mixed zK (Tr.fld J J J Tryz.underlying180 J Sz177 dE _ J (Tr.loadN (wdsV _) J J J Y177 J Sz177 Z4 (far.row_fX (by exact hpo)) (far.rl_fX (by exact hpo)) ?_)))))
 refine Tr.fld J J J Tryz.underlying180 J Sz177 dE _ J (Tr.loadN (wdsV _) J J J Y177 J Sz177 Z3 (far.row_fX (by exact hqo)) (far.rl_fX (by exact hqo)) ?_)
 refine Tr.fld J J J Tryz.underlying180 J Sz177 dE _ J (Tr.loadN (wdsV _) J J J Y177 J Sz177 Z4 (far.row_fY (by exact hpo)) (far.rl_fY (by exact hpo)) ?_)
 refine Tr.fld J J J Tryz.underlying180 J Sz177 dE _ J (Tr.loadN (wdsV _) J J J Y177 J Sz177 Z3 (far.row_fY (by exact hqo)) (far.rl_fY (by exact hqo)) ?_)
 refine Tr.callV J J J J Body197 (cc) (fun _ _ => trivial) (Tr.callV J J J J Body197 (ce) (fun _ _ => trivial) (Tr.alloc (cs := (intsV (List.replicate 10 0))) J Zr177 J ?_))
 intro n9 hn9 hf9
 refine Tr.alloc (cs := (intsV (List.replicate 10 0))) J Zr177 J ?_
 intro n10 hn10 hf10
 refine Tr.storeAll J J J J (by exact wdsV_cell _) Sz177 (by (simp [wdsV_length, lc]; done)) Z1 sP zV ?_
 refine Tr.storeAll J J J J (by exact wdsV_cell _) Sz177 (by (simp [wdsV_length, le]; done)) Z0 sP zU ?_
 refine Tr.nil (at_n (Sat.seq (Sat.draw [(1, 0), (1, 1), (1, 2), (3, 3), (3, 4), (2, 5), (4, 6)] Mixed zK (Tr.loadAll J J J Y177 J Sz177 (by exact mem7) (by (simp [wdsV_length, ldd]; done)) ?_))))
 refine Tr.loadAll J J J Y177 J Sz177 Z1 (by (simp [wdsV_length, lc]; done)) ?_
 refine Tr.loadAll J J J Y177 J Sz177 Z0 (by (simp [wdsV_length, le]; done)) ?_
 refine Tr.callV J J J J Body197 (cce) (fun _ _ => trivial) (Tr.callV J J J J Body197 (cm) (fun _ _ => trivial) (Tr.alloc (cs := (intsV (List.replicate 10 0))) J Zr177 J ?_))
 intro n11 hn11 hf11
 refine Tr.storeAll J J J J (by exact wdsV_cell _) Sz177 (by (simp [wdsV_length, lm]; done)) Z0 sP zU ?_
 refine Tr.nil (at_n (Sat.seq (Sat.draw [(1, 0), (1, 1), (1, 3), (1, 4), (3, 2), (3, 5), (2, 6), (2, 7), (4, 8), (4, 9)] Mixed zK (Tr.loadAll J J J Y177 J Sz177 Z3 (by (simp [wdsV_length, lb]; done)) ?_))))
 refine Tr.loadAll J J J Y177 J Sz177 Z0 (by (simp [wdsV_length, lm]; done)) ?_
 refine Tr.loadAll J J J Y177 J Sz177 Z3 (by (simp [wdsV_length, lb]; done)) ?_
 refine Tr.loadAll J J J Y177 J Sz177 Z0 (by (simp [wdsV_length, lm]; done)) ?_
 refine Tr.callV J J J J Body231 (cf) (fun _ _ => trivial) (Tr.callV J J J J Body232 (cg) (fun _ _ => trivial) (Tr.alloc (cs := (intsV (List.replicate 10 0))) J Zr177 J ?_))
 intro n12 hn12 hf12
 refine Tr.alloc (cs := (intsV (List.replicate 10 0))) J Zr177 J ?_
 intro n13 hn13 hf13
 refine Tr.storeAll J J J J (by exact wdsV_cell _) Sz177 (by (simp [wdsV_length, lf]; done)) Z1 sP zV ?_
 refine Tr.storeAll J J J J (by exact wdsV_cell _) Sz177 (by (simp [wdsV_length, lg]; done)) Z0 sP zU ?_
 refine Tr.nil (at_n (Sat.seq (Sat.region (Tr.loadAll J J J Y177 J Sz177 Z4 (by (simp [wdsV_length, lc]; done)) ?_))))
 refine Tr.loadAll J J J Y177 J Sz177 Z3 (by (simp [wdsV_length, le]; done)) ?_
 refine Tr.callV J J J J Body232 (cbo) (fun _ _ => trivial) (Tr.alloc (cs := (intsV (List.replicate 10 0))) J Zr177 J ?_)
 intro n14 hn14 hf14
 refine Tr.storeAll J J J J (by exact wdsV_cell _) Sz177 (by (simp [wdsV_length, lboth]; done)) Z0 sP zU ?_
 refine Tr.nil (at_n (Sat.seq (Sat.draw [(0, 0), (1, 1), (0, 2), (1, 3), (0, 5), (1, 6), (0, 7), (1, 8), (1, 11), (3, 4), (3, 9), (3, 10), (3, 12), (2, 13), (4, 14)] Mixed zK (Tr.fld J J J Tryz.underlying180 J Sz177 dE _ J (Tr.loadN (wdsV _) J J J Y177 J Sz177 (by (repeat (first | exact List.mem_cons_self | refine List.mem_cons_of_mem _ ?_))) (far.row_fX (by exact hpo)) (far.rl_fX (by exact hpo)) ?_)))))
 refine Tr.fld J J J Tryz.underlying180 J Sz177 dE _ J (Tr.loadN (wdsV _) J J J Y177 J Sz177 (by (repeat (first | exact List.mem_cons_self | refine List.mem_cons_of_mem _ ?_))) (far.row_fY (by exact hpo)) (far.rl_fY (by exact hpo)) ?_)
 refine Tr.fld J J J Tryz.underlying180 J Sz177 dE _ J (Tr.loadN (wdsV _) J J J Y177 J Sz177 (by (repeat (first | exact List.mem_cons_self | refine List.mem_cons_of_mem _ ?_))) (far.row_fX (by exact hqo)) (far.rl_fX (by exact hqo)) ?_)
 refine Tr.fld J J J Tryz.underlying180 J Sz177 dE _ J (Tr.loadN (wdsV _) J J J Y177 J Sz177 (by (repeat (first | exact List.mem_cons_self | refine List.mem_cons_of_mem _ ?_))) (far.row_fY (by exact hqo)) (far.rl_fY (by exact hqo)) ?_)
 refine Tr.loadAll J J J Y177 J Sz177 Z0 (by (simp [wdsV_length, lboth]; done)) ?_
 refine Tr.callV J J J J Body232 (cpp) (fun _ _ => trivial) (Tr.callV J J J J Body232 (cqq) (fun _ _ => trivial) (Tr.callV J J J J Body197 (cpq) (fun _ _ => trivial) (Tr.callV J J J J Body231 (ccr) (fun _ _ => trivial) (Tr.alloc (cs := (intsV (List.replicate 10 0))) J Zr177 J ?_))))
 intro n15 hn15 hf15
 refine Tr.storeAll J J J J (by exact wdsV_cell _) Sz177 (by (simp [wdsV_length, lcr]; done)) Z0 sP zU ?_
 refine Tr.nil (at_n (Sat.seq (Sat.draw [(1, 0), (1, 1), (1, 2), (1, 5), (1, 6), (1, 7), (1, 10), (1, 11), (3, 3), (3, 4), (3, 8), (3, 9), (3, 12), (0, 13), (4, 14)] Mixed zK (Tr.loadAll J J J Y177 J Sz177 (by (repeat (first | exact List.mem_cons_self | refine List.mem_cons_of_mem _ ?_))) (by (simp [wdsV_length, la]; done)) ?_))))
 refine Tr.loadAll J J J Y177 J Sz177 Z3 (by (simp [wdsV_length, lf]; done)) ?_
 refine Tr.loadAll J J J Y177 J Sz177 Z0 (by (simp [wdsV_length, lcr]; done)) ?_
 refine Tr.loadAll J J J Y177 J Sz177 (by (repeat (first | exact List.mem_cons_self | refine List.mem_cons_of_mem _ ?_))) (by (simp [wdsV_length, la]; done)) ?_
 refine Tr.loadAll J J J Y177 J Sz177 Z2 (by (simp [wdsV_length, lg]; done)) ?_
 refine Tr.loadAll J J J Y177 J Sz177 Z1 (by (simp [wdsV_length, lboth]; done)) ?_
 refine Tr.loadAll J J J Y177 J Sz177 Z3 (by (simp [wdsV_length, lf]; done)) ?_
 refine Tr.loadAll J J J Y177 J Sz177 Z2 (by (simp [wdsV_length, lg]; done)) ?_
 refine Tr.callV J J J J Body197 (cfc) (fun _ _ => trivial) (Tr.callV J J J J Body197 (cX) (fun _ _ => trivial) (Tr.callV J J J J Body197 (cgb) (fun _ _ => trivial) (Tr.callV J J J J Body197 (cY) (fun _ _ => trivial) (Tr.callV J J J J Body197 (cZ) (fun _ _ => trivial) (Tr.build (cs := (⟨X, Y, Z⟩ : far).cells) J J J (fun w => by kernel_rfl) ?_)))))
 refine Tr.storeAll J J J J (far.isCell (by exact ⟨lX, lY, lZ⟩)) Sz180 (far.length (by exact ⟨lX, lY, lZ⟩)) (by (repeat (first | exact List.mem_cons_self | refine List.mem_cons_of_mem _ ?_))) (far.length (by exact far.zero_ok)) (by (repeat (first | exact upd0 | apply Upd.tail))) ?_
 refine Tr.nil (at_n (Sat.ret (en_r ?_)))
 refine ⟨_, [], res_cell J J Tryz.underlying180 J Sz180 (by (repeat (first | exact List.mem_cons_self | refine List.mem_cons_of_mem _ ?_))) (by exact far.length (by exact ⟨lX, lY, lZ⟩)), sP, sP, ?_, rfl⟩
 rfl

theorem r5_near (p : far) (P : Pt Fp) (hp : FarRep p P) : Meets Tryz.prog 193 [agg (p).cells] [] (fun _ => True) (fun v out => v = agg (ptc P).cells ∧ out = []) := by
 intro W hW
 have hpo := hp.fit.ok
 have hpt := cv.far_pt hp.rep
 have h1 := r3_Close_v p.fZ hp.fit.z _ rfl
 have h2 := r3_Close_v p.fX hp.fit.x _ rfl
 have h3 := r3_Close_v p.fY hp.fit.y _ rfl
 have hi := r_inv (fe (v10 p.fZ))
 have e : P = ⟨fe (v10 p.fX) * finv (fe (v10 p.fZ)), fe (v10 p.fY) * finv (fe (v10 p.fZ))⟩ := hpt.symm
 rw [e]
 clear e hpt
 revert h1 h2 h3 hi
 generalize finv (fe (v10 p.fZ)) = iz
 generalize fe (v10 p.fZ) = z
 generalize fe (v10 p.fX) = x
 generalize fe (v10 p.fY) = y
 intro h1 h2 h3 hi
 refine calls_of (hp0 := []) Tryz.func193 J 19 Tryz.ntmps193 J (HRep.nil _) (Sat.seq (Sat.region (Tr.boxA J J ?_)))
 intro n1 hn1 hf1
 refine Tr.alloc (cs := Point.zero.cells) J Point.zr J ?_
 intro n2 hn2 hf2
 refine Tr.nil (at_n (Sat.seq (Sat.region (Tr.fld J J J Tryz.underlying180 J Sz177 dE _ J (Tr.loadN (wdsV _) J J J Y177 J Sz177 Z1 (far.row_fZ (by exact hpo)) (far.rl_fZ (by exact hpo)) ?_)))))
 refine Tr.callV J J J J Body196 (h1) (fun _ _ => trivial) (Tr.callV J J J J Body124 (hi) (fun _ _ => trivial) (Tr.alloc (cs := (bytesV (List.replicate 32 0))) J Zr77 J ?_))
 intro n3 hn3 hf3
 refine Tr.storeAll J J J J zE Sz77 zF Z0 sP zU ?_
 refine Tr.nil (at_n (Sat.seq (Sat.draw [(0, 0), (1, 1), (1, 3), (0, 5), (1, 6), (1, 8), (3, 2), (3, 4), (3, 7), (3, 9), (0, 10), (4, 11)] Mixed zK (Tr.fld J J J Tryz.underlying180 J Sz177 dE _ J (Tr.loadN (wdsV _) J J J Y177 J Sz177 Z2 (far.row_fX (by exact hpo)) (far.rl_fX (by exact hpo)) ?_)))))
 refine Tr.loadAll J J J Y77 J Sz77 Z0 zF ?_
 refine Tr.fld J J J Tryz.underlying180 J Sz177 dE _ J (Tr.loadN (wdsV _) J J J Y177 J Sz177 Z2 (far.row_fY (by exact hpo)) (far.rl_fY (by exact hpo)) ?_)
 refine Tr.loadAll J J J Y77 J Sz77 Z0 zF ?_
 refine Tr.callV J J J J Body196 (h2) (fun _ _ => trivial) (Tr.callV J J J J Body122 (r_mul x iz) (fun _ _ => trivial) (Tr.callV J J J J Body196 (h3) (fun _ _ => trivial) (Tr.callV J J J J Body122 (r_mul y iz) (fun _ _ => trivial) (Tr.build (cs := (ptc (⟨x * iz, y * iz⟩ : Pt Fp)).cells) J J J (fun w => by kernel_rfl) ?_))))
 refine Tr.storeAll J J J J (Point.isCell zP) Sz79 (Point.length zP) Z1 (Point.length zZ) zV ?_
 refine Tr.nil (at_n (Sat.ret (en_r ?_)))
 refine ⟨_, [], res_cell J J Y79 J Sz79 Z1 (by exact Point.length zP), sP, sP, ?_, rfl⟩
 rfl

theorem r5_away (P : Pt Fp) : Meets Tryz.prog 190 [agg (ptc P).cells] [] (fun _ => True) (fun v out => v = agg (awT P).cells ∧ out = []) := by
 intro W hW
 have h1 := r3_Open (fb P.x) (fb_length _)
 have h2 := r3_Open (fb P.y) (fb_length _)
 have h3 := r3_Open (fb 1) (fb_length _)
 have lX := openT_length (le (fb P.x))
 have lY := openT_length (le (fb P.y))
 have lZ := openT_length (le (fb 1))
 unfold awT
 revert h1 h2 h3 lX lY lZ
 generalize openT (le (fb P.x)) = X
 generalize openT (le (fb P.y)) = Y
 generalize openT (le (fb 1)) = Z
 intro h1 h2 h3 lX lY lZ
 refine calls_of (hp0 := []) Tryz.func190 J 12 Tryz.ntmps190 J (HRep.nil _) (Sat.seq (Sat.region (Tr.boxA J J ?_)))
 intro n1 hn1 hf1
 refine Tr.alloc (cs := far.zero.cells) J far.zr J ?_
 intro n2 hn2 hf2
 refine Tr.nil (at_n (Sat.seq (Sat.draw [(0, 0), (1, 1), (0, 3), (1, 4), (3, 2), (3, 5), (3, 6), (3, 7), (0, 8), (4, 9)] Mixed zK (Tr.fld J J J Y79 J Sz77 dE _ J (Tr.loadN (bytesV _) J J J Y77 J Sz77 Z1 (Point.row_fX zP) (Point.rl_fX zP) ?_)))))
 refine Tr.fld J J J Y79 J Sz77 dE _ J (Tr.loadN (bytesV _) J J J Y77 J Sz77 Z1 (Point.row_fY zP) (Point.rl_fY zP) ?_)
 refine Tr.callV J J J J Body188 (h1) (fun _ _ => trivial) (Tr.callV J J J J Body188 (h2) (fun _ _ => trivial) (Tr.callV J J J J Body123 (r_one) (fun _ _ => trivial) (Tr.callV J J J J Body188 (h3) (fun _ _ => trivial) (Tr.build (cs := (⟨X, Y, Z⟩ : far).cells) J J J (fun w => by kernel_rfl) ?_))))
 refine Tr.storeAll J J J J (far.isCell (by exact ⟨lX, lY, lZ⟩)) Sz180 (far.length (by exact ⟨lX, lY, lZ⟩)) Z0 (far.length (by exact far.zero_ok)) zU ?_
 refine Tr.nil (at_n (Sat.ret (en_r ?_)))
 refine ⟨_, [], res_cell J J Tryz.underlying180 J Sz180 Z0 (by exact far.length (by exact ⟨lX, lY, lZ⟩)), sP, sP, ?_, rfl⟩
 rfl

end Go.Proofs.YtpacobmjjjillaaGreat
end

section
namespace Go.Proofs.YtpacobmjjjillaaGreat
open Go Hw
set_option linter.unusedVariables false
set_option linter.unusedSimpArgs false

open Ed

theorem byte_low : ∀ b : UInt8, UInt8.ofNat (b.toNat % 128) = b &&& 127 ∧ ((128 ≤ b.toNat) ↔ ¬ ((b &&& 128).toNat : Int) = 0) := by
  intro b
  have h : ∀ n, n < 256 → UInt8.ofNat ((UInt8.ofNat n).toNat % 128) = UInt8.ofNat n &&& 127 ∧ ((128 ≤ (UInt8.ofNat n).toNat) ↔ ¬ ((UInt8.ofNat n &&& 128).toNat : Int) = 0) := by decide
  have h2 := h b.toNat b.toNat_lt
  rwa [UInt8.ofNat_toNat] at h2
theorem byte_plus : ∀ b : UInt8, b.toNat < 128 → b + 128 = b ||| 128 := by
  intro b hb
  have h : ∀ n, n < 128 → UInt8.ofNat n + 128 = UInt8.ofNat n ||| 128 := by decide
  have h2 := h b.toNat hb
  rwa [UInt8.ofNat_toNat] at h2
end Go.Proofs.YtpacobmjjjillaaGreat
end

section
namespace Go.Proofs.YtpacobmjjjillaaGreat
open Go Hw
set_option linter.unusedVariables false
set_option linter.unusedSimpArgs false

open Ed

theorem lin_d {a b j : Nat} (hj : j < 256) : a / 2 ^ (256 - (j + 1)) = 2 * (a / 2 ^ (256 - j)) + a / 2 ^ (255 - j) % 2 := next_div a j hj
theorem frep_dbl {d : List Nat} {p : far} {P Q : Pt Fp} (hd : Fit10 d) (hdv : fe (v10 d) = fD) (hP : cv.on P) (hQ : cv.on Q) {A B : Nat} (h : FarRep p (cv.lin A B P Q)) : FarRep (frT d p p) (cv.lin (2 * A) (2 * B) P Q) := by
  rw [cv.lin_two hP hQ]
  exact FarRep.add hd hdv h h (cv.on_lin hP hQ _ _) (cv.on_lin hP hQ _ _)
theorem frep_l {d : List Nat} {p x : far} {P Q : Pt Fp} (hd : Fit10 d) (hdv : fe (v10 d) = fD) (hP : cv.on P) (hQ : cv.on Q) {A B t : Nat} (h : FarRep p (cv.lin A B P Q)) (hx : FarRep x P) (ht : t = 1) : FarRep (frT d p x) (cv.lin (A + t) B P Q) := by
  rw [ht, cv.lin_left hP hQ]
  exact FarRep.add hd hdv h hx (cv.on_lin hP hQ _ _) hP
theorem frep_r {d : List Nat} {p x : far} {P Q : Pt Fp} (hd : Fit10 d) (hdv : fe (v10 d) = fD) (hP : cv.on P) (hQ : cv.on Q) {A B t : Nat} (h : FarRep p (cv.lin A B P Q)) (hx : FarRep x Q) (ht : t = 1) : FarRep (frT d p x) (cv.lin A (B + t) P Q) := by
  rw [ht, cv.lin_right hP hQ]
  exact FarRep.add hd hdv h hx (cv.on_lin hP hQ _ _) hQ
theorem frep_first (a b : List UInt8) (ha : a.length = 32) (hb : b.length = 32) (P Q : Pt Fp) : FarRep (awT (zero : Pt Fp)) (cv.lin (le a / 2 ^ (256 - 0)) (le b / 2 ^ (256 - 0)) P Q) := by
  have h1 := le32 ha
  have h2 := le32 hb
  rw [show 256 - 0 = 256 from rfl, Nat.div_eq_of_lt h1, Nat.div_eq_of_lt h2, cv.lin_zero]
  exact awT_rep zero
theorem bit_one {E j : Nat} (h : E.testBit j = true) : E / 2 ^ j % 2 = 1 := by have := test_div E j true h; rwa [if_pos rfl] at this
theorem bit_nil {E j : Nat} (h : E.testBit j = false) : E / 2 ^ j % 2 = 0 := by have := test_div E j false h; rwa [if_neg dE] at this

theorem r5_Mul2 (a b : List UInt8) (P Q : Pt Fp) (ha : a.length = 32) (hb : b.length = 32) (hP : cv.on P) (hQ : cv.on Q) : Meets Tryz.prog 114 [agg (bytesV a), agg (ptc P).cells, agg (bytesV b), agg (ptc Q).cells] [] (fun _ => True) (fun v out => v = agg (ptc (cv.lin (le a) (le b) P Q)).cells ∧ out = []) := by
 intro W hW
 have hDf := dT_fit
 have hDv := dT_v
 have hod := r5_openD
 revert hDf hDv hod
 generalize dT = D
 intro hDf hDv hod
 have hDl := hDf.len
 have hAP := awT_rep P
 have hAQ := awT_rep Q
 have hAZ := frep_first a b ha hb P Q
 have cP := r5_away P
 have cQ := r5_away Q
 have cZ := r5_away (zero : Pt Fp)
 revert hAP hAQ hAZ cP cQ cZ
 generalize awT P = AP
 generalize awT Q = AQ
 generalize awT (zero : Pt Fp) = AZ
 intro hAP hAQ hAZ cP cQ cZ
 have hAPo := hAP.fit.ok
 have hAQo := hAQ.fit.ok
 have hAZo := hAZ.fit.ok
 have huo : True := trivial
 have hwo : True := trivial
 have hxo : True := trivial
 refine calls_of (hp0 := []) Tryz.func114 J 55 Tryz.ntmps114 J (HRep.nil _) (Sat.seq (Sat.region (Tr.boxA J J ?_)))
 intro n4 hn4 hf4
 refine Tr.boxA J J ?_
 intro n5 hn5 hf5
 refine Tr.boxA J J ?_
 intro n6 hn6 hf6
 refine Tr.boxA J J ?_
 intro n7 hn7 hf7
 refine Tr.alloc (cs := Point.zero.cells) J Point.zr J ?_
 intro n8 hn8 hf8
 refine Tr.nil (at_n (Sat.seq (Sat.seq (Sat.region (Tr.loadAll J J J Y79 J Sz79 Z3 (Point.length zP) ?_)))))
 refine Tr.callV J J J J Body118 (r5_Check P hP) (fun _ _ => trivial) (Tr.nei J J J J (show (!decide _) = false from congrArg not (decide_eq_true (rfl))) (Tr.move J J J (Tr.loadAll J J J Y79 J Sz79 Z1 (Point.length zP) ?_)))
 refine Tr.callV J J J J Body118 (r5_Check Q hQ) (fun _ _ => trivial) (Tr.nei J J J J (show (!decide _) = false from congrArg not (decide_eq_true (rfl))) (Tr.pick J J J J J J (Tr.nil (at_n (Sat.cond_f J J (Sat.skip (at_n (Sat.seq (Sat.draw [(1, 4), (1, 6), (3, 0), (3, 1), (3, 2), (3, 3), (3, 5), (3, 7), (2, 8), (2, 9), (2, 10), (2, 11), (4, 12), (4, 13), (4, 14), (4, 15)] Mixed zK (Tr.loadAll J J J Y79 J Sz79 Z3 (Point.length zP) ?_))))))))))
 refine Tr.loadAll J J J Y79 J Sz79 Z1 (Point.length zP) ?_
 refine Tr.callV J J J J Body189 (r5_D) (fun _ _ => trivial) (Tr.callV J J J J Body188 (hod) (fun _ _ => trivial) (Tr.callV J J J J Body120 (r5_Zero) (fun _ _ => trivial) (Tr.callV J J J J Body190 (cZ) (fun _ _ => trivial) (Tr.callV J J J J Body190 (cP) (fun _ _ => trivial) (Tr.callV J J J J Body190 (cQ) (fun _ _ => trivial) (Tr.alloc (cs := (intsV (List.replicate 10 0))) J Zr177 J ?_))))))
 intro n9 hn9 hf9
 refine Tr.alloc (cs := far.zero.cells) J far.zr J ?_
 intro n10 hn10 hf10
 refine Tr.alloc (cs := far.zero.cells) J far.zr J ?_
 intro n11 hn11 hf11
 refine Tr.alloc (cs := far.zero.cells) J far.zr J ?_
 intro n12 hn12 hf12
 refine Tr.storeAll J J J J (by exact wdsV_cell _) Sz177 (by (simp [wdsV_length, hDl]; done)) Z3 sP (by exact upd3) ?_
 refine Tr.storeAll J J J J (far.isCell (by exact hAZo)) Sz180 (far.length (by exact hAZo)) Z2 (far.length (by exact far.zero_ok)) (by exact upd2) ?_
 refine Tr.storeAll J J J J (far.isCell (by exact hAPo)) Sz180 (far.length (by exact hAPo)) Z1 (far.length (by exact far.zero_ok)) zV ?_
 refine Tr.storeAll J J J J (far.isCell (by exact hAQo)) Sz180 (far.length (by exact hAQo)) Z0 (far.length (by exact far.zero_ok)) zU ?_
 refine Tr.nil (at_n (Sat.seq (Sat.seq (Sat.region (Tr.assign J J J (Tr.nil (at_n (Sat.block (Sat.loop (ι := Nat × far) (fun p => ⟨[(4, ptr n4 0), (6, ptr n6 0), (8, ptr n8 0), (9, ptr n9 0), (10, ptr n10 0), (11, ptr n11 0), (12, ptr n12 0), (13, i64 (255 - (p.1 : Int)))], [⟨n12, (AQ).cells, 180, 30⟩, ⟨n11, (AP).cells, 180, 30⟩, ⟨n10, (p.2).cells, 180, 30⟩, ⟨n9, wdsV D, 177, 10⟩, ⟨n8, Point.zero.cells, 79, 64⟩, ⟨n6, bytesV b, 77, (bytesV b).length⟩, ⟨n4, bytesV a, 77, (bytesV a).length⟩]⟩) (fun p => p.1 ≤ 256 ∧ FarRep p.2 (cv.lin (le a / 2 ^ (256 - p.1)) (le b / 2 ^ (256 - p.1)) P Q)) (fun p => 256 - p.1) ((0, AZ)) ?_ ?_ ?_)))))))))
 · exact ⟨Nat.zero_le _, hAZ⟩
 · exact weak_of (wk1 rfl (wk1 rfl (wk1 rfl (wk1 rfl (wk1 rfl (wk1 rfl (wk1 rfl (wk1 rfl wk0)))))))) (wh1 Z0 (wh1 Z1 (wh1 Z2 (wh1 Z3 (wh1 Z4 (wh1 (by exact mem6) (wh1 (by (repeat (first | exact List.mem_cons_self | refine List.mem_cons_of_mem _ ?_))) wh0))))))) nD
 ·
  rintro p ⟨hj1, hw⟩
  have hwo := hw.fit.ok
  refine Sat.seq (Sat.seq (Sat.region (Tr.move J J J (Tr.geq J J J J J (Tr.nil (at_n (Sat.condP J (fun hc1 => ?_) (fun hc1 => ?_))))))))
  ·
   have hj3 : p.1 < 256 := by omega
   have hu := frep_dbl hDf hDv hP hQ hw
   have cd := r5_plus D p.2 p.2 hDf hw.fit hw.fit
   revert hu cd
   generalize frT D p.2 p.2 = F1
   intro hu cd
   have huo := hu.fit.ok
   rw [show (255 : Int) - (p.1 : Int) = ((255 - p.1 : Nat) : Int) by omega]
   refine Sat.skip (at_n (Sat.join (ι := far) (fun y => ⟨[(4, ptr n4 0), (6, ptr n6 0), (8, ptr n8 0), (9, ptr n9 0), (10, ptr n10 0), (11, ptr n11 0), (12, ptr n12 0), (13, i64 (((255 - p.1 : Nat) : Int)))], [⟨n12, (AQ).cells, 180, 30⟩, ⟨n11, (AP).cells, 180, 30⟩, ⟨n10, (y).cells, 180, 30⟩, ⟨n9, wdsV D, 177, 10⟩, ⟨n8, Point.zero.cells, 79, 64⟩, ⟨n6, bytesV b, 77, (bytesV b).length⟩, ⟨n4, bytesV a, 77, (bytesV a).length⟩]⟩) (fun y => FarRep y (cv.lin (le a / 2 ^ (256 - (p.1 + 1))) (le b / 2 ^ (256 - (p.1 + 1))) P Q)) ?_ ?_))
   ·
    refine Sat.block (Sat.seq (Sat.region (Tr.loadAll J J J Y177 J Sz177 Z3 (by (simp [wdsV_length, hDl]; done)) ?_)))
    refine Tr.loadAll J J J Tryz.underlying180 J Sz180 Z2 (far.length (by exact hwo)) ?_
    refine Tr.loadAll J J J Tryz.underlying180 J Sz180 Z2 (far.length (by exact hwo)) ?_
    refine Tr.callV J J J J Body191 (cd) (fun _ _ => trivial) (Tr.storeAll J J J J (far.isCell (by exact huo)) Sz180 (far.length (by exact huo)) Z2 (far.length (by exact hwo)) (by exact upd2) ?_)
    refine Tr.nil (at_n (Sat.join (ι := far) (fun x => ⟨[(4, ptr n4 0), (6, ptr n6 0), (8, ptr n8 0), (9, ptr n9 0), (10, ptr n10 0), (11, ptr n11 0), (12, ptr n12 0), (13, i64 (((255 - p.1 : Nat) : Int)))], [⟨n12, (AQ).cells, 180, 30⟩, ⟨n11, (AP).cells, 180, 30⟩, ⟨n10, (x).cells, 180, 30⟩, ⟨n9, wdsV D, 177, 10⟩, ⟨n8, Point.zero.cells, 79, 64⟩, ⟨n6, bytesV b, 77, (bytesV b).length⟩, ⟨n4, bytesV a, 77, (bytesV a).length⟩]⟩) (fun x => FarRep x (cv.lin (2 * (le a / 2 ^ (256 - p.1)) + le a / 2 ^ (255 - p.1) % 2) (2 * (le b / 2 ^ (256 - p.1))) P Q)) ?_ ?_))
    ·
     refine Sat.seq (Sat.region (Tr.loadAll J J J Y77 J Sz77 (by exact mem6) (by (simp [ha]; done)) ?_))
     refine Tr.move J J J (Tr.callV J J J J Body192 (ref_bit_at a ha (255 - p.1) oM) (fun _ _ => trivial) (Tr.nil (at_n (Sat.cond J (fun hc2 => ?_) (fun hc2 => ?_)))))
     ·
      have ca := r5_plus D F1 AP hDf hu.fit hAP.fit
      have hul := frep_l hDf hDv hP hQ hu hAP (bit_one hc2)
      revert ca hul
      generalize frT D F1 AP = F2
      intro ca hul
      have hulo := hul.fit.ok
      refine Sat.region (Tr.loadAll J J J Y177 J Sz177 Z3 (by (simp [wdsV_length, hDl]; done)) ?_)
      refine Tr.loadAll J J J Tryz.underlying180 J Sz180 Z2 (far.length (by exact huo)) ?_
      refine Tr.loadAll J J J Tryz.underlying180 J Sz180 Z1 (far.length (by exact hAPo)) ?_
      refine Tr.callV J J J J Body191 (ca) (fun _ _ => trivial) (Tr.storeAll J J J J (far.isCell (by exact hulo)) Sz180 (far.length (by exact hulo)) Z2 (far.length (by exact huo)) (by exact upd2) ?_)
      refine Tr.nil (at_n ?_)
      exact ⟨F2, hul, weak_of (wk1 rfl (wk1 rfl (wk1 rfl (wk1 rfl (wk1 rfl (wk1 rfl (wk1 rfl (wk1 rfl wk0)))))))) (wh1 Z0 (wh1 Z1 (wh1 Z2 (wh1 Z3 (wh1 Z4 (wh1 (by exact mem5) (wh1 (by exact mem6) wh0))))))) nD⟩
     ·
      refine Sat.skip (at_n ?_)
      exact ⟨F1, (by rw [bit_nil hc2, Nat.add_zero]; exact hu), weak_of (wk1 rfl (wk1 rfl (wk1 rfl (wk1 rfl (wk1 rfl (wk1 rfl (wk1 rfl (wk1 rfl wk0)))))))) (wh1 Z0 (wh1 Z1 (wh1 Z2 (wh1 Z3 (wh1 Z4 (wh1 (by exact mem5) (wh1 (by exact mem6) wh0))))))) nD⟩
    ·
     intro x hj
     have hx := hj
     have hxo := hx.fit.ok
     refine Sat.seq (Sat.region (Tr.loadAll J J J Y77 J Sz77 (by exact mem5) (by (simp [hb]; done)) ?_))
     refine Tr.move J J J (Tr.callV J J J J Body192 (ref_bit_at b hb (255 - p.1) oM) (fun _ _ => trivial) (Tr.nil (at_n (Sat.cond J (fun hc3 => ?_) (fun hc3 => ?_)))))
     ·
      have cx := r5_plus D x AQ hDf hx.fit hAQ.fit
      have hxr := frep_r hDf hDv hP hQ hx hAQ (bit_one hc3)
      revert cx hxr
      generalize frT D x AQ = F3
      intro cx hxr
      have hxro := hxr.fit.ok
      refine Sat.region (Tr.loadAll J J J Y177 J Sz177 Z3 (by (simp [wdsV_length, hDl]; done)) ?_)
      refine Tr.loadAll J J J Tryz.underlying180 J Sz180 Z2 (far.length (by exact hxo)) ?_
      refine Tr.loadAll J J J Tryz.underlying180 J Sz180 Z0 (far.length (by exact hAQo)) ?_
      refine Tr.callV J J J J Body191 (cx) (fun _ _ => trivial) (Tr.storeAll J J J J (far.isCell (by exact hxro)) Sz180 (far.length (by exact hxro)) Z2 (far.length (by exact hxo)) (by exact upd2) ?_)
      refine Tr.nil (bl_n (at_n ?_))
      exact ⟨F3, (by rw [lin_d (b := 0) hj3, lin_d (b := 0) hj3]; exact hxr), weak_of (wk1 rfl (wk1 rfl (wk1 rfl (wk1 rfl (wk1 rfl (wk1 rfl (wk1 rfl (wk1 rfl wk0)))))))) (wh1 Z0 (wh1 Z1 (wh1 Z2 (wh1 Z3 (wh1 Z4 (wh1 (by exact mem5) (wh1 (by exact mem6) wh0))))))) nD⟩
     ·
      refine Sat.skip (bl_n (at_n ?_))
      exact ⟨x, (by rw [lin_d (b := 0) hj3, lin_d (b := 0) hj3, bit_nil (E := le b) hc3, Nat.add_zero]; exact hx), weak_of (wk1 rfl (wk1 rfl (wk1 rfl (wk1 rfl (wk1 rfl (wk1 rfl (wk1 rfl (wk1 rfl wk0)))))))) (wh1 Z0 (wh1 Z1 (wh1 Z2 (wh1 Z3 (wh1 Z4 (wh1 (by exact mem5) (wh1 (by exact mem6) wh0))))))) nD⟩
   ·
    intro y hj
    have hy := hj
    have hyo := hy.fit.ok
    refine Sat.region (Tr.move J J J (Tr.sub_i64 J J J J oM (Tr.assign J J J (Tr.nil (at_n ?_)))))
    exact ⟨(p.1 + 1, y), ⟨by simp only []; omega, hy⟩, by simp only []; omega, weak_of (wk1 rfl (wk1 rfl (wk1 rfl (wk1 rfl (wk1 rfl (wk1 rfl (wk1 rfl (wk1 (congrArg (fun z => some (i64 z)) (show ((255 - p.1 : Nat) : Int) - 1 = 255 - ((p.1 + 1 : Nat) : Int) by omega)) wk0)))))))) (wh1 Z0 (wh1 Z1 (wh1 Z2 (wh1 Z3 (wh1 Z4 (wh1 (by exact mem5) (wh1 (by exact mem6) wh0))))))) nD⟩
  ·
   have hje : p.1 = 256 := by omega
   have hfin : FarRep p.2 (cv.lin (le a) (le b) P Q) := by rw [hje, lin_last] at hw; exact hw
   refine Sat.exit (at_x (at_x (bl_h (at_n (Sat.seq (Sat.region (Tr.loadAll J J J Tryz.underlying180 J Sz180 Z2 (far.length (by exact hwo)) ?_)))))))
   refine Tr.callV J J J J Body193 (r5_near p.2 _ hfin) (fun _ _ => trivial) (Tr.storeAll J J J J (Point.isCell zP) Sz79 (Point.length zP) Z4 (Point.length zZ) (by exact upd4) ?_)
   refine Tr.nil (at_n (Sat.ret (en_r ?_)))
   refine ⟨_, [], res_cell J J Y79 J Sz79 Z4 (by exact Point.length zP), sP, sP, ?_, rfl⟩
   rfl

theorem r5_Mul2z (a : List UInt8) (P : Pt Fp) (ha : a.length = 32) (hP : cv.on P) : Meets Tryz.prog 114 [agg (bytesV a), agg (ptc P).cells, agg (bytesV (List.replicate 32 0)), agg (ptc (zero : Pt Fp)).cells] [] (fun _ => True) (fun v out => v = agg (ptc (cv.mul (le a) P)).cells ∧ out = []) := by
  have h := r5_Mul2 a (List.replicate 32 0) P zero ha rfl hP cv.on_zero
  rwa [le_zero32, lin_one] at h

theorem r5_Mul (a : List UInt8) (P : Pt Fp) (ha : a.length = 32) (hP : cv.on P) : Meets Tryz.prog 65 [agg (bytesV a), agg (ptc P).cells] [] (fun _ => True) (fun v out => v = agg (ptc (cv.mul (le a) P)).cells ∧ out = []) := by
 intro W hW
 refine calls_of (hp0 := []) Tryz.func65 J 10 Tryz.ntmps65 J (HRep.nil _) (Sat.seq (Sat.region (Tr.boxA J J ?_)))
 intro n2 hn2 hf2
 refine Tr.boxA J J ?_
 intro n3 hn3 hf3
 refine Tr.alloc (cs := Point.zero.cells) J Point.zr J ?_
 intro n4 hn4 hf4
 refine Tr.nil (at_n (Sat.seq (Sat.draw [(1, 0), (1, 1), (0, 2), (3, 3), (3, 4), (4, 5)] Mixed zK (Tr.loadAll J J J Y77 J Sz77 Z2 (by (simp [ha]; done)) ?_))))
 refine Tr.loadAll J J J Y79 J Sz79 Z1 (Point.length zP) ?_
 refine Tr.build (cs := bytesV (List.replicate 32 0)) J J J (fun w => by kernel_rfl) ?_
 refine Tr.callV J J J J Body120 (r5_Zero) (fun _ _ => trivial) (Tr.callV J J J J Body114 (r5_Mul2z a P ha hP) (fun _ _ => trivial) (Tr.storeAll J J J J (Point.isCell zP) Sz79 (Point.length zP) Z0 (Point.length zZ) zU ?_))
 refine Tr.nil (at_n (Sat.ret (en_r ?_)))
 refine ⟨_, [], res_cell J J Y79 J Sz79 Z0 (by exact Point.length zP), sP, sP, ?_, rfl⟩
 rfl

theorem r5_Bytes (P : Pt Fp) (hP : cv.on P) : Meets Tryz.prog 64 [agg (ptc P).cells] [] (fun _ => True) (fun v out => v = .tuple #[agg (bytesV (pb P)), i64 0] ∧ out = []) := by
 intro W hW
 refine calls_of (hp0 := []) Tryz.func64 J 19 Tryz.ntmps64 J (HRep.nil _) (Sat.seq (Sat.region (Tr.boxA J J ?_)))
 intro n1 hn1 hf1
 refine Tr.alloc (cs := (bytesV (List.replicate 32 0))) J Zr23 J ?_
 intro n2 hn2 hf2
 refine Tr.assign J J J (Tr.nil (at_n (Sat.seq (Sat.seq (Sat.region (Tr.loadAll J J J Y79 J Sz79 Z1 (Point.length zP) ?_))))))
 refine Tr.callV J J J J Body118 (r5_Check P hP) (fun _ _ => trivial) (Tr.nei J J J J (show (!decide _) = false from congrArg not (decide_eq_true (rfl))) (Tr.nil (at_n (Sat.cond_f J (rfl) (Sat.skip (at_n (Sat.seq (Sat.region (Tr.fld J J J Y79 J Sz77 dE _ J (Tr.loadN (bytesV _) J J J Y77 J Sz77 Z1 (Point.row_fY zP) (Point.rl_fY zP) ?_))))))))))
 refine Tr.alloc (cs := (bytesV (List.replicate 32 0))) J Zr23 J ?_
 intro n4 hn4 hf4
 refine Tr.storeAll J J J J zE Sz23 (by (simp [fb_length, ptc_y]; done)) Z0 sP zU ?_
 refine Tr.nil (at_n (Sat.join (ι := Unit) (fun _u => ⟨[(2, ptr n2 0), (4, ptr n4 0)], [⟨n4, bytesV (pb P), 23, 32⟩, ⟨n2, bytesV (List.replicate 32 0), 23, 32⟩]⟩) (fun _u => True) ?_ ?_))
 ·
  refine Sat.seq (Sat.region (Tr.fld J J J Y79 J Sz77 dE _ J (Tr.loadN (bytesV _) J J J Y77 J Sz77 Z2 (Point.row_fX zP) (Point.rl_fX zP) ?_)))
  refine Tr.callV J J J J Body119 (r_odd P.x) (fun _ _ => trivial) (Tr.nil (at_n (Sat.condP J (fun hc1 => ?_) (fun hc1 => ?_))))
  ·
   refine Sat.region (Tr.idxArr1 J J J J Y23 Sz5 31 J dE (Tr.load1 J J J Y5 J Z0 (get_bytes (by show 31 < (fb P.y).length; rw [fb_length]; decide)) ?_))
   refine Tr.add_u8 J J J (show evIn _ _ = some (u8 128) from rfl) (Tr.idxArr1 J J J J Y23 Sz5 31 J dE ?_)
   rw [show ((ptc P).fY.getD 31 0 + 128 : UInt8) = (fb P.y).getD 31 0 ||| 128 from byte_plus _ (fb_top P.y)]
   refine Tr.store1 J J J J J Sz5 Z0 (by (simp [fb_length, ptc_y]; done)) (by exact set_bytes _ _ _) zU ?_
   refine Tr.nil (at_n ?_)
   (rw [show pb P = (fb P.y).set 31 ((fb P.y).getD 31 0 ||| 128) from if_pos hc1]; exact ⟨(), trivial, weak_of (wk1 rfl (wk1 rfl wk0)) (wh1 Z0 (wh1 Z1 wh0)) nD⟩)
  ·
   refine Sat.skip (at_n ?_)
   (rw [show pb P = fb P.y from if_neg hc1]; exact ⟨(), trivial, weak_of (wk1 rfl (wk1 rfl wk0)) (wh1 Z0 (wh1 Z1 wh0)) nD⟩)
 ·
  intro _u hj
  skip
  refine Sat.seq (Sat.region (Tr.loadAll J J J Y23 J Sz23 Z0 (by (simp [pb_length]; done)) ?_))
  refine Tr.storeAll J J J J zE Sz23 (by (simp [pb_length]; done)) Z1 sP zV ?_
  refine Tr.assign J J J (Tr.nil (at_n (Sat.ret (en_r ?_))))
  refine ⟨_, [], res_cell_tmp J J J Y23 J Sz23 Z1 (by simp [pb_length]), sP, sP, ?_, rfl⟩
  rfl

end Go.Proofs.YtpacobmjjjillaaGreat
end

section
namespace Hw
open Go
set_option linter.unusedSimpArgs false
set_option linter.unusedVariables false
set_option maxRecDepth 100000

def ev : List Nat → Nat
  | [] => 0
  | x :: l => x + 256 * ev l
def addC (l : List Nat) (k v : Nat) : List Nat := l.set k (l.getD k 0 + v)
def inn (a b : List UInt8) (i : Nat) (l : List Nat) : Nat → List Nat
  | 0 => l
  | q + 1 => addC (inn a b i l q) (i + q) ((a.getD i 0).toNat * (b.getD q 0).toNat)
def out (a b : List UInt8) : Nat → List Nat
  | 0 => List.replicate 64 0
  | p + 1 => inn a b p (out a b p) 32
end Hw
end

section
namespace Go.Proofs.YtpacobmjjjillaaGreat
open Go Hw
set_option linter.unusedVariables false
set_option linter.unusedSimpArgs false

open Ed

theorem byte_8 : ∀ b : UInt8, b - UInt8.ofNat (b.toNat % 8) = b &&& 248 ∧ UInt8.ofNat (b.toNat % 64) + 64 = (b &&& 127) ||| 64 := by
  intro b
  have h : ∀ n, n < 256 → UInt8.ofNat n - UInt8.ofNat ((UInt8.ofNat n).toNat % 8) = UInt8.ofNat n &&& 248 ∧ UInt8.ofNat ((UInt8.ofNat n).toNat % 64) + 64 = (UInt8.ofNat n &&& 127) ||| 64 := by decide
  have h2 := h b.toNat b.toNat_lt
  rwa [UInt8.ofNat_toNat] at h2
theorem clamp_ref {l : List UInt8} (h : l.length = 32) : (l.set 0 (l.getD 0 0 - UInt8.ofNat ((l.getD 0 0).toNat % 8))).set 31 (UInt8.ofNat (((l.set 0 (l.getD 0 0 - UInt8.ofNat ((l.getD 0 0).toNat % 8))).getD 31 0).toNat % 64) + 64) = clampB l := by
  have g : (l.set 0 (l.getD 0 0 - UInt8.ofNat ((l.getD 0 0).toNat % 8))).getD 31 0 = l.getD 31 0 := by
    rw [List.getD_eq_getElem?_getD, List.getElem?_set_ne dE, ← List.getD_eq_getElem?_getD]
  rw [g, (byte_8 _).1, (byte_8 _).2]
  rfl
theorem upd_all {f : List UInt8} (h : f.length = 32) : upd (bytesV (List.replicate 32 0)) 0 (bytesV f) = bytesV f := by simp [upd, bytesV, h]
theorem sees_take {w : World} {b n : Nat} {l : List UInt8} (h : Sees w b 0 (bytesV l)) : SeesP w (some ⟨b, 0, none⟩) (bytesV (l.take n)) := SeesP.of (fun i v hv => h i v (take_sees hv))
theorem sees_drop {w : World} {b n : Nat} {l : List UInt8} (h : Sees w b 0 (bytesV l)) : SeesP w (some ⟨b, n, none⟩) (bytesV (l.drop n)) := SeesP.of (fun i v hv => by
  have e : (bytesV l)[n + i]? = some v := by rw [bytesV, List.map_drop, List.getElem?_drop] at hv; exact hv
  have := h _ v e
  rwa [Nat.zero_add] at this)

theorem r6_secret (seed : List UInt8) (h32 : seed.length = 32) (s : List UInt8) (hs : Hid (sha512 seed = s)) : Meets Tryz.prog 121 [agg (bytesV seed)] [] (fun _ => True) (fun v out => ∃ q c, v = .tuple #[agg (bytesV (clampB (s.take 32))), .slice (some ⟨q, 0, none⟩) 32 c] ∧ 32 ≤ c ∧ out = [⟨q, bytesV (s.drop 32), 5, c * 1⟩]) := by
 intro W hW
 have hs64 : s.length = 64 := by rw [← hs.out]; exact sha512_length seed
 have ht32 : (s.take 32).length = 32 := by rw [List.length_take, hs64]; rfl
 have hd32 : (s.drop 32).length = 32 := by rw [List.length_drop, hs64]
 have hcl := clampB_length ht32
 refine calls_of (hp0 := []) Tryz.func121 J 28 Tryz.ntmps121 J (HRep.nil _) (Sat.seq (Sat.region (Tr.boxA J J ?_)))
 intro n1 hn1 hf1
 refine Tr.alloc (cs := (bytesV (List.replicate 32 0))) J Zr77 J ?_
 intro n2 hn2 hf2
 refine Tr.assign J J J (Tr.nil (at_n (Sat.seq (Sat.region (Tr.sliceArr J J J Y23 Sz5 (Tr.mkRow2 (z := .slice none 0 0) [.slice (some ⟨n1, 0, none⟩) 32 32] [.slice (some ⟨n1, 0, none⟩) 32 32] rfl J Y133 Sz39 Zr39 J J (by intro v hv; rw [List.mem_singleton.1 hv]; rfl) dE J ?_))))))
 intro q7
 refine Tr.callV J J J J Body136 (r2_Sum512 (some ⟨q7, 0, none⟩) 1 1 [⟨some ⟨n1, 0, none⟩, 32, 32⟩] [seed] rfl J (fun j hj => (by
   rcases (show j = 0 by omega) with rfl
   · exact ⟨by show 32 = List.length _; exact h32.symm, fun e => by cases e⟩)) (seed) sP (by (simp [h32]; done)) dE s hs) (fun w h => ⟨SeesP.of (sees_own h Z0), (fun j hj => (by
   rcases (show j = 0 by omega) with rfl
   · exact SeesP.of (sees_own (cs := bytesV seed) h Z2)))⟩) ?_
 refine Tr.alloc (cs := (bytesV (List.replicate 64 0))) J Zr26 J ?_
 intro n4 hn4 hf4
 refine Tr.storeAll J J J J zE Sz26 (by (simp [hs64]; done)) Z0 sP zU ?_
 refine Tr.nil (at_n (Sat.seq (Sat.region (Tr.alloc (cs := (bytesV (List.replicate 32 0))) J Zr77 J ?_))))
 intro n5 hn5 hf5
 refine Tr.nil (at_n (Sat.seq (Sat.draw [(0, 0), (0, 1), (4, 2)] Mixed zK (Tr.sliceArr J J J Y77 Sz5 (Tr.sliceArrHi 32 J J J J J dE dE Y26 Sz5 (Tr.copyP (bytesV (s.take 32)) 32 J J J J J Y39 Sz5 (fun w h => sees_take (sees_own h Z1)) (fun e => by cases e) (by rw [bytesV, List.length_map]; exact ht32) J (by rw [bytesV, ← List.map_take, List.take_of_length_le (Nat.le_of_eq ht32)]) (bytesV_cell _) Z0 sP (by exact upd_all ht32) zU ?_))))))
 refine Tr.nil (at_n (Sat.seq (Sat.region (Tr.idxArr1 J J J J Y77 Sz5 0 J dE (Tr.load1 J J J Y5 J Z0 zG ?_)))))
 refine Tr.idxArr1 J J J J Y77 Sz5 0 J dE (Tr.load1 J J J Y5 J Z0 zG ?_)
 refine Tr.rem_u8 J J J J 8 J dE (Tr.sub_u8 J J J J (Tr.idxArr1 J J J J Y77 Sz5 0 J dE (Tr.store1 J J J J J Sz5 Z0 (by (simp [hs64]; done)) (by exact set_bytes _ _ _) zU ?_)))
 refine Tr.nil (at_n (Sat.seq (Sat.region (Tr.idxArr1 J J J J Y77 Sz5 31 J dE (Tr.load1 J J J Y5 J Z0 (by exact get_bytes (by (simp [ht32]; done))) ?_)))))
 refine Tr.rem_u8 J J J J 64 J dE (Tr.add_u8 J J J (show evIn _ _ = some (u8 64) from rfl) (Tr.idxArr1 J J J J Y77 Sz5 31 J dE (Tr.store1 J J J J J Sz5 Z0 (by (simp [hs64, ht32]; done)) (by exact set_bytes _ _ _) zU ?_)))
 refine Tr.nil (at_n (Sat.seq (Sat.withK (sp_k (sp_v (sp_v (sp_v (sp_v sp_n))))) J (Sat.draw [(0, 0), (0, 2), (2, 1), (4, 3), (4, 4), (0, 5)] Mixed zK ?_))))
 rw [clamp_ref ht32]
 refine Tr.kloadAll J J J Y77 J Sz77 Z0 (by (simp [hcl]; done)) ?_
 refine Tr.sliceArrLo 32 J J J J J dE Y26 Sz5 (Tr.mkRow2 (z := u8 0) [] [] rfl J Y39 Sz5 Zr5 J J (by intro v hv; cases hv) dE J ?_)
 intro q25
 refine Tr.appendSl (z := u8 0) (by' := 1) (bytesV (s.drop 32)) J J J J J Y39 Y39 Sz5 Zr5 (by unfold By; kernel_rfl) J (fun w h => sees_drop (sees_own h Z1)) (fun e => by cases e) (bytesV_cell _) rM J J oM oM oM (by rw [bytesV, List.length_map]; exact hd32) ?_
 intro q27 c27 hq27
 refine Tr.storeAll J J J J zE Sz77 (by (simp [hcl]; done)) Z3 sP (by exact upd3) ?_
 refine Tr.assign J J J (Tr.nil (at_n (Sat.ret (en_r ?_))))
 simp only [List.cons_append, List.nil_append, List.append_nil]
 refine end_perm (out := (⟨q27, [] ++ bytesV (s.drop 32), 5, c27 * 1⟩ :: [])) (res_cell_tmp J J J Y77 J Sz77 Z3 (by simp [hcl])) (pm_cons rM pm_nil) ?_
 exact ⟨q27, c27, rfl, by omega, rfl⟩

theorem r6_Secret (seed : List UInt8) (h32 : seed.length = 32) (s : List UInt8) (hs : Hid (sha512 seed = s)) : Meets Tryz.prog 66 [agg (bytesV seed)] [] (fun _ => True) (fun v out => v = agg (bytesV (clampB (s.take 32))) ∧ out = []) := by
 intro W hW
 have hs64 : s.length = 64 := by rw [← hs.out]; exact sha512_length seed
 have ht32 : (s.take 32).length = 32 := by rw [List.length_take, hs64]; rfl
 have hd32 : (s.drop 32).length = 32 := by rw [List.length_drop, hs64]
 have hcl := clampB_length ht32
 revert hcl
 have hsec := r6_secret seed h32 s hs
 revert hsec
 generalize clampB (s.take 32) = N
 intro hsec hcl
 refine calls_of (hp0 := []) Tryz.func66 J 11 Tryz.ntmps66 J (HRep.nil _) (Sat.seq (Sat.region (Tr.boxA J J ?_)))
 intro n1 hn1 hf1
 refine Tr.alloc (cs := (bytesV (List.replicate 32 0))) J Zr77 J ?_
 intro n2 hn2 hf2
 refine Tr.nil (at_n (Sat.seq (Sat.region (Tr.loadAll J J J Y23 J Sz23 Z1 (by (simp [h32]; done)) ?_))))
 refine Tr.call4 J J J J J Body121 (hsec) (fun _ _ => trivial) ?_
 rintro v7 out7 ⟨q7, c7, rfl, hc7, rfl⟩
 simp only [List.cons_append, List.nil_append]
 refine Tr.move J J J (Tr.extract J J J J (Tr.extract J J J J (Tr.alloc (cs := (bytesV (List.replicate 32 0))) J Zr77 J ?_)))
 intro n3 hn3 hf3
 refine Tr.storeAll J J J J zE Sz77 (by (simp [hcl]; done)) Z0 sP zU ?_
 refine Tr.assign J J J (Tr.nil (at_n (Sat.seq (Sat.region (Tr.loadAll J J J Y77 J Sz77 Z0 (by (simp [hcl]; done)) ?_)))))
 refine Tr.storeAll J J J J zE Sz77 (by (simp [hcl]; done)) Z2 sP (by exact upd2) ?_
 refine Tr.nil (at_n (Sat.ret (en_r ?_)))
 refine ⟨_, [], res_cell J J Y77 J Sz77 Z2 (by simp [hcl]), sP, sP, ?_, rfl⟩
 rfl

theorem r6_KeyQ (N : List UInt8) (hN : N.length = 32) (Q : Pt Fp) (hQ : cv.mul (le N) bP = Q) : cv.on Q ∧ Meets Tryz.prog 65 [agg (bytesV N), agg (ptc bP).cells] [] (fun _ => True) (fun v out => v = agg (ptc Q).cells ∧ out = []) := by
  rw [← hQ]; exact ⟨cv.on_mul bP_on _, r5_Mul N bP hN bP_on⟩

theorem r6_Key (seed : List UInt8) (h32 : seed.length = 32) (s : List UInt8) (hs : Hid (sha512 seed = s)) : Meets Tryz.prog 18 [agg (bytesV seed)] [] (fun _ => True) (fun v out => v = agg (bytesV (sgK s)) ∧ out = []) := by
 intro W hW
 have hs64 : s.length = 64 := by rw [← hs.out]; exact sha512_length seed
 have ht32 : (s.take 32).length = 32 := by rw [List.length_take, hs64]; rfl
 have hd32 : (s.drop 32).length = 32 := by rw [List.length_drop, hs64]
 have hcl := clampB_length ht32
 obtain ⟨Q, hQ⟩ : ∃ Q, cv.mul (le (clampB (s.take 32))) bP = Q := ⟨_, rfl⟩
 have hsec := r6_Secret seed h32 s hs
 have hkq := r6_KeyQ (clampB (s.take 32)) hcl Q hQ
 rw [show sgK s = pb Q from by rw [sgK, hQ]]
 clear hQ
 revert hcl hsec hkq
 generalize clampB (s.take 32) = N
 intro hcl hsec hkq
 obtain ⟨hQo, hmul⟩ := hkq
 refine calls_of (hp0 := []) Tryz.func18 J 14 Tryz.ntmps18 J (HRep.nil _) (Sat.seq (Sat.region (Tr.boxA J J ?_)))
 intro n1 hn1 hf1
 refine Tr.alloc (cs := (bytesV (List.replicate 32 0))) J Zr25 J ?_
 intro n2 hn2 hf2
 refine Tr.nil (at_n (Sat.seq (Sat.region (Tr.loadAll J J J Y23 J Sz23 Z1 (by (simp [h32]; done)) ?_))))
 refine Tr.callV J J J J Body66 (hsec) (fun _ _ => trivial) (Tr.callV J J J J Body67 (r5_Base) (fun _ _ => trivial) (Tr.callV J J J J Body65 (hmul) (fun _ _ => trivial) (Tr.callV J J J J Body64 (r5_Bytes Q hQo) (fun _ _ => trivial) (Tr.move J J J (Tr.extract J J J J (Tr.extract J J J J (Tr.alloc (cs := (bytesV (List.replicate 32 0))) J Zr23 J ?_)))))))
 intro n3 hn3 hf3
 refine Tr.storeAll J J J J zE Sz23 (by (simp [pb_length]; done)) Z0 sP zU ?_
 refine Tr.assign J J J (Tr.nil (at_n (Sat.seq (Sat.region (Tr.loadAll J J J Y23 J Sz23 Z0 (by (simp [pb_length]; done)) ?_)))))
 refine Tr.storeAll J J J J zE Sz25 (by (simp [pb_length]; done)) Z1 sP zV ?_
 refine Tr.nil (at_n (Sat.ret (en_r ?_)))
 refine ⟨_, [], res_cell J J Y25 J Sz25 Z1 (by simp [pb_length]), sP, sP, ?_, rfl⟩
 rfl

end Go.Proofs.YtpacobmjjjillaaGreat
end

section
namespace Go.Proofs.YtpacobmjjjillaaGreat
open Go Hw
set_option linter.unusedVariables false
set_option linter.unusedSimpArgs false

open Ed

def btag : List UInt8 := [98, 108, 111, 99, 107]
/-- what is signed of a block -/
def btxt (D : DB) : List UInt8 := btag ++ D.body
/-- a block that is signed -/
def bsg (D : DB) (K G : List UInt8) : DB := { D with w := K, sg := G }
theorem DB.body_small {D : DB} (hd : D.ok) (h1 : D.ls.length ≤ 40) (h2 : D.ds.length ≤ 2000) : (btxt D).length ≤ 4005 := by
  have hz1 := szN_pos D.seq.toNat
  have hz2 := szN_pos (UInt64.ofNat D.ls.length).toNat
  have hz3 := szN_pos (UInt64.ofNat D.ds.length).toNat
  have hfl := flatten_take_len hd.ls (Nat.le_refl D.ls.length)
  rw [List.take_length] at hfl
  simp only [btxt, btag, DB.body, List.length_append, numB_length, hd.w, hd.prev, hfl, List.length_cons, List.length_nil]
  omega
/-- what Good says of a block -/
noncomputable def dgood (D : DB) : Int := if D.check = 0 then (if goodB D.w (btxt D) D.sg = true then 0 else 9) else D.check
def SeesX (W : World) (ex : List Nat) (p : Option Addr) (cs : List Value) : Prop := ∀ (j : Nat) (v : Value), cs[j]? = some v → ∃ b o, p = some ⟨b, o, none⟩ ∧ b ∉ ex ∧ W.cell? ⟨b, o + j, none⟩ = some v
theorem SeesX.ext {C : Cx} {hp : List Blk} {w : World} {p : Option Addr} {cs : List Value} (h : HRep C hp w) (hs : SeesX C.W0 C.lent p cs) : SeesP w p cs := fun j v hj => by
  obtain ⟨b, o, e, hb, hc⟩ := hs j v hj
  exact ⟨b, o, e, h.keeps.cell hb hc⟩
theorem cell_lt' {w : World} {c o : Nat} {v : Value} (h : w.cell? ⟨c, o, none⟩ = some v) : c < w.heap.size := by
  rcases Nat.lt_or_ge c w.heap.size with h1 | h1
  · exact h1
  · simp [World.cell?, Array.getElem?_eq_none h1] at h
theorem SeesX.new {C : Cx} {hp : List Blk} {w : World} {p : Option Addr} {cs : List Value} {n : Nat} (h : HRep C hp w) (hl : C.lent = []) (hn : C.W0.heap.size ≤ n) (hs : SeesP C.W0 p cs) : SeesX w [n] p cs := fun j v hj => by
  obtain ⟨b, o, e, hc⟩ := hs j v hj
  refine ⟨b, o, e, ?_, h.keeps.cell (by rw [hl]; simp) hc⟩
  have := cell_lt' hc
  simp
  omega
theorem Acc.seeX {s : Sl} {bl : List Blk} {cells : List Value} {E : TypeId} {n size m : Nat} {w : World} (h : Hw.Acc s bl cells E n size) (hw : Lies bl w) (hn : ∀ b ∈ bl, b.n ≠ m) : SeesX w [m] s.p cells := fun j v hj => by
  obtain ⟨b, o, e, hc⟩ := h.see hw j v hj
  refine ⟨b, o, e, ?_, hc⟩
  rcases h with ⟨rfl, rfl, rfl, _⟩ | ⟨q, c, rfl, _, _, rfl⟩
  · cases e
  · cases e
    have := hn _ (List.mem_singleton.2 rfl)
    simpa using this
theorem acc_loose (cells : List Value) (E : TypeId) (n size : Nat) (hl : cells.length = n * size) : Loose fun v out => ∃ s : Sl, v = s.v ∧ Hw.Acc s out cells E n size := fun l h => by
  obtain ⟨v, out, ⟨q, c, h1, h2, h3⟩, h4⟩ := FreshRow.loose cells E n size l h
  exact ⟨v, out, ⟨⟨some ⟨q, 0, none⟩, n, c⟩, h1, by rw [h3]; exact Acc.some h2 hl⟩, h4⟩
theorem ptr_loose (f : Nat → Value) (cs : List Value) (T : TypeId) (m : Nat) : Loose fun v out => ∃ c, v = f c ∧ out = [⟨c, cs, T, m⟩] := fun l h => by
  obtain ⟨q, _, hq⟩ := fresh_is 0 l
  refine ⟨_, _, ⟨q, rfl, rfl⟩, ?_⟩
  simp only [List.singleton_append, List.map_cons, List.nodup_cons]
  exact ⟨fun h2 => by obtain ⟨b, hb, e⟩ := List.mem_map.1 h2; exact hq b hb e, h⟩
theorem lie_none {n : Nat} {v : Value} {T : TypeId} {W : World} (h : Lies [⟨n, [v], T, 0⟩] W) : False := by
  obtain ⟨full, fr, hb⟩ := h _ (List.mem_singleton.2 rfl)
  have h1 := hb.pre.length_le
  have h2 := hb.size
  simp at h1
  simp only at h2
  omega
/-- a block has the data's fields, whatever memory holds -/
structure SameB (B : Block) (D : DB) : Prop where
  ok : B.ok
  w : B.fWriter = D.w
  seq : B.fSeq = D.seq
  prev : B.fPrev = D.prev
  sg : B.fSig = D.sg
  ln : B.fLinks.n = D.ls.length
  dn : B.fData.n = D.ds.length
theorem some_same {D : DB} (h : D.ok) : SameB ⟨D.w, D.seq, D.prev, ⟨none, D.ls.length, 0⟩, ⟨none, D.ds.length, 0⟩, D.sg⟩ D := ⟨⟨h.w, h.prev, h.sg⟩, rfl, rfl, rfl, rfl, rfl, rfl⟩
/-- a block of one's own, behind an error -/
def BlkR (e : Int) (D : DB) (v : Value) (out : List Blk) : Prop := ∃ B : Block, SameB B D ∧ v = .tuple #[agg B.cells, i64 e] ∧ ∀ W2, Lies out W2 → BlockIs W2 B D
/-- a block of one's own -/
def BlkV (D : DB) (v : Value) (out : List Blk) : Prop := ∃ B : Block, SameB B D ∧ v = agg B.cells ∧ ∀ W2, Lies out W2 → BlockIs W2 B D
theorem none_nodup {l : List Blk} {n : Nat} (hl : (l.map (·.n)).Nodup) (hn : ∀ b ∈ l, b.n ≠ n) (v : Value) : ((([⟨n, [v], 0, 0⟩] : List Blk) ++ l).map (·.n)).Nodup := by
  simp only [List.singleton_append, List.map_cons, List.nodup_cons]
  exact ⟨fun h2 => by obtain ⟨b, hb, e⟩ := List.mem_map.1 h2; exact hn b hb e, hl⟩
theorem BlkR.loose (e : Int) (D : DB) (hD : D.ok) : Loose (BlkR e D) := fun l hl => by
  obtain ⟨n, _, hn⟩ := fresh_is 0 l
  exact ⟨_, [⟨n, [undef], 0, 0⟩], ⟨_, some_same hD, rfl, fun W2 h => (lie_none h).elim⟩, none_nodup hl hn _⟩
theorem BlkV.loose (D : DB) (hD : D.ok) : Loose (BlkV D) := fun l hl => by
  obtain ⟨n, _, hn⟩ := fresh_is 0 l
  exact ⟨_, [⟨n, [undef], 0, 0⟩], ⟨_, some_same hD, rfl, fun W2 h => (lie_none h).elim⟩, none_nodup hl hn _⟩
theorem rowsX {C : Cx} {hp : List Blk} {w : World} {s : Sl} {m : Nat} {ls : List (List UInt8)} (h : HRep C hp w) (hr : RowsAt C.W0 s m ls) (hx : SeesX C.W0 C.lent s.p (flatB ls)) : RowsAt w s m ls := ⟨hr.len, hr.row, hr.cap, hx.ext h, hr.max, hr.nil⟩
theorem bytesX {C : Cx} {hp : List Blk} {w : World} {s : Sl} {l : List UInt8} (h : HRep C hp w) (hr : BytesAt C.W0 s l) (hx : SeesX C.W0 C.lent s.p (bytesV l)) : BytesAt w s l := ⟨hr.len, hr.cap, hx.ext h, hr.max, hr.nil⟩
theorem own_btxt {W : World} {q c : Nat} {D : DB} (hs : SeesP W (some ⟨q, 0, none⟩) (bytesV (btxt D))) (hc : (btxt D).length ≤ c) (hn : (btxt D).length ≤ 4005) : BytesAt W ⟨some ⟨q, 0, none⟩, (btxt D).length, c⟩ (btxt D) := own_bytes hs rfl hc (by unfold maxLen; omega)
theorem db_text (B : Block) (D : DB) (hB : B.ok) (h1 : D.ls.length ≤ 40) (h2 : D.ds.length ≤ 2000) : Meets Tryz.prog 47 [agg B.cells] [] (fun W => BlockIs W B D) (fun v out => FreshRow v out (bytesV (btxt D)) 5 (btxt D).length 1) := by
 intro W hW
 have hbs := DB.body_small hW.dok h1 h2
 have e1 := hW.ls.len
 have e2 := hW.ds.len
 have hbl : (btxt D).length = 5 + D.body.length := by rw [btxt, List.length_append]; rfl
 refine calls_of (hp0 := []) Tryz.func47 J 8 Tryz.ntmps47 J (HRep.nil _) (Sat.seq (Sat.region (Tr.boxA J J ?_)))
 intro n1 hn1 hf1
 refine Tr.assign J J J (Tr.nil (at_n (Sat.seq (Sat.region (Tr.mkRow (z := u8 0) [u8 98, u8 108, u8 111, u8 99, u8 107] (bytesV btag) J J J Y39 Sz5 Zr5 J J (by intro v hv; simp only [List.mem_cons, List.not_mem_nil, or_false] at hv; rcases hv with rfl | rfl | rfl | rfl | rfl <;> rfl) dE J ?_)))))
 intro q3
 refine Tr.constB J J J J Y39 Y5 mM ?_
 refine Tr.loadAll J J J Y53 J Sz53 mM (Block.length (by first | exact oK  | exact hB)) ?_
 refine Tr.call4 J J J J J Body93 (block_body B hB D.ls D.ds oM oM) (fun w h => ⟨rows_ext h J hW.ls, bytes_ext h J hW.ds⟩) ?_
 rintro v6 out6 ⟨N6, hN6, hN62, q6, c6, rfl, hc6, rfl⟩
 rw [hW.body] at hN6 ⊢
 subst hN6
 refine Tr.appendSl (z := u8 0) (by' := 1) (bytesV D.body) J J J J J Y39 Y39 Sz5 Zr5 (by unfold By; kernel_rfl) J (fun w h => SeesP.of (sees_own (cs := bytesV D.body) h mM)) (fun e => by cases e) (bytesV_cell _) rM J J dE oM oM (by rw [bytesV, List.length_map, Nat.mul_one]) ?_
 intro q7 c7 hq7
 rw [← bytesV_app]
 refine Tr.assign J J J (Tr.nil (at_n (Sat.ret (en_r (end_perm (out := (⟨q7, bytesV (btag ++ D.body), 5, c7 * 1⟩ :: [])) (res_tmp J J) (pm_cons rM pm_nil) ?_)))))
 exact ⟨q7, c7, by first | (rw [hbl]; done) | (rw [hbl]; rfl), by rw [hbl]; exact hq7, rfl⟩

theorem cl_digs_nil  : Meets Tryz.prog 148 [.slice none 0 0] [] (fun _ => True) (fun v out => v = .slice none 0 0 ∧ out = []) := by
 intro W hW
 refine calls_of (hp0 := []) Tryz.func148 J 8 Tryz.ntmps148 J (HRep.nil _) (Sat.seq (Sat.region (Tr.assign J J J (Tr.nil (at_n (Sat.seq (Sat.seq (Sat.region (Tr.move J J J (Tr.eqNilS (r := true) J J J J Y51 J (Tr.nil (at_n (Sat.cond_t J (rfl) (Sat.seq (Sat.region (Tr.assign J J J (Tr.nil (at_n (Sat.ret (at_r (en_r (end_perm (out := []) (res_tmp J J) pm_nil ?_))))))))))))))))))))))
 exact ⟨rfl, rfl⟩

theorem cl_digs_some (a : Addr) (n c : Nat) (ls : List (List UInt8)) (hl : ls.length = n) (hr : ∀ l ∈ ls, l.length = 32) (hn : n ≤ 90000) : Meets Tryz.prog 148 [.slice (some a) n c] [] (fun W => SeesP W (some a) (flatB ls)) (fun v out => FreshRow v out (flatB ls) 24 n 32) := by
 intro W hW
 refine calls_of (hp0 := []) Tryz.func148 J 8 Tryz.ntmps148 J (HRep.nil _) (Sat.seq (Sat.region (Tr.assign J J J (Tr.nil (at_n (Sat.seq (Sat.seq (Sat.region (Tr.move J J J (Tr.eqNilS (r := false) J J J J Y51 J (Tr.nil (at_n (Sat.cond_f J (rfl) (Sat.skip (at_n (Sat.seq (Sat.region (Tr.mkRow (z := agg (bytesV (List.replicate 32 0))) [] [] rfl J J Y51 Sz24 Zr24 J J (by intro v hv; cases hv) dE J ?_))))))))))))))))))
 intro q0
 refine Tr.move J J J (Tr.appendSl (z := agg (bytesV (List.replicate 32 0))) (by' := 32) (flatB ls) J J J J J Y51 Y51 Sz24 Zr24 (by unfold By; kernel_rfl) J (fun w h => seesP_ext h J hW) (fun e => by cases e) (flatB_cell ls) rem_here J J oM oM oM (by rw [flatB_length hr, hl]) ?_)
 intro q1 c1 hq1
 refine Tr.assign J J J (Tr.nil (at_n (Sat.ret (en_r ?_))))
 refine ⟨_, [⟨q1, [] ++ flatB ls, 24, c1 * 32⟩], res_tmp J J, (by intro b hb; rw [List.mem_singleton.1 hb]; exact mem0), nodup1, ⟨q1, c1, by rw [Nat.zero_add], by omega, rfl⟩⟩

theorem cl_byte_nil  : Meets Tryz.prog 149 [.slice none 0 0] [] (fun _ => True) (fun v out => v = .slice none 0 0 ∧ out = []) := by
 intro W hW
 refine calls_of (hp0 := []) Tryz.func149 J 8 Tryz.ntmps149 J (HRep.nil _) (Sat.seq (Sat.region (Tr.assign J J J (Tr.nil (at_n (Sat.seq (Sat.seq (Sat.region (Tr.move J J J (Tr.eqNilS (r := true) J J J J Y39 J (Tr.nil (at_n (Sat.cond_t J (rfl) (Sat.seq (Sat.region (Tr.assign J J J (Tr.nil (at_n (Sat.ret (at_r (en_r (end_perm (out := []) (res_tmp J J) pm_nil ?_))))))))))))))))))))))
 exact ⟨rfl, rfl⟩

theorem cl_digs (s : Sl) (ls : List (List UInt8)) (hn : s.n ≤ 90000) : Meets Tryz.prog 148 [s.v] [] (fun W => RowsAt W s 32 ls) (fun v out => ∃ s' : Sl, v = s'.v ∧ Hw.Acc s' out (flatB ls) 24 s.n 32) := fun W hW => by
  obtain ⟨p, n, c⟩ := s
  cases p with
  | none =>
    obtain rfl : c = 0 := hW.nil rfl
    obtain rfl : n = 0 := Nat.le_zero.1 hW.cap
    obtain rfl : ls = [] := List.length_eq_zero_iff.1 hW.len
    exact (cl_digs_nil W trivial).mono fun e W' ⟨v, out, h1, ⟨h2, h3⟩, h4⟩ => ⟨v, out, h1, ⟨Sl.nil, h2, by subst h3; exact Acc.none⟩, h4⟩
  | some a => exact (cl_digs_some a n c ls hW.len hW.row hn W hW.see).mono fun e W' ⟨v, out, h1, ⟨q, c', h2, h3, h5⟩, h4⟩ => ⟨v, out, h1, ⟨⟨some ⟨q, 0, none⟩, n, c'⟩, h2, by rw [h5]; exact Acc.some h3 (by rw [flatB_length hW.row, hW.len])⟩, h4⟩
theorem cl_byte (s : Sl) (l : List UInt8) (hn : s.n ≤ 90000) : Meets Tryz.prog 149 [s.v] [] (fun W => BytesAt W s l) (fun v out => ∃ s' : Sl, v = s'.v ∧ Hw.Acc s' out (bytesV l) 5 s.n 1) := fun W hW => by
  obtain ⟨p, n, c⟩ := s
  cases p with
  | none =>
    obtain rfl : c = 0 := hW.nil rfl
    obtain rfl : n = 0 := Nat.le_zero.1 hW.cap
    obtain rfl : l = [] := List.length_eq_zero_iff.1 hW.len
    exact (cl_byte_nil W trivial).mono fun e W' ⟨v, out, h1, ⟨h2, h3⟩, h4⟩ => ⟨v, out, h1, ⟨Sl.nil, h2, by subst h3; exact Acc.none⟩, h4⟩
  | some a => exact (clone_bytes a n c l hW.len hn W hW.see).mono fun e W' ⟨v, out, h1, ⟨q, c', h2, h3, h5⟩, h4⟩ => ⟨v, out, h1, ⟨⟨some ⟨q, 0, none⟩, n, c'⟩, h2, by rw [h5]; exact Acc.some h3 (by rw [bytesV, List.length_map]; exact hW.len.trans (Nat.mul_one _).symm)⟩, h4⟩

theorem mk_like (B : Block) (hB : B.ok) : Meets Tryz.prog 89 [agg B.cells] [] (fun _ => True) (fun v out => ∃ c, v = .func (.func 147) #[] #[ptr c 0] ∧ out = [⟨c, B.cells, 53, 131⟩]) := by
 intro W hW
 refine calls_of (hp0 := []) Tryz.func89 J 4 Tryz.ntmps89 J (HRep.nil _) (Sat.seq (Sat.region (Tr.boxA J J ?_)))
 intro n1 hn1 hf1
 refine Tr.assign J J J (Tr.nil (at_n (Sat.seq (Sat.region (Tr.makeFunc J J J J (Tr.assign J J J (Tr.nil (at_n (Sat.ret (en_r (end_perm (out := (⟨n1, B.cells, 53, 131⟩ :: [])) (res_tmp J J) (pm_consE rM J (Block.length hB) pm_nil) ?_)))))))))))
 exact ⟨n1, rfl, rfl⟩

theorem mk_by (k : List UInt8) (hk : k.length = 32) : Meets Tryz.prog 90 [agg (bytesV k)] [] (fun _ => True) (fun v out => ∃ c, v = .func (.func 150) #[] #[ptr c 0] ∧ out = [⟨c, bytesV k, 25, 32⟩]) := by
 intro W hW
 refine calls_of (hp0 := []) Tryz.func90 J 4 Tryz.ntmps90 J (HRep.nil _) (Sat.seq (Sat.region (Tr.boxA J J ?_)))
 intro n1 hn1 hf1
 refine Tr.assign J J J (Tr.nil (at_n (Sat.seq (Sat.region (Tr.makeFunc J J J J (Tr.assign J J J (Tr.nil (at_n (Sat.ret (en_r (end_perm (out := (⟨n1, bytesV k, 25, 32⟩ :: [])) (res_tmp J J) (pm_consE rM J (by rw [bytesV, List.length_map]; exact hk) pm_nil) ?_)))))))))))
 exact ⟨n1, rfl, rfl⟩

theorem mk_signed (k : List UInt8) (hk : k.length = 32) : Meets Tryz.prog 91 [agg (bytesV k)] [] (fun _ => True) (fun v out => ∃ c, v = .func (.func 151) #[] #[ptr c 0] ∧ out = [⟨c, bytesV k, 23, 32⟩]) := by
 intro W hW
 refine calls_of (hp0 := []) Tryz.func91 J 4 Tryz.ntmps91 J (HRep.nil _) (Sat.seq (Sat.region (Tr.boxA J J ?_)))
 intro n1 hn1 hf1
 refine Tr.assign J J J (Tr.nil (at_n (Sat.seq (Sat.region (Tr.makeFunc J J J J (Tr.assign J J J (Tr.nil (at_n (Sat.ret (en_r (end_perm (out := (⟨n1, bytesV k, 23, 32⟩ :: [])) (res_tmp J J) (pm_consE rM J (by rw [bytesV, List.length_map]; exact hk) pm_nil) ?_)))))))))))
 exact ⟨n1, rfl, rfl⟩

theorem opt_like (b c : Nat) (hcb : c ≠ b) (X B : Block) (hX : X.ok) (hB : B.ok) (D : DB) (h1 : D.ls.length ≤ 40) (h2 : D.ds.length ≤ 2000) : Meets Tryz.prog 147 [ptr b 0, ptr c 0] [b] (fun W => BlkOk W ⟨b, (X).cells, 53, 131⟩ ∧ Sees W c 0 B.cells ∧ RowsAt W B.fLinks 32 D.ls ∧ BytesAt W B.fData D.ds ∧ SeesX W [b] B.fLinks.p (flatB D.ls) ∧ SeesX W [b] B.fData.p (bytesV D.ds)) (fun v out => ∃ s10 bl10 s13 bl13, v = .tuple #[] ∧ Hw.Acc s10 bl10 (flatB D.ls) 24 B.fLinks.n 32 ∧ Hw.Acc s13 bl13 (bytesV D.ds) 5 B.fData.n 1 ∧ out = ⟨b, (({ B with fLinks := s10, fData := s13 } : Block)).cells, 53, 131⟩ :: (bl10 ++ bl13)) := by
 intro W hW
 have e1 := hW.2.2.1.len
 have e2 := hW.2.2.2.1.len
 have f1 : (flatB D.ls).length = B.fLinks.n * 32 := by rw [flatB_length hW.2.2.1.row, e1]
 have f2 : (bytesV D.ds).length = B.fData.n * 1 := by rw [bytesV, List.length_map, e2, Nat.mul_one]
 refine calls_of (hp0 := [⟨b, (X).cells, 53, 131⟩]) Tryz.func147 J 18 Tryz.ntmps147 J (HRep.one hW.1) (Sat.seq (Sat.region (Tr.move J J J (Tr.loadEN B.cells J J J Y53 J Sz53 (by simp [Cx.with]; omega) (Block.length hB) hW.2.1 ?_))))
 refine Tr.nilChk J J J (Tr.storeAll J J J J (Block.isCell (by first | exact oK  | exact hX | exact hB | exact ⟨hB.l_fWriter, hB.l_fPrev, hB.l_fSig⟩)) Sz53 (Block.length (by first | exact oK  | exact hX | exact hB | exact ⟨hB.l_fWriter, hB.l_fPrev, hB.l_fSig⟩)) mM (Block.length (by first | exact oK  | exact hX | exact hB | exact ⟨hB.l_fWriter, hB.l_fPrev, hB.l_fSig⟩)) uU ?_)
 refine Tr.nil (at_n (Sat.draw [(0, 0), (0, 1), (0, 2), (1, 3), (0, 5), (1, 6), (3, 4), (3, 7), (0, 8), (0, 9), (4, 10), (0, 11), (0, 12), (4, 13)] Mixed zK (Tr.move J J J (Tr.move J J J (Tr.fld J J J Y53 J Sz51 dE _ J (Tr.loadE J J J Y51 J (by first | (simp; done) | (simp; exact hW.2.2) | (simp [Cx.with]; done) | (simp [Cx.with]; omega)) (hW.2.1 65 _ (Block.get_fLinks hB)) ?_))))))
 refine Tr.fld J J J Y53 J Sz39 dE _ J (Tr.loadE J J J Y39 J (by first | (simp; done) | (simp; exact hW.2.2) | (simp [Cx.with]; done) | (simp [Cx.with]; omega)) (hW.2.1 66 _ (Block.get_fData hB)) ?_)
 refine Tr.call J J J J Body148 (cl_digs B.fLinks D.ls oM) (acc_loose _ _ _ _ f1) (fun w h => rowsX h hW.2.2.1 hW.2.2.2.2.1) ?_
 rintro v10 out10 ⟨s10, rfl, hac10⟩
 refine Tr.call J J J J Body149 (cl_byte B.fData D.ds oM) (acc_loose _ _ _ _ f2) (fun w h => bytesX h hW.2.2.2.1 hW.2.2.2.2.2) ?_
 rintro v13 out13 ⟨s13, rfl, hac13⟩
 refine Tr.nilChk J J J (Tr.fld J J J Y53 J Sz51 dE _ J (Tr.store1 J J J J J Sz51 mM (by rw [Block.length (by first | exact oK  | exact hX | exact hB | exact ⟨hB.l_fWriter, hB.l_fPrev, hB.l_fSig⟩)]; decide) (by first | exact Block.set_fLinks (by first | exact oK  | exact hX | exact hB | exact ⟨hB.l_fWriter, hB.l_fPrev, hB.l_fSig⟩) _ | exact Block.setS_fLinks (by first | exact oK  | exact hX | exact hB | exact ⟨hB.l_fWriter, hB.l_fPrev, hB.l_fSig⟩) _ _ _) uU ?_))
 refine Tr.nilChk J J J (Tr.fld J J J Y53 J Sz39 dE _ J (Tr.store1 J J J J J Sz39 mM (by rw [Block.length (by first | exact oK  | exact hX | exact hB | exact ⟨hB.l_fWriter, hB.l_fPrev, hB.l_fSig⟩)]; decide) (by first | exact Block.set_fData (by first | exact oK  | exact hX | exact hB | exact ⟨hB.l_fWriter, hB.l_fPrev, hB.l_fSig⟩) _ | exact Block.setS_fData (by first | exact oK  | exact hX | exact hB | exact ⟨hB.l_fWriter, hB.l_fPrev, hB.l_fSig⟩) _ _ _) uU ?_))
 refine Tr.nil (en_n (end_perm (out := (⟨b, (({ B with fLinks := s10, fData := s13 } : Block)).cells, 53, 131⟩ :: (out10 ++ (out13 ++ [])))) (res_none J) (pm_cons rM (pm_seg sG (pm_seg sG pm_nil))) ?_))
 exact ⟨s10, out10, s13, out13, rfl, hac10, hac13, by simp⟩

theorem opt_by (b c : Nat) (hcb : c ≠ b) (X : Block) (hX : X.ok) (k : List UInt8) (hk : k.length = 32) : Meets Tryz.prog 150 [ptr b 0, ptr c 0] [b] (fun W => BlkOk W ⟨b, (X).cells, 53, 131⟩ ∧ Sees W c 0 (bytesV k)) (fun v out => v = .tuple #[] ∧ out = [⟨b, (({ X with fWriter := k } : Block)).cells, 53, 131⟩]) := by
 intro W hW
 refine calls_of (hp0 := [⟨b, (X).cells, 53, 131⟩]) Tryz.func150 J 7 Tryz.ntmps150 J (HRep.one hW.1) (Sat.region (Tr.move J J J (Tr.loadEN (bytesV k) J J J Y25 J Sz25 (by simp [Cx.with]; omega) (by rw [bytesV, List.length_map]; exact hk) hW.2 ?_)))
 refine Tr.nilChk J J J (Tr.fld J J J Y53 J Sz25 dE _ J (Tr.storeN (bytesV _) J J J J J (by first | exact bytesV_cell _ | exact wdsV_cell _ | simp [isCell]) Sz25 (by simp [hk, hX.l_fWriter]) mM (by rw [Block.length (by first | (simp [hk, hX.l_fWriter]; done) | exact oK | exact Point.zero_ok | exact wide.zero_ok | exact secrets.zero_ok | exact far.zero_ok | exact Cut.zero_ok | exact Cert.zero_ok | exact Msg.zero_ok | exact Inbox.zero_ok | exact Record.zero_ok | exact Kept.zero_ok | exact Rdr.zero_ok  | exact hX)]; simp [hk, hX.l_fWriter]) (Block.upd_fWriter (by first | (simp [hk, hX.l_fWriter]; done) | exact oK | exact Point.zero_ok | exact wide.zero_ok | exact secrets.zero_ok | exact far.zero_ok | exact Cut.zero_ok | exact Cert.zero_ok | exact Msg.zero_ok | exact Inbox.zero_ok | exact Record.zero_ok | exact Kept.zero_ok | exact Rdr.zero_ok  | exact hX) _ (by simp [hk, hX.l_fWriter])) uU ?_))
 refine Tr.nil (en_n (end_perm (out := (⟨b, (({ X with fWriter := k } : Block)).cells, 53, 131⟩ :: [])) (res_none J) (pm_cons rM pm_nil) ?_))
 exact ⟨rfl, rfl⟩

theorem opt_signed (b c : Nat) (hcb : c ≠ b) (X : Block) (hX : X.ok) (D : DB) (h1 : D.ls.length ≤ 40) (h2 : D.ds.length ≤ 2000) (hDX : D.w = X.fWriter ∧ D.seq = X.fSeq ∧ D.prev = X.fPrev) (seed : List UInt8) (h32 : seed.length = 32) (s s1 s2 : List UInt8) (hs : Hid (sha512 seed = s)) (hs1 : Hid (sha512 (s.drop 32 ++ btxt D) = s1)) (hs2 : Hid (sha512 (sgF s1 ++ (sgK s ++ btxt D)) = s2)) : Meets Tryz.prog 151 [ptr b 0, ptr c 0] [b] (fun W => BlkOk W ⟨b, (X).cells, 53, 131⟩ ∧ Sees W c 0 (bytesV seed) ∧ RowsAt W X.fLinks 32 D.ls ∧ BytesAt W X.fData D.ds ∧ SeesX W [b] X.fLinks.p (flatB D.ls) ∧ SeesX W [b] X.fData.p (bytesV D.ds)) (fun v out => v = .tuple #[] ∧ out = [⟨b, (({ X with fSig := (sgF s1 ++ sgS s s1 s2) } : Block)).cells, 53, 131⟩]) := by
 intro W hW
 have lG : (sgF s1 ++ sgS s s1 s2).length = 64 := by rw [List.length_append, sgF_length, sgS_length]
 have hIs : ∀ w, RowsAt w X.fLinks 32 D.ls → BytesAt w X.fData D.ds → BlockIs w X { D with sg := X.fSig } := fun w hr hb => ⟨hX, hDX.1.symm, hDX.2.1.symm, hDX.2.2.symm, hr, hb, rfl⟩
 have hdk := (hIs W hW.2.2.1 hW.2.2.2.1).dok
 have hvn : (btxt D).length ≤ 4005 := DB.body_small (D := { D with sg := X.fSig }) hdk h1 h2
 have cS := fun (x : Sl) => sign_Sign seed h32 x (btxt D) oM s s1 s2 hs hs1 hs2
 have cT := db_text X { D with sg := X.fSig } hX h1 h2
 rw [show btxt { D with sg := X.fSig } = btxt D from rfl] at cT
 clear hs hs1 hs2
 revert lG cS
 generalize sgF s1 ++ sgS s s1 s2 = G
 intro lG cS
 refine calls_of (hp0 := [⟨b, (X).cells, 53, 131⟩]) Tryz.func151 J 12 Tryz.ntmps151 J (HRep.one hW.1) (Sat.draw [(0, 0), (1, 1), (0, 2), (0, 3), (1, 4), (3, 5), (3, 6), (0, 7), (0, 8), (4, 9)] Mixed zK (Tr.move J J J (Tr.loadEN (bytesV seed) J J J Y23 J Sz23 (by simp [Cx.with]; omega) (by rw [bytesV, List.length_map]; exact h32) hW.2.1 ?_)))
 refine Tr.move J J J (Tr.nilChk J J J (Tr.loadAll J J J Y53 J Sz53 mM (Block.length (by first | (simp [h32, lG, hX.l_fSig]; done) | exact oK | exact Point.zero_ok | exact wide.zero_ok | exact secrets.zero_ok | exact far.zero_ok | exact Cut.zero_ok | exact Cert.zero_ok | exact Msg.zero_ok | exact Inbox.zero_ok | exact Record.zero_ok | exact Kept.zero_ok | exact Rdr.zero_ok  | exact hX)) ?_))
 refine Tr.call J J J J Body47 (cT) (FreshRow.loose _ _ _ _) (fun w h => hIs w (rowsX h hW.2.2.1 hW.2.2.2.2.1) (bytesX h hW.2.2.2.1 hW.2.2.2.2.2)) ?_
 rintro v8 out8 ⟨q8, c8, rfl, hc8, rfl⟩
 refine Tr.callV J J J J Body59 (cS ⟨some ⟨q8, 0, none⟩, _, c8⟩) (fun w h => own_btxt (SeesP.of (sees_own h mM)) hc8 hvn) ?_
 refine Tr.nilChk J J J (Tr.fld J J J Y53 J Sz27 dE _ J (Tr.storeN (bytesV _) J J J J J (by first | exact bytesV_cell _ | exact wdsV_cell _ | simp [isCell]) Sz27 (by simp [h32, lG, hX.l_fSig]) mM (by rw [Block.length (by first | (simp [h32, lG, hX.l_fSig]; done) | exact oK | exact Point.zero_ok | exact wide.zero_ok | exact secrets.zero_ok | exact far.zero_ok | exact Cut.zero_ok | exact Cert.zero_ok | exact Msg.zero_ok | exact Inbox.zero_ok | exact Record.zero_ok | exact Kept.zero_ok | exact Rdr.zero_ok  | exact hX)]; simp [h32, lG, hX.l_fSig]) (Block.upd_fSig (by first | (simp [h32, lG, hX.l_fSig]; done) | exact oK | exact Point.zero_ok | exact wide.zero_ok | exact secrets.zero_ok | exact far.zero_ok | exact Cut.zero_ok | exact Cert.zero_ok | exact Msg.zero_ok | exact Inbox.zero_ok | exact Record.zero_ok | exact Kept.zero_ok | exact Rdr.zero_ok  | exact hX) _ (by simp [h32, lG, hX.l_fSig])) uU ?_))
 refine Tr.nil (en_n (end_perm (out := (⟨b, (({ X with fSig := G } : Block)).cells, 53, 131⟩ :: [])) (res_none J) (pm_cons rM pm_nil) ?_))
 exact ⟨rfl, rfl⟩

theorem block_buildS (r c1 c2 c3 : Nat) (B : Block) (hB : B.ok) (D : DB) (h1 : D.ls.length ≤ 40) (h2 : D.ds.length ≤ 2000) (seed : List UInt8) (h32 : seed.length = 32) (s s1 s2 : List UInt8) (hs : Hid (sha512 seed = s)) (hs1 : Hid (sha512 (s.drop 32 ++ btxt ({ D with w := sgK s } : DB)) = s1)) (hs2 : Hid (sha512 (sgF s1 ++ (sgK s ++ btxt ({ D with w := sgK s } : DB))) = s2)) : Meets Tryz.prog 88 [.slice (some ⟨r, 0, none⟩) 3 3] [] (fun W => (W.cell? ⟨r, 0, none⟩ = some (.func (.func 147) #[] #[ptr c1 0]) ∧ W.cell? ⟨r, 1, none⟩ = some (.func (.func 150) #[] #[ptr c2 0]) ∧ W.cell? ⟨r, 2, none⟩ = some (.func (.func 151) #[] #[ptr c3 0])) ∧ Sees W c1 0 B.cells ∧ Sees W c2 0 (bytesV (sgK s)) ∧ Sees W c3 0 (bytesV seed) ∧ BlockIs W B D ∧ c1 < W.heap.size ∧ c2 < W.heap.size ∧ c3 < W.heap.size) (fun v out => ∃ s10 bl10 s13 bl13, v = agg ({ B with fLinks := s10, fData := s13, fWriter := sgK s, fSig := (sgF s1 ++ sgS s s1 s2) } : Block).cells ∧ Hw.Acc s10 bl10 (flatB D.ls) 24 B.fLinks.n 32 ∧ Hw.Acc s13 bl13 (bytesV D.ds) 5 B.fData.n 1 ∧ out = bl10 ++ bl13) := by
 intro W hW
 have lG : (sgF s1 ++ sgS s s1 s2).length = 64 := by rw [List.length_append, sgF_length, sgS_length]
 have lK := sgK_length s
 have ok1 : ∀ s10 s13, ({ B with fLinks := s10, fData := s13 } : Block).ok := fun _ _ => ⟨hB.l_fWriter, hB.l_fPrev, hB.l_fSig⟩
 have ok2 : ∀ s10 s13, ({ B with fLinks := s10, fData := s13, fWriter := sgK s } : Block).ok := fun _ _ => ⟨lK, hB.l_fPrev, hB.l_fSig⟩
 have ok3 : ∀ s10 s13, ({ B with fLinks := s10, fData := s13, fWriter := sgK s, fSig := (sgF s1 ++ sgS s s1 s2) } : Block).ok := fun _ _ => ⟨lK, hB.l_fPrev, lG⟩
 have hD := hW.2.2.2.2.1
 have hz := hW.2.2.2.2.2
 have e1 := hD.ls.len
 have e2 := hD.ds.len
 refine calls_of (hp0 := []) Tryz.func88 J 16 Tryz.ntmps88 J (HRep.nil _) (Sat.seq (Sat.region (Tr.alloc (cs := Block.zero.cells) J Block.zr J ?_)))
 intro n2 hn2 hf2
 refine Tr.nil (at_n (Sat.seq (Sat.region (Tr.alloc (cs := Block.zero.cells) J Block.zr J ?_))))
 intro n3 hn3 hf3
 refine Tr.nil (at_n (Sat.seq (Sat.seq (Sat.region ?_))))
 have hg3 : W.heap.size ≤ n3 := hn3
 have hz1 : c1 ≠ n3 := by omega
 have hz2 : c2 ≠ n3 := by omega
 have hz3 : c3 ≠ n3 := by omega
 refine Tr.move J J J (Tr.lenSl J J J Y154 (Tr.move J J J (Tr.nil (at_n (Sat.block (Sat.rounds 4 (SRounds.more (Sat.seq (Sat.region (Tr.lss J J J J J (Tr.nil (at_n (Sat.seq (Sat.cond_t J (rfl) (Sat.skip (at_n (Sat.seq (Sat.block (Sat.seq (Sat.region ?_))))))))))))))))))))
 first
  | refine Tr.idxSl1 rfl rfl rfl rfl Y154 Sz100 0 rfl oM ?_
  | refine Tr.idxSlO rfl rfl rfl rfl Y154 Sz100 0 rfl oM ?_
 refine Tr.loadE J J J Tryz.underlying100 J (by first | (simp; done) | (simp; exact hW.2.2) | (simp [Cx.with]; done) | (simp [Cx.with]; omega)) (hW.1.1) ?_
 refine Tr.assign J J J (Tr.nil (at_n (Sat.region (Tr.move J J J (Tr.callCL (L := [⟨n3, (Block.zero).cells, 53, 131⟩]) J J J J J J Body147 (opt_like n3 c1 hz1 Block.zero B Block.zero_ok hB D h1 h2) (pm_consE rM J J pm_nil) (lent_ok J) (fun w h => ⟨own_blk h mM, sees_ext h sP hW.2.1, rows_ext h J hD.ls, bytes_ext h J hD.ds, SeesX.new h J hg3 hD.ls.see, SeesX.new h J hg3 hD.ds.see⟩) ?_)))))
 rintro v5 out5 ⟨s10, bl10, s13, bl13, rfl, hac10, hac13, rfl⟩
 refine Tr.nd (fun hnd => ?_)
 simp only [List.cons_append, List.map_cons, List.map_append, List.nodup_cons, List.mem_append, List.mem_map, not_or, not_exists, not_and] at hnd
 have hx1 : ∀ b ∈ bl10, b.n ≠ n3 := hnd.1.1.1
 have hx2 : ∀ b ∈ bl13, b.n ≠ n3 := hnd.1.1.2
 clear hnd
 simp only [List.append_assoc, List.cons_append, List.nil_append]
 refine Tr.nil (bl_n (at_n (Sat.region (Tr.add_i64 J J J J oM (Tr.move J J J (Tr.nil (at_n (SRounds.more (Sat.seq (Sat.region (Tr.lss J J J J J (Tr.nil (at_n (Sat.seq (Sat.cond_t J (rfl) (Sat.skip (at_n (Sat.seq (Sat.block (Sat.seq (Sat.region ?_)))))))))))))))))))))
 first
  | refine Tr.idxSl1 rfl rfl rfl rfl Y154 Sz100 1 rfl oM ?_
  | refine Tr.idxSlO rfl rfl rfl rfl Y154 Sz100 1 rfl oM ?_
 refine Tr.loadE J J J Tryz.underlying100 J (by first | (simp; done) | (simp; exact hW.2.2) | (simp [Cx.with]; done) | (simp [Cx.with]; omega)) (hW.1.2.1) ?_
 refine Tr.assign J J J (Tr.nil (at_n (Sat.region (Tr.move J J J (Tr.callCL (L := [⟨n3, (({ B with fLinks := s10, fData := s13 } : Block)).cells, 53, 131⟩]) J J J J J J Body150 (opt_by n3 c2 hz2 ({ B with fLinks := s10, fData := s13 } : Block) (ok1 _ _) (sgK s) lK) (pm_consE rM J J pm_nil) (lent_ok J) (fun w h => ⟨own_blk h mM, sees_ext h sP hW.2.2.1⟩) ?_)))))
 rintro v6 out6 ⟨rfl, rfl⟩
 refine Tr.nil (bl_n (at_n (Sat.region (Tr.add_i64 J J J J oM (Tr.move J J J (Tr.nil (at_n (SRounds.more (Sat.seq (Sat.region (Tr.lss J J J J J (Tr.nil (at_n (Sat.seq (Sat.cond_t J (rfl) (Sat.skip (at_n (Sat.seq (Sat.block (Sat.seq (Sat.region ?_)))))))))))))))))))))
 first
  | refine Tr.idxSl1 rfl rfl rfl rfl Y154 Sz100 2 rfl oM ?_
  | refine Tr.idxSlO rfl rfl rfl rfl Y154 Sz100 2 rfl oM ?_
 refine Tr.loadE J J J Tryz.underlying100 J (by first | (simp; done) | (simp; exact hW.2.2) | (simp [Cx.with]; done) | (simp [Cx.with]; omega)) (hW.1.2.2) ?_
 refine Tr.assign J J J (Tr.nil (at_n (Sat.region (Tr.move J J J (Tr.callCL (L := [⟨n3, (({ B with fLinks := s10, fData := s13, fWriter := sgK s } : Block)).cells, 53, 131⟩]) J J J J J J Body151 (opt_signed n3 c3 hz3 ({ B with fLinks := s10, fData := s13, fWriter := sgK s } : Block) (ok2 _ _) ({ D with w := sgK s } : DB) h1 h2 ⟨rfl, hD.seq.symm, hD.prev.symm⟩ seed h32 s s1 s2 hs hs1 hs2) (pm_consE rM J J pm_nil) (lent_ok J) (fun w h => ⟨own_blk h mM, sees_ext h sP hW.2.2.2.1, acc_rows hac10 (Lies.of h iN) hD.ls.row oM oM, acc_bytes hac13 (Lies.of h iN) oM oM, Acc.seeX hac10 (Lies.of h iN) hx1, Acc.seeX hac13 (Lies.of h iN) hx2⟩) ?_)))))
 rintro v7 out7 ⟨rfl, rfl⟩
 refine Tr.nil (bl_n (at_n (Sat.region (Tr.add_i64 J J J J oM (Tr.move J J J (Tr.nil (at_n (SRounds.more (Sat.seq (Sat.region (Tr.lss J J J J J (Tr.nil (at_n (Sat.seq (Sat.cond_f J (rfl) (Sat.exit (at_x (at_x (bl_h (at_n (Sat.seq (Sat.region ?_))))))))))))))))))))))
 clear hs hs1 hs2
 revert lG lK ok2 ok3
 generalize sgF s1 ++ sgS s s1 s2 = G
 generalize sgK s = K
 intro lG lK ok2 ok3
 refine Tr.loadAll J J J Y53 J Sz53 mM (Block.length (by first | exact oK  | exact hB | exact ok1 _ _ | exact ok2 _ _ | exact ok3 _ _ | exact Block.zero_ok)) ?_
 refine Tr.storeAll J J J J (Block.isCell (by first | exact oK  | exact hB | exact ok1 _ _ | exact ok2 _ _ | exact ok3 _ _ | exact Block.zero_ok)) Sz53 (Block.length (by first | exact oK  | exact hB | exact ok1 _ _ | exact ok2 _ _ | exact ok3 _ _ | exact Block.zero_ok)) mM (Block.length (by first | exact oK  | exact hB | exact ok1 _ _ | exact ok2 _ _ | exact ok3 _ _ | exact Block.zero_ok)) uU ?_
 refine Tr.nil (at_n (Sat.ret (en_r (end_perm (out := (bl10 ++ (bl13 ++ []))) (res_cell J J Y53 J Sz53 mM (by first | (simp; done) | exact Block.length (by first | exact oK  | exact hB | exact ok1 _ _ | exact ok2 _ _ | exact ok3 _ _ | exact Block.zero_ok))) (pm_seg sG (pm_seg sG pm_nil)) ?_))))
 exact ⟨s10, bl10, s13, bl13, rfl, hac10, hac13, by simp⟩

end Go.Proofs.YtpacobmjjjillaaGreat
end

section
namespace Go.Proofs.YtpacobmjjjillaaGreat
open Go Hw
set_option linter.unusedVariables false
set_option linter.unusedSimpArgs false

open Ed

theorem db_sign (B : Block) (D : DB) (hB : B.ok) (seed : List UInt8) (h32 : seed.length = 32) (s s1 s2 : List UInt8) (hs : Hid (sha512 seed = s)) (hs1 : Hid (sha512 (s.drop 32 ++ btxt ({ D with w := sgK s } : DB)) = s1)) (hs2 : Hid (sha512 (sgF s1 ++ (sgK s ++ btxt ({ D with w := sgK s } : DB))) = s2)) (hc : D.check = 0) : Meets Tryz.prog 36 [agg (bytesV seed), agg B.cells] [] (fun W => BlockIs W B D) (BlkR 0 (bsg D (sgK s) (sgF s1 ++ sgS s s1 s2))) := by
 intro W hW
 obtain ⟨h1, h2⟩ := D.head_small hc
 have lG : (sgF s1 ++ sgS s s1 s2).length = 64 := by rw [List.length_append, sgF_length, sgS_length]
 have lK := sgK_length s
 have cK : Meets Tryz.prog 58 [agg (bytesV seed)] [] (fun _ => True) (fun v out => v = agg (bytesV (sgK s)) ∧ out = []) := sign_Key seed h32 s hs
 have cC := db_check B D
 rw [hc] at cC
 have e1 := hW.ls.len
 have e2 := hW.ds.len
 have ok3 : ∀ s10 s13, ({ B with fLinks := s10, fData := s13, fWriter := sgK s, fSig := (sgF s1 ++ sgS s s1 s2) } : Block).ok := fun _ _ => ⟨lK, hB.l_fPrev, lG⟩
 refine calls_of (hp0 := []) Tryz.func36 J 22 Tryz.ntmps36 J (HRep.nil _) (Sat.seq (Sat.region (Tr.boxA J J ?_)))
 intro n2 hn2 hf2
 refine Tr.boxA J J ?_
 intro n3 hn3 hf3
 refine Tr.alloc (cs := Block.zero.cells) J Block.zr J ?_
 intro n4 hn4 hf4
 refine Tr.assign J J J (Tr.nil (at_n (Sat.seq (Sat.seq (Sat.region (Tr.loadAll J J J Y53 J Sz53 Z1 (Block.length zA) ?_))))))
 refine Tr.callV J J J J Body38 (cC) (fun w h => hW.ext h J) (Tr.assign J J J (Tr.nil (at_n (Sat.seq (Sat.region (Tr.move J J J (Tr.nei J J J J J (Tr.nil (at_n (Sat.cond_f J (rfl) (Sat.skip (at_n (Sat.seq (Sat.draw [(1, 0), (1, 2), (1, 5), (3, 1), (3, 3), (3, 4), (3, 6), (4, 7), (4, 8), (4, 9), (0, 10)] Mixed zK (Tr.loadAll J J J Y53 J Sz53 Z1 (Block.length zA) ?_)))))))))))))))
 refine Tr.loadAll J J J Y23 J Sz23 Z2 (by (simp [h32]; done)) ?_
 refine Tr.loadAll J J J Y23 J Sz23 Z2 (by (simp [h32]; done)) ?_
 refine Tr.call J J J J Body89 (mk_like B hB) (ptr_loose _ _ _ _) (fun _ _ => trivial) ?_
 rintro v14 out14 ⟨c14, rfl, rfl⟩
 refine Tr.callV J J J J Body58 (cK) (fun _ _ => trivial) (Tr.call J J J J Body90 (mk_by (sgK s) lK) (ptr_loose _ _ _ _) (fun _ _ => trivial) ?_)
 rintro v17 out17 ⟨c17, rfl, rfl⟩
 refine Tr.call J J J J Body91 (mk_signed seed h32) (ptr_loose _ _ _ _) (fun _ _ => trivial) ?_
 rintro v19 out19 ⟨c19, rfl, rfl⟩
 refine Tr.mkRow (z := .nilFunc) [.func (.func 147) #[] #[ptr c14 0], .func (.func 150) #[] #[ptr c17 0], .func (.func 151) #[] #[ptr c19 0]] [.func (.func 147) #[] #[ptr c14 0], .func (.func 150) #[] #[ptr c17 0], .func (.func 151) #[] #[ptr c19 0]] rfl J J Y154 Sz100 Zr100 J J (by intro v hv; simp only [List.mem_cons, List.not_mem_nil, or_false] at hv; rcases hv with rfl | rfl | rfl <;> rfl) dE J ?_
 intro r20
 refine Tr.call4 J J J J J Body88 (block_buildS r20 c14 c17 c19 B hB D oM oM seed h32 s s1 s2 hs hs1 hs2) (fun w h => ⟨⟨(own_blk (B := ⟨r20, [.func (.func 147) #[] #[ptr c14 0], .func (.func 150) #[] #[ptr c17 0], .func (.func 151) #[] #[ptr c19 0]], _, _⟩) h Z0).cell (o := 0) J, (own_blk (B := ⟨r20, [.func (.func 147) #[] #[ptr c14 0], .func (.func 150) #[] #[ptr c17 0], .func (.func 151) #[] #[ptr c19 0]], _, _⟩) h Z0).cell (o := 1) J, (own_blk (B := ⟨r20, [.func (.func 147) #[] #[ptr c14 0], .func (.func 150) #[] #[ptr c17 0], .func (.func 151) #[] #[ptr c19 0]], _, _⟩) h Z0).cell (o := 2) J⟩, sees_own h Z3, sees_own h Z2, sees_own h Z1, hW.ext h J, (own_blk (B := ⟨c14, B.cells, _, _⟩) h Z3).lt, (own_blk (B := ⟨c17, bytesV (sgK s), _, _⟩) h Z2).lt, (own_blk (B := ⟨c19, bytesV seed, _, _⟩) h Z1).lt⟩) ?_
 rintro v21 out21 ⟨s10, bl10, s13, bl13, rfl, hac10, hac13, rfl⟩
 simp only [List.append_assoc, List.cons_append, List.nil_append]
 have hKs : D.ok := hW.dok
 clear hs hs1 hs2
 revert lG lK ok3
 generalize sgF s1 ++ sgS s s1 s2 = G
 generalize sgK s = K
 intro lG lK ok3
 refine Tr.storeAll J J J J (Block.isCell (by exact ok3 _ _)) Sz53 (Block.length (by exact ok3 _ _)) (by (repeat (first | exact List.mem_cons_self | refine List.mem_cons_of_mem _ ?_ | refine mem_seg ?_))) (Block.length (by exact Block.zero_ok)) (by (repeat (first | exact upd0 | apply Upd.tail | apply Upd.seg))) ?_
 refine Tr.assign J J J (Tr.nil (at_n (Sat.ret (en_r (end_perm (out := (bl10 ++ (bl13 ++ []))) (res_cell_tmp J J J Y53 J Sz53 (by (repeat (first | exact List.mem_cons_self | refine List.mem_cons_of_mem _ ?_ | refine mem_seg ?_))) (by exact Block.length (by exact ok3 _ _))) (pm_seg sG (pm_seg sG pm_nil)) ?_)))))
 exact ⟨({ B with fLinks := s10, fData := s13, fWriter := K, fSig := G } : Block), ⟨ok3 _ _, rfl, hW.seq, hW.prev, rfl, hac10.num.trans e1.symm, hac13.num.trans e2.symm⟩, rfl, fun W2 h2 => ⟨ok3 _ _, rfl, hW.seq, hW.prev, acc_rows hac10 (h2.sub in_here) hW.ls.row e1 oM, acc_bytes hac13 (h2.sub (in_seg in_here)) e2 oM, rfl⟩⟩

theorem db_good (B : Block) (D : DB) (hB : B.ok) : Meets Tryz.prog 40 [agg B.cells] [] (fun W => BlockIs W B D) (fun v out => v = i64 (dgood D) ∧ out = []) := by
 intro W hW
 refine calls_of (hp0 := []) Tryz.func40 J 17 Tryz.ntmps40 J (HRep.nil _) (Sat.seq (Sat.region (Tr.boxA J J ?_)))
 intro n1 hn1 hf1
 refine Tr.assign J J J (Tr.nil (at_n (Sat.seq (Sat.seq (Sat.region (Tr.loadAll J J J Y53 J Sz53 Z0 (Block.length zA) ?_))))))
 refine Tr.callV J J J J Body38 (db_check B D) (fun w h => hW.ext h J) (Tr.assign J J J (Tr.nil (at_n (Sat.seq (Sat.region (Tr.move J J J (Tr.nei J J J J J (Tr.nil (at_n (Sat.condNP J (fun hc0 => ?_) (fun hc0 => ?_)))))))))))
 ·
  have hq0 : ¬ D.check = 0 := by omega
  refine Sat.seq (Sat.region (Tr.move J J J (Tr.assign J J J (Tr.nil (at_n (Sat.ret (at_r (en_r ?_))))))))
  refine ⟨_, [], res_tmp J J, sP, sP, ?_, rfl⟩
  (unfold dgood; rw [if_neg hq0]; done)
 ·
  have hq0 : D.check = 0 := by omega
  obtain ⟨h1, h2⟩ := D.head_small hq0
  have hvn : (btxt D).length ≤ 4005 := DB.body_small hW.dok oM oM
  refine Sat.skip (at_n (Sat.seq (Sat.seq (Sat.draw [(0, 0), (1, 1), (1, 2), (0, 4), (1, 5), (3, 3), (3, 6), (0, 7)] Mixed zK (Tr.fld J J J Y53 J Sz25 dE _ J (Tr.loadN (bytesV _) J J J Y25 J Sz25 Z0 (Block.row_fWriter zA) (Block.rl_fWriter zA) ?_))))))
  refine Tr.loadAll J J J Y53 J Sz53 Z0 (Block.length zA) ?_
  refine Tr.fld J J J Y53 J Sz27 dE _ J (Tr.loadN (bytesV _) J J J Y27 J Sz27 Z0 (Block.row_fSig zA) (Block.rl_fSig zA) ?_)
  refine Tr.call J J J J Body47 (db_text B D hB oM oM) (FreshRow.loose _ _ _ _) (fun w h => hW.ext h J) ?_
  rintro v12 out12 ⟨q12, c12, rfl, hc12, rfl⟩
  refine Tr.callV J J J J Body60 (sign_Good B.fWriter hB.l_fWriter ⟨some ⟨q12, 0, none⟩, _, c12⟩ (btxt D) oM B.fSig hB.l_fSig) (fun w h => own_btxt (SeesP.of (sees_own h Z0)) hc12 hvn) ?_
  refine Tr.not J J J (Tr.nil (at_n (Sat.cond J (fun hc1 => ?_) (fun hc1 => ?_))))
  ·
   refine Sat.seq (Sat.region (Tr.assign J J J (Tr.nil (at_n (Sat.ret (at_r (en_r ?_)))))))
   refine ⟨_, [], res_tmp J J, sP, sP, ?_, rfl⟩
   (unfold dgood; rw [if_pos hq0, ← hW.w, ← hW.sg, if_neg (by intro e; rw [e] at hc1; cases hc1)]; done)
  ·
   refine Sat.skip (at_n (Sat.seq (Sat.region (Tr.assign J J J (Tr.nil (at_n (Sat.ret (en_r ?_))))))))
   refine ⟨_, [], res_tmp J J, sP, sP, ?_, rfl⟩
   (unfold dgood; rw [if_pos hq0, ← hW.w, ← hW.sg, if_pos (by simpa using hc1)]; done)

theorem db_own (B : Block) (D : DB) (hn : D.ls.length ≤ 500000) (hd : D.ds.length ≤ 500000) : Meets Tryz.prog 37 [agg B.cells] [] (fun W => BlockIs W B D) (BlkV D) := fun W hW => by
  have e1 := hW.ls.len
  have e2 := hW.ds.len
  refine (kit_own_block B hW.ok D.ls D.ds oM oM W ⟨hW.ls, hW.ds⟩).mono fun e W' ⟨v, out, h1, ⟨q1, c1, q2, c2, h2, h3, h4, h5⟩, h6⟩ => ⟨v, out, h1, ⟨ownB B q1 c1 q2 c2, ⟨ownB_ok hW.ok q1 c1 q2 c2, hW.w, hW.seq, hW.prev, hW.sg, e1.symm, e2.symm⟩, h2, fun W2 hl => ?_⟩, h6⟩
  subst h5
  have hf : (flatB D.ls).length = B.fLinks.n * 32 := by rw [flatB_length hW.ls.row, e1]
  have hb : (bytesV D.ds).length = B.fData.n * 1 := by rw [bytesV, List.length_map, e2, Nat.mul_one]
  refine ⟨ownB_ok hW.ok q1 c1 q2 c2, hW.w, hW.seq, hW.prev, ?_, ?_, hW.sg⟩
  · exact acc_rows (Acc.some (E := 24) h3 hf) (hl.sub (fun b hb => by rw [List.mem_singleton.1 hb]; exact mem1)) hW.ls.row e1 oM
  · exact acc_bytes (Acc.some (E := 5) h4 hb) (hl.sub (fun b hb => by rw [List.mem_singleton.1 hb]; exact mem0)) e2 oM

end Go.Proofs.YtpacobmjjjillaaGreat
end

section
namespace Hw
open Go
set_option linter.unusedSimpArgs false
set_option linter.unusedVariables false

/-- the first byte that a count and the top bits have -/
def headOf (s h : Nat) : UInt8 := shl8 255 (9 - s) ||| UInt8.ofNat h
theorem head_facts : ∀ s, s < 10 → 1 ≤ s → ∀ h, h < 2 ^ (8 - s) → (s = 9 → h = 0) → cntB (headOf s h) = s ∧ (headV (headOf s h)).toNat = h := by
  decide +kernel
/-- the number of bytes, the high one first -/
def beN : List UInt8 → Nat
  | [] => 0
  | b :: l => b.toNat * 256 ^ l.length + beN l
theorem beN_tail (x : UInt64) : ∀ k, k ≤ 8 → beN (tailB x k) = x.toNat % 256 ^ k
  | 0, _ => by simp [tailB, beN, Nat.mod_one]
  | k + 1, hk => by
    have hp : 0 < 256 ^ k := Nat.pow_pos dE
    have e : (2 : Nat) ^ (8 * k) = 256 ^ k := by rw [Nat.pow_mul]
    rw [tailB, beN, tailB_length, beN_tail x k oM, UInt64.toNat_toUInt8]
    have e1 : (shr64 x (8 * k)).toNat = x.toNat / 256 ^ k := by
      have h : x.toNat / 2 ^ (8 * k) ≤ x.toNat := Nat.div_le_self _ _
      have := x.toNat_lt
      rw [shr64, UInt64.toNat_ofNat', Nat.mod_eq_of_lt oM, e]
    rw [e1]
    have h3 := Nat.mod_mul (a := 256 ^ k) (b := 256) (x := x.toNat)
    have e2 : (256 : Nat) ^ (k + 1) = 256 ^ k * 256 := Nat.pow_succ ..
    have e3 : (2 : Nat) ^ 8 = 256 := by decide
    rw [e2, h3, e3, Nat.mul_comm (256 ^ k)]
    omega
theorem foldB_nat : ∀ (l : List UInt8) (a : UInt64), a.toNat * 256 ^ l.length + beN l < 2 ^ 64 → (foldB a l).toNat = a.toNat * 256 ^ l.length + beN l
  | [], a, _ => by simp [foldB, beN]
  | b :: l, a, h => by
    rw [beN, List.length_cons, Nat.pow_succ] at h
    have hb := b.toNat_lt
    have hp : 0 < 256 ^ l.length := Nat.pow_pos dE
    have e : a.toNat * (256 ^ l.length * 256) + (b.toNat * 256 ^ l.length + beN l) = (a.toNat * 256 + b.toNat) * 256 ^ l.length + beN l := by
      rw [Nat.add_mul, Nat.mul_assoc, Nat.mul_comm 256, Nat.add_assoc]
    rw [e] at h
    have h1 : a.toNat * 256 + b.toNat < 18446744073709551616 := by
      rw [show (2 : Nat) ^ 64 = 18446744073709551616 by decide] at h
      have : (a.toNat * 256 + b.toNat) * 1 ≤ (a.toNat * 256 + b.toNat) * 256 ^ l.length := Nat.mul_le_mul_left _ hp
      omega
    have hs : (shl64 a 8).toNat = a.toNat * 256 := by
      have e0 : a.toNat * 2 ^ 8 = a.toNat * 256 := rfl
      rw [shl64, UInt64.toNat_ofNat', e0, Nat.mod_eq_of_lt (Nat.lt_of_le_of_lt (Nat.le_add_right _ b.toNat) h1)]
    have ho : (shl64 a 8 ||| b.toUInt64).toNat = a.toNat * 256 + b.toNat := by
      rw [UInt64.toNat_or, hs, show b.toUInt64.toNat = b.toNat from by simp]
      rw [show a.toNat * 256 = 2 ^ 8 * a.toNat by omega, Nat.two_pow_add_eq_or_of_lt oM]
    rw [foldB, foldB_nat l _ (by rw [ho]; exact h), ho, beN, List.length_cons, Nat.pow_succ, e]

theorem or_one (x : Nat) : x ||| 1 = if x % 2 = 0 then x + 1 else x := by
  have h := Nat.or_mod_two_pow (a := x) (b := 1) (n := 1)
  have h2 := Nat.or_div_two_pow (a := x) (b := 1) (n := 1)
  simp only [Nat.pow_one] at h h2
  have e : x % 2 = 0 ∨ x % 2 = 1 := by omega
  have hm : (x ||| 1) % 2 = 1 := by
    rw [h]
    rcases e with e | e <;> rw [e] <;> rfl
  have hd : (x ||| 1) / 2 = x / 2 := by rw [h2]; simp
  split <;> omega
theorem or_one_lt {x k : Nat} (hk : 1 ≤ k) : (x ||| 1) < 2 ^ k ↔ x < 2 ^ k := by
  rw [or_one]
  have : 2 ^ k = 2 * 2 ^ (k - 1) := by rw [← Nat.pow_succ']; congr 1; omega
  split <;> omega
theorem szN_le {x s : Nat} (hs : 1 ≤ s) (h8 : s ≤ 8) : szN x ≤ s ↔ x < 2 ^ (7 * s) := by
  rw [← or_one_lt oM, ← bLen_le]
  unfold szN
  omega
theorem szN_hi {x : Nat} (hs : szN x ≤ 8) : x < 2 ^ (7 * szN x) := (szN_le (szN_pos x).1 hs).1 (Nat.le_refl _)

theorem headB_of (x : UInt64) : ∃ h, headB x = headOf (szN x.toNat) h ∧ h < 2 ^ (8 - szN x.toNat) ∧ (szN x.toNat = 9 → h = 0) ∧ x.toNat = h * 256 ^ (szN x.toNat - 1) + x.toNat % 256 ^ (szN x.toNat - 1) := by
  have hp := szN_pos x.toNat
  have hx := x.toNat_lt
  have e : (2 : Nat) ^ (8 * (szN x.toNat - 1)) = 256 ^ (szN x.toNat - 1) := by rw [Nat.pow_mul]
  have e1 : (shr64 x (8 * (szN x.toNat - 1))).toNat = x.toNat / 256 ^ (szN x.toNat - 1) := by
    have h : x.toNat / 2 ^ (8 * (szN x.toNat - 1)) ≤ x.toNat := Nat.div_le_self _ _
    rw [shr64, UInt64.toNat_ofNat', Nat.mod_eq_of_lt oM, e]
  have hlt : x.toNat / 256 ^ (szN x.toNat - 1) < 2 ^ (8 - szN x.toNat) ∧ (szN x.toNat = 9 → x.toNat / 256 ^ (szN x.toNat - 1) = 0) := by
    by_cases h9 : szN x.toNat = 9
    · rw [h9]
      have : x.toNat / 256 ^ (9 - 1) = 0 := Nat.div_eq_of_lt (by rw [show (256 : Nat) ^ (9 - 1) = 2 ^ 64 by decide]; exact hx)
      rw [this]
      exact ⟨by decide, fun _ => rfl⟩
    · refine ⟨?_, fun h => absurd h h9⟩
      rw [Nat.div_lt_iff_lt_mul (Nat.pow_pos dE), ← e, ← Nat.pow_add]
      have := szN_hi (x := x.toNat) oM
      rwa [show 8 - szN x.toNat + 8 * (szN x.toNat - 1) = 7 * szN x.toNat by omega]
  refine ⟨x.toNat / 256 ^ (szN x.toNat - 1), ?_, hlt.1, hlt.2, (Nat.div_add_mod' _ _).symm⟩
  unfold headB headOf
  congr 1
  apply UInt8.toNat_inj.1
  rw [UInt64.toNat_toUInt8, e1, UInt8.toNat_ofNat']

/-- what numB has written -/
theorem num_back (x : UInt64) : cntB (headB x) = szN x.toNat ∧ foldB (headV (headB x)) (tailB x (szN x.toNat - 1)) = x := by
  obtain ⟨h, h1, h2, h3, h4⟩ := headB_of x
  have hp := szN_pos x.toNat
  have hf := head_facts (szN x.toNat) oM hp.1 h h2 h3
  rw [h1]
  refine ⟨hf.1, UInt64.toNat_inj.1 ?_⟩
  have hb := beN_tail x (szN x.toNat - 1) oM
  rw [foldB_nat _ _ (by rw [tailB_length, hf.2, hb, ← h4]; exact x.toNat_lt), tailB_length, hf.2, hb, ← h4]

end Hw
end

section
namespace Go.Proofs.YtpacobmjjjillaaGreat
open Go Hw
set_option linter.unusedVariables false
set_option linter.unusedSimpArgs false

theorem drop_cons {xs l : List UInt8} {a : Nat} {f : UInt8} (h : xs.drop a = f :: l) : a < xs.length ∧ xs.getD a 0 = f ∧ xs.drop (a + 1) = l := by
  have hlt : a < xs.length := by
    rcases Nat.lt_or_ge a xs.length with h1 | h1
    · exact h1
    · rw [List.drop_eq_nil_of_le h1] at h; cases h
  rw [List.drop_eq_getElem_cons hlt] at h
  injection h with h1 h2
  exact ⟨hlt, by rw [List.getD_eq_getElem?_getD, List.getElem?_eq_getElem hlt]; exact h1, h2⟩
theorem drop_split {xs p t : List UInt8} {a : Nat} (h : xs.drop a = p ++ t) (hp : 0 < p.length) : a + p.length ≤ xs.length ∧ (xs.drop a).take p.length = p ∧ xs.drop (a + p.length) = t := by
  have h1 := congrArg List.length h
  rw [List.length_drop, List.length_append] at h1
  refine ⟨by omega, by rw [h]; simp, ?_⟩
  rw [← List.drop_drop, h]; simp
theorem dig_fwd {xs d t : List UInt8} {a : Nat} (h : xs.drop a = d ++ t) (hd : d.length = 32) : digR xs a 0 = (d, a + 32, 0) ∧ xs.drop (a + 32) = t := by
  obtain ⟨h1, h2, h3⟩ := drop_split h oM
  rw [hd] at h1 h2 h3
  unfold digR
  rw [if_neg sP, if_neg oM, h2]
  exact ⟨rfl, h3⟩
theorem num_fwd {xs t : List UInt8} {a : Nat} {x : UInt64} (h : xs.drop a = numB x ++ t) : numR xs a 0 = (x, a + szN x.toNat, 0) ∧ xs.drop (a + szN x.toNat) = t := by
  have hp := szN_pos x.toNat
  have hl := numB_length x
  obtain ⟨h1, h2, h3⟩ := drop_split h oM
  rw [hl] at h1 h2 h3
  rw [numB, List.cons_append] at h
  obtain ⟨g1, g2, g3⟩ := drop_cons h
  obtain ⟨n1, n2⟩ := num_back x
  have hv : numV xs a = x := by
    rw [numV, g2, g3, n1, List.take_left' (tailB_length x _)]
    exact n2
  unfold numR
  rw [if_neg sP, if_neg oM, hv, g2, n1, if_neg oM, if_pos rfl]
  exact ⟨rfl, h3⟩
theorem blk_fwd {xs ds t : List UInt8} {a : Nat} (hn : ds.length ≤ 1000000) (h : xs.drop a = numB (UInt64.ofNat ds.length) ++ ds ++ t) : blkR xs a 0 = (some ds, a + szN ds.length + ds.length, 0) ∧ xs.drop (a + szN ds.length + ds.length) = t := by
  rw [List.append_assoc] at h
  have hx : (UInt64.ofNat ds.length).toNat = ds.length := ofNat_nat hn
  obtain ⟨h1, h2⟩ := num_fwd h
  rw [hx] at h1 h2
  unfold blkR
  rw [h1]
  simp only [hx]
  rw [if_neg sP]
  have hl := congrArg List.length h2
  rw [List.length_drop, List.length_append] at hl
  have hz := szN_pos ds.length
  have hle : a + szN ds.length ≤ xs.length := by
    have := congrArg List.length h
    rw [List.length_drop, List.length_append, numB_length, hx] at this
    omega
  rw [if_neg oM, h2]
  refine ⟨by simp, ?_⟩
  rw [← List.drop_drop, h2]; simp
theorem tak_fwd {xs d t : List UInt8} {a m : Nat} (h : xs.drop a = d ++ t) (hd : d.length = m) (hm : 0 < m) : takR xs m a 0 = (d, a + m, 0) ∧ xs.drop (a + m) = t := by
  obtain ⟨h1, h2, h3⟩ := drop_split h oM
  rw [hd] at h1 h2 h3
  unfold takR
  rw [if_neg sP, if_neg oM, h2]
  exact ⟨rfl, h3⟩
theorem digs_fwd {xs t : List UInt8} {ls : List (List UInt8)} {a : Nat} (hls : ∀ l ∈ ls, l.length = 32) (h : xs.drop a = ls.flatten ++ t) : ∀ j, j ≤ ls.length → digsR xs j a 0 = (ls.take j, a + 32 * j, 0) ∧ xs.drop (a + 32 * j) = (ls.drop j).flatten ++ t
  | 0, _ => ⟨rfl, by simpa using h⟩
  | j + 1, hj => by
    obtain ⟨h1, h2⟩ := digs_fwd hls h j oM
    rw [List.drop_eq_getElem_cons (l := ls) (i := j) oM, List.flatten_cons, List.append_assoc] at h2
    obtain ⟨h3, h4⟩ := dig_fwd h2 (hls _ (List.getElem_mem oM))
    refine ⟨?_, by rw [show a + 32 * (j + 1) = a + 32 * j + 32 by omega]; exact h4⟩
    rw [digsR, h1]
    simp only [h3]
    rw [List.take_succ_eq_append_getElem oM]
    rfl
theorem readP_bytes {D : DB} (h : D.ok) (hc : D.check = 0) (t : List UInt8) : readP (D.bytes ++ t) = (D, D.bytes.length, 0) := by
  have hs := D.head_small hc
  have hl1 : (UInt64.ofNat D.ls.length).toNat = D.ls.length := ofNat_nat oM
  obtain ⟨xs, hxs⟩ : ∃ xs, D.bytes ++ t = xs := ⟨_, rfl⟩
  rw [hxs]
  have h0 : xs.drop 0 = D.w ++ (numB D.seq ++ (D.prev ++ (numB (UInt64.ofNat D.ls.length) ++ (D.ls.flatten ++ (numB (UInt64.ofNat D.ds.length) ++ D.ds ++ (D.sg ++ t)))))) := by
    rw [List.drop_zero, ← hxs]
    simp only [DB.bytes, DB.body, List.append_assoc]
  obtain ⟨r1, h1⟩ := dig_fwd h0 h.w
  obtain ⟨r2, h2⟩ := num_fwd h1
  obtain ⟨r3, h3⟩ := dig_fwd h2 h.prev
  obtain ⟨r4, h4⟩ := num_fwd h3
  rw [hl1] at r4 h4
  obtain ⟨r5, h5⟩ := digs_fwd h.ls h4 D.ls.length (Nat.le_refl _)
  rw [List.take_length] at r5
  rw [List.drop_length, List.flatten_nil, List.nil_append] at h5
  obtain ⟨r6, h6⟩ := blk_fwd oM h5
  obtain ⟨r7, h7⟩ := tak_fwd h6 h.sg dE
  have hk : min (UInt64.ofNat D.ls.length).toNat 17 = D.ls.length := by omega
  have hlen : D.bytes.length = 0 + 32 + szN D.seq.toNat + 32 + szN D.ls.length + 32 * D.ls.length + szN D.ds.length + D.ds.length + 64 := by
    have hfl := flatten_take_len h.ls (Nat.le_refl D.ls.length)
    rw [List.take_length] at hfl
    simp only [DB.bytes, DB.body, List.length_append, numB_length, h.w, h.prev, h.sg, hfl, hl1, ofNat_nat (n := D.ds.length) oM]
    omega
  simp only [readP, r1, r2, r3, r4, hk, r5, r6, r7, Option.getD_some]
  rw [h.sg, hlen, List.drop_of_length_le sP, List.append_nil]
theorem readD_bytes {D : DB} (h : D.ok) (hc : D.check = 0) : readD D.bytes = (D, 0) := by
  have hr := readP_bytes h hc []
  rw [List.append_nil] at hr
  rw [readD_ok (by rw [hr]; exact ⟨by simp [endR], hc⟩), hr]
theorem bytes_inj {D E : DB} (hD : D.ok) (hE : E.ok) (cD : D.check = 0) (cE : E.check = 0) : D.bytes = E.bytes ↔ D = E := by
  constructor
  · intro h
    have h1 := readD_bytes hD cD
    rw [h, readD_bytes hE cE] at h1
    exact (congrArg Prod.fst h1).symm
  · intro h; rw [h]
end Go.Proofs.YtpacobmjjjillaaGreat
end

section
namespace Go.Proofs.YtpacobmjjjillaaGreat
open Go Hw
set_option linter.unusedVariables false
set_option linter.unusedSimpArgs false

theorem own_rows {C : Cx} {hp : List Blk} {w : World} {q c n m : Nat} {T : TypeId} {k : Nat} {ls : List (List UInt8)} (h : HRep C hp w) (hb : (⟨q, flatB ls, T, k⟩ : Blk) ∈ hp) (hl : ls.length = n) (hr : ∀ l ∈ ls, l.length = m) (hc : n ≤ c) (hn : n ≤ 1000000) : RowsAt w ⟨some ⟨q, 0, none⟩, n, c⟩ m ls :=
  ⟨hl, hr, hc, SeesP.of (sees_own h hb), by simp only [maxLen]; omega, fun e => by cases e⟩

theorem law15_lives  : Meets Tryz.prog 34 [] [] (fun _ => True) (fun v out => v = .bool true ∧ out = []) := by
 intro W hW
 refine calls_of (hp0 := []) Tryz.func34 J 36 Tryz.ntmps34 J (HRep.nil _) (Sat.seq (Sat.region (Tr.assign J J J (Tr.nil (at_n (Sat.seq (Sat.region (Tr.build (cs := bytesV (1 :: List.replicate 31 0)) J J J (fun w => by kernel_rfl) ?_))))))))
 refine Tr.build (cs := bytesV (2 :: List.replicate 31 0)) J J J (fun w => by kernel_rfl) ?_
 refine Tr.alloc (cs := (bytesV (List.replicate 32 0))) J Zr24 J ?_
 intro n1 hn1 hf1
 refine Tr.alloc (cs := (bytesV (List.replicate 32 0))) J Zr24 J ?_
 intro n2 hn2 hf2
 refine Tr.storeAll J J J J zE Sz24 sP Z1 sP zV ?_
 refine Tr.storeAll J J J J zE Sz24 sP Z0 sP zU ?_
 refine Tr.nil (at_n (Sat.seq (Sat.region (Tr.build (cs := (⟨List.replicate 32 0, 0, List.replicate 32 0, Sl.nil, Sl.nil, List.replicate 64 0⟩ : Block).cells) J J J (fun w => by kernel_rfl) ?_))))
 refine Tr.callV J J J J Body38 (block_check (⟨List.replicate 32 0, 0, List.replicate 32 0, Sl.nil, Sl.nil, List.replicate 64 0⟩ : Block) ⟨rfl, rfl, rfl⟩ []) (fun w h => ⟨rfl, by simp, Nat.le_refl _, SeesP.nil, by decide, fun _ => rfl⟩) ?_
 refine Tr.eqi J J J J (decide_eq_true (by rfl)) ?_
 refine Tr.move J J J (Tr.build (cs := (⟨List.replicate 32 0, 1, List.replicate 32 0, Sl.nil, Sl.nil, List.replicate 64 0⟩ : Block).cells) J J J (fun w => by kernel_rfl) ?_)
 refine Tr.callV J J J J Body38 (block_check (⟨List.replicate 32 0, 1, List.replicate 32 0, Sl.nil, Sl.nil, List.replicate 64 0⟩ : Block) ⟨rfl, rfl, rfl⟩ []) (fun w h => ⟨rfl, by simp, Nat.le_refl _, SeesP.nil, by decide, fun _ => rfl⟩) ?_
 refine Tr.eqi J J J J (decide_eq_true (by rfl)) ?_
 refine Tr.pick J J J J J J (Tr.move J J J (Tr.build (cs := bytesV (List.replicate 32 0)) J J J (fun w => by kernel_rfl) ?_))
 refine Tr.mkRow (z := agg (bytesV (List.replicate 32 0))) [agg (bytesV (List.replicate 32 0))] (flatB [(List.replicate 32 0)]) J J J Y51 Sz24 Zr24 J J (by intro v hv; simp at hv; rcases hv with rfl | rfl <;> rfl) dE (by rfl) ?_
 intro q15
 refine Tr.build (cs := (⟨List.replicate 32 0, 0, List.replicate 32 0, ⟨some ⟨q15, 0, none⟩, 1, 1⟩, Sl.nil, List.replicate 64 0⟩ : Block).cells) J J J (fun w => by kernel_rfl) ?_
 refine Tr.callV J J J J Body38 (block_check (⟨List.replicate 32 0, 0, List.replicate 32 0, ⟨some ⟨q15, 0, none⟩, 1, 1⟩, Sl.nil, List.replicate 64 0⟩ : Block) ⟨rfl, rfl, rfl⟩ [(List.replicate 32 0)]) (fun w h => own_rows h mem0 J (by intro l hl; simp at hl; rcases hl with rfl | rfl <;> rfl) dE dE) ?_
 refine Tr.eqi J J J J (decide_eq_true (by rfl)) ?_
 refine Tr.pick J J J J J J (Tr.move J J J (Tr.loadAll J J J Y24 J Sz24 Z1 sP ?_))
 refine Tr.loadAll J J J Y24 J Sz24 Z2 sP ?_
 refine Tr.mkRow (z := agg (bytesV (List.replicate 32 0))) [agg (bytesV (2 :: List.replicate 31 0)), agg (bytesV (1 :: List.replicate 31 0))] (flatB [(2 :: List.replicate 31 0), (1 :: List.replicate 31 0)]) J J J Y51 Sz24 Zr24 J J (by intro v hv; simp at hv; rcases hv with rfl | rfl <;> rfl) dE (by rfl) ?_
 intro q23
 refine Tr.build (cs := (⟨List.replicate 32 0, 0, List.replicate 32 0, ⟨some ⟨q23, 0, none⟩, 2, 2⟩, Sl.nil, List.replicate 64 0⟩ : Block).cells) J J J (fun w => by kernel_rfl) ?_
 refine Tr.callV J J J J Body38 (block_check (⟨List.replicate 32 0, 0, List.replicate 32 0, ⟨some ⟨q23, 0, none⟩, 2, 2⟩, Sl.nil, List.replicate 64 0⟩ : Block) ⟨rfl, rfl, rfl⟩ [(2 :: List.replicate 31 0), (1 :: List.replicate 31 0)]) (fun w h => own_rows h mem0 J (by intro l hl; simp at hl; rcases hl with rfl | rfl <;> rfl) dE dE) ?_
 refine Tr.eqi J J J J (decide_eq_true (by rfl)) ?_
 refine Tr.pick J J J J J J (Tr.move J J J (Tr.loadAll J J J Y24 J Sz24 Z3 sP ?_))
 refine Tr.loadAll J J J Y24 J Sz24 Z2 sP ?_
 refine Tr.mkRow (z := agg (bytesV (List.replicate 32 0))) [agg (bytesV (1 :: List.replicate 31 0)), agg (bytesV (2 :: List.replicate 31 0))] (flatB [(1 :: List.replicate 31 0), (2 :: List.replicate 31 0)]) J J J Y51 Sz24 Zr24 J J (by intro v hv; simp at hv; rcases hv with rfl | rfl <;> rfl) dE (by rfl) ?_
 intro q31
 refine Tr.build (cs := (⟨List.replicate 32 0, 0, List.replicate 32 0, ⟨some ⟨q31, 0, none⟩, 2, 2⟩, Sl.nil, List.replicate 64 0⟩ : Block).cells) J J J (fun w => by kernel_rfl) ?_
 refine Tr.callV J J J J Body38 (block_check (⟨List.replicate 32 0, 0, List.replicate 32 0, ⟨some ⟨q31, 0, none⟩, 2, 2⟩, Sl.nil, List.replicate 64 0⟩ : Block) ⟨rfl, rfl, rfl⟩ [(1 :: List.replicate 31 0), (2 :: List.replicate 31 0)]) (fun w h => own_rows h mem0 J (by intro l hl; simp at hl; rcases hl with rfl | rfl <;> rfl) dE dE) ?_
 refine Tr.eqi J J J J (decide_eq_true (by rfl)) ?_
 refine Tr.pick J J J J J J (Tr.assign J J J (Tr.nil (at_n (Sat.ret (en_r ?_)))))
 refine ⟨_, [], res_tmp J J, sP, sP, ?_, rfl⟩
 rfl

end Go.Proofs.YtpacobmjjjillaaGreat
end

section
namespace Go.Proofs.YtpacobmjjjillaaGreat
open Go Hw Ed
set_option linter.unusedVariables false
def affX (n : Nat) : Nat := force (fastN n) fun s => ux s * pwm PF 256 (uz s % PF) (PF - 2) % PF
def affY (n : Nat) : Nat := force (fastN n) fun s => uy s * pwm PF 256 (uz s % PF) (PF - 2) % PF
theorem fast_at {n X Y : Nat} (hn : n < 2 ^ 256) (hx : affX n = X) (hy : affY n = Y) : cv.mul n bP = ⟨fe X, fe Y⟩ := by
  refine fastN_pt hn ?_ ?_
  · rw [← hx, affX, force_eq, fe_mod, fe_mul]; rfl
  · rw [← hy, affY, force_eq, fe_mod, fe_mul]; rfl
theorem same_mul {a b : Nat} (h : cv.mul a bP = cv.mul b bP) : L ∣ a + (L - b % L) := by
  refine order_dvd ?_
  have hb : cv.mul (b % L) bP = cv.mul b bP := cv.mul_order bP_on bP_order b
  have hL := Nat.mod_lt b L_pos
  rw [cv.mul_add bP_on, h, ← hb, ← cv.mul_add bP_on, Nat.add_sub_cancel' (Nat.le_of_lt hL)]
  exact bP_order
theorem lin_same {S c n r : Nat} (h : cv.lin S c bP (neg (cv.mul n bP)) = cv.mul r bP) : L ∣ S + (L - (c * n + r) % L) := by
  refine same_mul ?_
  have hn := cv.on_mul bP_on n
  have hk := cv.on_mul hn c
  have hS := cv.on_mul bP_on S
  have h2 := congrArg (cv.add (cv.mul c (cv.mul n bP))) h
  rw [Cv.lin, cv.mul_neg hn, cv.add_comm, cv.add_assoc hS (cv.on_neg hk) hk, cv.add_comm (neg _), cv.add_neg hk, cv.add_zero, ← cv.mul_mul bP_on, ← cv.mul_add bP_on] at h2
  exact h2
theorem good_other {s s1 sg bb : List UInt8} {n r S c : Nat} (h1 : sg.take 32 = sgF s1) (h2 : le (clampB (s.take 32)) = n) (h3 : le (sgR s1) = r) (h4 : le (sg.drop 32) = S) (h5 : le (sgR (sha512 (sg.take 32 ++ (sgK s ++ bb)))) = c) (h : ¬ L ∣ S + (L - (c * n + r) % L)) : goodB (sgK s) bb sg = false := by
  unfold goodB
  simp only [decide_eq_false_iff_not]
  rintro ⟨_, A, R, e1, e2, e3⟩
  rw [sgK_read] at e1
  rw [h1, sgF_read] at e2
  rw [h5, h4] at e3
  rw [← Option.some.inj e1, ← Option.some.inj e2, h2, h3] at e3
  exact h (lin_same e3)

end Go.Proofs.YtpacobmjjjillaaGreat
end

section
namespace Go.Proofs.YtpacobmjjjillaaGreat
open Go Hw Ed
set_option linter.unusedVariables false
def seB : List UInt8 := [1, 0, 0, 0, 0, 0, 0, 0, 0, 0, 0, 0, 0, 0, 0, 0, 0, 0, 0, 0, 0, 0, 0, 0, 0, 0, 0, 0, 0, 0, 0, 77]
def seH : List UInt8 := [87, 159, 104, 236, 80, 14, 38, 174, 240, 0, 164, 75, 108, 245, 33, 87, 115, 113, 131, 28, 237, 105, 185, 222, 57, 145, 233, 242, 112, 190, 170, 213, 35, 11, 137, 144, 70, 23, 17, 214, 148, 220, 86, 67, 25, 124, 131, 91, 42, 247, 30, 195, 63, 213, 16, 142, 181, 57, 199, 82, 96, 7, 203, 83]
def seN : List UInt8 := [80, 159, 104, 236, 80, 14, 38, 174, 240, 0, 164, 75, 108, 245, 33, 87, 115, 113, 131, 28, 237, 105, 185, 222, 57, 145, 233, 242, 112, 190, 170, 85]
def seK : List UInt8 := [96, 107, 246, 169, 182, 86, 212, 252, 106, 138, 137, 108, 60, 10, 195, 142, 100, 120, 65, 80, 61, 64, 193, 87, 241, 248, 221, 83, 126, 228, 255, 164]
theorem se_h : sha512 seB = seH := by kernel_rfl
theorem se_n : clampB (seH.take 32) = seN := by kernel_rfl
theorem se_n1 : le seN = 38748270507491543869280182973643753799655646515636239770492563660028217171792 := by kernel_rfl
theorem se_kp : cv.mul 38748270507491543869280182973643753799655646515636239770492563660028217171792 bP = ⟨fe 28707919823945954948053480135173306747324634050804968349977642706858962874917, fe 16735385554468660665858041024650955505467194536748309173234908357429617388384⟩ := fast_at dE zK zK
theorem se_kb : pb ⟨fe 28707919823945954948053480135173306747324634050804968349977642706858962874917, fe 16735385554468660665858041024650955505467194536748309173234908357429617388384⟩ = seK := by kernel_rfl
theorem se_k : sgK seH = seK := by rw [sgK, se_n, se_n1, se_kp, se_kb]
end Go.Proofs.YtpacobmjjjillaaGreat
end

section
namespace Go.Proofs.YtpacobmjjjillaaGreat
open Go Hw Ed
set_option linter.unusedVariables false
def bnT : List UInt8 := [98, 108, 111, 99, 107, 96, 107, 246, 169, 182, 86, 212, 252, 106, 138, 137, 108, 60, 10, 195, 142, 100, 120, 65, 80, 61, 64, 193, 87, 241, 248, 221, 83, 126, 228, 255, 164, 0, 0, 0, 0, 0, 0, 0, 0, 0, 0, 0, 0, 0, 0, 0, 0, 0, 0, 0, 0, 0, 0, 0, 0, 0, 0, 0, 0, 0, 0, 0, 0, 0, 0, 2, 104, 105]
def bnT2 : List UInt8 := [98, 108, 111, 99, 107, 96, 107, 246, 169, 182, 86, 212, 252, 106, 138, 137, 108, 60, 10, 195, 142, 100, 120, 65, 80, 61, 64, 193, 87, 241, 248, 221, 83, 126, 228, 255, 164, 0, 0, 0, 0, 0, 0, 0, 0, 0, 0, 0, 0, 0, 0, 0, 0, 0, 0, 0, 0, 0, 0, 0, 0, 0, 0, 0, 0, 0, 0, 0, 0, 0, 0, 2, 104, 111]
def bnH1 : List UInt8 := [247, 206, 134, 182, 134, 102, 68, 78, 13, 60, 45, 189, 156, 121, 237, 26, 222, 150, 196, 122, 25, 190, 45, 133, 135, 254, 233, 179, 107, 71, 193, 135, 228, 2, 184, 239, 189, 125, 195, 203, 160, 231, 62, 187, 20, 4, 178, 251, 101, 75, 48, 78, 219, 18, 135, 88, 210, 46, 244, 131, 171, 221, 42, 23]
def bnH2 : List UInt8 := [213, 50, 55, 179, 109, 186, 232, 26, 144, 93, 34, 244, 137, 205, 209, 60, 253, 161, 34, 12, 186, 236, 123, 22, 237, 25, 89, 19, 142, 209, 216, 244, 40, 217, 128, 159, 91, 80, 177, 252, 103, 45, 81, 238, 31, 215, 54, 67, 193, 157, 121, 65, 72, 16, 70, 42, 4, 82, 58, 89, 105, 186, 39, 47]
def bnH3 : List UInt8 := [63, 114, 177, 112, 32, 115, 234, 149, 58, 159, 37, 33, 233, 147, 152, 67, 52, 123, 94, 6, 38, 136, 61, 30, 112, 144, 241, 105, 229, 118, 184, 31, 54, 6, 153, 99, 39, 112, 223, 218, 245, 45, 7, 163, 82, 241, 44, 157, 142, 249, 108, 142, 125, 17, 44, 198, 134, 86, 230, 186, 160, 85, 72, 155]
def bnF : List UInt8 := [23, 135, 48, 7, 153, 92, 139, 64, 26, 185, 106, 46, 120, 81, 5, 93, 249, 100, 138, 56, 15, 131, 12, 116, 226, 174, 106, 81, 163, 82, 132, 45]
def bnS : List UInt8 := [23, 135, 48, 7, 153, 92, 139, 64, 26, 185, 106, 46, 120, 81, 5, 93, 249, 100, 138, 56, 15, 131, 12, 116, 226, 174, 106, 81, 163, 82, 132, 45, 210, 134, 141, 154, 212, 93, 98, 183, 224, 220, 183, 30, 177, 254, 242, 100, 54, 52, 89, 124, 31, 215, 34, 97, 206, 70, 114, 127, 126, 68, 108, 7]
theorem bn_h1 : sha512 (seH.drop 32 ++ bnT) = bnH1 := by kernel_rfl
theorem bn_r1 : le (sgR bnH1) = 488414223932206448101096320409834365523060900651879676267523817840949155005 := by kernel_rfl
theorem bn_fp : cv.mul 488414223932206448101096320409834365523060900651879676267523817840949155005 bP = ⟨fe 52036521903911445079033294183590888061336436054669495990093728609048381975454, fe 20587872345043660304701786134373879309683045064292266746450984140208237217559⟩ := fast_at dE zK zK
theorem bn_fb : pb ⟨fe 52036521903911445079033294183590888061336436054669495990093728609048381975454, fe 20587872345043660304701786134373879309683045064292266746450984140208237217559⟩ = bnF := by kernel_rfl
theorem bn_f : sgF bnH1 = bnF := by rw [sgF, bn_r1, bn_fp, bn_fb]
theorem bn_h2 : sha512 (bnF ++ (seK ++ bnT)) = bnH2 := by kernel_rfl
theorem bn_h3 : sha512 (bnF ++ (seK ++ bnT2)) = bnH3 := by kernel_rfl
theorem bn_s1 : bnF ++ sgS seH bnH1 bnH2 = bnS := by kernel_rfl
theorem bn_s : sgF bnH1 ++ sgS seH bnH1 bnH2 = bnS := by rw [bn_f, bn_s1]
theorem bn_h2' : sha512 (sgF bnH1 ++ (sgK seH ++ bnT)) = bnH2 := by rw [bn_f, se_k, bn_h2]
theorem bn_good : goodB seK bnT bnS = true := by
  have h := good_self seH bnH1 bnT bn_h2'
  rwa [bn_s, se_k] at h
theorem bn_take : (bnS).take 32 = sgF bnH1 := by rw [bn_f]; kernel_rfl
theorem bn_s4 : le ((bnS).drop 32) = 3357482152205463748444667764181385549728465975415718090726984081865830139602 := by kernel_rfl
theorem bn_c3 : le (sgR bnH3) = 4021274471922433252621891850077527779717619915121725332377389463468792575219 := by kernel_rfl
theorem bn_no : (3357482152205463748444667764181385549728465975415718090726984081865830139602 + (L - (4021274471922433252621891850077527779717619915121725332377389463468792575219 * 38748270507491543869280182973643753799655646515636239770492563660028217171792 + 488414223932206448101096320409834365523060900651879676267523817840949155005) % L)) % L = 5515053302724559066712619742049350004453548967197472822991240966885370276415 := by kernel_rfl
theorem bn_bad : goodB seK bnT2 bnS = false := by
  have h := good_other (s := seH) (bb := bnT2) bn_take (by rw [se_n, se_n1]) bn_r1 bn_s4 (by rw [bn_take, bn_f, se_k, bn_h3, bn_c3]) (fun e => by have h2 := Nat.mod_eq_zero_of_dvd e; rw [bn_no] at h2; cases h2)
  rwa [se_k] at h
end Go.Proofs.YtpacobmjjjillaaGreat
end

section
namespace Go.Proofs.YtpacobmjjjillaaGreat
open Go Hw
set_option linter.unusedVariables false
set_option linter.unusedSimpArgs false

open Ed

theorem seesP_tk {w : World} {p : Option Addr} {l : List UInt8} {n : Nat} (h : SeesP w p (bytesV l)) : SeesP w p (bytesV (l.take n)) := fun j v hj => by
  rw [bytesV, List.map_take, List.getElem?_take] at hj
  split at hj
  · exact h j v hj
  · cases hj

end Go.Proofs.YtpacobmjjjillaaGreat
end

section
namespace Go.Proofs.YtpacobmjjjillaaGreat
open Go Hw
set_option linter.unusedVariables false
set_option linter.unusedSimpArgs false

open Ed

theorem seB_length : seB.length = 32 := rfl

theorem kit_seed1  : Meets Tryz.prog 16 [i64 1] [] (fun _ => True) (fun v out => v = agg (bytesV seB) ∧ out = []) := by
 intro W hW
 refine calls_of (hp0 := []) Tryz.func16 J 9 Tryz.ntmps16 J (HRep.nil _) (Sat.seq (Sat.region (Tr.alloc (cs := (bytesV (List.replicate 32 0))) J Zr23 J ?_)))
 intro n2 hn2 hf2
 refine Tr.nil (at_n (Sat.seq (Sat.region (Tr.move J J J (Tr.conv J J J Y3 Y5 (show Value.int .u8 (IntKind.u8.wrap 1) = u8 1 from rfl) (Tr.move J J J (Tr.shrN 1 8 J J J J J dE (Tr.conv J J J Y3 Y5 (show Value.int .u8 (IntKind.u8.wrap ((1 / 2 ^ 8 : Nat) : Int)) = u8 0 from rfl) (Tr.build (cs := bytesV seB) J J J (fun w => by kernel_rfl) ?_)))))))))
 refine Tr.storeAll J J J J zE Sz23 (by (simp [seB_length]; done)) Z0 sP zU ?_
 refine Tr.nil (at_n (Sat.ret (en_r ?_)))
 refine ⟨_, [], res_cell J J Y23 J Sz23 Z0 (by simp [seB_length]), sP, sP, ?_, rfl⟩
 rfl

theorem seK_length : seK.length = 32 := by kernel_rfl
end Go.Proofs.YtpacobmjjjillaaGreat
end

section
namespace Go.Proofs.YtpacobmjjjillaaGreat
open Go Hw
set_option linter.unusedVariables false
set_option linter.unusedSimpArgs false

open Ed

def bn0 : DB := { DB.zero with ds := [104, 105] }
def bnD : DB := bsg bn0 seK bnS
theorem bnS_length : bnS.length = 64 := by kernel_rfl
theorem bnD_ok : bnD.ok := ⟨seK_length, rfl, bnS_length, fun l hl => by cases hl⟩
theorem bn_txt : btxt bnD = bnT := by kernel_rfl
theorem bn_txt0 : btxt { bn0 with w := seK } = bnT := by kernel_rfl
theorem bn_txt2 : btxt { bnD with ds := [104, 111] } = bnT2 := by kernel_rfl
theorem bn_chk0 : bn0.check = 0 := by kernel_rfl
theorem bn_chk : bnD.check = 0 := by kernel_rfl
theorem bn_chk2 : ({ bnD with ds := [104, 111] } : DB).check = 0 := by kernel_rfl
theorem bn_len : bnD.bytes.length = 133 := by kernel_rfl
theorem bn_short : (readD (bnD.bytes.drop 1)).2 = 4 := by kernel_rfl
theorem bn_g : dgood bnD = 0 := by
  unfold dgood
  rw [if_pos bn_chk, bn_txt]
  exact if_pos bn_good
theorem bn_g2 : dgood { bnD with ds := [104, 111] } = 9 := by
  unfold dgood
  rw [if_pos bn_chk2, bn_txt2]
  refine if_neg ?_
  show ¬ goodB seK bnT2 bnS = true
  rw [bn_bad]
  exact fun h => by cases h
def bn1 : DB := { DB.zero with seq := 1 }
theorem bn1_chk : bn1.check = 2 := by kernel_rfl
theorem bn1_g : dgood bn1 = 2 := by
  unfold dgood
  rw [if_neg (by rw [bn1_chk]; decide), bn1_chk]
theorem bn1_n : nameD bn1 = List.replicate 32 0 := by
  unfold nameD
  rw [if_neg (by rw [bn1_chk]; decide)]
def bB1 : Block := { Block.zero with fSeq := 1 }
theorem bB1_ok : bB1.ok := ⟨rfl, rfl, rfl⟩
theorem bB1_is (W : World) : BlockIs W bB1 bn1 := ⟨bB1_ok, rfl, rfl, rfl, (zero_is W).ls, (zero_is W).ds, rfl⟩
theorem bn_facts : ∃ (D : DB) (K : List UInt8), D.ok ∧ K.length = 32 ∧ D.w = K ∧ D.ls = [] ∧ D.ds.length = 2 ∧ D.seq = 0 ∧ (∀ (B : Block), B.ok → Meets Tryz.prog 36 [agg (bytesV seB), agg B.cells] [] (fun W => BlockIs W B bn0) (BlkR 0 D))
    ∧ Meets Tryz.prog 18 [agg (bytesV seB)] [] (fun _ => True) (fun v out => v = agg (bytesV K) ∧ out = [])
    ∧ D.check = 0 ∧ D.bytes.length = 133 ∧ (readD (D.bytes.drop 1)).2 = 4 ∧ dgood D = 0 ∧ dgood { D with ds := [104, 111] } = 9 ∧ (btxt D).take 5 = [98, 108, 111, 99, 107] ∧ 5 ≤ (btxt D).length := by
  have hT : btxt { bn0 with w := sgK seH } = bnT := by rw [se_k]; exact bn_txt0
  have cK := r6_Key seB rfl seH ⟨se_h⟩
  rw [se_k] at cK
  refine ⟨bnD, seK, bnD_ok, seK_length, rfl, rfl, rfl, rfl, fun B hB => ?_, cK, bn_chk, bn_len, bn_short, bn_g, bn_g2, by kernel_rfl, by rw [bn_txt]; exact Nat.le_of_ble_eq_true zK⟩
  have cS := db_sign B bn0 hB seB rfl seH bnH1 bnH2 ⟨se_h⟩ ⟨by rw [hT]; exact bn_h1⟩ ⟨by rw [hT]; exact bn_h2'⟩ bn_chk0
  rw [bn_s, se_k] at cS
  exact cS
theorem own2 {W : World} {q : Nat} {l : List UInt8} (h : SeesP W (some ⟨q, 0, none⟩) (bytesV l)) (hl : l.length = 2) : BytesAt W ⟨some ⟨q, 0, none⟩, 2, 2⟩ l := ⟨hl, Nat.le_refl _, h, by show 2 ≤ maxLen; decide, fun e => by cases e⟩
theorem with_ds {W : World} {B : Block} {D : DB} (h : BlockIs W B D) {s : Sl} {l : List UInt8} (hs : BytesAt W s l) : BlockIs W { B with fData := s } { D with ds := l } := ⟨⟨h.ok.l_fWriter, h.ok.l_fPrev, h.ok.l_fSig⟩, h.w, h.seq, h.prev, h.ls, hs, h.sg⟩

theorem sees_drop1 {w : World} {q c : Nat} {l : List UInt8} (hc : c ≠ 1) (h : Sees w q 0 (bytesV l)) : SeesP w (some ⟨q, if c = 1 then 0 else 0 + 1 * 1, none⟩) (bytesV (l.drop 1)) := fun j v hj => by
  rw [if_neg hc]
  rw [bytesV, List.map_drop, List.getElem?_drop] at hj
  have h2 := h (1 + j) v hj
  exact ⟨q, 1, rfl, by rwa [Nat.zero_add] at h2⟩

theorem law_blocknames  : Meets Tryz.prog 8 [] [] (fun _ => True) (fun v out => v = .bool true ∧ out = []) := by
 intro W hW
 obtain ⟨D, K, hD, lK, hDK, hls, hds, hsq, cS, cKy, hc, hbl, hrd, hg, hg2, ht1, ht2⟩ := bn_facts
 have hln : D.ls.length = 0 := by rw [hls]; rfl
 have hbR : bytesR D = D.bytes := if_pos hc
 have cG1 := db_good bB1 bn1 bB1_ok
 rw [bn1_g] at cG1
 have cN := db_name bB1 bn1
 rw [bn1_n] at cN
 refine calls_of (hp0 := []) Tryz.func8 J 115 Tryz.ntmps8 J (HRep.nil _) (Sat.seq (Sat.region (Tr.assign J J J (Tr.nil (at_n (Sat.seq (Sat.region (Tr.callV J J J J Body16 (kit_seed1) (fun _ _ => trivial) (Tr.alloc (cs := (bytesV (List.replicate 32 0))) J Zr23 J ?_)))))))))
 intro n1 hn1 hf1
 refine Tr.storeAll J J J J zE Sz23 (by (simp [seB_length]; done)) Z0 sP zU ?_
 refine Tr.nil (at_n (Sat.seq (Sat.region (Tr.loadAll J J J Y23 J Sz23 Z0 (by (simp [seB_length]; done)) ?_))))
 refine Tr.mkRow (z := u8 0) [u8 104, u8 105] (bytesV [104, 105]) J J J Y39 Sz5 Zr5 J J (by intro v hv; simp only [List.mem_cons, List.not_mem_nil, or_false] at hv; rcases hv with rfl | rfl <;> rfl) dE J ?_
 intro q14
 refine Tr.constB J J J J Y39 Y5 Z0 ?_
 refine Tr.build (cs := ({ Block.zero with fData := ⟨some ⟨q14, 0, none⟩, 2, 2⟩ } : Block).cells) J J J (fun w => by kernel_rfl) ?_
 refine Tr.call4 J J J J J Body36 (cS ({ Block.zero with fData := ⟨some ⟨q14, 0, none⟩, 2, 2⟩ } : Block) ⟨rfl, rfl, rfl⟩) (fun w h => with_ds (zero_is w) (own2 (SeesP.of (sees_own h Z0)) J)) ?_
 rintro v17 out17 ⟨B17, h17, rfl, ho17⟩
 have hB17 := h17.ok
 have lW := hB17.l_fWriter
 have cG := db_good B17 D hB17
 rw [hg] at cG
 have cT := db_text B17 D hB17 oM oM
 have cP := parents_nil B17 hB17 D.ls (by have := h17.ln; omega) (by rw [h17.seq, hsq]; rfl) (by have := h17.ln; omega)
 try simp only [List.append_assoc, List.cons_append, List.nil_append]
 refine Tr.move J J J (Tr.extract J J J J (Tr.extract J J J J (Tr.alloc (cs := Block.zero.cells) J Block.zr J ?_)))
 intro n2 hn2 hf2
 refine Tr.storeAll J J J J (Block.isCell zA) Sz53 (Block.length zA) Z0 (Block.length (by exact Block.zero_ok)) zU ?_
 refine Tr.assign J J J (Tr.nil (at_n (Sat.seq (Sat.region (Tr.loadAll J J J Y53 J Sz53 Z0 (Block.length zA) ?_)))))
 refine Tr.call4 J J J J J Body42 (db_bytes B17 D) (fun w h => ho17 w (Lies.of h (by repeat (first | exact in_here | refine in_there ?_)))) ?_
 rintro v22 out22 ⟨s22, rfl, hac22⟩
 rw [hbR, hbl] at hac22
 rw [hc]
 obtain ⟨q22, c22, rfl, hc22, rfl⟩ := acc_pos hac22 dE
 simp only [Sl.v]
 try simp only [List.append_assoc, List.cons_append, List.nil_append]
 refine Tr.move J J J (Tr.extract J J J J (Tr.extract J J J J (Tr.assign J J J (Tr.assign J J J (Tr.nil (at_n (Sat.seq (Sat.seq (Sat.region (Tr.callV J J J J Body34 (law15_lives) (fun _ _ => trivial) (Tr.not J J J (Tr.move J J J (Tr.move J J J (Tr.lenSl J J J Y39 (Tr.eqi J J J J (decide_eq_false dE) (Tr.pick J J J J J J (Tr.nil (at_n (Sat.cond_f J J (Sat.skip (at_n (Sat.seq (Sat.region (Tr.move J J J (Tr.call4 J J J J J Body43 (block_read (some ⟨q22, 0, none⟩) 133 c22 D.bytes hbl (fun e => by cases e) dE) (fun w h => SeesP.of (sees_own h Z0)) ?_)))))))))))))))))))))))))
 rintro v34 out34 ⟨B34, hB34, rfl, ho34⟩
 rw [readD_bytes hD hc] at ho34 ⊢
 try simp only [List.append_assoc, List.cons_append, List.nil_append]
 refine Tr.move J J J (Tr.extract J J J J (Tr.extract J J J J (Tr.alloc (cs := Block.zero.cells) J Block.zr J ?_)))
 intro n6 hn6 hf6
 refine Tr.storeAll J J J J (Block.isCell zA) Sz53 (Block.length zA) Z0 (Block.length (by exact Block.zero_ok)) zU ?_
 refine Tr.assign J J J (Tr.nil (at_n (Sat.seq (Sat.region (Tr.move J J J (Tr.sliceLoN 1 J J J J J oM oM Y39 Sz5 (Tr.call4 J J J J J Body43 (block_read (some ⟨q22, if c22 = 1 then 0 else 0 + 1 * 1, none⟩) (133 - 1) (c22 - 1) (D.bytes.drop 1) (by rw [List.length_drop, hbl]) (fun e => by cases e) dE) (fun w h => sees_drop1 oM (sees_own h (by (repeat (first | exact List.mem_cons_self | refine List.mem_cons_of_mem _ ?_ | refine mem_seg ?_))))) ?_)))))))
 rintro v40 out40 ⟨B40, hB40, rfl, ho40⟩
 clear ho40
 rw [hrd]
 try simp only [List.append_assoc, List.cons_append, List.nil_append]
 refine Tr.move J J J (Tr.extract J J J J (Tr.extract J J J J (Tr.alloc (cs := Block.zero.cells) J Block.zr J ?_)))
 intro n8 hn8 hf8
 refine Tr.storeAll J J J J (Block.isCell zA) Sz53 (Block.length zA) Z0 (Block.length (by exact Block.zero_ok)) zU ?_
 refine Tr.assign J J J (Tr.nil (at_n (Sat.seq (Sat.region (Tr.loadAll J J J Y53 J Sz53 (by (repeat (first | exact List.mem_cons_self | refine List.mem_cons_of_mem _ ?_ | refine mem_seg ?_))) (Block.length zA) ?_)))))
 refine Tr.call4 J J J J J Body37 (db_own B17 D oM oM) (fun w h => ho17 w (Lies.of h (by repeat (first | exact in_here | refine in_there ?_ | refine in_seg ?_)))) ?_
 rintro v44 out44 ⟨B44, h44, rfl, ho44⟩
 try simp only [List.append_assoc, List.cons_append, List.nil_append]
 refine Tr.alloc (cs := Block.zero.cells) J Block.zr J ?_
 intro n10 hn10 hf10
 refine Tr.storeAll J J J J (Block.isCell (by exact h44.ok)) Sz53 (Block.length (by exact h44.ok)) Z0 (Block.length (by exact Block.zero_ok)) zU ?_
 refine Tr.nil (at_n (Sat.seq (Sat.region (Tr.mkRow (z := u8 0) [u8 104, u8 111] (bytesV [104, 111]) J J J Y39 Sz5 Zr5 J J (by intro v hv; simp only [List.mem_cons, List.not_mem_nil, or_false] at hv; rcases hv with rfl | rfl <;> rfl) dE J ?_))))
 intro q45
 have hBd : ({ B44 with fData := ⟨some ⟨q45, 0, none⟩, 2, 2⟩ } : Block).ok := ⟨h44.ok.l_fWriter, h44.ok.l_fPrev, h44.ok.l_fSig⟩
 have cG2 := db_good _ { D with ds := [104, 111] } hBd
 rw [hg2] at cG2
 refine Tr.constB J J J J Y39 Y5 Z0 ?_
 refine Tr.fld J J J Y53 J Sz39 dE _ J (Tr.store1 J J J J J Sz39 Z1 (by rw [Block.length (by exact h44.ok)]; decide) (by exact Block.setS_fData (by exact h44.ok) _ _ _) zV ?_)
 refine Tr.nil (at_n (Sat.seq (Sat.draw [(0, 0), (0, 1), (0, 2), (0, 3), (1, 4), (1, 5), (3, 6), (0, 7), (0, 8), (0, 9), (0, 10), (0, 11), (0, 12), (0, 13), (0, 14), (0, 15), (0, 16), (0, 17), (0, 18), (0, 19), (0, 20), (0, 21), (0, 22), (1, 23), (1, 24), (3, 25), (0, 26), (0, 27), (0, 28), (0, 29), (0, 30), (0, 31), (1, 32), (3, 33), (0, 34), (0, 35), (0, 36), (1, 37), (3, 38), (0, 39), (0, 40), (0, 41), (0, 42), (3, 43), (0, 44), (0, 45), (0, 46), (0, 47), (0, 49), (3, 48), (0, 50), (0, 51), (0, 52), (1, 53), (3, 54), (0, 55), (0, 56), (0, 57), (0, 58), (1, 59), (3, 60), (0, 61), (1, 62), (0, 63), (0, 64), (0, 65), (0, 66), (0, 67)] Mixed zK (Tr.move J J J (Tr.eqi J J J J (decide_eq_true (rfl)) (Tr.move J J J (Tr.fld J J J Y53 J Sz25 dE _ J (Tr.loadN (bytesV _) J J J Y25 J Sz25 (by (repeat (first | exact List.mem_cons_self | refine List.mem_cons_of_mem _ ?_ | refine mem_seg ?_))) (Block.row_fWriter zA) (Block.rl_fWriter zA) ?_))))))))
 refine Tr.loadAll J J J Y23 J Sz23 (by (repeat (first | exact List.mem_cons_self | refine List.mem_cons_of_mem _ ?_ | refine mem_seg ?_))) (by (simp [seB_length]; done)) ?_
 refine Tr.callV J J J J Body18 (cKy) (fun _ _ => trivial) (Tr.eql_bytes J J J J Tryz.eqGuardType25 Y25 Y5 Sz5 zA (by (simp [lK]; done)) (decide_eq_true (h17.w.trans hDK)) ?_)
 refine Tr.pick J J J J J J (Tr.move J J J (Tr.move J J J (Tr.eqi J J J J (decide_eq_true (rfl)) (Tr.pick J J J J J J (Tr.move J J J (Tr.move J J J (Tr.lenSl J J J Y39 (Tr.eqi J J J J (decide_eq_true (rfl)) (Tr.pick J J J J J J (Tr.move J J J (Tr.move J J J (Tr.eqi J J J J (decide_eq_true (rfl)) (Tr.pick J J J J J J (Tr.move J J J (Tr.loadAll J J J Y53 J Sz53 (by (repeat (first | exact List.mem_cons_self | refine List.mem_cons_of_mem _ ?_ | refine mem_seg ?_))) (Block.length zA) ?_)))))))))))))))
 refine Tr.loadAll J J J Y53 J Sz53 (by (repeat (first | exact List.mem_cons_self | refine List.mem_cons_of_mem _ ?_ | refine mem_seg ?_))) (Block.length zA) ?_
 refine Tr.callV J J J J Body44 ((db_same B17 B34 D D oM).imp (fun w h => h) (fun v out h => by rwa [decide_eq_true J] at h)) (fun w h => ⟨ho17 w (Lies.of h (by repeat (first | exact in_here | refine in_there ?_ | refine in_seg ?_))), ho34 w (Lies.of h (by repeat (first | exact in_here | refine in_there ?_ | refine in_seg ?_)))⟩) ?_
 refine Tr.pick J J J J J J (Tr.move J J J (Tr.move J J J (Tr.eqi J J J J (decide_eq_true (rfl)) (Tr.pick J J J J J J (Tr.move J J J (Tr.loadAll J J J Y53 J Sz53 (by (repeat (first | exact List.mem_cons_self | refine List.mem_cons_of_mem _ ?_ | refine mem_seg ?_))) (Block.length zA) ?_))))))
 refine Tr.callV J J J J Body40 (cG) (fun w h => ho17 w (Lies.of h (by repeat (first | exact in_here | refine in_there ?_ | refine in_seg ?_)))) ?_
 refine Tr.eqi J J J J (decide_eq_true (rfl)) (Tr.pick J J J J J J (Tr.move J J J (Tr.loadAll J J J Y53 J Sz53 Z1 (Block.length zA) ?_)))
 refine Tr.callV J J J J Body40 (cG2) (fun w h => with_ds (ho44 w (Lies.of h (by repeat (first | exact in_here | refine in_there ?_)))) (own2 (SeesP.of (sees_own h Z0)) J)) ?_
 refine Tr.eqi J J J J (decide_eq_true (rfl)) (Tr.pick J J J J J J (Tr.move J J J (Tr.build (cs := bB1.cells) J J J (fun w => by kernel_rfl) ?_)))
 refine Tr.callV J J J J Body40 (cG1) (fun w _ => bB1_is w) (Tr.eqi J J J J (decide_eq_true (rfl)) (Tr.pick J J J J J J (Tr.move J J J (Tr.build (cs := bB1.cells) J J J (fun w => by kernel_rfl) ?_))))
 refine Tr.build (cs := bytesV (List.replicate 32 0)) J J J (fun w => by kernel_rfl) ?_
 refine Tr.callV J J J J Body45 (cN) (fun w _ => bB1_is w) (Tr.eql_bytes J J J J Tryz.eqGuardType24 Y24 Y5 Sz5 sP sP (decide_eq_true (rfl)) (Tr.pick J J J J J J (Tr.move J J J (Tr.loadAll J J J Y53 J Sz53 (by (repeat (first | exact List.mem_cons_self | refine List.mem_cons_of_mem _ ?_ | refine mem_seg ?_))) (Block.length zA) ?_))))
 refine Tr.callV J J J J Body46 (cP) (fun w h => (ho17 w (Lies.of h (by repeat (first | exact in_here | refine in_there ?_ | refine in_seg ?_)))).ls) ?_
 refine Tr.lenSl J J J Y51 (Tr.eqi J J J J (decide_eq_true (rfl)) (Tr.pick J J J J J J (Tr.move J J J (Tr.loadAll J J J Y53 J Sz53 (by (repeat (first | exact List.mem_cons_self | refine List.mem_cons_of_mem _ ?_ | refine mem_seg ?_))) (Block.length zA) ?_))))
 refine Tr.call J J J J Body47 (cT) (FreshRow.loose _ _ _ _) (fun w h => ho17 w (Lies.of h (by repeat (first | exact in_here | refine in_there ?_ | refine in_seg ?_)))) ?_
 rintro v108 out108 ⟨q108, c108, rfl, hc108, rfl⟩
 refine Tr.sliceHi 5 J J J J J oM Y39 Sz5 (Tr.toStr J J J Y39 Y5 Y9 (fun w h => ht1 ▸ seesP_tk (n := 5) (SeesP.of (sees_own h Z0))) J ?_)
 refine Tr.eql_str J J J J (decide_eq_true (rfl)) (Tr.pick J J J J J J (Tr.move J J J (Tr.pick J J J J J J (Tr.assign J J J (Tr.nil (at_n (Sat.ret (en_r ?_))))))))
 refine ⟨_, [], res_tmp J J, sP, sP, ?_, rfl⟩
 rfl

end Go.Proofs.YtpacobmjjjillaaGreat
end

section
namespace Go.Proofs.YtpacobmjjjillaaGreat
open Go Go.ChangeShapes Go.WideShapes Go.ChangeAt Go.RowKit
set_option linter.unusedVariables false

theorem ownBNms : ownKnob Tryz.prog.godebug = none := by kernel_rfl
theorem walkBNm (w : World) : Calls Tryz.prog 8 #[] w fun e w' => e = .returned (.bool true) ∧ Below w.heap.size w w' :=
  (law_blocknames w trivial).mono fun e w' ⟨v, out, he, ⟨hv, ho⟩, hr⟩ => ⟨by rw [he, hv], Hw.Keeps.below hr.keeps⟩

theorem liftedBNm (os : Os) (started : os.Started) (H : Type) (enc : TypeId × Value → H) :
    ReturnsInHanded {} Tryz.checked os 8 .any (Rows.blockNamesSpec.pre6 enc Tryz.prog Tryz.f8 Rows.blockNamesRow.domain false) (Rows.blockNamesSpec.post enc Tryz.prog Tryz.f8 false true false false) := by
  refine returnsInHanded_of_change (C := Tryz.checked) ownBNms started (by kernel_rfl) Tryz.func8
    (ChangeSpec.witness6 (enc := enc) (C := Tryz.checked) false ⟨#[], #[], []⟩ 8 (by kernel_rfl) (by kernel_rfl) (by kernel_rfl) (by kernel_rfl)) ?_
  intro W base args ds gs before hval0 hW hcnd _
  have hW' := hW
  obtain ⟨p, q, hA0, hV, rfl, hfz, hnd⟩ := hW
  have hA : DataW.TrodAll enc Tryz.prog W 0 (fun _ => true) true Tryz.f8.params.toList args.toList ds p := hA0
  rw [Tryz.params8] at hA
  obtain ⟨hargs, rfl, rfl⟩ := trodAll_nil hA
  obtain rfl : args = #[] := by cases args; simp_all
  obtain ⟨rfl, rfl⟩ := trodVars_none hV
  clear hA0 hval0
  refine (walkBNm W).mono fun e W' ⟨he, bel⟩ => ?_
  subst he
  exact ⟨_, rfl, _, _, _, [], _, [], hW', trodAll_mk1 (shut_bool Tryz.underlying4 _), trodAll_mk0, rfl, bel.frame _, fun h => by cases h⟩

theorem blockNames_holds : Rows.BlockNamesSaid :=
  OpenClaim.holds_of_wide 8 Tryz.f8 rfl rfl rfl rfl rfl rfl rfl ⟨rfl, rfl, rfl, rfl, rfl⟩ rfl rfl rfl rfl rfl (by kernel_rfl) Tryz.func8 (by kernel_rfl)
    (of_decide_eq_true (by kernel_rfl)) (by unfold Func.isWrapper; first | (rw [if_pos (by decide +kernel)]; kernel_rfl) | (rw [if_neg (by decide +kernel)]; exact ⟨rfl, rfl⟩))
    (fun os started H enc _ => liftedBNm os started H enc)

end Go.Proofs.YtpacobmjjjillaaGreat
end
