/- Contracts of functions of the loaded program, and the lemmas that they need (part 3). It proves no statement by itself; it has no conditions. -/
import Derived.WalkKit
import Derived.Orders
import Derived.Deep.LoopGhost
import Derived.IntWalk
import Derived.Laws.StructEq
import Derived.ArgAppend
import Derived.Deep.AppendSrc
import Derived.Lib.Bytealg
import Derived.Lib.BytesEntry
import Derived.Laws.IdiomStrings
import Derived.WideKeyArr2
import Derived.ProofKit
import Derived.OpenShut
import Derived.Deep.Slices
import Derived.Laws.Pointers
import Derived.Laws.Cover3
import Derived.LaidEqlPtr
import Derived.LoopN
import Derived.RangeFuncLeaves
import Derived.RangeFuncSeq
import Derived.OrdersIn
import Derived.Maps.Keyed
import Derived.Maps.RangeRun
import Derived.DeepKeys4
import Derived.Below
import Derived.Test.YtfcbgdkpagcbbaaGreatRows
import Derived.KernelRfl
import Derived.Laws.Externs
import Derived.Defers
import Derived.Laws.MathBits
import Derived.Shelf.SlSortCmp.WholeK
import Derived.Shelf.SlGeneric
import Derived.Test.YtfcbgdkpagcbbaaGreatProg
import Derived.Shelf.SlSortCmp.NoneTotal
import Derived.Deep.QuietTactic
import Derived.BigQuiet
import Derived.ScopeJumps
import Derived.DeepKeys3
import Derived.ChangeOld
import Derived.Test.YtfcbgdkpagcbbaaGreatDNaX2
set_option maxRecDepth 100000
set_option maxHeartbeats 8000000
set_option linter.unusedVariables false
set_option linter.unusedSimpArgs false
set_option linter.unusedSectionVars false
set_option linter.unnecessarySimpa false
section
namespace Ed
open Hw Go

def mr : List Nat → List Nat → Nat
  | w :: ws, b :: bs => w + 2 ^ b * mr ws bs
  | _, _ => 0
def dg (n : Nat) : List Nat → List Nat
  | b :: bs => n % 2 ^ b :: dg (n / 2 ^ b) bs
  | [] => []
def carL (c : Nat) : List Nat → List Nat → List Nat
  | w :: ws, b :: bs => (w + c) % 2 ^ b :: carL ((w + c) / 2 ^ b) ws bs
  | _, _ => []
theorem dg_length : ∀ (bs : List Nat) (n : Nat), (dg n bs).length = bs.length
  | [], _ => rfl
  | b :: bs, n => by simp [dg, dg_length bs]
theorem carL_dg : ∀ (bs ws : List Nat) (c : Nat), ws.length = bs.length → carL c ws bs = dg (mr ws bs + c) bs
  | [], ws, c, h => by cases ws <;> simp_all [carL, dg]
  | b :: bs, [], c, h => by simp at h
  | b :: bs, w :: ws, c, h => by
    have hp : 0 < 2 ^ b := Nat.pow_pos dE
    have h1 : mr (w :: ws) (b :: bs) + c = (w + c) + 2 ^ b * mr ws bs := by rw [mr]; omega
    rw [carL, dg, h1, Nat.add_mul_mod_self_left, Nat.add_mul_div_left _ _ hp, carL_dg bs ws _ (by simpa using h), Nat.add_comm (mr ws bs)]
theorem mr_dg : ∀ (bs : List Nat) (n : Nat), mr (dg n bs) bs = n % 2 ^ bs.sum
  | [], n => by simp [mr, dg, Nat.mod_one]
  | b :: bs, n => by
    rw [dg, mr, mr_dg bs, List.sum_cons, Nat.pow_add, Nat.mod_mul]
def b10 : List Nat := [26, 25, 26, 25, 26, 25, 26, 25, 26, 25]
theorem b10_sum : b10.sum = 255 := rfl
def A2 (i : Nat) : Nat := if i % 2 = 0 then 26 else 25
def v10 (w : List Nat) : Nat := mr w b10
def stepC (w : List Nat) (i : Nat) : List Nat :=
  if i = 9 then (w.set i (w.getD i 0 % 2 ^ A2 i)).set 0 ((w.set i (w.getD i 0 % 2 ^ A2 i)).getD 0 0 + 19 * (w.getD i 0 / 2 ^ A2 i))
  else (w.set i (w.getD i 0 % 2 ^ A2 i)).set (i + 1) ((w.set i (w.getD i 0 % 2 ^ A2 i)).getD (i + 1) 0 + w.getD i 0 / 2 ^ A2 i)
def Ck (w : List Nat) : Nat → List Nat
  | 0 => w
  | i + 1 => stepC (Ck w i) i
def Cl (w : List Nat) : List Nat := (dg (v10 w) b10).set 0 (v10 w % 2 ^ 26 + 19 * (v10 w / 2 ^ 255))
theorem len10 {w : List Nat} (h : w.length = 10) : ∃ a b c d e f g i j k, w = [a, b, c, d, e, f, g, i, j, k] := by
  match w, h with
  | [a, b, c, d, e, f, g, i, j, k], _ => exact ⟨a, b, c, d, e, f, g, i, j, k, rfl⟩
def cout (c : Nat) : List Nat → List Nat → Nat
  | w :: ws, b :: bs => cout ((w + c) / 2 ^ b) ws bs
  | _, _ => c
theorem cout_eq : ∀ (bs ws : List Nat) (c : Nat), ws.length = bs.length → cout c ws bs = (mr ws bs + c) / 2 ^ bs.sum
  | [], ws, c, h => by cases ws <;> simp_all [cout, mr]
  | b :: bs, [], c, h => by simp at h
  | b :: bs, w :: ws, c, h => by
    have hp : 0 < 2 ^ b := Nat.pow_pos dE
    have h1 : mr (w :: ws) (b :: bs) + c = (w + c) + 2 ^ b * mr ws bs := by rw [mr]; omega
    rw [cout, h1, List.sum_cons, Nat.pow_add, ← Nat.div_div_eq_div_mul, Nat.add_mul_div_left _ _ hp, cout_eq bs ws _ (by simpa using h), Nat.add_comm (mr ws bs)]
theorem stepC_0 (a b c d e f g i j k : Nat) : stepC [a, b, c, d, e, f, g, i, j, k] 0 = [a % 2 ^ 26, b + a / 2 ^ 26, c, d, e, f, g, i, j, k] := rfl
theorem stepC_1 (a b c d e f g i j k : Nat) : stepC [a, b, c, d, e, f, g, i, j, k] 1 = [a, b % 2 ^ 25, c + b / 2 ^ 25, d, e, f, g, i, j, k] := rfl
theorem stepC_2 (a b c d e f g i j k : Nat) : stepC [a, b, c, d, e, f, g, i, j, k] 2 = [a, b, c % 2 ^ 26, d + c / 2 ^ 26, e, f, g, i, j, k] := rfl
theorem stepC_3 (a b c d e f g i j k : Nat) : stepC [a, b, c, d, e, f, g, i, j, k] 3 = [a, b, c, d % 2 ^ 25, e + d / 2 ^ 25, f, g, i, j, k] := rfl
theorem stepC_4 (a b c d e f g i j k : Nat) : stepC [a, b, c, d, e, f, g, i, j, k] 4 = [a, b, c, d, e % 2 ^ 26, f + e / 2 ^ 26, g, i, j, k] := rfl
theorem stepC_5 (a b c d e f g i j k : Nat) : stepC [a, b, c, d, e, f, g, i, j, k] 5 = [a, b, c, d, e, f % 2 ^ 25, g + f / 2 ^ 25, i, j, k] := rfl
theorem stepC_6 (a b c d e f g i j k : Nat) : stepC [a, b, c, d, e, f, g, i, j, k] 6 = [a, b, c, d, e, f, g % 2 ^ 26, i + g / 2 ^ 26, j, k] := rfl
theorem stepC_7 (a b c d e f g i j k : Nat) : stepC [a, b, c, d, e, f, g, i, j, k] 7 = [a, b, c, d, e, f, g, i % 2 ^ 25, j + i / 2 ^ 25, k] := rfl
theorem stepC_8 (a b c d e f g i j k : Nat) : stepC [a, b, c, d, e, f, g, i, j, k] 8 = [a, b, c, d, e, f, g, i, j % 2 ^ 26, k + j / 2 ^ 26] := rfl
theorem stepC_9 (a b c d e f g i j k : Nat) : stepC [a, b, c, d, e, f, g, i, j, k] 9 = [a + 19 * (k / 2 ^ 25), b, c, d, e, f, g, i, j, k % 2 ^ 25] := rfl
theorem carAt_car {w : List Nat} (h : w.length = 10) : Ck w 10 = (carL 0 w b10).set 0 ((carL 0 w b10).getD 0 0 + 19 * cout 0 w b10) := by
  obtain ⟨a, b, c, d, e, f, g, i, j, k, rfl⟩ := len10 h
  simp only [Ck, stepC_0, stepC_1, stepC_2, stepC_3, stepC_4, stepC_5, stepC_6, stepC_7, stepC_8, stepC_9, b10, carL, cout, Nat.add_zero, List.set_cons_zero, List.getD_cons_zero]
theorem carAt_eq {w : List Nat} (h : w.length = 10) : Ck w 10 = Cl w := by
  rw [carAt_car h, carL_dg b10 w 0 h, cout_eq b10 w 0 h, b10_sum]
  rfl
theorem car10_length (w : List Nat) : (Cl w).length = 10 := by simp [Cl, dg_length, b10]
structure Fit10 (w : List Nat) : Prop where
  len : w.length = 10
  lo : w.getD 0 0 < 2 ^ 26 + 128
  hi : ∀ i, 0 < i → i < 10 → w.getD i 0 < 2 ^ A2 i
theorem dg_lt : ∀ (bs : List Nat) (n i : Nat), i < bs.length → (dg n bs).getD i 0 < 2 ^ bs.getD i 0
  | b :: bs, n, 0, _ => Nat.mod_lt _ (Nat.pow_pos dE)
  | b :: bs, n, i + 1, h => dg_lt bs (n / 2 ^ b) i (by simpa using h)
theorem b10_at : ∀ i : _root_.Fin 10, b10.getD i.val 0 = A2 i.val := by decide
theorem car10_fit {w : List Nat} (h : v10 w < 6 * 2 ^ 255) : Fit10 (Cl w) := by
  refine ⟨car10_length w, ?_, fun i h1 h2 => ?_⟩
  · show v10 w % 2 ^ 26 + 19 * (v10 w / 2 ^ 255) < _
    have : v10 w / 2 ^ 255 < 6 := Nat.div_lt_of_lt_mul oM
    have := Nat.mod_lt (v10 w) (show 0 < 2 ^ 26 by decide)
    omega
  · have h3 := dg_lt b10 (v10 w) i h2
    rw [b10_at ⟨i, h2⟩] at h3
    rwa [Cl, List.getD_eq_getElem?_getD, List.getElem?_set_ne oM, ← List.getD_eq_getElem?_getD]
theorem car10_val (w : List Nat) : v10 (Cl w) = v10 w % 2 ^ 255 + 19 * (v10 w / 2 ^ 255) := by
  have h1 : dg (v10 w) b10 = v10 w % 2 ^ 26 :: dg (v10 w / 2 ^ 26) [25, 26, 25, 26, 25, 26, 25, 26, 25] := rfl
  have h2 : mr (dg (v10 w) b10) b10 = v10 w % 2 ^ 255 := mr_dg b10 (v10 w)
  rw [← h2, v10, Cl, h1]
  show (v10 w % 2 ^ 26 + 19 * (v10 w / 2 ^ 255)) + 2 ^ 26 * _ = (v10 w % 2 ^ 26 + 2 ^ 26 * _) + _
  generalize mr _ _ = x
  omega
theorem car10_v (w : List Nat) : fe (v10 (Cl w)) = fe (v10 w) := by
  rw [car10_val]
  have h4 : v10 w = v10 w % 2 ^ 255 + 2 ^ 255 * (v10 w / 2 ^ 255) := (Nat.mod_add_div _ _).symm
  generalize v10 w / 2 ^ 255 = q at *
  generalize v10 w % 2 ^ 255 = r at *
  rw [h4, fe_eq]
  have e : r + 2 ^ 255 * q = (r + 19 * q) + PF * q := by
    have : (2 : Nat) ^ 255 = 19 + PF := by decide
    rw [this, Nat.add_mul]; omega
  rw [e, Nat.add_mul_mod_self_left]
def Bm (i : Nat) : Nat := (51 * i + 1) / 2
def coef (i k : Nat) : Nat := (if i + k > 9 then 19 else 1) * (if i % 2 = 1 ∧ k % 2 = 1 then 2 else 1)
theorem coef_le (i k : Nat) : coef i k ≤ 38 := by
  unfold coef
  split <;> split <;> omega
def coefOk (i k : Nat) : Bool := Nat.beq (2 ^ Bm ((i + k) % 10) * coef i k % PF) (2 ^ Bm i * 2 ^ Bm k % PF)
def coefAll : Bool := (List.range 10).all fun i => (List.range 10).all fun k => coefOk i k
theorem coef_all : coefAll = true := by kernel_rfl
theorem coef_fe {i k : Nat} (hi : i < 10) (hk : k < 10) : fe (2 ^ Bm ((i + k) % 10) * coef i k) = fe (2 ^ Bm i) * fe (2 ^ Bm k) := by
  have h := coef_all
  unfold coefAll at h
  rw [List.all_eq_true] at h
  have h1 := h i (List.mem_range.2 hi)
  rw [List.all_eq_true] at h1
  have h2 := h1 k (List.mem_range.2 hk)
  rw [← fe_mul]
  exact fe_eq.2 (Nat.eq_of_beq_eq_true h2)
theorem mr_set (p : Nat) : ∀ (bs w : List Nat) (m : Nat), w.length = bs.length → m < w.length → mr (w.set m (w.getD m 0 + p)) bs = mr w bs + 2 ^ (bs.take m).sum * p
  | [], [], m, _, h => by simp at h
  | b :: bs, x :: w, 0, _, _ => by
    show (x + p) + 2 ^ b * mr w bs = (x + 2 ^ b * mr w bs) + 2 ^ 0 * p
    omega
  | b :: bs, x :: w, m + 1, h1, h2 => by
    have ih := mr_set p bs w m (by simpa using h1) (by simpa using h2)
    show x + 2 ^ b * mr (w.set m (w.getD m 0 + p)) bs = (x + 2 ^ b * mr w bs) + 2 ^ (b + (bs.take m).sum) * p
    rw [ih, Nat.mul_add, Nat.pow_add, Nat.mul_assoc, Nat.add_assoc]
theorem at_sum : ∀ m : _root_.Fin 10, (b10.take m.val).sum = Bm m.val := by decide
theorem v10_set {w : List Nat} (h : w.length = 10) (p : Nat) {m : Nat} (hm : m < 10) : v10 (w.set m (w.getD m 0 + p)) = v10 w + 2 ^ Bm m * p := by
  rw [v10, mr_set p b10 w m h oM, at_sum ⟨m, hm⟩]; rfl
def tCell (x y : List Nat) (i k : Nat) (o : List Nat) : List Nat := o.set ((i + k) % 10) (o.getD ((i + k) % 10) 0 + coef i k * (x.getD i 0 * y.getD k 0))
def tRow (x y : List Nat) (i : Nat) (o : List Nat) : Nat → List Nat
  | 0 => o
  | k + 1 => tCell x y i k (tRow x y i o k)
def tAll (x y : List Nat) : Nat → List Nat
  | 0 => List.replicate 10 0
  | i + 1 => tRow x y i (tAll x y i) 10
theorem tRow_length (x y : List Nat) (i : Nat) {o : List Nat} (h : o.length = 10) : ∀ k, (tRow x y i o k).length = 10
  | 0 => h
  | k + 1 => by rw [tRow, tCell, List.length_set, tRow_length x y i h k]
theorem tAll_length (x y : List Nat) : ∀ i, (tAll x y i).length = 10
  | 0 => rfl
  | i + 1 => tRow_length x y i (tAll_length x y i) 10
def pv (w : List Nat) : Nat → Fp
  | 0 => 0
  | k + 1 => pv w k + fe (2 ^ Bm k) * fe (w.getD k 0)
theorem pv_all {w : List Nat} (h : w.length = 10) : pv w 10 = fe (v10 w) := by
  obtain ⟨a, b, c, d, e, f, g, i, j, k, rfl⟩ := len10 h
  have e1 : v10 [a, b, c, d, e, f, g, i, j, k] = 2 ^ Bm 0 * a + 2 ^ Bm 1 * b + 2 ^ Bm 2 * c + 2 ^ Bm 3 * d + 2 ^ Bm 4 * e + 2 ^ Bm 5 * f + 2 ^ Bm 6 * g + 2 ^ Bm 7 * i + 2 ^ Bm 8 * j + 2 ^ Bm 9 * k := by
    simp only [v10, mr, b10, Bm, Nat.mul_add, ← Nat.mul_assoc, ← Nat.pow_add, Nat.mul_zero, Nat.add_zero, ← Nat.add_assoc]
    simp
  rw [e1]
  simp only [fe_add, fe_mul, pv, List.getD_cons_zero, List.getD_cons_succ]
  grind
theorem tRow_v (x y : List Nat) (i : Nat) (hi : i < 10) {o : List Nat} (h : o.length = 10) : ∀ k, k ≤ 10 → fe (v10 (tRow x y i o k)) = fe (v10 o) + fe (2 ^ Bm i) * fe (x.getD i 0) * pv y k
  | 0, _ => by simp only [tRow, pv]; grind
  | k + 1, hk => by
    have ih := tRow_v x y i hi h k oM
    have hc := coef_fe hi (show k < 10 by omega)
    rw [tRow, tCell, v10_set (tRow_length x y i h k) _ (Nat.mod_lt _ dE), fe_add, ih, ← Nat.mul_assoc, fe_mul, hc, fe_mul, pv]
    generalize fe (2 ^ Bm i) = A
    generalize fe (2 ^ Bm k) = B
    grind
theorem tAll_v {x y : List Nat} (hy : y.length = 10) : ∀ i, i ≤ 10 → fe (v10 (tAll x y i)) = pv x i * fe (v10 y)
  | 0, _ => by
    have e : fe (v10 (List.replicate 10 0)) = 0 := by kernel_rfl
    rw [tAll, e, pv]; grind
  | i + 1, hi => by
    rw [tAll, tRow_v x y i oM (tAll_length x y i) 10 (Nat.le_refl _), tAll_v hy i oM, pv_all hy, pv]
    grind
def ones : List Nat → Nat
  | b :: bs => 1 + 2 ^ b * ones bs
  | [] => 0
theorem mr_le (B : Nat) : ∀ bs w : List Nat, w.length = bs.length → (∀ m, m < w.length → w.getD m 0 ≤ B) → mr w bs ≤ B * ones bs
  | [], [], _, _ => Nat.zero_le _
  | b :: bs, x :: w, h1, h2 => by
    have ih := mr_le B bs w (by simpa using h1) (fun m hm => h2 (m + 1) (by simpa using hm))
    have hx : x ≤ B := h2 0 sP
    have h3 : 2 ^ b * mr w bs ≤ 2 ^ b * (B * ones bs) := Nat.mul_le_mul_left _ ih
    show x + 2 ^ b * mr w bs ≤ B * (1 + 2 ^ b * ones bs)
    rw [Nat.mul_add, Nat.mul_one, Nat.mul_left_comm B]
    omega
theorem ones_lt : Nat.ble (ones b10 + 1) (2 ^ 231) = true := by kernel_rfl
theorem v10_le {w : List Nat} (h : w.length = 10) (B : Nat) (h2 : ∀ m, m < 10 → w.getD m 0 ≤ B) : v10 w ≤ B * 2 ^ 231 :=
  Nat.le_trans (mr_le B b10 w h (by rw [h]; exact h2)) (Nat.mul_le_mul_left _ (Nat.le_of_succ_le (Nat.le_of_ble_eq_true ones_lt)))
theorem getD_set' {l : List Nat} {i j v : Nat} (hi : i < l.length) : (l.set i v).getD j 0 = if j = i then v else l.getD j 0 := by
  rw [List.getD_eq_getElem?_getD, List.getElem?_set]
  split
  · rename_i e; subst e; rw [if_pos rfl]; simp
  · rename_i e; rw [if_neg (fun h => e h.symm), List.getD_eq_getElem?_getD]
theorem tRow_le {x y : List Nat} {B i : Nat} (hi : i < 10) (hb : ∀ k, k < 10 → coef i k * (x.getD i 0 * y.getD k 0) ≤ B) {o : List Nat} (h : o.length = 10) : ∀ k, k ≤ 10 → ∀ m, m < 10 → (tRow x y i o k).getD m 0 ≤ o.getD m 0 + (if (m + 10 - i) % 10 < k then B else 0)
  | 0, _, m, hm => by rw [if_neg oM]; exact Nat.le_refl _
  | k + 1, hk, m, hm => by
    have ih := tRow_le hi hb h k oM
    have hl := tRow_length x y i h k
    rw [tRow, tCell, getD_set' (by rw [hl]; exact Nat.mod_lt _ dE)]
    split
    · rename_i e
      have h1 := ih m hm
      have h2 := hb k oM
      rw [if_neg oM] at h1
      rw [if_pos oM, ← e]
      omega
    · rename_i e
      have h1 := ih m hm
      refine Nat.le_trans h1 (Nat.add_le_add_left ?_ _)
      split
      · rw [if_pos oM]; exact Nat.le_refl _
      · exact Nat.zero_le _
theorem tAll_le {x y : List Nat} {B : Nat} (hb : ∀ i k, i < 10 → k < 10 → coef i k * (x.getD i 0 * y.getD k 0) ≤ B) : ∀ i, i ≤ 10 → ∀ m, m < 10 → (tAll x y i).getD m 0 ≤ i * B
  | 0, _, m, hm => by
    show (List.replicate 10 0).getD m 0 ≤ _
    rw [List.getD_eq_getElem?_getD, List.getElem?_replicate_of_lt hm, Nat.zero_mul]; exact Nat.le_refl _
  | i + 1, hi, m, hm => by
    have h1 := tRow_le oM (fun k hk => hb i k oM hk) (tAll_length x y i) 10 (Nat.le_refl _) m hm
    have h2 := tAll_le hb i oM m hm
    rw [if_pos (Nat.mod_lt _ dE)] at h1
    rw [tAll, Nat.succ_mul]
    omega
theorem Fit10.all {w : List Nat} (h : Fit10 w) {m : Nat} (hm : m < 10) : w.getD m 0 < 2 ^ 27 := by
  by_cases h0 : m = 0
  · subst h0; have := h.lo; omega
  · have h1 := h.hi m oM hm
    refine Nat.lt_of_lt_of_le h1 ?_
    unfold A2; split <;> decide
theorem term_le {x y : List Nat} (hx : Fit10 x) (hy : Fit10 y) (i k : Nat) (hi : i < 10) (hk : k < 10) : coef i k * (x.getD i 0 * y.getD k 0) ≤ 38 * (2 ^ 27 * 2 ^ 27) :=
  Nat.mul_le_mul (coef_le i k) (Nat.mul_le_mul (Nat.le_of_lt (hx.all hi)) (Nat.le_of_lt (hy.all hk)))
def mulT (x y : List Nat) : List Nat := Cl (Cl (tAll x y 10))
theorem mulT_v {x y : List Nat} (hx : x.length = 10) (hy : y.length = 10) : fe (v10 (mulT x y)) = fe (v10 x) * fe (v10 y) := by
  rw [mulT, car10_v, car10_v, tAll_v hy 10 (Nat.le_refl _), pv_all hx]
theorem mr_lt : ∀ bs w : List Nat, w.length = bs.length → (∀ m, m < w.length → w.getD m 0 < 2 ^ bs.getD m 0) → mr w bs + 1 ≤ 2 ^ bs.sum
  | [], [], _, _ => Nat.le_refl _
  | b :: bs, x :: w, h1, h2 => by
    have ih := mr_lt bs w (by simpa using h1) (fun m hm => h2 (m + 1) (by simpa using hm))
    have hx : x < 2 ^ b := h2 0 sP
    have h3 : 2 ^ b * (mr w bs + 1) ≤ 2 ^ b * 2 ^ bs.sum := Nat.mul_le_mul_left _ ih
    rw [mr, List.sum_cons, Nat.pow_add]
    rw [Nat.mul_add, Nat.mul_one] at h3
    omega
theorem Fit10.v {w : List Nat} (h : Fit10 w) : v10 w < 2 ^ 255 + 128 := by
  have hl := h.len
  have h0 := h.lo
  have h1 := h.hi
  cases w with
  | nil => simp at hl
  | cons a t =>
    have h2 := mr_lt [25, 26, 25, 26, 25, 26, 25, 26, 25] t (by simpa using hl) (fun m hm => by
      have h3 := h1 (m + 1) oM (by simp at hl; omega)
      have h4 := b10_at ⟨m + 1, by simp at hl; omega⟩
      rw [← h4] at h3
      exact h3)
    have h5 : [25, 26, 25, 26, 25, 26, 25, 26, 25].sum = 229 := rfl
    rw [h5] at h2
    have h6 : a < 2 ^ 26 + 128 := h0
    show a + 2 ^ 26 * mr t _ < _
    omega
theorem A9 {x y : List Nat} (hx : Fit10 x) (hy : Fit10 y) : Fit10 (mulT x y) := by
  have h1 := tAll_le (term_le hx hy) 10 (Nat.le_refl _)
  have h2 := v10_le (tAll_length x y 10) _ h1
  refine car10_fit ?_
  have h4 : v10 (tAll x y 10) / 2 ^ 255 < 2 ^ 40 := Nat.div_lt_of_lt_mul oM
  have h5 := Nat.mod_lt (v10 (tAll x y 10)) (show 0 < 2 ^ 255 by decide)
  rw [car10_val]
  omega
theorem mulT_length (x y : List Nat) : (mulT x y).length = 10 := car10_length _
def addAt (x y : List Nat) : Nat → List Nat
  | 0 => x
  | i + 1 => (addAt x y i).set i ((addAt x y i).getD i 0 + y.getD i 0)
theorem addAt_length {x : List Nat} (y : List Nat) (h : x.length = 10) : ∀ i, (addAt x y i).length = 10
  | 0 => h
  | i + 1 => by rw [addAt, List.length_set, addAt_length y h i]
def npv (w : List Nat) : Nat → Nat
  | 0 => 0
  | k + 1 => npv w k + 2 ^ Bm k * w.getD k 0
theorem addAt_v {x y : List Nat} (h : x.length = 10) : ∀ i, i ≤ 10 → v10 (addAt x y i) = v10 x + npv y i
  | 0, _ => rfl
  | i + 1, hi => by rw [addAt, v10_set (addAt_length y h i) _ oM, addAt_v h i oM, npv, Nat.add_assoc]
theorem npv_all {w : List Nat} (h : w.length = 10) : npv w 10 = v10 w := by
  obtain ⟨a, b, c, d, e, f, g, i, j, k, rfl⟩ := len10 h
  simp only [v10, mr, b10, Bm, Nat.mul_add, ← Nat.mul_assoc, ← Nat.pow_add, Nat.mul_zero, Nat.add_zero, ← Nat.add_assoc, npv, List.getD_cons_zero, List.getD_cons_succ]
  simp
def plusT (x y : List Nat) : List Nat := Cl (addAt x y 10)
theorem plusT_v {x y : List Nat} (hx : x.length = 10) (hy : y.length = 10) : fe (v10 (plusT x y)) = fe (v10 x) + fe (v10 y) := by
  rw [plusT, car10_v, addAt_v hx 10 (Nat.le_refl _), npv_all hy, fe_add]
theorem plusT_fit {x y : List Nat} (hx : Fit10 x) (hy : Fit10 y) : Fit10 (plusT x y) := by
  refine car10_fit ?_
  rw [addAt_v hx.len 10 (Nat.le_refl _), npv_all hy.len]
  have := hx.v
  have := hy.v
  omega
def p4 (i : Nat) : Nat := 4 * (2 ^ A2 i - 1 - (if i = 0 then 18 else 0))
def subAt (x y : List Nat) : Nat → List Nat
  | 0 => x
  | i + 1 => (subAt x y i).set i ((subAt x y i).getD i 0 + (p4 i - y.getD i 0))
theorem subAt_length {x : List Nat} (y : List Nat) (h : x.length = 10) : ∀ i, (subAt x y i).length = 10
  | 0 => h
  | i + 1 => by rw [subAt, List.length_set, subAt_length y h i]
def p4v : Nat → Nat
  | 0 => 0
  | k + 1 => p4v k + 2 ^ Bm k * p4 k
theorem p4v_all : p4v 10 = 4 * PF := by kernel_rfl
theorem p4_ge {y : List Nat} (hy : Fit10 y) {i : Nat} (hi : i < 10) : y.getD i 0 ≤ p4 i := by
  unfold p4
  by_cases h0 : i = 0
  · subst h0
    have := hy.lo
    rw [if_pos rfl]
    show _ ≤ 4 * (2 ^ 26 - 1 - 18)
    omega
  · have h1 := hy.hi i oM hi
    rw [if_neg h0]
    have : 1 ≤ 2 ^ A2 i := Nat.pow_pos dE
    omega
theorem subAt_v {x y : List Nat} (h : x.length = 10) (hy : Fit10 y) : ∀ i, i ≤ 10 → v10 (subAt x y i) + npv y i = v10 x + p4v i
  | 0, _ => rfl
  | i + 1, hi => by
    have ih := subAt_v h hy i oM
    have h1 := p4_ge hy (show i < 10 by omega)
    have h2 : 2 ^ Bm i * (p4 i - y.getD i 0) + 2 ^ Bm i * y.getD i 0 = 2 ^ Bm i * p4 i := by
      rw [← Nat.mul_add, Nat.sub_add_cancel h1]
    rw [subAt, v10_set (subAt_length y h i) _ oM, npv, p4v]
    omega
def minusT (x y : List Nat) : List Nat := Cl (subAt x y 10)
theorem minusT_v {x y : List Nat} (hx : x.length = 10) (hy : Fit10 y) : fe (v10 (minusT x y)) = fe (v10 x) - fe (v10 y) := by
  have h := congrArg fe (subAt_v hx hy 10 (Nat.le_refl _))
  rw [npv_all hy.len, p4v_all, fe_add, fe_add, fe_four] at h
  rw [minusT, car10_v]
  generalize fe (v10 (subAt x y 10)) = u at *
  generalize fe (v10 x) = a at *
  generalize fe (v10 y) = b at *
  grind
theorem minusT_fit {x y : List Nat} (hx : Fit10 x) (hy : Fit10 y) : Fit10 (minusT x y) := by
  refine car10_fit ?_
  have h := subAt_v hx.len hy 10 (Nat.le_refl _)
  rw [p4v_all] at h
  have h1 := hx.v
  have h2 : PF < 2 ^ 255 := by decide
  omega
theorem car10_low {w : List Nat} (h : v10 w < 2 ^ 255) : Cl w = dg (v10 w) b10 := by
  rw [Cl, Nat.div_eq_of_lt h, Nat.mul_zero, Nat.add_zero]; rfl
theorem v10_dg {n : Nat} (h : n < 2 ^ 255) : v10 (dg n b10) = n := by rw [v10, mr_dg, b10_sum, Nat.mod_eq_of_lt h]
def low10 (w : List Nat) : Nat := v10 w % 2 ^ 255 + 19 * (v10 w / 2 ^ 255)
theorem low10_fe (w : List Nat) : fe (low10 w) = fe (v10 w) := by rw [low10, ← car10_val, car10_v]
theorem low10_lt {w : List Nat} (h : Fit10 w) : low10 w < 2 ^ 255 := by
  have h1 := h.v
  rw [low10]
  omega
theorem car10_four {w : List Nat} (h : Fit10 w) : Cl (Cl (Cl (Cl w))) = dg (low10 w) b10 := by
  have h1 := low10_lt h
  have h2 : v10 (Cl w) = low10 w := car10_val w
  have h3 : Cl (Cl w) = dg (low10 w) b10 := by rw [car10_low (by rw [h2]; exact h1), h2]
  have h4 : Cl (dg (low10 w) b10) = dg (low10 w) b10 := by rw [car10_low (by rw [v10_dg h1]; exact h1), v10_dg h1]
  rw [h3, h4, h4]
end Ed
end

section
namespace Ed
open Hw Go

structure Mid10 (w : List Nat) : Prop where
  len : w.length = 10
  le : ∀ m, m < 10 → w.getD m 0 ≤ 7205759403792793600
theorem bits_ge (i : Nat) : 33554432 ≤ 2 ^ A2 i := by unfold A2; split <;> decide
theorem bits_le (i : Nat) : 2 ^ A2 i ≤ 67108864 := by unfold A2; split <;> decide
theorem bits_26 (i : Nat) : A2 i ≤ 26 := by unfold A2; split <;> decide
theorem carAt_length {w : List Nat} (h : w.length = 10) : ∀ i, (Ck w i).length = 10
  | 0 => h
  | i + 1 => by rw [Ck, stepC]; split <;> simp [carAt_length h i]
theorem div_bits (x i : Nat) (h : x ≤ 7205759403792793600 + 274877906944) : x / 2 ^ A2 i ≤ 274877906944 := by
  have h1 : x / 2 ^ A2 i ≤ x / 33554432 := Nat.div_le_div_left (bits_ge i) dE
  omega
theorem carAt_le {w : List Nat} (h : Mid10 w) : ∀ i, i < 10 → ∀ m, m < 10 → (Ck w i).getD m 0 ≤ (if m = i then 7205759403792793600 + 274877906944 else 7205759403792793600)
  | 0, _, m, hm => by
    have := h.le m hm
    rw [Ck]
    split <;> omega
  | i + 1, hi, m, hm => by
    have ih := carAt_le h i oM
    have hl := carAt_length h.len i
    have h2 := ih i oM
    rw [if_pos rfl] at h2
    rw [Ck, stepC, if_neg oM, getD_set' (by rw [List.length_set, hl]; omega)]
    split
    · rename_i e
      rw [getD_set' (by rw [hl]; omega), if_neg oM]
      have h1 := ih (i + 1) oM
      rw [if_neg oM] at h1
      have h3 := div_bits _ i h2
      omega
    · rename_i e
      rw [getD_set' (by rw [hl]; omega)]
      split
      · have h3 : (Ck w i).getD i 0 % 2 ^ A2 i < 2 ^ A2 i := Nat.mod_lt _ (Nat.pow_pos dE)
        have h4 := bits_le i
        omega
      · rename_i e2
        have h1 := ih m hm
        rw [if_neg e2] at h1
        exact h1
structure CarK (w : List Nat) (k : Nat) : Prop where
  len : (Ck w k).length = 10
  x : (Ck w k).getD k 0 ≤ 7480637310737687 * 1000
  q : (Ck w k).getD k 0 / 2 ^ A2 k ≤ 274877906944
  nx : k < 9 → ((Ck w k).set k ((Ck w k).getD k 0 % 2 ^ A2 k)).getD (k + 1) 0 ≤ 7205759403792793600
  fs : k = 9 → ((Ck w k).set k ((Ck w k).getD k 0 % 2 ^ A2 k)).getD 0 0 ≤ 7205759403792793600
theorem carK {w : List Nat} (h : Mid10 w) {k : Nat} (hk : k < 10) : CarK w k := by
  have hl := carAt_length h.len k
  have h0 := carAt_le h k hk
  have h1 := h0 k hk
  rw [if_pos rfl] at h1
  refine ⟨hl, by omega, div_bits _ k h1, fun h9 => ?_, fun h9 => ?_⟩
  · rw [getD_set' (by rw [hl]; omega), if_neg oM]
    have := h0 (k + 1) oM
    rwa [if_neg oM] at this
  · rw [getD_set' (by rw [hl]; omega), if_neg oM]
    have := h0 0 oM
    rwa [if_neg oM] at this
theorem car_cut (x n : Nat) : x / 2 ^ n * 2 ^ n ≤ x ∧ x - x / 2 ^ n * 2 ^ n = x % 2 ^ n := by
  have := Nat.mod_add_div x (2 ^ n)
  rw [Nat.mul_comm] at this
  omega
theorem stepC_nine {w : List Nat} {k : Nat} (h : k = 9) : stepC w k = (w.set k (w.getD k 0 % 2 ^ A2 k)).set 0 ((w.set k (w.getD k 0 % 2 ^ A2 k)).getD 0 0 + 19 * (w.getD k 0 / 2 ^ A2 k)) := if_pos h
theorem stepC_low {w : List Nat} {k : Nat} (h : ¬ k = 9) : stepC w k = (w.set k (w.getD k 0 % 2 ^ A2 k)).set (k + 1) ((w.set k (w.getD k 0 % 2 ^ A2 k)).getD (k + 1) 0 + w.getD k 0 / 2 ^ A2 k) := if_neg h
theorem Fit10.mid {w : List Nat} (h : Fit10 w) : Mid10 w := ⟨h.len, fun m hm => by have := h.all hm; omega⟩
theorem car10_mid {w : List Nat} (h : v10 w < 2 ^ 300) : Mid10 (Cl w) := by
  refine ⟨car10_length w, fun m hm => ?_⟩
  have hl : (dg (v10 w) b10).length = 10 := by rw [dg_length]; rfl
  rw [Cl, getD_set' (by rw [hl]; decide)]
  split
  · have h1 : v10 w / 2 ^ 255 < 2 ^ 45 := Nat.div_lt_of_lt_mul oM
    have h2 := Nat.mod_lt (v10 w) (show 0 < 2 ^ 26 by decide)
    omega
  · have h3 := dg_lt b10 (v10 w) m hm
    rw [b10_at ⟨m, hm⟩] at h3
    have := bits_le m
    simp only at h3
    omega
theorem tAll_mid {x y : List Nat} (hx : Fit10 x) (hy : Fit10 y) : Mid10 (tAll x y 10) :=
  ⟨tAll_length x y 10, fun m hm => by have := tAll_le (term_le hx hy) 10 (Nat.le_refl _) m hm; omega⟩
theorem tAll_v10 {x y : List Nat} (hx : Fit10 x) (hy : Fit10 y) : v10 (tAll x y 10) < 2 ^ 300 := by
  have h1 := tAll_le (term_le hx hy) 10 (Nat.le_refl _)
  have h2 := v10_le (tAll_length x y 10) _ h1
  omega
theorem addAt_get {x y : List Nat} (h : x.length = 10) : ∀ i, i ≤ 10 → ∀ m, m < 10 → (addAt x y i).getD m 0 = x.getD m 0 + (if m < i then y.getD m 0 else 0)
  | 0, _, m, hm => by rw [addAt, if_neg oM]; rfl
  | i + 1, hi, m, hm => by
    have ih := addAt_get (y := y) h i oM
    have hl := addAt_length y h i
    rw [addAt, getD_set' (by rw [hl]; omega)]
    split
    · rename_i e
      subst e
      rw [ih m hm, if_neg oM, if_pos oM]; rfl
    · rename_i e
      rw [ih m hm]
      by_cases h1 : m < i
      · rw [if_pos h1, if_pos oM]
      · rw [if_neg h1, if_neg oM]
theorem addAt_mid {x y : List Nat} (hx : Fit10 x) (hy : Fit10 y) : Mid10 (addAt x y 10) :=
  ⟨addAt_length y hx.len 10, fun m hm => by
    rw [addAt_get hx.len 10 (Nat.le_refl _) m hm, if_pos hm]
    have := hx.all hm
    have := hy.all hm
    omega⟩
theorem subAt_get {x y : List Nat} (h : x.length = 10) : ∀ i, i ≤ 10 → ∀ m, m < 10 → (subAt x y i).getD m 0 = x.getD m 0 + (if m < i then p4 m - y.getD m 0 else 0)
  | 0, _, m, hm => by rw [subAt, if_neg oM]; rfl
  | i + 1, hi, m, hm => by
    have ih := subAt_get (y := y) h i oM
    have hl := subAt_length y h i
    rw [subAt, getD_set' (by rw [hl]; omega)]
    split
    · rename_i e
      subst e
      rw [ih m hm, if_neg oM, if_pos oM]; rfl
    · rename_i e
      rw [ih m hm]
      by_cases h1 : m < i
      · rw [if_pos h1, if_pos oM]
      · rw [if_neg h1, if_neg oM]
theorem p4_le (m : Nat) : p4 m ≤ 268435456 := by
  have := bits_le m
  unfold p4
  omega
theorem subAt_mid {x y : List Nat} (hx : Fit10 x) : Mid10 (subAt x y 10) :=
  ⟨subAt_length y hx.len 10, fun m hm => by
    rw [subAt_get hx.len 10 (Nat.le_refl _) m hm, if_pos hm]
    have := hx.all hm
    have := p4_le m
    omega⟩
def o10 : List Nat := [26, 25, 26, 25, 26, 25, 26, 25, 26, 26]
def opB (i : Nat) : Nat := if i = 9 then 26 else A2 i
def opD (N : Nat) : List Nat := dg N o10
def opAt (N i : Nat) : List Nat := (opD N).take i ++ List.replicate (10 - i) 0
theorem opD_length (N : Nat) : (opD N).length = 10 := by rw [opD, dg_length]; rfl
theorem opAt_length (N i : Nat) (h : i ≤ 10) : (opAt N i).length = 10 := by
  rw [opAt, List.length_append, List.length_take, opD_length, List.length_replicate]; omega
theorem dg_get : ∀ (bs : List Nat) (n i : Nat), i < bs.length → (dg n bs).getD i 0 = n / 2 ^ (bs.take i).sum % 2 ^ bs.getD i 0
  | b :: bs, n, 0, _ => by
    show n % 2 ^ b = n / 2 ^ 0 % 2 ^ b
    rw [Nat.pow_zero, Nat.div_one]
  | b :: bs, n, i + 1, h => by
    have ih := dg_get bs (n / 2 ^ b) i (by simpa using h)
    show (dg (n / 2 ^ b) bs).getD i 0 = n / 2 ^ (b + (bs.take i).sum) % 2 ^ bs.getD i 0
    rw [ih, Nat.div_div_eq_div_mul, ← Nat.pow_add]
theorem o10_at : ∀ i : _root_.Fin 10, o10.getD i.val 0 = opB i.val ∧ (o10.take i.val).sum = Bm i.val := by decide
theorem opD_get (N : Nat) {i : Nat} (h : i < 10) : (opD N).getD i 0 = N / 2 ^ Bm i % 2 ^ opB i := by
  have h1 := o10_at ⟨i, h⟩
  rw [opD, dg_get o10 N i h, h1.1, h1.2]
theorem opAt_set (N : Nat) {i : Nat} (h : i < 10) : (opAt N i).set i (N / 2 ^ Bm i % 2 ^ opB i) = opAt N (i + 1) := by
  rw [← opD_get N h]
  have hl := opD_length N
  have e : (opD N).take (i + 1) = (opD N).take i ++ [(opD N).getD i 0] := by
    rw [List.getD_eq_getElem?_getD, List.getElem?_eq_getElem oM, Option.getD_some]
    exact List.take_succ_eq_append_getElem oM
  rw [opAt, opAt, show 10 - i = (10 - (i + 1)) + 1 by omega, List.replicate_succ, List.set_append_right _ _ (by rw [List.length_take, hl]; omega), List.length_take, hl, show i - min i 10 = 0 by omega, List.set_cons_zero, e, List.append_assoc]
  rfl
theorem opAt_first (N : Nat) {i : Nat} (h : i < 10) : (opAt N i).set i (N / 2 ^ Bm i % 2 ^ 0) = opAt N i := by
  have hl := opD_length N
  rw [Nat.pow_zero, Nat.mod_one, opAt, show 10 - i = (10 - (i + 1)) + 1 by omega, List.replicate_succ, List.set_append_right _ _ (by rw [List.length_take, hl]; omega), List.length_take, hl, show i - min i 10 = 0 by omega, List.set_cons_zero]
theorem opAt_ten (N : Nat) : opAt N 10 = opD N := by
  rw [opAt, Nat.sub_self, List.replicate_zero, List.append_nil, List.take_of_length_le (by rw [opD_length]; exact Nat.le_refl _)]
theorem opD_v {N : Nat} (h : N < 2 ^ 256) : v10 (opD N) = N := by
  have h1 : v10 (opD N) = mr (dg N o10) o10 := by simp [v10, opD, o10, b10, dg, mr]
  rw [h1, mr_dg]
  exact Nat.mod_eq_of_lt h
theorem opD_mid (N : Nat) : Mid10 (opD N) := ⟨opD_length N, fun m hm => by
  rw [opD_get N hm]
  have h1 : N / 2 ^ Bm m % 2 ^ opB m < 2 ^ opB m := Nat.mod_lt _ (Nat.pow_pos dE)
  have h2 : 2 ^ opB m ≤ 67108864 := by
    unfold opB
    split
    · decide
    · exact bits_le m
  omega⟩
def openT (N : Nat) : List Nat := Cl (opD N)
theorem openT_fit {N : Nat} (h : N < 2 ^ 256) : Fit10 (openT N) := car10_fit (by rw [opD_v h]; omega)
theorem openT_v {N : Nat} (h : N < 2 ^ 256) : fe (v10 (openT N)) = fe N := by rw [openT, car10_v, opD_v h]
theorem openT_length (N : Nat) : (openT N).length = 10 := car10_length _
theorem op_bit (N i k : Nat) : N / 2 ^ Bm i % 2 ^ (k + 1) = N / 2 ^ Bm i % 2 ^ k + (if N.testBit (Bm i + k) then 2 ^ k else 0) := by
  rw [mod_bit, Nat.testBit_div_two_pow, Nat.add_comm k]
theorem at_succ {i : Nat} (h : i < 10) : Bm i + A2 i = Bm (i + 1) := by
  have : ∀ i : _root_.Fin 10, Bm i.val + A2 i.val = Bm (i.val + 1) := by decide
  exact this ⟨i, h⟩
theorem at_le {i : Nat} (h : i < 10) : Bm i ≤ 230 := by unfold Bm; omega
theorem at_op {i : Nat} (h : i < 10) : Bm i + opB i ≤ 256 := by
  have : ∀ i : _root_.Fin 10, Bm i.val + opB i.val ≤ 256 := by decide
  exact this ⟨i, h⟩
theorem op_le (i : Nat) : opB i ≤ 26 := by
  unfold opB
  split
  · exact Nat.le_refl _
  · exact bits_26 i
theorem byte_hi {n i : Nat} (h : n < 256 ^ i) : n / 256 ^ i = 0 := Nat.div_eq_of_lt h
theorem bit_set (X : Nat) {m : Nat} (hm : m < 256) (hb : X.testBit m = true) : (leb 32 (X % 2 ^ m)).set (m / 8) ((leb 32 (X % 2 ^ m)).getD (m / 8) 0 + shl8 1 (m % 8)) = leb 32 (X % 2 ^ (m + 1)) := by
  have e1 : X % 2 ^ (m + 1) = X % 2 ^ m + 2 ^ m := by rw [mod_bit, if_pos hb]
  have e2 : (2 : Nat) ^ m = 256 ^ (m / 8) * 2 ^ (m % 8) := by rw [pow256, ← Nat.pow_add]; congr 1; omega
  have hlt : X % 2 ^ m < 2 ^ m := Nat.mod_lt _ (Nat.pow_pos dE)
  rw [e1]
  generalize X % 2 ^ m = A at *
  have hc : 2 ^ (m % 8) < 256 := Nat.pow_lt_pow_of_lt (a := 2) (n := m % 8) (m := 8) dE oM
  have hj : m / 8 < 32 := by omega
  generalize m / 8 = j at *
  apply List.ext_getElem?
  intro i
  rcases Nat.lt_or_ge i 32 with hi | hi
  · rw [List.getElem?_set, Ah, leb_get 32 (A + 2 ^ m) i hi]
    split
    · rename_i e
      subst e
      rw [leb_getD 32 A _ hj]
      congr 1
      rw [shl8, show (1 : UInt8).toNat = 1 from rfl, Nat.one_mul, e2, Nat.add_mul_div_left _ _ (Nat.pow_pos dE), ← UInt8.ofNat_add]
    · rename_i e
      rw [leb_get 32 A i hi]
      congr 1
      apply ofNat8
      rcases Nat.lt_or_ge i j with h | h
      · rw [e2, byte_low A _ j i h]
      · have h2 : j + 1 ≤ i := by omega
        have h3 : A + 2 ^ m < 256 ^ i := by
          have h4 : (256 : Nat) ^ (j + 1) ≤ 256 ^ i := Nat.pow_le_pow_right dE h2
          have h5 : (2 : Nat) ^ m + 2 ^ m ≤ 256 ^ (j + 1) := by
            rw [e2, Nat.pow_succ, ← Nat.mul_add]
            refine Nat.mul_le_mul_left _ ?_
            have h6 : 2 ^ (m % 8) ≤ 2 ^ 7 := Nat.pow_le_pow_right dE oM
            omega
          omega
        rw [byte_hi h3, byte_hi oM]
  · rw [List.getElem?_eq_none (by rw [List.length_set, Ah]; exact hi), List.getElem?_eq_none (by rw [Ah]; exact hi)]
theorem bit_off (X m : Nat) (hb : X.testBit m = false) : leb 32 (X % 2 ^ m) = leb 32 (X % 2 ^ (m + 1)) := by
  rw [mod_bit, if_neg (by rw [hb]; decide), Nat.add_zero]
theorem dg_bit (X : Nat) {i k : Nat} (hi : i < 10) (hk : k < A2 i) : ((dg X b10).getD i 0).testBit k = X.testBit (Bm i + k) := by
  have h1 := b10_at ⟨i, hi⟩
  have h2 := at_sum ⟨i, hi⟩
  rw [dg_get b10 X i hi, h1, h2, Nat.testBit_mod_two_pow, Nat.testBit_div_two_pow, decide_eq_true hk, Bool.true_and, Nat.add_comm k]
theorem dg_bit_dec (X : Nat) {i k : Nat} (hi : i < 10) (hk : k < A2 i) : ((((dg X b10).getD i 0 / 2 ^ k : Nat) : Int) % 2 = 1) ↔ X.testBit (Bm i + k) = true := by
  rw [← dg_bit X hi hk, Nat.testBit_eq_decide_div_mod_eq, decide_eq_true_eq]
  omega
def topL (d : Nat) : List UInt8 := UInt8.ofNat (237 + d) :: (List.replicate 30 255 ++ [127])
theorem top_all : ((List.range 19).all fun d => leb 32 (PF + d) == topL d && leb 32 d == UInt8.ofNat d :: List.replicate 31 0) = true := by kernel_rfl
theorem top_at {d : Nat} (h : d < 19) : leb 32 (PF + d) = topL d ∧ leb 32 d = UInt8.ofNat d :: List.replicate 31 0 := by
  have := List.all_eq_true.1 top_all d (List.mem_range.2 h)
  rw [Bool.and_eq_true] at this
  exact ⟨eq_of_beq this.1, eq_of_beq this.2⟩
theorem pf_19 : PF + 19 = 2 ^ 255 := by decide
theorem fb_low {X : Nat} (h : X < PF) : leb 32 X = fb (fe X) := by rw [fb_fe, Nat.mod_eq_of_lt h]
theorem not_top {X : Nat} (hX : X < 2 ^ 255) (h : ¬ (237 ≤ ((leb 32 X).getD 0 0).toNat ∧ ((leb 32 X).getD 31 0).toNat = 127)) : leb 32 X = fb (fe X) := by
  rcases Nat.lt_or_ge X PF with h1 | h1
  · exact fb_low h1
  · exfalso
    have h2 := pf_19
    obtain ⟨d, rfl⟩ : ∃ d, X = PF + d := ⟨X - PF, by omega⟩
    have hd : d < 19 := by omega
    rw [(top_at hd).1] at h
    refine h ⟨?_, rfl⟩
    show 237 ≤ (UInt8.ofNat (237 + d)).toNat
    rw [UInt8.toNat_ofNat']
    omega
theorem not_mid {X i : Nat} (hX : X < 2 ^ 255) (hi : 0 < i) (hi2 : i < 31) (h : ¬ ((leb 32 X).getD i 0).toNat = 255) : leb 32 X = fb (fe X) := by
  rcases Nat.lt_or_ge X PF with h1 | h1
  · exact fb_low h1
  · exfalso
    have h2 := pf_19
    obtain ⟨d, rfl⟩ : ∃ d, X = PF + d := ⟨X - PF, by omega⟩
    have hd : d < 19 := by omega
    rw [(top_at hd).1] at h
    refine h ?_
    obtain ⟨j, rfl⟩ : ∃ j, i = j + 1 := ⟨i - 1, by omega⟩
    show ((List.replicate 30 (255 : UInt8) ++ [127]).getD j 0).toNat = 255
    rw [List.getD_eq_getElem?_getD, List.getElem?_append_left (by rw [List.length_replicate]; omega), List.getElem?_replicate_of_lt oM]
    rfl
theorem u8_eq (x y : UInt8) (h : x.toNat = y.toNat) : x = y := UInt8.toNat_inj.1 h
theorem top_list {l : List UInt8} {d : Nat} (hl : l.length = 32) (hd19 : d < 19) (hd : (l.getD 0 0).toNat = 237 + d) (h31 : (l.getD 31 0).toNat = 127) (hm : ∀ i, 0 < i → i < 31 → (l.getD i 0).toNat = 255) : l = topL d := by
  apply List.ext_getElem?
  intro i
  rcases Nat.lt_or_ge i 32 with hi | hi
  · have g : l[i]? = some (l.getD i 0) := by
      rw [List.getD_eq_getElem?_getD, List.getElem?_eq_getElem oM]; rfl
    rw [g]
    by_cases h1 : i = 0
    · rw [h1]
      show _ = some (UInt8.ofNat (237 + d))
      refine congrArg some (u8_eq _ _ ?_)
      rw [hd, UInt8.toNat_ofNat']
      exact (Nat.mod_eq_of_lt oM).symm
    · obtain ⟨j, rfl⟩ : ∃ j, i = j + 1 := ⟨i - 1, by omega⟩
      show _ = (List.replicate 30 (255 : UInt8) ++ [127])[j]?
      by_cases h2 : j = 30
      · rw [h2]
        exact congrArg some (u8_eq _ _ h31)
      · rw [List.getElem?_append_left (by rw [List.length_replicate]; omega), List.getElem?_replicate_of_lt oM]
        exact congrArg some (u8_eq _ _ (hm (j + 1) oM oM))
  · rw [List.getElem?_eq_none oM, List.getElem?_eq_none (by simp only [topL, List.length_cons, List.length_append, List.length_replicate, List.length_nil]; omega)]
theorem top_sub : ∀ d : _root_.Fin 19, UInt8.ofNat (237 + d.val) - 237 = UInt8.ofNat d.val := by decide
theorem top_val {X d : Nat} (hX : X < 2 ^ 255) (hd : d < 19) (h : leb 32 X = topL d) : X = PF + d := by
  have h5 := (top_at hd).1
  rw [← h] at h5
  have h6 := congrArg le h5
  have h7 := pf_19
  rw [le_leb, le_leb] at h6
  generalize PF = p at *
  rw [Nat.mod_eq_of_lt (Nat.lt_of_lt_of_le (show p + d < 2 ^ 255 by omega) (Nat.le_of_lt dE)), Nat.mod_eq_of_lt (Nat.lt_trans hX dE)] at h6
  exact h6.symm
theorem is_top {X : Nat} (hX : X < 2 ^ 255) (h0 : 237 ≤ ((leb 32 X).getD 0 0).toNat) (h31 : ((leb 32 X).getD 31 0).toNat = 127) (hm : ∀ i, 0 < i → i < 31 → ((leb 32 X).getD i 0).toNat = 255) : ((leb 32 X).getD 0 0 - 237) :: List.replicate 31 0 = fb (fe X) := by
  have h3 := ((leb 32 X).getD 0 0).toNat_lt
  obtain ⟨d, hd⟩ : ∃ d, ((leb 32 X).getD 0 0).toNat = 237 + d := ⟨((leb 32 X).getD 0 0).toNat - 237, by omega⟩
  have hd19 : d < 19 := by omega
  have e := top_list (Ah 32 X) hd19 hd h31 hm
  have e2 := top_val hX hd19 e
  have e3 : (leb 32 X).getD 0 0 = UInt8.ofNat (237 + d) := by rw [e]; rfl
  have h7 : fe X = fe d := by rw [e2, fe_eq, Nat.add_mod_left]
  rw [h7, fb_fe, Nat.mod_eq_of_lt (Nat.lt_trans hd19 dE), (top_at hd19).2, e3, top_sub ⟨d, hd19⟩]
theorem finv_mulF (a b : Fp) : finv (a * b) = finv a * finv b := mulpow dE
def cA : Fp := fe 121666
def cB : Fp := fe 121665
theorem cA_ne : cA ≠ 0 := by
  intro h
  have := congrArg Fin.val h
  revert this
  decide
theorem fD_cA : fD * cA = -cB := by kernel_rfl
theorem ref_quot (Y : Fp) : cA * (Y * Y - 1) * finv (cA - cB * (Y * Y)) = (Y * Y - 1) * finv (fD * (Y * Y) + 1) := by
  have h1 : cA - cB * (Y * Y) = cA * (fD * (Y * Y) + 1) := by
    have := fD_cA
    generalize Y * Y = q at *
    generalize cA = a at *
    generalize cB = b at *
    generalize fD = d at *
    grind
  have h2 := finv_mul cA_ne
  rw [h1, finv_mulF]
  generalize finv (fD * (Y * Y) + 1) = u at *
  generalize finv cA = v at *
  generalize cA = a at *
  grind
theorem ref_D : -cB * finv cA = fD := by
  have h1 := fD_cA
  have h2 := finv_mul cA_ne
  generalize finv cA = v at *
  generalize cA = a at *
  generalize cB = b at *
  generalize fD = d at *
  grind
end Ed
end

section
namespace Ed
open Hw Go

def oneT : List Nat := 1 :: List.replicate 9 0
def powT (x : List Nat) (E : Nat) : Nat → List Nat
  | 0 => oneT
  | j + 1 => if E.testBit (255 - j) = true then mulT (mulT (powT x E j) (powT x E j)) x else mulT (powT x E j) (powT x E j)
theorem oneT_v : fe (v10 oneT) = 1 := by kernel_rfl
theorem oneT_fit : Fit10 oneT := ⟨rfl, by decide, fun i h1 h2 => by
  have : ∀ i : _root_.Fin 10, oneT.getD i.val 0 < 2 ^ A2 i.val := by decide
  exact this ⟨i, h2⟩⟩
theorem test_div (E j : Nat) (b : Bool) (h : E.testBit j = b) : E / 2 ^ j % 2 = (if b = true then 1 else 0) := by
  rw [← h, Nat.testBit_eq_decide_div_mod_eq]
  simp only [decide_eq_true_eq]
  split <;> omega
theorem powT_ok {x : List Nat} (hx : Fit10 x) {E : Nat} (hE : E < 2 ^ 256) : ∀ j, j ≤ 256 → Fit10 (powT x E j) ∧ fe (v10 (powT x E j)) = Ci (fe (v10 x)) (E / 2 ^ (256 - j))
  | 0, _ => ⟨oneT_fit, by rw [powT, oneT_v, show 256 - 0 = 256 from rfl, Nat.div_eq_of_lt hE, fpow_zero]⟩
  | j + 1, hj => by
    obtain ⟨h1, h2⟩ := powT_ok hx hE j oM
    have h3 : E / 2 ^ (256 - (j + 1)) ≤ E := Nat.div_le_self _ _
    rw [next_div E j oM] at h3 ⊢
    rw [powT]
    cases hb : E.testBit (255 - j) with
    | true =>
      have h4 := test_div E (255 - j) true hb
      rw [if_pos rfl] at h4
      rw [h4] at h3 ⊢
      rw [if_pos rfl]
      refine ⟨A9 (A9 h1 h1) hx, ?_⟩
      rw [mulT_v (mulT_length _ _) hx.len, mulT_v h1.len h1.len, h2, fpow_succ oM, fpow_two oM]
    | false =>
      have h4 := test_div E (255 - j) false hb
      rw [if_neg dE] at h4
      rw [h4] at h3 ⊢
      rw [if_neg dE]
      refine ⟨A9 h1 h1, ?_⟩
      rw [mulT_v h1.len h1.len, h2, Nat.add_zero, fpow_two oM]
theorem powT_all {x : List Nat} (hx : Fit10 x) {E : Nat} (hE : E < 2 ^ 256) : fe (v10 (powT x E 256)) = Ci (fe (v10 x)) E := by
  have h := (powT_ok hx hE 256 (Nat.le_refl _)).2
  rwa [Nat.sub_self, Nat.pow_zero, Nat.div_one] at h
theorem powT_t {x : List Nat} {E j : Nat} (h : E.testBit (255 - j) = true) : powT x E (j + 1) = mulT (mulT (powT x E j) (powT x E j)) x := if_pos h
theorem powT_f {x : List Nat} {E j : Nat} (h : E.testBit (255 - j) = false) : powT x E (j + 1) = mulT (powT x E j) (powT x E j) := if_neg (by rw [h]; decide)
def B5 (M i : Nat) : List UInt8 := (leb 32 (M / 2)).take i ++ (leb 32 M).drop i
theorem halfAt_length (M i : Nat) (h : i ≤ 32) : (B5 M i).length = 32 := by
  rw [B5, List.length_append, List.length_take, List.length_drop, Ah, Ah]; omega
theorem halfAt_zero (M : Nat) : B5 M 0 = leb 32 M := rfl
theorem halfAt_end (M : Nat) : B5 M 32 = leb 32 (M / 2) := by
  rw [B5, List.take_of_length_le (by rw [Ah]; exact Nat.le_refl _), List.drop_of_length_le (by rw [Ah]; exact Nat.le_refl _), List.append_nil]
theorem halfAt_get (M : Nat) {i j : Nat} (hi : i ≤ j) (hj : j < 32) : (B5 M i).getD j 0 = UInt8.ofNat (M / 256 ^ j) := by
  rw [B5, List.getD_eq_getElem?_getD, List.getElem?_append_right (by rw [List.length_take, Ah]; omega), List.length_take, Ah, List.getElem?_drop, show i + (j - min i 32) = j by omega, leb_get 32 M j hj]
  rfl
theorem half_byte (M i : Nat) : M / 2 / 256 ^ i % 256 = M / 256 ^ i % 256 / 2 + 128 * (M / 256 ^ (i + 1) % 2) := by
  have e1 : M / 2 / 256 ^ i = M / 256 ^ i / 2 := by rw [Nat.div_div_eq_div_mul, Nat.div_div_eq_div_mul, Nat.mul_comm]
  have e2 : M / 256 ^ (i + 1) = M / 256 ^ i / 256 := by rw [Nat.div_div_eq_div_mul, Nat.pow_succ]
  rw [e1, e2]
  generalize M / 256 ^ i = x
  omega
theorem halfAt_next (M : Nat) {i : Nat} (h : i < 32) (v : UInt8) (hv : v = UInt8.ofNat (M / 2 / 256 ^ i)) : (B5 M i).set i v = B5 M (i + 1) := by
  have hl : (leb 32 (M / 2)).length = 32 := Ah _ _
  have hl2 : (leb 32 M).length = 32 := Ah _ _
  have e : (leb 32 (M / 2)).take (i + 1) = (leb 32 (M / 2)).take i ++ [v] := by
    have e3 : (leb 32 (M / 2))[i]'oM = v := by
      have := leb_get 32 (M / 2) i h
      rw [List.getElem?_eq_getElem oM] at this
      rw [hv]
      exact Option.some.inj this
    rw [← e3]
    exact List.take_succ_eq_append_getElem oM
  have e2 : (leb 32 M).drop i = (leb 32 M)[i]'oM :: (leb 32 M).drop (i + 1) := List.drop_eq_getElem_cons oM
  rw [B5, B5, e, e2, List.set_append_right _ _ (by rw [List.length_take, hl]; omega), List.length_take, hl, show i - min i 32 = 0 by omega, List.set_cons_zero, List.append_assoc]
  rfl
theorem half_odd (M : Nat) {i : Nat} (h : i < 31) (hb : (((B5 M i).set i (UInt8.ofNat (((B5 M i).getD i 0).toNat / 2))).getD (i + 1) 0).toNat % 2 = 1) :
    ((B5 M i).set i (UInt8.ofNat (((B5 M i).getD i 0).toNat / 2))).set i (((B5 M i).set i (UInt8.ofNat (((B5 M i).getD i 0).toNat / 2))).getD i 0 + 128) = B5 M (i + 1) := by
  have hl := halfAt_length M i oM
  have g1 : ((B5 M i).set i (UInt8.ofNat (((B5 M i).getD i 0).toNat / 2))).getD i 0 = UInt8.ofNat (((B5 M i).getD i 0).toNat / 2) := by
    rw [List.getD_eq_getElem?_getD, List.getElem?_set_self oM]; rfl
  have g2 : ((B5 M i).set i (UInt8.ofNat (((B5 M i).getD i 0).toNat / 2))).getD (i + 1) 0 = UInt8.ofNat (M / 256 ^ (i + 1)) := by
    rw [List.getD_eq_getElem?_getD, List.getElem?_set_ne oM, ← List.getD_eq_getElem?_getD, halfAt_get M oM oM]
  rw [g2, UInt8.toNat_ofNat'] at hb
  rw [g1, List.set_set]
  refine halfAt_next M oM _ ?_
  rw [halfAt_get M (Nat.le_refl _) oM, show (128 : UInt8) = UInt8.ofNat 128 from rfl, ← UInt8.ofNat_add, UInt8.toNat_ofNat']
  apply ofNat8
  have := half_byte M i
  omega
theorem half_even (M : Nat) {i : Nat} (h : i < 31) (hb : ¬ (((B5 M i).set i (UInt8.ofNat (((B5 M i).getD i 0).toNat / 2))).getD (i + 1) 0).toNat % 2 = 1) :
    (B5 M i).set i (UInt8.ofNat (((B5 M i).getD i 0).toNat / 2)) = B5 M (i + 1) := by
  have hl := halfAt_length M i oM
  have g2 : ((B5 M i).set i (UInt8.ofNat (((B5 M i).getD i 0).toNat / 2))).getD (i + 1) 0 = UInt8.ofNat (M / 256 ^ (i + 1)) := by
    rw [List.getD_eq_getElem?_getD, List.getElem?_set_ne oM, ← List.getD_eq_getElem?_getD, halfAt_get M oM oM]
  rw [g2, UInt8.toNat_ofNat'] at hb
  refine halfAt_next M oM _ ?_
  rw [halfAt_get M (Nat.le_refl _) oM, UInt8.toNat_ofNat']
  apply ofNat8
  have := half_byte M i
  omega
theorem half_last (M : Nat) (hM : M < 2 ^ 256) : (B5 M 31).set 31 (UInt8.ofNat (((B5 M 31).getD 31 0).toNat / 2)) = B5 M 32 := by
  refine halfAt_next M oM _ ?_
  rw [halfAt_get M (Nat.le_refl _) oM, UInt8.toNat_ofNat']
  apply ofNat8
  have := half_byte M 31
  have h2 : M / 256 ^ (31 + 1) = 0 := Nat.div_eq_of_lt (Nat.lt_of_lt_of_le hM dE)
  omega
theorem ones_leb (f l : UInt8) : leb 32 (le (onesB f l)) = onesB f l := by
  have := leb_le (onesB f l)
  rwa [onesB_length] at this
def expT (n k : Nat) : List UInt8 := leb 32 (le (onesB (UInt8.ofNat (237 - n)) 127) / 2 ^ k)
theorem expT_length (n k : Nat) : (expT n k).length = 32 := Ah _ _
theorem expT_inv : le (expT 2 0) = PF - 2 := by kernel_rfl
theorem expT_root : le (expT 5 3) = (PF - 5) / 8 := by kernel_rfl
theorem expT_unit : le (expT 1 2) = (PF - 1) / 4 := by kernel_rfl
theorem root_step (X : Fp) : Ci X ((PF - 5) / 8) * X = Ci X ((PF + 3) / 8) := by
  rw [← fpow_succ dE]
  rfl
end Ed
end

section
namespace Go.Proofs.YtfcbgdkpagcbbaaGreat
open Go Hw
set_option maxRecDepth 100000
structure far where
  fX : List Nat
  fY : List Nat
  fZ : List Nat
def far.cells (x : far) : List Value := Bg x.fX ++ (Bg x.fY ++ (Bg x.fZ))
structure far.ok (x : far) : Prop where
  l_fX : x.fX.length = 10
  l_fY : x.fY.length = 10
  l_fZ : x.fZ.length = 10
theorem far.length {x : far} (h : x.ok) : x.cells.length = 30 := by simp [far.cells, Aa, Bg, Bu, h.l_fX, h.l_fY, h.l_fZ]
theorem far.isCell {x : far} (h : x.ok) : ∀ u ∈ x.cells, isCell u = true := by
  intro u hu
  simp only [far.cells, List.mem_append, List.mem_singleton, Aa, Bg, Bu, List.mem_map] at hu
  rcases hu with ⟨_, _, rfl⟩ | ⟨_, _, rfl⟩ | ⟨_, _, rfl⟩ <;> rfl
theorem far.row_fX {x : far} (h : x.ok) : (x.cells.drop 0).take 10 = Bg x.fX := by simp [far.cells, Aa, Bg, Bu, h.l_fX, h.l_fY, h.l_fZ, List.drop_append, List.take_append, List.drop_of_length_le, List.take_of_length_le]
theorem far.rl_fX {x : far} (h : x.ok) : (Bg x.fX).length = 10 := by simp [Aa, Bg, Bu, h.l_fX]
theorem far.row_fY {x : far} (h : x.ok) : (x.cells.drop 10).take 10 = Bg x.fY := by simp [far.cells, Aa, Bg, Bu, h.l_fX, h.l_fY, h.l_fZ, List.drop_append, List.take_append, List.drop_of_length_le, List.take_of_length_le]
theorem far.rl_fY {x : far} (h : x.ok) : (Bg x.fY).length = 10 := by simp [Aa, Bg, Bu, h.l_fY]
theorem far.row_fZ {x : far} (h : x.ok) : (x.cells.drop 20).take 10 = Bg x.fZ := by simp [far.cells, Aa, Bg, Bu, h.l_fX, h.l_fY, h.l_fZ, List.drop_append, List.take_append, List.drop_of_length_le, List.take_of_length_le]
theorem far.rl_fZ {x : far} (h : x.ok) : (Bg x.fZ).length = 10 := by simp [Aa, Bg, Bu, h.l_fZ]
def far.zero : far := ⟨List.replicate 10 0, List.replicate 10 0, List.replicate 10 0⟩
theorem far.zero_ok : far.zero.ok := by constructor <;> simp [far.zero]
theorem far.zr : Zr Tryz.prog 228 (agg far.zero.cells) := by unfold Zr; kernel_rfl
end Go.Proofs.YtfcbgdkpagcbbaaGreat
end

section
namespace Hw
open Go
set_option maxRecDepth 100000

def ev : List Nat → Nat
  | [] => 0
  | x :: l => x + 256 * ev l
def addC (l : List Nat) (k v : Nat) : List Nat := l.set k (l.getD k 0 + v)
theorem addC_length (l : List Nat) (k v : Nat) : (addC l k v).length = l.length := by simp [addC]
theorem ev_addC : ∀ (l : List Nat) (k v : Nat), k < l.length → ev (addC l k v) = ev l + v * 256 ^ k
  | [], _, _, h => by simp at h
  | x :: l, 0, v, _ => by simp [addC, ev]; omega
  | x :: l, k + 1, v, h => by
    have := ev_addC l k v (by simpa using h)
    simp only [addC, List.set_cons_succ, List.getD_cons_succ, ev] at this ⊢
    rw [this, Nat.pow_succ, Nat.mul_add, Nat.add_assoc, ← Nat.mul_assoc v, Nat.mul_comm (v * 256 ^ k) 256]
def inn (a b : List UInt8) (i : Nat) (l : List Nat) : Nat → List Nat
  | 0 => l
  | q + 1 => addC (inn a b i l q) (i + q) ((a.getD i 0).toNat * (b.getD q 0).toNat)
theorem inn_length (a b : List UInt8) (i : Nat) (l : List Nat) : ∀ q, (inn a b i l q).length = l.length
  | 0 => rfl
  | q + 1 => by rw [inn, addC_length, inn_length a b i l q]
def out (a b : List UInt8) : Nat → List Nat
  | 0 => List.replicate 64 0
  | p + 1 => inn a b p (out a b p) 32
theorem out_length (a b : List UInt8) : ∀ p, (out a b p).length = 64
  | 0 => by simp [out]
  | p + 1 => by rw [out, inn_length, out_length a b p]
theorem ev_inn (a b : List UInt8) (i : Nat) (l : List Nat) (hb : b.length = 32) (hi : i < 32) (hl : l.length = 64) : ∀ q, q ≤ 32 → ev (inn a b i l q) = ev l + (a.getD i 0).toNat * 256 ^ i * le (b.take q)
  | 0, _ => by simp [inn, le]
  | q + 1, h => by
    rw [inn, ev_addC _ _ _ (by rw [inn_length]; omega), ev_inn a b i l hb hi hl q oM, le_take_succ b q oM, Nat.mul_add, Nat.add_assoc, Nat.pow_add]
    congr 2
    rw [Nat.mul_assoc, Nat.mul_assoc, Nat.mul_comm (b.getD q 0).toNat, Nat.mul_assoc]
theorem ev_zeros : ∀ k, ev (List.replicate k 0) = 0
  | 0 => rfl
  | k + 1 => by simp [List.replicate, ev, ev_zeros k]
theorem ev_out (a b : List UInt8) (ha : a.length = 32) (hb : b.length = 32) : ∀ p, p ≤ 32 → ev (out a b p) = le (a.take p) * le b
  | 0, _ => by rw [out, ev_zeros, List.take_zero, le, Nat.zero_mul]
  | p + 1, h => by
    rw [out, ev_inn a b p _ hb oM (out_length a b p) 32 oM, ev_out a b ha hb p oM, le_take_succ a p oM, List.take_of_length_le (l := b) oM, Nat.add_mul, Nat.mul_comm (256 ^ p)]
theorem addC_le (l : List Nat) (k v M N : Nat) (h : ∀ j, l.getD j 0 ≤ M) (hv : v ≤ N) : ∀ j, (addC l k v).getD j 0 ≤ M + N := fun j => by
  have hj := h j
  have hk := h k
  simp only [addC, List.getD_eq_getElem?_getD, List.getElem?_set] at *
  by_cases e : k = j
  · subst e
    rw [if_pos rfl]
    split
    · simp only [Option.getD_some]; omega
    · simp
  · rw [if_neg e]; omega
theorem inn_le' (a b : List UInt8) (i : Nat) (l : List Nat) (M K : Nat) (hK : K = 255 * 255) (h : ∀ j, l.getD j 0 ≤ M) : ∀ q j, (inn a b i l q).getD j 0 ≤ M + K * q
  | 0, j => by simpa [inn] using h j
  | q + 1, j => by
    have hx := (a.getD i 0).toNat_lt
    have hy := (b.getD q 0).toNat_lt
    have hm : (a.getD i 0).toNat * (b.getD q 0).toNat ≤ K := by rw [hK]; exact Nat.mul_le_mul oM oM
    have := addC_le _ (i + q) _ _ _ (inn_le' a b i l M K hK h q) hm j
    rw [inn, Nat.mul_add, Nat.mul_one, ← Nat.add_assoc]
    exact this
theorem inn_le (a b : List UInt8) (i : Nat) (l : List Nat) (M : Nat) (h : ∀ j, l.getD j 0 ≤ M) (q j : Nat) : (inn a b i l q).getD j 0 ≤ M + 65025 * q := inn_le' a b i l M 65025 rfl h q j
theorem out_le' (a b : List UInt8) (K : Nat) (hK : K = 65025 * 32) : ∀ p j, (out a b p).getD j 0 ≤ K * p
  | 0, j => by
    rw [out, List.getD_eq_getElem?_getD, List.getElem?_replicate]
    split
    · rw [Option.getD_some]; exact Nat.zero_le _
    · rw [Option.getD_none]; exact Nat.zero_le _
  | p + 1, j => by
    have := inn_le a b p (out a b p) _ (out_le' a b K hK p) 32 j
    rw [out, Nat.mul_add, Nat.mul_one]
    rw [← hK] at this
    exact this
theorem out_le (a b : List UInt8) (p j : Nat) : (out a b p).getD j 0 ≤ 2080800 * p := out_le' a b 2080800 rfl p j
theorem ev_take_succ : ∀ (l : List Nat) (k : Nat), k < l.length → ev (l.take (k + 1)) = ev (l.take k) + 256 ^ k * l.getD k 0
  | [], _, h => by simp at h
  | x :: l, 0, _ => by simp [ev]
  | x :: l, k + 1, h => by
    have := ev_take_succ l k (by simpa using h)
    simp only [List.take_succ_cons, ev, List.getD_cons_succ] at this ⊢
    rw [this, Nat.mul_add, Nat.pow_succ, Nat.add_assoc, Nat.mul_comm (256 ^ k) 256, Nat.mul_assoc]
theorem ev_take_le (l : List Nat) (M : Nat) (h : ∀ j, l.getD j 0 ≤ M) : ∀ k, ev (l.take k) / 256 ^ k ≤ M
  | 0 => by simp [ev]
  | k + 1 => by
    rcases Nat.lt_or_ge k l.length with hk | hk
    · rw [ev_take_succ l k hk, Nat.pow_succ, ← Nat.div_div_eq_div_mul, Nat.add_mul_div_left _ _ (Nat.pow_pos dE)]
      have h1 := ev_take_le l M h k
      have h2 := h k
      omega
    · have h1 := ev_take_le l M h k
      rw [List.take_of_length_le oM, Nat.pow_succ, ← Nat.div_div_eq_div_mul]
      rw [List.take_of_length_le hk] at h1
      exact Nat.le_trans (Nat.div_le_self _ _) h1
def natsV (l : List Nat) : List Value := l.map fun (n : Nat) => i64 (n : Int)
theorem natsV_length (l : List Nat) : (natsV l).length = l.length := by simp [natsV]
theorem get_nats {l : List Nat} {o : Nat} (h : o < l.length) : (natsV l)[o]? = some (i64 ((l.getD o 0 : Nat) : Int)) := by
  simp [natsV, List.getElem?_map, List.getD, h]
theorem set_nats (l : List Nat) (o v : Nat) : (natsV l).set o (i64 (v : Int)) = natsV (l.set o v) := by simp [natsV, List.map_set]
theorem addC_set (l : List Nat) (k x y : Nat) : natsV (addC l k (x * y)) = (natsV l).set k (i64 (((l.getD k 0 : Nat) : Int) + (x : Int) * (y : Int))) := by
  rw [addC, ← set_nats, Int.natCast_add, Int.natCast_mul]
theorem natsV_zeros (n : Nat) : natsV (List.replicate n 0) = Bu (List.replicate n 0) := by simp [natsV, Bu]
theorem natCast_mul_le {x y : Nat} (hx : x < 256) (hy : y < 256) : (0 : Int) ≤ (x : Int) * (y : Int) ∧ (x : Int) * (y : Int) ≤ 65025 := by
  rw [← Int.natCast_mul]
  have : x * y ≤ 255 * 255 := Nat.mul_le_mul oM oM
  omega
theorem le512 {a b : List UInt8} (ha : a.length = 32) (hb : b.length = 32) : le a * le b < 256 ^ 64 := by
  have h1 := le_lt a
  have h2 := le_lt b
  rw [ha] at h1; rw [hb] at h2
  exact Nat.lt_of_lt_of_eq (Nat.mul_lt_mul'' h1 h2) (Nat.pow_add 256 32 32).symm
theorem ev_all (a b : List UInt8) (ha : a.length = 32) (hb : b.length = 32) : ev ((out a b 32).take 64) = le a * le b := by
  rw [List.take_of_length_le (by rw [out_length]; omega), ev_out a b ha hb 32 oM, List.take_of_length_le oM]
end Hw
end

section
namespace Hw
open Go

theorem or_one (x : Nat) : x ||| 1 = if x % 2 = 0 then x + 1 else x := by
  have h := Nat.or_mod_two_pow (a := x) (b := 1) (n := 1)
  have h2 := Nat.or_div_two_pow (a := x) (b := 1) (n := 1)
  simp only [Nat.pow_one] at h h2
  have e : x % 2 = 0 ∨ x % 2 = 1 := by omega
  have hm : (x ||| 1) % 2 = 1 := by
    rw [h]
    rcases e with e | e <;> rw [e] <;> rfl
  have hd : (x ||| 1) / 2 = x / 2 := by rw [h2]; simp
  split <;> omega
theorem or_one_lt {x k : Nat} (hk : 1 ≤ k) : (x ||| 1) < 2 ^ k ↔ x < 2 ^ k := by
  rw [or_one]
  have : 2 ^ k = 2 * 2 ^ (k - 1) := by rw [← Nat.pow_succ']; congr 1; omega
  split <;> omega
theorem szN_le {x s : Nat} (hs : 1 ≤ s) (h8 : s ≤ 8) : szN x ≤ s ↔ x < 2 ^ (7 * s) := by
  rw [← or_one_lt oM, ← bLen_le]
  unfold szN
  omega
theorem szN_hi {x : Nat} (hs : szN x ≤ 8) : x < 2 ^ (7 * szN x) := (szN_le (Cp x).1 hs).1 (Nat.le_refl _)

end Hw
end

section
namespace Hw
open Go Go.RowKit

structure RowE (s : Sl) (bl : List Blk) (cells : List Value) (n : Nat) : Prop where
  num : s.n = n
  cap : s.n ≤ s.c
  see : ∀ W, Lies bl W → SeesP W s.p cells
  nil : s.p = none → s.c = 0
section
variable {C : Cx} {ops : Array Oper} {rest : List (Nat × Oper)} {sl : List (Nat × Value)} {hp hp' : List Blk} {Q : St → Prop} {c d : Nat} {ty : TypeId} {pos : String} {af : Array Edge} {g : Option (Nat × Bool)}
theorem Tr.appendE {x y : Operand} {b m size by' c2 : Nat} {T tx E E2 : TypeId} {z : Value} {p : Option Addr} (news : List Value) (hg : Ai ops sl g = true) (hk : okG c d C.N = true)
    (hx : Ag sl x = some (.slice (some ⟨b, 0, none⟩) 0 0)) (hy : Ag sl y = some (.slice p m c2)) (hu : C.P.underlying T = some (.slice E)) (hut : C.P.underlying tx = some (.slice E2)) (hs : Sz C.P E size) (hz : Zr C.P E z) (hb : By C.P E by') (hzc : z.cells.size = size)
    (hsee : ∀ w, HRep C hp w → SeesP w p news) (hpn : p = none → m = 0) (hcell : ∀ u ∈ news, isCell u = true) (hbig : m ≤ 1000000) (hfit : m * by' ≤ 140737488355328) (hnl : news.length = m * size)
    (k : ∀ s bl, RowE s bl news m → Tr C ops rest ⟨(d, s.v) :: sl, bl ++ hp⟩ Q) :
    Tr C ops ((c, ⟨some d, .call { callee := .builtin .append, args := #[x, y], argTypes := #[T, tx] }, ty, pos, af, g⟩) :: rest) ⟨sl, hp⟩ Q := by
  simp only [okG, Bool.and_eq_true, Bool.or_eq_true] at hk
  have hrow : ∀ q cap', m ≤ cap' → RowE ⟨some ⟨q, 0, none⟩, m, cap'⟩ [⟨q, news, E, cap' * size⟩] news m := fun q cap' h => ⟨rfl, h, fun W hw => (Acc.some (E := E) h hnl).see hw, fun e => by cases e⟩
  refine Tr.grow (ρ := Sl × List Blk) (fun r => RowE r.1 r.2 news m) (fun r => r.1.v) (fun r => r.2) (hk.1.imp nbeq' nbeq') (Aw hg) (B0 (nblt hk.2))
    ⟨by simpa [Known, Op.operands, Call.operands] using known2 hx hy, fun l hl => ?_, fun a w hf hh => ?_⟩ (fun r hr => k r.1 r.2 hr)
  · obtain ⟨q, _, hq⟩ := fresh_is 0 l
    refine ⟨(⟨some ⟨q, 0, none⟩, m, m⟩, [⟨q, news, E, m * size⟩]), hrow q m (Nat.le_refl _), ?_⟩
    simp only [List.singleton_append, List.map_cons, List.nodup_cons]
    exact ⟨fun h => by obtain ⟨b, hb, e⟩ := List.mem_map.1 h; exact hq b hb e, hl⟩
  · have h1 := hf x (by simp [Op.operands, Call.operands]); rw [hx] at h1
    have h2 := hf y (by simp [Op.operands, Call.operands]); rw [hy] at h2
    simp only [Option.some.injEq] at h1 h2
    unfold Sz at hs; unfold Zr at hz; unfold By at hb
    cases hi : C.P.info? E with
    | none => rw [hi] at hs; simp at hs
    | some i =>
      rw [hi] at hs hz hb
      simp only [Option.map_some, Option.some.injEq, Option.bind_some] at hs hz hb
      subst hs
      have hS : Src C.P i.size tx (.slice p m c2) m news w := Src.ofP hut (hsee w hh) hpn hnl hcell
      unfold Oper.wp
      rcases Nat.eq_zero_or_pos m with rfl | hm
      · obtain rfl : news = [] := List.eq_nil_of_length_eq_zero (by rw [hnl]; simp)
        have hrun : (Builtin.append_ #[T, tx] ty #[.slice (some ⟨b, 0, none⟩) 0 0, .slice p 0 c2]).run C.P w = .ok (.slice (some ⟨b, 0, none⟩) 0 0) w := by
          rcases hS.kind with ⟨e', hk⟩ | hk <;> simp [Builtin.append_, run_underlying hu, run_underlying hk, Go.sizeOf, typeInfo, hi, hS.len, hS.cells, storeCells]
        have hex : (execOp a.eval ⟨some d, .call { callee := .builtin .append, args := #[x, y], argTypes := #[T, tx] }, ty, pos, af, g⟩).run C.P w = .ok (.value (.slice (some ⟨b, 0, none⟩) 0 0)) w := by
          simp [execOp, resolve, invoke, builtin, ← h1, ← h2, hrun]
        rw [hex]
        exact ⟨(⟨some ⟨b, 0, none⟩, 0, 0⟩, []), ⟨rfl, Nat.le_refl _, fun W _ => SeesP.nil, fun e => by cases e⟩, rfl, ⟨Keeps.refl _ _, by simp, by simp, by simp⟩⟩
      · have hold : (Builtin.firstCells i.size 0 (.slice (some ⟨b, 0, none⟩) 0 0)).run C.P w.drew = .ok ([] : List Value).toArray w.drew :=
          run_firstCells_some w.drew i.size 0 ⟨b, 0, none⟩ 0 0 [] sP (fun j u hj => by simp at hj)
        have hrun := run_append_grow_src (P := C.P) w T tx ty E i z hu hi hz (some ⟨b, 0, none⟩) 0 0 [] hold _ m news hS oM oM (growslice_fits oM (by rw [hb]; simpa using hfit))
        simp only [Nat.zero_add, List.nil_append] at hrun
        have hge := grownCap_ge w m 0 E
        have hex : (execOp a.eval ⟨some d, .call { callee := .builtin .append, args := #[x, y], argTypes := #[T, tx] }, ty, pos, af, g⟩).run C.P w = .ok (.value (.slice (some ⟨w.heap.size, 0, none⟩) m (grownCap w m 0 E))) (w.drew.alloc (.cells (news.toArray ++ Builtin.zeroCells z.cells (grownCap w m 0 E - m)) E)) := by
          simp [execOp, resolve, invoke, builtin, ← h1, ← h2, hrun]
        rw [hex]
        refine ⟨(⟨some ⟨w.heap.size, 0, none⟩, m, grownCap w m 0 E⟩, [⟨w.heap.size, news, E, grownCap w m 0 E * i.size⟩]), hrow _ _ hge, rfl, Ret.pushD _ _ _ _ ?_ sP⟩
        have e : grownCap w m 0 E * i.size = m * i.size + (grownCap w m 0 E - m) * i.size := by rw [← Nat.add_mul]; congr 1; omega
        simp [Builtin.zeroCells, hnl, hzc, e]
end
end Hw
end

section
namespace Go.Proofs.YtfcbgdkpagcbbaaGreat
open Go Go.Shelf
def sortD_ren : Go.Shelf.Ren := ⟨fun | 6 => 51 | 15 => 72 | 14 => 73 | 28 => 106 | 29 => 107 | 20 => 108 | 21 => 109 | 22 => 110 | 23 => 111 | 24 => 112 | 25 => 113 | 26 => 114 | 27 => 115 | 46 => 162 | 47 => 158 | 48 => 159 | 49 => 163 | 50 => 164 | 57 => 200 | n => n, fun | 22 => 26 | 24 => 25 | 25 => 58 | 3 => 3 | 39 => 112 | 0 => 0 | 53 => 145 | 55 => 24 | 4 => 4 | 46 => 138 | 45 => 137 | 50 => 142 | 5 => 5 | 9 => 9 | 66 => 190 | 70 => 194 | 76 => 220 | 77 => 221 | n => n, fun | n => n⟩
theorem sortD : SlLaysF0.n6 Tryz.prog sortD_ren := {
  mixed := by kernel_rfl
  f6 := ⟨Tryz.f51.name, by decide, Tryz.func51.trans (congrArg some Hw.zK)⟩
  f14 := ⟨Tryz.f73.name, by decide, Tryz.func73.trans (congrArg some Hw.zK)⟩
  f15 := Tryz.func72.trans (congrArg some Hw.zK)
  f20 := ⟨Tryz.f108.name, by decide, Tryz.func108.trans (congrArg some Hw.zK)⟩
  f21 := ⟨Tryz.f109.name, by decide, Tryz.func109.trans (congrArg some Hw.zK)⟩
  f22 := ⟨Tryz.f110.name, by decide, Tryz.func110.trans (congrArg some Hw.zK)⟩
  f23 := ⟨Tryz.f111.name, by decide, Tryz.func111.trans (congrArg some Hw.zK)⟩
  f24 := ⟨Tryz.f112.name, by decide, Tryz.func112.trans (congrArg some Hw.zK)⟩
  f25 := ⟨Tryz.f113.name, by decide, Tryz.func113.trans (congrArg some Hw.zK)⟩
  f26 := ⟨Tryz.f114.name, by decide, Tryz.func114.trans (congrArg some Hw.zK)⟩
  f27 := ⟨Tryz.f115.name, by decide, Tryz.func115.trans (congrArg some Hw.zK)⟩
  f28 := Tryz.func106.trans (congrArg some Hw.zK)
  f29 := Tryz.func107.trans (congrArg some Hw.zK)
  f46 := ⟨Tryz.f162.name, by decide, Tryz.func162.trans (congrArg some Hw.zK)⟩
  f47 := Tryz.func158.trans (congrArg some Hw.zK)
  f48 := Tryz.func159.trans (congrArg some Hw.zK)
  f49 := ⟨Tryz.f163.name, by decide, Tryz.func163.trans (congrArg some Hw.zK)⟩
  f50 := ⟨Tryz.f164.name, by decide, Tryz.func164.trans (congrArg some Hw.zK)⟩
  f57 := ⟨Tryz.f200.name, by decide, Tryz.func200.trans (congrArg some Hw.zK)⟩
  t0 := Tryz.underlying0
  a0 := Tryz.isAgg0
  z0 := Tryz.sizeOf0
  v0 := Tryz.zeroValue0
  t3 := Y3.h
  a3 := Tryz.isAgg3
  z3 := Tryz.sizeOf3
  v3 := Tryz.zeroValue3
  t4 := Tryz.underlying4
  a4 := Tryz.isAgg4
  z4 := Tryz.sizeOf4
  v4 := Tryz.zeroValue4
  t5 := Y5.h
  a5 := Tryz.isAgg5
  z5 := Tryz.sizeOf5
  v5 := Tryz.zeroValue5
  t9 := Tryz.underlying9
  a9 := Tryz.isAgg9
  z9 := Tryz.sizeOf9
  v9 := Tryz.zeroValue9
  t22 := Y26.h
  a22 := Tryz.isAgg26
  z22 := Tryz.sizeOf26
  v22 := Tryz.zeroValue26
  t25 := Tryz.underlying58
  a25 := Tryz.isAgg58
  z25 := Tryz.sizeOf58
  v25 := Tryz.zeroValue58
  t39 := Y112.h
  a39 := Tryz.isAgg112
  z39 := Tryz.sizeOf112
  v39 := Tryz.zeroValue112
  t45 := Tryz.underlying137
  a45 := Tryz.isAgg137
  z45 := Tryz.sizeOf137
  v45 := Tryz.zeroValue137
  t46 := Tryz.underlying138
  a46 := Tryz.isAgg138
  z46 := Tryz.sizeOf138
  v46 := Tryz.zeroValue138
  t50 := Tryz.underlying142
  a50 := Tryz.isAgg142
  z50 := Tryz.sizeOf142
  v50 := Tryz.zeroValue142
  t53 := Tryz.underlying145
  a53 := Tryz.isAgg145
  z53 := Tryz.sizeOf145
  v53 := Tryz.zeroValue145
  t55 := Y24.h
  a55 := Tryz.isAgg24
  z55 := Tryz.sizeOf24
  v55 := Tryz.zeroValue24
  t66 := Tryz.underlying190
  a66 := Tryz.isAgg190
  z66 := Tryz.sizeOf190
  v66 := Tryz.zeroValue190
  t70 := Tryz.underlying194
  a70 := Tryz.isAgg194
  z70 := Tryz.sizeOf194
  v70 := Tryz.zeroValue194
  t76 := Tryz.underlying220
  a76 := Tryz.isAgg220
  z76 := Tryz.sizeOf220
  v76 := Tryz.zeroValue220
  t77 := Tryz.underlying221
  a77 := Tryz.isAgg221
  z77 := Tryz.sizeOf221
  v77 := Tryz.zeroValue221 }

end Go.Proofs.YtfcbgdkpagcbbaaGreat
end

section
namespace Hw
open Go Go.RowKit

def jumpQ (l : Nat) (N : St → Prop) (Q : Exit → St → Prop) : Exit → St → Prop
  | .goto l', s => l' = l ∧ N s
  | e, s => Q e s
theorem jm_r {l : Nat} {N : St → Prop} {Q : Exit → St → Prop} {s : St} (h : Q .ret s) : jumpQ l N Q .ret s := h
theorem jm_g {l : Nat} {N : St → Prop} {Q : Exit → St → Prop} {s : St} (h : N s) : jumpQ l N Q (.goto l) s := ⟨rfl, h⟩
theorem least (p : Nat → Prop) (h : ∃ n, p n) : ∃ n, p n ∧ ∀ m, p m → n ≤ m := by
  obtain ⟨n, hn⟩ := h
  induction n using Nat.strongRecOn with
  | _ n ih =>
    by_cases h2 : ∃ m, m < n ∧ p m
    · obtain ⟨m, h3, h4⟩ := h2
      exact ih m h3 h4
    · exact ⟨n, hn, fun m hm => by rcases Nat.lt_or_ge m n with h3 | h3; exact absurd ⟨m, h3, hm⟩ h2; exact h3⟩
theorem Sat.again {C : Cx} {x rest : Code} {l : Nat} {s : St} {Q : Exit → St → Prop} {ι : Type} (S : ι → St) (I : ι → Prop) (μ : ι → Nat) (hf : findLabel x l = none)
    (h1 : Sat C x s (thenQ (fun s' => ∃ i, I i ∧ Weak s' (S i)) (jumpQ l (fun _ => False) Q)))
    (pass : ∀ i, I i → Sat C rest (S i) (jumpQ l (fun s' => ∃ j, I j ∧ μ j < μ i ∧ Weak s' (S j)) Q)) : Sat C (.scope (.seq x (.seq (.label l) rest))) s Q := by
  intro a w r
  have hfl : findLabel (.seq x (.seq (.label l) rest)) l = some (.seq .skip rest) := by simp [findLabel, hf]
  let J : Act → World → Prop := fun a w => ∃ i, I i ∧ Rep C (S i) a w
  let V : Act → World → Nat → Prop := fun a w n => ∃ i, I i ∧ Rep C (S i) a w ∧ μ i = n
  have hV : ∀ a w, ∃ n, (∃ n, V a w n) → V a w n ∧ ∀ m, V a w m → n ≤ m := fun a w => by
    by_cases h : ∃ n, V a w n
    · obtain ⟨n, h2, h3⟩ := least _ h
      exact ⟨n, fun _ => ⟨h2, h3⟩⟩
    · exact ⟨0, fun h2 => absurd h2 h⟩
  let M : Act → World → Nat := fun a w => Classical.choose (hV a w)
  have hM : ∀ a w, (∃ n, V a w n) → V a w (M a w) ∧ ∀ m, V a w m → M a w ≤ m := fun a w => Classical.choose_spec (hV a w)
  have hpass : ∀ i, I i → ∀ a w, Rep C (S i) a w → (Code.seq .skip rest).wp C.P (Exit.jump l (fun a' w' => ∃ j, I j ∧ μ j < μ i ∧ Rep C (S j) a' w') (fun e a' w' => ∃ s', Rep C s' a' w' ∧ Q e s')) a w := fun i hi a w r => by
    have h2 : Sat C (.seq .skip rest) (S i) (jumpQ l (fun s' => ∃ j, I j ∧ μ j < μ i ∧ Weak s' (S j)) Q) := Sat.seq (Sat.skip (pass i hi))
    refine wp_mono (h2 a w r) fun e a' w' ⟨s', r', q⟩ => ?_
    cases e with
    | goto l' =>
      obtain ⟨e1, j, hj, hlt, hw⟩ := q
      exact ⟨e1, j, hj, hlt, r'.weak hw⟩
    | _ => exact ⟨s', r', q⟩
  have up : ∀ {i : ι}, I i → ∀ {a w}, Rep C (S i) a w → M a w ≤ μ i := fun {i} hi {a w} r => (hM a w ⟨μ i, i, hi, r, rfl⟩).2 _ ⟨i, hi, r, rfl⟩
  refine wp_scope_jumps l J M hfl ?_ ?_
  · have h2 : Sat C (.seq x (.seq (.label l) rest)) s (jumpQ l (fun s' => ∃ j, I j ∧ Weak s' (S j)) Q) := by
      refine Sat.seq (Sat.mono h1 fun e s1 h => ?_)
      cases e with
      | normal =>
        obtain ⟨i, hi, hw⟩ := h
        refine Sat.weak hw (Sat.seq (Sat.label ?_))
        refine Sat.mono (pass i hi) fun e s2 h => ?_
        cases e with
        | goto l' => obtain ⟨e1, j, hj, _, hw⟩ := h; exact ⟨e1, j, hj, hw⟩
        | _ => exact h
      | goto l' => exact h.2.elim
      | _ => exact h
    refine wp_mono (h2 a w r) fun e a' w' ⟨s', r', q⟩ => ?_
    cases e with
    | goto l' =>
      obtain ⟨e1, j, hj, hw⟩ := q
      exact ⟨e1, j, hj, r'.weak hw⟩
    | _ => exact ⟨s', r', q⟩
  · rintro a w ⟨i0, hi0, r0⟩
    obtain ⟨⟨i, hi, r, em⟩, _⟩ := hM a w ⟨μ i0, i0, hi0, r0, rfl⟩
    refine wp_mono (hpass i hi a w r) fun e a' w' q => ?_
    cases e with
    | goto l' =>
      obtain ⟨e1, j, hj, hlt, rj⟩ := q
      exact ⟨e1, ⟨j, hj, rj⟩, by have := up hj rj; omega⟩
    | _ => exact q

def Lent (L : List Blk) (w : World) : Prop := Lies L w ∧ (L.map (·.n)).Nodup
theorem Lent.of {C : Cx} {hp L keep : List Blk} {w : World} (h : HRep C hp w) (hp1 : hp.Perm (L ++ keep)) : Lent L w := by
  refine ⟨fun b hb => h.cells b (hp1.symm.subset (List.mem_append_left _ hb)), ?_⟩
  have := (hp1.map (·.n)).nodup_iff.1 h.nodup
  rw [List.map_append, List.nodup_append] at this
  exact this.1
theorem Lent.rep {P : Program} {W : World} {N : Nat} {L : List Blk} (h : Lent L W) : HRep ⟨P, W, N, L.map (·.n), [], []⟩ L W :=
  ⟨h.1, h.2, fun b hb => .inr (List.mem_map.2 ⟨b, hb, rfl⟩), Keeps.refl _ _, fun _ h => (by cases h), fun _ _ _ h => (by cases h)⟩
def placeT {ν : Type} (n : Nat) (ev : ν → Value) : MTy (List UInt8 × UInt64) ν := ⟨fun k => agg (Aa k.1 ++ [u64 k.2]), ev, fun k => k.1.length = n⟩
theorem place_inj {a b : List UInt8 × UInt64} (h : agg (Aa a.1 ++ [u64 a.2]) = agg (Aa b.1 ++ [u64 b.2])) : a = b := by
  simp only [agg, Value.agg.injEq] at h
  have h1 : Aa a.1 ++ [u64 a.2] = Aa b.1 ++ [u64 b.2] := by simpa using congrArg Array.toList h
  have h2 := List.append_inj' h1 rfl
  have e1 := bytesV_inj2 h2.1
  have e2 : u64 a.2 = u64 b.2 := by simpa using h2.2
  simp only [u64, Value.int.injEq, true_and] at e2
  exact Prod.ext e1 (UInt64.toNat_inj.1 oM)
theorem keyLits_u64 {P : Program} {e : TypeId} (he : P.underlying e = some (.int .u64)) (D : Nat) (x : UInt64) : ∃ ls, P.keyLits (D + 1) e [u64 x] = some ls := by
  refine ⟨[.int .u64 (x.toNat : Int)], ?_⟩
  simp [Program.keyLits, he, u64, wf_u64]
theorem keyOf_place {P : Program} {k e : TypeId} {n : Nat} {fs : Array Field} {f1 f2 : Field} (hu : P.underlying k = some (.struct fs)) (hfs : fs.toList = [f1, f2]) (hb : fs.all (·.name != "_") = true) (o1 : f1.offset = 0) (o2 : f2.offset = n) (c1 : P.cellsOf f1.type = n) (c2 : P.cellsOf f2.type = 1) (ck : P.cellsOf k = n + 1)
    (A : WideMaps.ArrKey P f1.type e n) (he : P.underlying e = some (.int .u8)) (h2 : P.underlying f2.type = some (.int .u64)) (hkt : P.keyType k = true) (hsz : ∃ m, P.types.size = m + 2) {l : List UInt8} (hl : l.length = n) (x : UInt64) : ∃ r, keyOf P k (agg (Aa l ++ [u64 x])) = some r := by
  obtain ⟨m, hm⟩ := hsz
  have hlen : (Aa l).length = n := by rw [Aa, List.length_map, hl]
  obtain ⟨la, ha⟩ := keyLits_arr A he m hl
  obtain ⟨lb, hb2⟩ := keyLits_u64 h2 (m + 1) x
  have hk : ∃ ls, P.keyLits (m + 3) k (Aa l ++ [u64 x]) = some ls := by
    refine ⟨[la, lb].flatten, ?_⟩
    unfold Program.keyLits
    simp only [hu]
    rw [if_pos ⟨by rw [List.length_append, hlen, ck]; rfl, hb⟩, hfs]
    have e1 : ((Aa l ++ [u64 x]).drop f1.offset).take (P.cellsOf f1.type) = Aa l := by rw [o1, c1, List.drop_zero, List.take_append_of_le_length oM, List.take_of_length_le oM]
    have e2 : ((Aa l ++ [u64 x]).drop f2.offset).take (P.cellsOf f2.type) = [u64 x] := by rw [o2, c2, List.drop_append_of_le_length oM, List.drop_of_length_le oM]; rfl
    simp only [List.mapM_cons, List.mapM_nil, e1, e2, ha, hb2]
    rfl
  obtain ⟨ls, h⟩ := hk
  refine ⟨.string (keyBytes ls), ?_⟩
  unfold keyOf
  simp only [hu]
  rw [if_pos (by simp [hkt, Value.formed, hu, ck, hlen, agg]), hm]
  simp only [agg, Value.cells]
  exact congrArg (Option.map _) h
theorem placeT_ok {P : Program} {T k E : TypeId} {n : Nat} {ν : Type} (ev : ν → Value) {z : Value} (hu : P.underlying T = some (.map k E)) (hk : ∀ (l : List UInt8) (x : UInt64), l.length = n → ∃ r, keyOf P k (agg (Aa l ++ [u64 x])) = some r) (K : Maps.Keyed P k) (hz : ∀ w, (zeroValue E).run P w = .ok z w) :
    MOk P T k E (placeT n ev) z := ⟨hu, K, fun a ha => hk a.1 a.2 ha, fun a b _ _ h => place_inj h, hz⟩

theorem putAll_app : ∀ (a b : List Value) (c : Array Value) (k : Nat), B4 c k (a ++ b) = B4 (B4 c k a) (k + a.length) b := by
  intro a
  induction a with
  | nil => intro b c k; rfl
  | cons x a ih => intro b c k; rw [List.cons_append, B4, B4, ih, List.length_cons]; congr 1; omega
theorem run_build2 {P : Program} {T : TypeId} {f1 f2 : Field} {n m : Nat} {z ca cb : List Value} {a b : Value} (hz : Zr P T (agg z)) (hu : P.underlying T = some (.struct #[f1, f2])) (o1 : f1.offset = 0) (o2 : f2.offset = n) (s1 : Sz P f1.type n) (s2 : Sz P f2.type m) (hzl : z.length = n + m)
    (ha : a.cells.toList = ca) (hb : b.cells.toList = cb) (la : ca.length = n) (lb : cb.length = m) (w : World) : (Instr.build T #[(0, a), (1, b)]).run P w = .ok (agg (ca ++ cb)) w := by
  have r1 := Cg s1 w
  have r2 := Cg s2 w
  have na : a.cells.size = n := by rw [← Array.length_toList, ha, la]
  have nb : b.cells.size = m := by rw [← Array.length_toList, hb, lb]
  have f1' : ∀ (off : Nat) (v : Value) (cells : Array Value), (v.cells.zipIdx.foldl (fun cs (x : Value × Nat) => match x with | (c, j) => cs.setIfInBounds (off + j) c) cells) = B4 cells off v.cells.toList := fun off v cells => by
    rw [← Array.foldl_toList, Array.toList_zipIdx]
    exact fold_put off v.cells.toList 0 cells
  have hfill : Instr.fill (fun i => ([(0, n), (n, m)] : List (Nat × Nat))[i]?) z.toArray [(0, a), (1, b)] = some (ca ++ cb).toArray := by
    have e0 : ([(0, n), (n, m)] : List (Nat × Nat))[0]? = some (0, n) := rfl
    have e1 : ([(0, n), (n, m)] : List (Nat × Nat))[1]? = some (n, m) := rfl
    rw [Instr.fill]
    simp only [e0, na]
    rw [if_neg (by simp [hzl])]
    rw [Instr.fill]
    simp only [e1, nb]
    have hs : (Array.foldl (fun cs (x : Value × Nat) => match x with | (c, j) => cs.setIfInBounds (0 + j) c) z.toArray a.cells.zipIdx) = B4 z.toArray 0 ca := by rw [← ha]; exact f1' 0 a z.toArray
    rw [hs, if_neg (by simp [putAll_size, hzl])]
    rw [f1' n b, hb, Instr.fill]
    congr 1
    have h2 := putAll_app ca cb z.toArray 0
    rw [Nat.zero_add, la] at h2
    rw [← h2, putAll_all _ _ (by simp [la, lb, hzl])]
  unfold Zr at hz
  cases hi : P.info? T with
  | none => rw [hi] at hz; cases hz
  | some i =>
    rw [hi] at hz
    simp only [Option.bind_some] at hz
    simp only [Instr.build, Sem.run_bind, zeroValue, typeInfo, hi, hz, run_underlying hu, Result.andThen_ok]
    simp [r1, r2, o1, o2, agg, zeroValue, typeInfo, hi, hz, run_underlying hu]
    have hf2 : Instr.fill (fun x => ([(0, n), (n, m)] : List (Nat × Nat))[x]?) (Value.agg z.toArray).cells [(0, a), (1, b)] = some (ca ++ cb).toArray := hfill
    rw [hf2]
    simp [Sem.run]
section
variable {C : Cx} {ops : Array Oper} {rest : List (Nat × Oper)} {sl : List (Nat × Value)} {hp hp' : List Blk} {Q : St → Prop} {c d : Nat} {ty : TypeId} {pos : String} {af : Array Edge} {g : Option (Nat × Bool)} {x : Operand} {xT : TypeId}
theorem Tr.field1 {fs : Array Field} {f : Nat} {fd : Field} {td : TypeDesc} {cs : List Value} {v : Value} (hg : Ai ops sl g = true) (hk : okD c d C.N = true) (hx : Ag sl x = some (agg cs)) (hu : C.P.underlying xT = some (.struct fs)) (hf : fs[f]? = some fd) (hft : C.P.underlying fd.type = some td) (hp' : B3 td = true) (hr : cs[fd.offset]? = some v)
    (k : Tr C ops rest ⟨(d, v) :: sl, hp⟩ Q) : Tr C ops ((c, ⟨some d, .field xT x f, ty, pos, af, g⟩) :: rest) ⟨sl, hp⟩ Q :=
  .pv hg hk ⟨known1 hx, fun ρ hfi w => by
    have h1 := hfi x (by simp [Op.operands]); rw [hx] at h1
    simp only [Option.some.injEq] at h1
    have h2 := run_part1 (w := w) hft hp' hr
    simp [execOp, Instr.field, ← h1, run_underlying hu, hf, agg, asAgg, h2]⟩ k
end
theorem Sat.know {C : Cx} {code : Code} {s : St} {Q : Exit → St → Prop} {F : Prop} (hf : ∀ w, HRep C s.hp w → F) (k : F → Sat C code s Q) : Sat C code s Q := fun a w r => k (hf w r.rh) a w r
theorem wk_norm {sl : List (Nat × Value)} {hp hp2 : List Blk} {s' : St} (e : hp = hp2) (h : Weak ⟨sl, hp2⟩ s') : Weak ⟨sl, hp⟩ s' := by subst e; exact h
theorem sg_two {hp hp1 X Y R : List Blk} (h1 : hp.Perm (X ++ hp1)) (h2 : hp1.Perm (Y ++ R)) : hp.Perm ((X ++ Y) ++ R) := by
  rw [List.append_assoc]; exact h1.trans (List.Perm.append_left X h2)
theorem run_buildA {P : Program} {T E : TypeId} {n size : Nat} {z : List Value} (vals : List Value) (hz : Zr P T (agg z)) (hu : P.underlying T = some (.array n E)) (hs : Sz P E size) (hsz : ∀ v ∈ vals, v.cells.size = size) (hzl : z.length = vals.length * size) (w : World) :
    (Instr.build T ((vals.zipIdx 0).map fun p => (p.2, p.1)).toArray).run P w = .ok (agg (vals.map fun v => v.cells.toList).flatten) w := by
  have r1 := Cg hs w
  have hf := fill_seq size vals 0 z.toArray hsz (by simp [hzl])
  rw [Nat.zero_mul, putAll_all _ _ (by rw [flat_length vals hsz]; simp [hzl])] at hf
  unfold Zr at hz
  cases hi : P.info? T with
  | none => rw [hi] at hz; cases hz
  | some i =>
    rw [hi] at hz
    simp only [Option.bind_some] at hz
    simp [Instr.build, zeroValue, typeInfo, hi, hz, run_underlying hu, r1, agg]
    have hf2 : Instr.fill (fun i => some (i * size, size)) (Value.agg z.toArray).cells ((vals.zipIdx 0).map fun p => (p.2, p.1)) = some (vals.map fun v => v.cells.toList).flatten.toArray := hf
    rw [hf2]
    simp [Sem.run]
theorem perm_open {hp X A R h1 : List Blk} (h : hp.Perm (X ++ h1)) (k : X.Perm (A ++ R)) : hp.Perm (A ++ (R ++ h1)) := by
  rw [← List.append_assoc]; exact h.trans (List.Perm.append_right h1 k)
theorem pm_join {hp X A B h1 h3 l R : List Blk} (h : hp.Perm (A ++ h1)) (h2 : h1.Perm (B ++ h3)) (e : X.Perm (A ++ B)) (k : h3.Perm (l ++ R)) : hp.Perm ((X ++ l) ++ R) := by
  refine h.trans ((List.Perm.append_left A (h2.trans (List.Perm.append_left B k))).trans ?_)
  rw [← List.append_assoc, ← List.append_assoc]
  exact List.Perm.append_right R (List.Perm.append_right l e.symm)

section
variable {κ ν : Type} [DecidableEq κ] {T K E : TypeId} {t : MTy κ ν} {z : Value} {fs : List (κ × ν)}
variable {C : Cx} {ops : Array Oper} {rest : List (Nat × Oper)} {sl : List (Nat × Value)} {hp hp' : List Blk} {Q : St → Prop} {c d b : Nat} {ty : TypeId} {pos : String} {af : Array Edge} {g : Option (Nat × Bool)} {x y : Operand} {k : κ}
theorem Tr.lookF (evf : ν → Value) (M : MOk C.P T K E t z) (hg : Ai ops sl g = true) (hd : okL c d C.N = true) (hx : Ag sl x = some (.map (some b))) (hy : Ag sl y = some (t.ek k)) (hk : t.ok k) (hb : A0 b t fs ∈ hp)
    (k0 : Au fs k = none → Tr C ops rest ⟨(d, .tuple #[z, .bool false]) :: sl, hp⟩ Q) (k1 : ∀ v, Au fs k = some v → Tr C ops rest ⟨(d, .tuple #[evf v, .bool true]) :: sl, hp⟩ Q) (hev : ∀ v, t.ev v = evf v := by intro _; rfl) :
    Tr C ops ((c, ⟨some d, .lookup T x y true, ty, pos, af, g⟩) :: rest) ⟨sl, hp⟩ Q := by
  refine Tr.lookOk M hg hd hx hy hk hb ?_
  cases h : Au fs k with
  | none => exact k0 h
  | some v => have := k1 v h; rw [← hev v] at this; exact this
theorem Tr.lookG (evf : ν → Value) (M : MOk C.P T K E t z) (hg : Ai ops sl g = true) (hd : okL c d C.N = true) (hx : Ag sl x = some (.map (some b))) (hy : Ag sl y = some (t.ek k)) (hk : t.ok k) (hb : A0 b t fs ∈ hp)
    (k0 : Au fs k = none → Tr C ops rest ⟨(d, z) :: sl, hp⟩ Q) (k1 : ∀ v, Au fs k = some v → Tr C ops rest ⟨(d, evf v) :: sl, hp⟩ Q) (hev : ∀ v, t.ev v = evf v := by intro _; rfl) :
    Tr C ops ((c, ⟨some d, .lookup T x y false, ty, pos, af, g⟩) :: rest) ⟨sl, hp⟩ Q := by
  refine Tr.look1 M hg hd hx hy hk hb ?_
  cases h : Au fs k with
  | none => exact k0 h
  | some v => have := k1 v h; rw [← hev v] at this; exact this
theorem Tr.lookS {v : ν} (evf : ν → Value) (M : MOk C.P T K E t z) (hv : Au fs k = some v) (hg : Ai ops sl g = true) (hd : okL c d C.N = true) (hx : Ag sl x = some (.map (some b))) (hy : Ag sl y = some (t.ek k)) (hk : t.ok k) (hb : A0 b t fs ∈ hp)
    (k1 : Tr C ops rest ⟨(d, evf v) :: sl, hp⟩ Q) (hev : ∀ v, t.ev v = evf v := by intro _; rfl) : Tr C ops ((c, ⟨some d, .lookup T x y false, ty, pos, af, g⟩) :: rest) ⟨sl, hp⟩ Q := by
  refine Tr.look1 M hg hd hx hy hk hb ?_
  rw [hv]
  have := k1
  rw [← hev v] at this; exact this
theorem Tr.lookFC (evf : ν → Value) (M : MOk C.P T K E t z) (hb : BlkOk C.W0 (A0 b t fs)) (hbl : b ∉ C.lent) (hg : Ai ops sl g = true) (hd : okL c d C.N = true) (hx : Ag sl x = some (.map (some b))) (hy : Ag sl y = some (t.ek k)) (hk : t.ok k)
    (k0 : Au fs k = none → Tr C ops rest ⟨(d, .tuple #[z, .bool false]) :: sl, hp⟩ Q) (k1 : ∀ v, Au fs k = some v → Tr C ops rest ⟨(d, .tuple #[evf v, .bool true]) :: sl, hp⟩ Q) (hev : ∀ v, t.ev v = evf v := by intro _; rfl) :
    Tr C ops ((c, ⟨some d, .lookup T x y true, ty, pos, af, g⟩) :: rest) ⟨sl, hp⟩ Q := by
  refine Tr.lookOkC M hb hbl hg hd hx hy hk ?_
  cases h : Au fs k with
  | none => exact k0 h
  | some v => have := k1 v h; rw [← hev v] at this; exact this
end
end Hw
end

section
namespace Go.Proofs.YtfcbgdkpagcbbaaGreat
open Go Hw
set_option maxRecDepth 100000
structure DEnt where
  fBlock : Block
  fDepth : Int
def DEnt.cells (x : DEnt) : List Value := x.fBlock.cells ++ ([i64 x.fDepth])
structure DEnt.ok (x : DEnt) : Prop where
  o_fBlock : x.fBlock.ok
theorem DEnt.length {x : DEnt} (h : x.ok) : x.cells.length = 132 := by simp [DEnt.cells, Aa, Block.length h.o_fBlock]
theorem DEnt.isCell {x : DEnt} (h : x.ok) : ∀ u ∈ x.cells, isCell u = true := by
  intro u hu
  simp only [DEnt.cells, List.mem_append, List.mem_singleton, Aa, List.mem_map] at hu
  rcases hu with hu | rfl <;> first | rfl | exact Block.isCell h.o_fBlock u hu
theorem DEnt.row_fBlock {x : DEnt} (h : x.ok) : (x.cells.drop 0).take 131 = x.fBlock.cells := by simp [DEnt.cells, Aa, Block.length h.o_fBlock, List.drop_append, List.take_append, List.drop_of_length_le, List.take_of_length_le]
theorem DEnt.rl_fBlock {x : DEnt} (h : x.ok) : (x.fBlock.cells).length = 131 := by simp [Aa, Block.length h.o_fBlock]
theorem DEnt.see_fBlock {x : DEnt} (h : x.ok) : ∀ (j : Nat) (v : Value), (x.fBlock.cells)[j]? = some v → x.cells[0 + j]? = some v := fun j v hj => by
  rw [← DEnt.row_fBlock h, List.getElem?_take] at hj
  split at hj
  · rwa [List.getElem?_drop] at hj
  · cases hj
theorem DEnt.get_fDepth {x : DEnt} (h : x.ok) : x.cells[131]? = some (i64 x.fDepth) := by simp [DEnt.cells, Aa, Block.length h.o_fBlock, List.getElem?_append]
def DEnt.zero : DEnt := ⟨Block.zero, 0⟩
theorem DEnt.zero_ok : DEnt.zero.ok := by constructor <;> first | exact Block.zero_ok | simp [DEnt.zero]
theorem DEnt.zr : Zr Tryz.prog 79 (agg DEnt.zero.cells) := by unfold Zr; kernel_rfl
structure DPl where
  fWriter : List UInt8
  fSeq : UInt64
def DPl.cells (x : DPl) : List Value := Aa x.fWriter ++ ([u64 x.fSeq])
structure DPl.ok (x : DPl) : Prop where
  l_fWriter : x.fWriter.length = 32
theorem DPl.length {x : DPl} (h : x.ok) : x.cells.length = 33 := by simp [DPl.cells, Aa, h.l_fWriter]
theorem DPl.isCell {x : DPl} (h : x.ok) : ∀ u ∈ x.cells, isCell u = true := by
  intro u hu
  simp only [DPl.cells, List.mem_append, List.mem_singleton, Aa, List.mem_map] at hu
  rcases hu with ⟨_, _, rfl⟩ | rfl <;> first | rfl
theorem DPl.rl_fWriter {x : DPl} (h : x.ok) : (Aa x.fWriter).length = 32 := by simp [Aa, h.l_fWriter]
def DPl.zero : DPl := ⟨List.replicate 32 0, 0⟩
theorem DPl.zero_ok : DPl.zero.ok := by constructor <;> first | exact trivial | simp [DPl.zero]
theorem DPl.zr : Zr Tryz.prog 87 (agg DPl.zero.cells) := by unfold Zr; kernel_rfl
theorem DPl.eg : Tryz.prog.eqGuardType Tryz.prog.depth 87 = false := by kernel_rfl
end Go.Proofs.YtfcbgdkpagcbbaaGreat
end

section
namespace Hw
open Go
theorem HRep.trunc {C : Cx} {q m : Nat} {cs r : List Value} {E : TypeId} {hp : List Blk} {w : World} (h : HRep C (⟨q, cs ++ r, .ty E, m⟩ :: hp) w) : HRep C (⟨q, cs, .ty E, m⟩ :: hp) w := by
  refine h.swap rfl ?_
  obtain ⟨full, fr, k⟩ := h.cells _ List.mem_cons_self
  exact ⟨full, fr, k.heap, k.size, (List.prefix_append cs r).trans k.pre, k.free⟩
theorem Sat.trunc {C : Cx} {code : Code} {sl : List (Nat × Value)} {hp hp' : List Blk} {q m : Nat} {cs r : List Value} {E : TypeId} {Q : Exit → St → Prop} (hp1 : hp.Perm (⟨q, cs ++ r, .ty E, m⟩ :: hp')) (k : Sat C code ⟨sl, ⟨q, cs, .ty E, m⟩ :: hp'⟩ Q) : Sat C code ⟨sl, hp⟩ Q :=
  fun a w x => k a w ⟨x.rs, (x.rh.perm hp1).trunc⟩
theorem snoc_of {α : Type} {l : List α} (h : 0 < l.length) : ∃ a x, l = a ++ [x] := ⟨l.dropLast, l.getLast (List.length_pos_iff.1 h), (List.dropLast_concat_getLast _).symm⟩
section
variable {C : Cx} {ops : Array Oper} {rest : List (Nat × Oper)} {sl : List (Nat × Value)} {hp : List Blk} {Q : St → Prop} {c d : Nat} {ty : TypeId} {pos : String} {af : Array Edge} {g : Option (Nat × Bool)}
variable {x hi : Operand} {T E : TypeId} {kl : IntKind} {l : Int}
theorem Tr.sliceHiA {sz : Nat} (s : Sl) (j : Nat) (hg : Ai ops sl g = true) (hk : okD c d C.N = true) (hx : Ag sl x = some s.v) (hl : Ag sl hi = some (.int kl l)) (hj : l = j) (hjn : j ≤ s.c)
    (hu : C.P.underlying T = some (.slice E)) (hs : Sz C.P E sz)
    (k : Tr C ops rest ⟨(d, Sl.v ⟨s.p, j, s.c⟩) :: sl, hp⟩ Q) : Tr C ops ((c, ⟨some d, .slice T x none (some hi) none, ty, pos, af, g⟩) :: rest) ⟨sl, hp⟩ Q :=
  .pv hg hk ⟨by simpa [Known, Op.operands] using known2 hx hl, fun ρ hfi w => by
    have h1 := hfi x (by simp [Op.operands]); rw [hx] at h1
    have h2 := hfi hi (by simp [Op.operands]); rw [hl] at h2
    simp only [Option.some.injEq] at h1 h2
    subst hj
    obtain ⟨p, n, cap⟩ := s
    simp only [Sl.v] at h1 hjn ⊢
    by_cases e : cap = 0
    · subst e
      obtain rfl : j = 0 := by omega
      simp [execOp, Instr.sliceAt, Instr.slice, ← h1, ← h2, run_underlying hu, Instr.sliceBounds, Instr.sliceBound, asIntOf, Cg hs, Addr.add]
    · have e2 : (p.map fun a => a.add 0) = p := by cases p <;> simp [Addr.add]
      simp [execOp, Instr.sliceAt, Instr.slice, ← h1, ← h2, run_underlying hu, Instr.sliceBounds, Instr.sliceBound, asIntOf, Cg hs, e, hjn, e2]⟩ k
end
section
variable {κ ν : Type} [DecidableEq κ] {T K E : TypeId} {t : MTy κ ν} {fs : List (κ × ν)}
variable {C : Cx} {ops : Array Oper} {rest : List (Nat × Oper)} {sl : List (Nat × Value)} {hp hp' : List Blk} {Q : St → Prop} {c d b : Nat} {ty : TypeId} {pos : String} {af : Array Edge} {g : Option (Nat × Bool)} {x : Operand}
theorem Tr.look1C {z : Value} {k : κ} {y : Operand} (M : MOk C.P T K E t z) (hb : BlkOk C.W0 (A0 b t fs)) (hbl : b ∉ C.lent) (hg : Ai ops sl g = true) (hd : okL c d C.N = true) (hx : Ag sl x = some (.map (some b))) (hy : Ag sl y = some (t.ek k)) (hk : t.ok k)
    (kk : Tr C ops rest ⟨(d, ((Au fs k).map t.ev).getD z) :: sl, hp⟩ Q) : Tr C ops ((c, ⟨some d, .lookup T x y false, ty, pos, af, g⟩) :: rest) ⟨sl, hp⟩ Q :=
  .ld hg hd ⟨by simpa [Known, Op.operands] using known2 hx hy, fun ρ hf w hh => by
    have h1 := hf x (by simp [Op.operands]); rw [hx] at h1
    have h2 := hf y (by simp [Op.operands]); rw [hy] at h2
    simp only [Option.some.injEq] at h1 h2
    have := M.look (hb.of_heap (hh.keeps.block b hb.lt hbl)) hk false
    simp [execOp, ← h1, ← h2, this]⟩ kk
theorem Tr.lookSC {z : Value} {k : κ} {y : Operand} {v : ν} (M : MOk C.P T K E t z) (hb : BlkOk C.W0 (A0 b t fs)) (hbl : b ∉ C.lent) (hv : Au fs k = some v) (hg : Ai ops sl g = true) (hd : okL c d C.N = true) (hx : Ag sl x = some (.map (some b))) (hy : Ag sl y = some (t.ek k)) (hk : t.ok k)
    (kk : Tr C ops rest ⟨(d, t.ev v) :: sl, hp⟩ Q) : Tr C ops ((c, ⟨some d, .lookup T x y false, ty, pos, af, g⟩) :: rest) ⟨sl, hp⟩ Q := by
  refine Tr.look1C M hb hbl hg hd hx hy hk ?_
  rw [hv]; exact kk
end
section
variable {C : Cx} {ops : Array Oper} {rest : List (Nat × Oper)} {sl : List (Nat × Value)} {hp : List Blk} {Q : St → Prop} {c d b o : Nat} {T ty : TypeId} {td : TypeDesc} {pos : String} {af : Array Edge} {g : Option (Nat × Bool)} {x : Operand}
end
end Hw
end

section
namespace Hw
open Go Go.RowKit
class ST (P : Program) (T : TypeId) (n : outParam Nat) : Prop where h : Sz P T n
theorem sZ {P : Program} {T : TypeId} {n : Nat} [i : ST P T n] : Sz P T n := i.h
theorem oG {p : Prop} (h : p := by first | exact oK) : p := h
theorem gF {p : Prop} (h : p := by first | exact Block.get_fLinks oG | exact Block.get_fSeq oG | exact Block.get_fData oG | rfl | exact get_words (by first | omega | (simp; done) | (simp; omega)) | exact get_bytes (by first | omega | (simp; done) | (simp; omega)) | exact get_ints (by first | omega | (simp; done) | (simp; omega))) : p := h
theorem gL {p : Prop} (h : p := by first | exact Block.length oG | exact DEnt.length oG | exact Point.length oG | rfl | (simp; done) | assumption | (rw [Aa, List.length_map]; assumption)) : p := h
theorem gC {p : Prop} (h : p := by first | exact Block.isCell oG | exact DEnt.isCell oG | exact Point.isCell oG | exact Ax _ | (simp [isCell]; done)) : p := h
theorem gV {p : Prop} (h : p := by first | exact cv_u8_u64 _ | exact cv_u64_u8 _ | exact cv_u8_i64 _ | exact cv_i64_u64 _ | exact cv_i64_u8 _) : p := h
theorem sY {p : Prop} (h : p := by first | exact sZ | exact Go.Proofs.YtfcbgdkpagcbbaaGreat.Sz124 | exact Go.Proofs.YtfcbgdkpagcbbaaGreat.Sz24 | exact Go.Proofs.YtfcbgdkpagcbbaaGreat.Sz26 | exact Go.Proofs.YtfcbgdkpagcbbaaGreat.Sz31 | exact Go.Proofs.YtfcbgdkpagcbbaaGreat.Sz5 | exact Go.Proofs.YtfcbgdkpagcbbaaGreat.Sz71 | exact Go.Proofs.YtfcbgdkpagcbbaaGreat.Sz27 | exact Go.Proofs.YtfcbgdkpagcbbaaGreat.Sz225 | exact Go.Proofs.YtfcbgdkpagcbbaaGreat.Sz23 | exact Go.Proofs.YtfcbgdkpagcbbaaGreat.Sz69 | exact Go.Proofs.YtfcbgdkpagcbbaaGreat.Sz25 | exact Go.Proofs.YtfcbgdkpagcbbaaGreat.Sz205 | exact Go.Proofs.YtfcbgdkpagcbbaaGreat.Sz79 | exact Go.Proofs.YtfcbgdkpagcbbaaGreat.Sz29 | exact Go.Proofs.YtfcbgdkpagcbbaaGreat.Sz70 | exact Go.Proofs.YtfcbgdkpagcbbaaGreat.Sz127 | exact Go.Proofs.YtfcbgdkpagcbbaaGreat.Sz35 | exact Go.Proofs.YtfcbgdkpagcbbaaGreat.Sz72 | exact Go.Proofs.YtfcbgdkpagcbbaaGreat.Sz73 | exact Go.Proofs.YtfcbgdkpagcbbaaGreat.Sz3) : p := h
structure Kp (p : Prop) : Prop where o : p
theorem G1 {p q : Prop} (k : q) (h : Kp q → p := by intro k; (first | refine Tr.nil ?_ | with_reducible refine Cq ?_ | with_reducible refine at_x ?_ | with_reducible refine at_r ?_ | with_reducible refine bl_n ?_ | with_reducible refine bl_h ?_ | with_reducible refine bl_r ?_ | with_reducible refine en_n ?_ | with_reducible refine en_r ?_ | with_reducible refine Sat.seq ?_ | with_reducible refine Sat.region ?_ | with_reducible refine Sat.ret ?_ | with_reducible refine Sat.skip ?_ | with_reducible refine Sat.exit ?_ | with_reducible refine Sat.block ?_ | refine Tr.m rfl rfl rfl ?_ | refine Tr.a rfl rfl rfl ?_ | refine Tr.skp rfl rfl ?_ | refine Tr.fld rfl rfl rfl uY rfl sY dE _ rfl ?_ | refine Tr.load1 rfl rfl rfl uY rfl mM gF ?_ | refine Tr.pick rfl rfl rfl rfl rfl rfl ?_ | refine Tr.lenSl rfl rfl rfl uY ?_ | refine Tr.aI rfl rfl rfl rfl oM ?_ | refine Tr.sub_i64 rfl rfl rfl rfl oM ?_ | refine Tr.eX rfl rfl rfl rfl ?_ | refine Tr.nC rfl rfl rfl ?_ | refine Tr.conv rfl rfl rfl uY uY gV ?_ | refine Tr.lss rfl rfl rfl rfl rfl ?_ | refine Tr.gtr rfl rfl rfl rfl rfl ?_ | refine Tr.geq rfl rfl rfl rfl rfl ?_ | refine Tr.leq rfl rfl rfl rfl rfl ?_ | refine Tr.eqi rfl rfl rfl rfl rfl ?_ | refine Tr.nei rfl rfl rfl rfl rfl ?_ | refine Tr.not rfl rfl rfl ?_ | refine Tr.boxA rfl rfl ?_ | refine Tr.sliceArr rfl rfl rfl uY sZ ?_ | refine Tr.add_u64 rfl rfl rfl rfl ?_ | refine Tr.mul_u64 rfl rfl rfl rfl ?_ | refine Tr.and_u64 rfl rfl rfl rfl ?_ | refine Tr.or_u64 rfl rfl rfl rfl ?_ | refine Tr.xor_u64 rfl rfl rfl rfl ?_ | refine Tr.makeFunc rfl rfl rfl rfl ?_ | refine Tr.lA rfl rfl rfl uY rfl sZ mM gL ?_ | refine Tr.sA rfl rfl rfl rfl gC sZ gL mM gL uU ?_); exact k.o) : p := h ⟨k⟩
theorem G2 {p q : Prop} (k : q) (h : Kp q → p := by intro k; (iterate 2 (refine G1 ?_)); exact k.o) : p := h ⟨k⟩
theorem G3 {p q : Prop} (k : q) (h : Kp q → p := by intro k; (iterate 3 (refine G1 ?_)); exact k.o) : p := h ⟨k⟩
theorem G4 {p q : Prop} (k : q) (h : Kp q → p := by intro k; (iterate 4 (refine G1 ?_)); exact k.o) : p := h ⟨k⟩
theorem G5 {p q : Prop} (k : q) (h : Kp q → p := by intro k; (iterate 5 (refine G1 ?_)); exact k.o) : p := h ⟨k⟩
theorem G6 {p q : Prop} (k : q) (h : Kp q → p := by intro k; (iterate 6 (refine G1 ?_)); exact k.o) : p := h ⟨k⟩
theorem G7 {p q : Prop} (k : q) (h : Kp q → p := by intro k; (iterate 7 (refine G1 ?_)); exact k.o) : p := h ⟨k⟩
theorem G8 {p q : Prop} (k : q) (h : Kp q → p := by intro k; (iterate 8 (refine G1 ?_)); exact k.o) : p := h ⟨k⟩
theorem G9 {p q : Prop} (k : q) (h : Kp q → p := by intro k; (iterate 9 (refine G1 ?_)); exact k.o) : p := h ⟨k⟩
theorem G10 {p q : Prop} (k : q) (h : Kp q → p := by intro k; (iterate 10 (refine G1 ?_)); exact k.o) : p := h ⟨k⟩
theorem G11 {p q : Prop} (k : q) (h : Kp q → p := by intro k; (iterate 11 (refine G1 ?_)); exact k.o) : p := h ⟨k⟩
theorem G12 {p q : Prop} (k : q) (h : Kp q → p := by intro k; (iterate 12 (refine G1 ?_)); exact k.o) : p := h ⟨k⟩
theorem G13 {p q : Prop} (k : q) (h : Kp q → p := by intro k; (iterate 13 (refine G1 ?_)); exact k.o) : p := h ⟨k⟩
theorem G14 {p q : Prop} (k : q) (h : Kp q → p := by intro k; (iterate 14 (refine G1 ?_)); exact k.o) : p := h ⟨k⟩
theorem G15 {p q : Prop} (k : q) (h : Kp q → p := by intro k; (iterate 15 (refine G1 ?_)); exact k.o) : p := h ⟨k⟩
theorem G16 {p q : Prop} (k : q) (h : Kp q → p := by intro k; (iterate 16 (refine G1 ?_)); exact k.o) : p := h ⟨k⟩
theorem G17 {p q : Prop} (k : q) (h : Kp q → p := by intro k; (iterate 17 (refine G1 ?_)); exact k.o) : p := h ⟨k⟩
theorem G18 {p q : Prop} (k : q) (h : Kp q → p := by intro k; (iterate 18 (refine G1 ?_)); exact k.o) : p := h ⟨k⟩
theorem G19 {p q : Prop} (k : q) (h : Kp q → p := by intro k; (iterate 19 (refine G1 ?_)); exact k.o) : p := h ⟨k⟩
theorem G21 {p q : Prop} (k : q) (h : Kp q → p := by intro k; (iterate 21 (refine G1 ?_)); exact k.o) : p := h ⟨k⟩
theorem G22 {p q : Prop} (k : q) (h : Kp q → p := by intro k; (iterate 22 (refine G1 ?_)); exact k.o) : p := h ⟨k⟩
theorem G23 {p q : Prop} (k : q) (h : Kp q → p := by intro k; (iterate 23 (refine G1 ?_)); exact k.o) : p := h ⟨k⟩
theorem G24 {p q : Prop} (k : q) (h : Kp q → p := by intro k; (iterate 24 (refine G1 ?_)); exact k.o) : p := h ⟨k⟩
theorem G26 {p q : Prop} (k : q) (h : Kp q → p := by intro k; (iterate 26 (refine G1 ?_)); exact k.o) : p := h ⟨k⟩
theorem G31 {p q : Prop} (k : q) (h : Kp q → p := by intro k; (iterate 31 (refine G1 ?_)); exact k.o) : p := h ⟨k⟩
theorem G51 {p q : Prop} (k : q) (h : Kp q → p := by intro k; (iterate 51 (refine G1 ?_)); exact k.o) : p := h ⟨k⟩
end Hw
namespace Go.Proofs.YtfcbgdkpagcbbaaGreat
open Go Hw
instance : ST Tryz.prog 124 32 := ⟨Sz124⟩
instance : ST Tryz.prog 24 1 := ⟨Sz24⟩
instance : ST Tryz.prog 26 1 := ⟨Sz26⟩
instance : ST Tryz.prog 31 131 := ⟨Sz31⟩
instance : ST Tryz.prog 5 1 := ⟨Sz5⟩
instance : ST Tryz.prog 71 1 := ⟨Sz71⟩
instance : ST Tryz.prog 27 1 := ⟨Sz27⟩
instance : ST Tryz.prog 225 10 := ⟨Sz225⟩
instance : ST Tryz.prog 23 32 := ⟨Sz23⟩
instance : ST Tryz.prog 69 1 := ⟨Sz69⟩
instance : ST Tryz.prog 25 32 := ⟨Sz25⟩
instance : ST Tryz.prog 205 5 := ⟨Sz205⟩
instance : ST Tryz.prog 79 132 := ⟨Sz79⟩
instance : ST Tryz.prog 29 64 := ⟨Sz29⟩
instance : ST Tryz.prog 70 1 := ⟨Sz70⟩
instance : ST Tryz.prog 127 64 := ⟨Sz127⟩
instance : ST Tryz.prog 35 1 := ⟨Sz35⟩
instance : ST Tryz.prog 72 1 := ⟨Sz72⟩
instance : ST Tryz.prog 73 1 := ⟨Sz73⟩
instance : ST Tryz.prog 3 1 := ⟨Sz3⟩
end Go.Proofs.YtfcbgdkpagcbbaaGreat
end

section
namespace Go.Proofs.YtfcbgdkpagcbbaaGreat
open Go Hw

def CapM (W : World) (c b : Nat) : Prop := W.cell? ⟨c, 0, none⟩ = some (.map (some b))
theorem CapM.keep {C : Cx} {hp : List Blk} {w : World} {c b : Nat} (h : CapM C.W0 c b) (hc : c < C.W0.heap.size) (hl : c ∉ C.lent) (hh : HRep C hp w) : w.cell? ⟨c, 0, none⟩ = some (.map (some b)) := by
  have e := hh.keeps.block c hc hl
  unfold CapM at h
  unfold World.cell? at h ⊢
  rw [e]; exact h
def KeySeq (P : Program) (gf : Nat) (lb : Array Value) (keys : List (List UInt8)) (W : World) : Prop :=
  ∀ (σ : Type) (X : σ → List Blk) (vis : σ → List (List UInt8)) (s0 : σ) (names : List Nat) (l : Nat) (w1 : World), Keeps [] W w1 → (∀ n ∈ names, W.heap.size ≤ n) → vis s0 = [] → HRep ⟨P, w1, 0, names, [], []⟩ (X s0) w1 →
    (∀ s k, k.length = 32 → (vis s).length < keys.length → ∀ W2, HRep ⟨P, w1, 0, names, [], []⟩ (X s) W2 → YieldAt Fence.wide 0 P l #[agg (Aa k)] W2 fun e W3 => e = .returned (.bool true) ∧ ∃ s', vis s' = vis s ++ [k] ∧ Ret ((X s).map (·.n)) (X s') W2 W3) →
    CallsIn Fence.wide 0 P gf (#[.func (.yield l) #[] #[]] ++ lb) w1 fun e W' => (∃ v, e = .returned v) ∧ ∃ s, (vis s).Perm keys ∧ HRep ⟨P, w1, 0, names, [], []⟩ (X s) W'
theorem key_at {ν : Type} {ev : ν → Value} {fs todo : List (List UInt8 × ν)} {es : Array MapEntry} {clock : Nat} {seen seen2 : Array Nat} {j : Nat} {k : List UInt8} {v : ν} (F : MFit (As 32 ev) fs es clock) (hit : ItOk (As 32 ev) es seen2 (todo.eraseIdx j)) (hi : ItOk (As 32 ev) es seen todo) (hj : todo[j]? = some (k, v)) : k.length = 32 := by
  have h1 : ((agg (Aa k)), ev v) ∈ (leftOf es seen).toList.map (fun e => (e.key, e.val)) := by
    unfold ItOk at hi
    rw [hi]
    exact List.mem_map.2 ⟨(k, v), List.mem_of_getElem? hj, rfl⟩
  obtain ⟨e, he, ee⟩ := List.mem_map.1 h1
  simp only [Prod.mk.injEq] at ee
  have he2 : e ∈ es.toList := by simp only [leftOf, Array.toList_filter] at he; exact (List.mem_filter.1 he).1
  obtain ⟨i, hi2⟩ := List.getElem?_of_mem he2
  obtain ⟨p, hp, e1, _⟩ := F.at hi2
  have : agg (Aa p.1) = agg (Aa k) := e1.trans ee.1
  rw [← agg_bytes_inj this]
  exact F.ok p (List.mem_of_getElem? hp)
theorem vis_lt {ν : Type} {fs todo : List (List UInt8 × ν)} {vs : List (List UInt8)} {j : Nat} {x : List UInt8 × ν} (h : (vs ++ todo.map (·.1)).Perm (fs.map (·.1))) (hj : todo[j]? = some x) : vs.length < fs.length := by
  have h1 := h.length_eq
  have h2 := (List.getElem?_eq_some_iff.1 hj).1
  simp only [List.length_append, List.length_map] at h1
  omega
theorem perm_step {α : Type} {keys a todo : List α} {j : Nat} {x : α} (h : (a ++ todo).Perm keys) (hj : todo[j]? = some x) : ((a ++ [x]) ++ todo.eraseIdx j).Perm keys := by
  refine List.Perm.trans ?_ h
  rw [List.append_assoc]
  refine List.Perm.append_left a ?_
  obtain ⟨hl, he⟩ := List.getElem?_eq_some_iff.1 hj
  clear h hj
  induction todo generalizing j with
  | nil => cases hl
  | cons y todo ih =>
    cases j with
    | zero => simp only [List.getElem_cons_zero] at he; subst he; exact List.Perm.refl _
    | succ j =>
      simp only [List.getElem_cons_succ] at he
      rw [List.eraseIdx_cons_succ]
      exact (List.Perm.swap y x _).trans (List.Perm.cons y (ih (by simpa using hl) he))

theorem mk_keysB (b : Nat) : Meets Tryz.prog 67 [.map (some b)] [] (fun _ => True) (fun v out => ∃ c, v = .func (.func 95) #[] #[ptr c 0] ∧ out = [⟨c, [.map (some b)], 71, 1⟩]) := by
 intro W hW
 refine Ac Tryz.func67 J 4 Tryz.ntmps67 J (G2 ?_)
 refine .box1 J J J ?_
 intro n1 hn1 hf1
 refine G9 ?_
 -- ret
 refine G2 ?_
 refine Az (out := (⟨n1, [.map (some b)], 71, 1⟩ :: [])) (Al J J) (Ab rM Ak) ?_
 exact ⟨n1, rfl, rfl⟩

theorem keys_iterB {ν : Type} {ev : ν → Value} {z : Value} (M : MOk Tryz.prog 71 25 31 (As 32 ev) z) {σ : Type} (X : σ → List Blk) (vis : σ → List (List UInt8)) (s0 : σ) (names : List Nat) (l c b : Nat) (fs : List (List UInt8 × ν)) (es : Array MapEntry) (clock : Nat) (w1 : World) (F : MFit (As 32 ev) fs es clock) (hv0 : vis s0 = []) (hbn : b ∉ names) (hcn : c ∉ names) : Meets Tryz.prog 95 [.func (.yield l) #[] #[], ptr c 0] names (fun W => W = w1 ∧ HRep ⟨Tryz.prog, w1, 0, names, [], []⟩ (X s0) W ∧ W.heap[b]? = some (.map es clock) ∧ CapM W c b ∧ c < W.heap.size ∧ ∀ s k, k.length = 32 → (vis s).length < fs.length → ∀ W2, HRep ⟨Tryz.prog, w1, 0, names, [], []⟩ (X s) W2 → YieldAt Fence.wide 0 Tryz.prog l #[agg (Aa k)] W2 fun e W3 => e = .returned (.bool true) ∧ ∃ s', vis s' = vis s ++ [k] ∧ Ret ((X s).map (·.n)) (X s') W2 W3) (fun v out => v = .tuple #[] ∧ ∃ s, (vis s).Perm (fs.map (·.1)) ∧ out = X s) := by
  intro W hW
  obtain ⟨rfl, hW⟩ := hW
  obtain ⟨hH, hb, hcap, hclt, hY⟩ := hW
  have hW := And.intro hH trivial
  refine calls_of (hp0 := X s0) Tryz.func95 J 14 Tryz.ntmps95 J (HRep.reN hW.1) (G2 ?_)
  refine .loadAny J J J (v := .map (some b)) (fun w h => ?_) ?_
  · have hcc := hcap.keep (C := ⟨Tryz.prog, W, _, names, [], []⟩) hclt hcn h
    simp [loadVar, run_isAgg_plain Y71.h rfl, load, Sem.run, hcc]
  refine .rangeMapC Y71.h hb hbn J J J J ?_
  intro q
  refine G3 ?_
  refine .loop (ι := Array Nat × List (List UInt8 × ν) × σ) (fun p => ⟨[(0, .func (.yield l) #[] #[]), (1, ptr c 0), (5, ptr q 0)], (iblk q b clock p.1 :: (X p.2.2 ++ []))⟩) (fun p => ItOk (As 32 ev) es p.1 p.2.1 ∧ ((vis p.2.2) ++ (p.2.1.map (·.1))).Perm (fs.map (·.1))) (fun p => p.2.1.length) ((#[], fs, s0)) ?_ ?_ ?_
  · exact ⟨ItOk.start F, by rw [hv0]; exact List.Perm.refl _⟩
  · exact Ao (wk1 rfl (wk1 rfl (wk1 rfl wk0))) (Ab rM (Af (by repeat (exact sg_end)) Ak))
  rintro p ⟨hi, hpm⟩
  refine G2 ?_
  refine .nextMapC F hi hb hbn J J J J rM ?_ ?_
  ·
    intro htd
    refine G4 ?_
    refine .cond_f J J (G5 ?_)
    refine Az (out := (X p.2.2 ++ [])) (res_none J) (Af sG Ak) ?_
    rw [htd] at hpm; exact ⟨rfl, p.2.2, by simpa using hpm, List.append_nil _⟩
  intro j k v seen2 hj hit hat
  have hk32 : k.length = 32 := key_at F hit hi hj
  have hvl : (vis p.2.2).length < fs.length := vis_lt hpm hj
  refine G4 ?_
  refine .cond_t J J (G5 ?_)
  refine .entryMapC F hat hb hbn J J J Z0 ?_
  refine G1 ?_
  refine .alloc (cs := (Aa (List.replicate 32 0))) J Zr25 J ?_
  intro n3 hn3 hf3
  refine .sA J J J J zB Sz25 (by (rw [Aa, List.length_map]; assumption)) Z0 sP zU ?_
  refine G3 ?_
  refine .regionY 2 J zK (G1 ?_)
  refine .lA J J J Y25.h J Sz25 Z0 (by (rw [Aa, List.length_map]; assumption)) ?_
  refine .nil (yopR (S := fun s' => vis s' = vis p.2.2 ++ [k]) (hpF := X) J J J sG (fun w h => hY p.2.2 k hk32 hvl w h) ?_)
  intro s9 hs9
  refine G3 ?_
  refine .cond_f J J (G3 ?_)
  exact ⟨(seen2, p.2.1.eraseIdx j, s9), ⟨hit, by rw [hs9, ChangeMaps.map_eraseIdx]; exact perm_step hpm (by rw [List.getElem?_map, hj]; rfl)⟩, by have h8 := (List.getElem?_eq_some_iff.1 hj).1; simp only [List.length_eraseIdx, h8, if_true]; omega, Ao (wk1 rfl (wk1 rfl (wk1 rfl wk0))) (Ab rM (Af sG Ak))⟩
theorem mk_keysU (b : Nat) : Meets Tryz.prog 66 [.map (some b)] [] (fun _ => True) (fun v out => ∃ c, v = .func (.func 94) #[] #[ptr c 0] ∧ out = [⟨c, [.map (some b)], 70, 1⟩]) := by
 intro W hW
 refine Ac Tryz.func66 J 4 Tryz.ntmps66 J (G2 ?_)
 refine .box1 J J J ?_
 intro n1 hn1 hf1
 refine G9 ?_
 -- ret
 refine G2 ?_
 refine Az (out := (⟨n1, [.map (some b)], 70, 1⟩ :: [])) (Al J J) (Ab rM Ak) ?_
 exact ⟨n1, rfl, rfl⟩

theorem keys_iterU {ν : Type} {ev : ν → Value} {z : Value} (M : MOk Tryz.prog 70 25 82 (As 32 ev) z) {σ : Type} (X : σ → List Blk) (vis : σ → List (List UInt8)) (s0 : σ) (names : List Nat) (l c b : Nat) (fs : List (List UInt8 × ν)) (es : Array MapEntry) (clock : Nat) (w1 : World) (F : MFit (As 32 ev) fs es clock) (hv0 : vis s0 = []) (hbn : b ∉ names) (hcn : c ∉ names) : Meets Tryz.prog 94 [.func (.yield l) #[] #[], ptr c 0] names (fun W => W = w1 ∧ HRep ⟨Tryz.prog, w1, 0, names, [], []⟩ (X s0) W ∧ W.heap[b]? = some (.map es clock) ∧ CapM W c b ∧ c < W.heap.size ∧ ∀ s k, k.length = 32 → (vis s).length < fs.length → ∀ W2, HRep ⟨Tryz.prog, w1, 0, names, [], []⟩ (X s) W2 → YieldAt Fence.wide 0 Tryz.prog l #[agg (Aa k)] W2 fun e W3 => e = .returned (.bool true) ∧ ∃ s', vis s' = vis s ++ [k] ∧ Ret ((X s).map (·.n)) (X s') W2 W3) (fun v out => v = .tuple #[] ∧ ∃ s, (vis s).Perm (fs.map (·.1)) ∧ out = X s) := by
  intro W hW
  obtain ⟨rfl, hW⟩ := hW
  obtain ⟨hH, hb, hcap, hclt, hY⟩ := hW
  have hW := And.intro hH trivial
  refine calls_of (hp0 := X s0) Tryz.func94 J 14 Tryz.ntmps94 J (HRep.reN hW.1) (G2 ?_)
  refine .loadAny J J J (v := .map (some b)) (fun w h => ?_) ?_
  · have hcc := hcap.keep (C := ⟨Tryz.prog, W, _, names, [], []⟩) hclt hcn h
    simp [loadVar, run_isAgg_plain Y70.h rfl, load, Sem.run, hcc]
  refine .rangeMapC Y70.h hb hbn J J J J ?_
  intro q
  refine G3 ?_
  refine .loop (ι := Array Nat × List (List UInt8 × ν) × σ) (fun p => ⟨[(0, .func (.yield l) #[] #[]), (1, ptr c 0), (5, ptr q 0)], (iblk q b clock p.1 :: (X p.2.2 ++ []))⟩) (fun p => ItOk (As 32 ev) es p.1 p.2.1 ∧ ((vis p.2.2) ++ (p.2.1.map (·.1))).Perm (fs.map (·.1))) (fun p => p.2.1.length) ((#[], fs, s0)) ?_ ?_ ?_
  · exact ⟨ItOk.start F, by rw [hv0]; exact List.Perm.refl _⟩
  · exact Ao (wk1 rfl (wk1 rfl (wk1 rfl wk0))) (Ab rM (Af (by repeat (exact sg_end)) Ak))
  rintro p ⟨hi, hpm⟩
  refine G2 ?_
  refine .nextMapC F hi hb hbn J J J J rM ?_ ?_
  ·
    intro htd
    refine G4 ?_
    refine .cond_f J J (G5 ?_)
    refine Az (out := (X p.2.2 ++ [])) (res_none J) (Af sG Ak) ?_
    rw [htd] at hpm; exact ⟨rfl, p.2.2, by simpa using hpm, List.append_nil _⟩
  intro j k v seen2 hj hit hat
  have hk32 : k.length = 32 := key_at F hit hi hj
  have hvl : (vis p.2.2).length < fs.length := vis_lt hpm hj
  refine G4 ?_
  refine .cond_t J J (G5 ?_)
  refine .entryMapC F hat hb hbn J J J Z0 ?_
  refine G1 ?_
  refine .alloc (cs := (Aa (List.replicate 32 0))) J Zr25 J ?_
  intro n3 hn3 hf3
  refine .sA J J J J zB Sz25 (by (rw [Aa, List.length_map]; assumption)) Z0 sP zU ?_
  refine G3 ?_
  refine .regionY 2 J zK (G1 ?_)
  refine .lA J J J Y25.h J Sz25 Z0 (by (rw [Aa, List.length_map]; assumption)) ?_
  refine .nil (yopR (S := fun s' => vis s' = vis p.2.2 ++ [k]) (hpF := X) J J J sG (fun w h => hY p.2.2 k hk32 hvl w h) ?_)
  intro s9 hs9
  refine G3 ?_
  refine .cond_f J J (G3 ?_)
  exact ⟨(seen2, p.2.1.eraseIdx j, s9), ⟨hit, by rw [hs9, ChangeMaps.map_eraseIdx]; exact perm_step hpm (by rw [List.getElem?_map, hj]; rfl)⟩, by have h8 := (List.getElem?_eq_some_iff.1 hj).1; simp only [List.length_eraseIdx, h8, if_true]; omega, Ao (wk1 rfl (wk1 rfl (wk1 rfl wk0))) (Ab rM (Af sG Ak))⟩

def cmpI (a b : Int) : Int := if a < b then -1 else if b < a then 1 else 0
theorem bytealg_run {w : World} {p q : Option Addr} {n m c1 c2 : Nat} {a b : List UInt8} (ha : a.length = n) (hb : b.length = m) (h1 : SeesP w p (Aa a)) (h2 : SeesP w q (Aa b)) :
    (callFunc 97 [.slice p n c1, .slice q m c2].toArray).run Tryz.prog w = .ok (.value (i64 (cmpB a b))) w := by
  rw [run_callFunc_extern Tryz.func97 zK zK zK (e := Extern.BytealgCompare.compare) zK]
  rw [show [Value.slice p n c1, Value.slice q m c2].toArray = #[.slice p n c1, .slice q m c2] from rfl, run_compareB ha hb h1 h2]
  rfl

theorem bytes_cmp (p q : Option Addr) (c1 c2 n m : Nat) (a b : List UInt8) (ha : a.length = n) (hb : b.length = m) : Meets Tryz.prog 70 [.slice p n c1, .slice q m c2] [] (fun W => SeesP W p (Aa a) ∧ SeesP W q (Aa b)) (fun v out => v = i64 (cmpB a b) ∧ out = []) := by
 intro W hW
 refine Ac Tryz.func70 J 8 Tryz.ntmps70 J (G9 ?_)
 refine .extL J J J J (fun w h => bytealg_run ha hb (A6 h J hW.1) (A6 h J hW.2)) (G3 ?_)
 -- ret
 refine G2 ?_
 refine ⟨_, [], Al J J, sP, sP, ?_, rfl⟩
 rfl


def badAt (prev : List UInt8) (ls : List (List UInt8)) (i : Nat) : Bool := decide (ls.getD i [] = List.replicate 32 0) || (decide (ls.getD i [] = prev) || (decide ((0 : Int) < (i : Int)) && decide ((0 : Int) ≤ cmpB (ls.getD (i - 1) []) (ls.getD i []))))
def linksBad (prev : List UInt8) (ls : List (List UInt8)) : Bool := (List.range ls.length).any (badAt prev ls)
def bheadB (B : Block) : Bool := decide ((4294967295 : Int) < (B.fSeq.toNat : Int)) || (!decide (decide (B.fPrev = List.replicate 32 0) = decide ((B.fSeq.toNat : Int) = 0)) || (decide ((16 : Int) < (B.fLinks.n : Int)) || decide ((512 : Int) < (B.fData.n : Int))))
def bhead (B : Block) : Prop := bheadB B = true
theorem linksBad_at {prev : List UInt8} {ls : List (List UInt8)} {k : Nat} (hk : k < ls.length) (h : badAt prev ls k = true) : linksBad prev ls = true := by
  rw [linksBad, List.any_eq_true]; exact ⟨k, List.mem_range.2 hk, h⟩
theorem linksBad_not {prev : List UInt8} {ls : List (List UInt8)} (h : ∀ j, j < ls.length → badAt prev ls j = false) : linksBad prev ls = false := by
  rw [linksBad, List.any_eq_false]; intro x hx; rw [h x (List.mem_range.1 hx)]; simp
def bcheck (B : Block) (ls : List (List UInt8)) : Int := if bheadB B = true then 2 else (if linksBad B.fPrev ls = true then 2 else 0)
theorem bcheck_head {B : Block} {ls : List (List UInt8)} (h : bhead B) : bcheck B ls = 2 := by unfold bcheck; unfold bhead at h; rw [if_pos h]
theorem bcheck_bad {B : Block} {ls : List (List UInt8)} (h : ¬ bhead B) (hb : linksBad B.fPrev ls = true) : bcheck B ls = 2 := by unfold bcheck; unfold bhead at h; rw [if_neg h, if_pos hb]
theorem bcheck_ok {B : Block} {ls : List (List UInt8)} (h : ¬ bhead B) (hb : linksBad B.fPrev ls = false) : bcheck B ls = 0 := by unfold bcheck; unfold bhead at h; rw [if_neg h, if_neg (by rw [hb]; simp)]

theorem block_cmp (a b : List UInt8) (ha : a.length = 32) (hb : b.length = 32) : Meets Tryz.prog 47 [agg (Aa a), agg (Aa b)] [] (fun _ => True) (fun v out => v = i64 (cmpB a b) ∧ out = []) := by
 intro W hW
 refine Ac Tryz.func47 J 8 Tryz.ntmps47 J (G3 ?_)
 intro n2 hn2 hf2
 refine G1 ?_
 intro n3 hn3 hf3
 refine G4 ?_
 refine .draw [(0, 0), (0, 1), (3, 2), (0, 3)] Ap zK (G2 ?_)
 refine .cV J J J J Body70 (bytes_cmp _ _ _ _ _ _ a b ha hb) (fun W2 h => ⟨SeesP.of (Ar h Z1), SeesP.of (Ar h Z0)⟩) ?_
 refine G3 ?_
 -- ret
 refine G2 ?_
 refine ⟨_, [], Al J J, sP, sP, ?_, rfl⟩
 rfl

theorem block_check (B : Block) (hB : B.ok) (ls : List (List UInt8)) : Meets Tryz.prog 60 [agg B.cells] [] (fun W => RowsAt W B.fLinks 32 ls) (fun v out => v = i64 (bcheck B ls) ∧ out = []) := by
 intro W hW
 have hcx : B.fLinks.n ≤ maxLen := hW.max
 simp only [maxLen] at hcx
 have hcn := hW.cap
 refine Ac Tryz.func60 J 65 Tryz.ntmps60 J (G3 ?_)
 intro n1 hn1 hf1
 refine G5 ?_
 refine .build (cs := Aa (List.replicate 32 0)) J J J (fun w => by kernel_rfl) ?_
 refine .alloc (cs := (Aa (List.replicate 32 0))) J Zr25 J ?_
 intro n3 hn3 hf3
 refine .sA J J J J zB Sz25 sP Z0 sP zU ?_
 refine G4 ?_
 refine .draw [(0, 0), (1, 1), (0, 2), (0, 3), (0, 4), (1, 5), (1, 6), (0, 7), (0, 8), (1, 9), (0, 10), (0, 11), (0, 12), (0, 13), (0, 14), (1, 15), (0, 16), (0, 17), (0, 18), (0, 19), (0, 20), (1, 21), (0, 22), (0, 23), (0, 24)] Ap zK (G2 ?_)
 refine two (fun r hr k => Tr.gtr J J J J hr k) (fun hs2_20 => ?_) (fun hs2_20 => ?_)
 ·
  have hs2_2 := of_decide_eq_true hs2_20
  refine G24 ?_
  refine .cond_t J J (G5 ?_)
  -- ret
  refine G3 ?_
  refine ⟨_, [], Al J J, sP, sP, ?_, rfl⟩
  exact congrArg i64 (bcheck_head (by unfold bhead bheadB; simp_all)).symm
 have hs2_2 := of_decide_eq_false hs2_20
 refine G2 ?_
 refine .lN (Aa _) J J J Y25.h J Sz25 Z1 (Block.row_fPrev zA) (Block.rl_fPrev zA) ?_
 refine .lA J J J Y25.h J Sz25 Z0 sP ?_
 refine .eql_bytes J J J J Tryz.eqGuardType25 Y25.h Y5.h Sz5 (by (simp [hB.l_fPrev]; done)) sP J ?_
 refine G3 ?_
 refine two (fun r hr k => Tr.neb J J J J Tryz.underlying4 hr k) (fun hs2_110 => ?_) (fun hs2_110 => ?_)
 ·
  have hs2_11 := nd_t hs2_110
  refine G15 ?_
  refine .cond_t J J (G5 ?_)
  -- ret
  refine G3 ?_
  refine ⟨_, [], Al J J, sP, sP, ?_, rfl⟩
  exact congrArg i64 (bcheck_head (by unfold bhead bheadB; simp_all)).symm
 have hs2_11 := nd_f hs2_110
 refine G5 ?_
 refine two (fun r hr k => Tr.gtr J J J J hr k) (fun hs2_170 => ?_) (fun hs2_170 => ?_)
 ·
  have hs2_17 := of_decide_eq_true hs2_170
  refine G9 ?_
  refine .cond_t J J (G5 ?_)
  -- ret
  refine G3 ?_
  refine ⟨_, [], Al J J, sP, sP, ?_, rfl⟩
  exact congrArg i64 (bcheck_head (by unfold bhead bheadB; simp_all)).symm
 have hs2_17 := of_decide_eq_false hs2_170
 refine G9 ?_
 refine .condP J (fun hc0 => ?_) (fun hc0 => ?_)
 ·
  refine G5 ?_
  -- ret
  refine G3 ?_
  refine ⟨_, [], Al J J, sP, sP, ?_, rfl⟩
  exact congrArg i64 (bcheck_head (by unfold bhead bheadB; simp_all)).symm
 have hnb : ¬ bhead B := by unfold bhead bheadB; simp_all
 refine G12 ?_
 refine .loop (ι := Nat) (fun k => ⟨[(1, ptr n1 0), (3, ptr n3 0), (33, B.fLinks.v), (34, i64 (B.fLinks.n : Int)), (35, i64 (k : Int))], [⟨n3, Aa (List.replicate 32 0), 25, 32⟩, ⟨n1, B.cells, 31, B.cells.length⟩]⟩) (fun k => k ≤ B.fLinks.n ∧ ∀ j, j < k → badAt B.fPrev ls j = false) (fun k => B.fLinks.n - k) (0) ?_ ?_ ?_
 · exact ⟨by omega, fun j hj => by omega⟩
 · exact Ad (wk1 rfl (wk1 rfl (wk1 rfl (wk1 rfl (wk1 rfl wk0))))) (wh1 Z0 (wh1 Z1 wh0)) nD
 rintro k ⟨hk, hg⟩
 refine G6 ?_
 refine .condP J (fun hc1 => ?_) (fun hc1 => ?_)
 ·
  have hk2 : k < B.fLinks.n := by omega
  have hll := hW.len
  obtain ⟨b, o, hbp, hbs⟩ := hW.see.at (by rw [A7 hW.row]; omega)
  have hr0 : (ls.getD k []).length = 32 := getD_len hW.row oM
  have hr1 : (ls.getD (k - 1) []).length = 32 := getD_len hW.row oM
  refine G2 ?_
  refine .join (ι := Unit) (fun _u => ⟨[(1, ptr n1 0), (3, ptr n3 0), (33, B.fLinks.v), (34, i64 (B.fLinks.n : Int)), (35, i64 (k : Int))], [⟨n3, Aa (List.replicate 32 0), 25, 32⟩, ⟨n1, B.cells, 31, B.cells.length⟩]⟩) (fun _u => badAt B.fPrev ls k = false) ?_ ?_
  ·
   refine G4 ?_
   refine .idxSlP 32 J J J hbp J Y26.h Sz25 k J oM (.loadEN (Aa (ls.getD (k) [])) J J J Y25.h J Sz25 sP (by rw [Aa, List.length_map]; exact getD_len hW.row (by rw [hW.len]; omega)) (sees_row hW.row hbs (by rw [hW.len]; omega)) ?_)
   refine .alloc (cs := (Aa (List.replicate 32 0))) J Zr25 J ?_
   intro n5 hn5 hf5
   refine G1 ?_
   refine .sA J J J J zB Sz25 (by (rw [Aa, List.length_map]; assumption)) Z0 sP zU ?_
   refine G3 ?_
   refine .draw [(1, 0), (1, 1), (0, 2), (0, 3), (1, 4), (0, 5), (1, 6), (0, 7), (0, 8), (0, 9), (0, 10), (0, 11), (0, 12), (0, 13), (1, 14), (0, 15), (0, 16), (0, 17), (1, 18), (1, 19), (3, 20), (0, 21), (0, 22), (0, 23)] Ap zK (.lA J J J Y25.h J Sz25 Z0 (by (rw [Aa, List.length_map]; assumption)) ?_)
   refine .lA J J J Y25.h J Sz25 Z1 sP ?_
   refine two (fun r hr k => Tr.eql_bytes J J J J Tryz.eqGuardType25 Y25.h Y5.h Sz5 zA sP hr k) (fun hs7_20 => ?_) (fun hs7_20 => ?_)
   ·
    have hs7_2 := of_decide_eq_true hs7_20
    refine G23 ?_
    refine .cond_t J J (G5 ?_)
    -- ret
    refine G7 ?_
    refine ⟨_, [], Al J J, sP, sP, ?_, rfl⟩
    exact congrArg i64 (bcheck_bad hnb (linksBad_at (k := k) oM (by unfold badAt; simp_all))).symm
   have hs7_2 := of_decide_eq_false hs7_20
   refine G1 ?_
   refine .lA J J J Y25.h J Sz25 Z0 (by (rw [Aa, List.length_map]; assumption)) ?_
   refine G1 ?_
   refine .lN (Aa _) J J J Y25.h J Sz25 Z2 (Block.row_fPrev zA) (Block.rl_fPrev zA) ?_
   refine two (fun r hr k => Tr.eql_bytes J J J J Tryz.eqGuardType25 Y25.h Y5.h Sz5 zA (by (simp [hB.l_fPrev]; done)) hr k) (fun hs7_70 => ?_) (fun hs7_70 => ?_)
   ·
    have hs7_7 := of_decide_eq_true hs7_70
    refine G18 ?_
    refine .cond_t J J (G5 ?_)
    -- ret
    refine G7 ?_
    refine ⟨_, [], Al J J, sP, sP, ?_, rfl⟩
    exact congrArg i64 (bcheck_bad hnb (linksBad_at (k := k) oM (by unfold badAt; simp_all))).symm
   have hs7_7 := of_decide_eq_false hs7_70
   refine G3 ?_
   refine two (fun r hr k => Tr.gtr J J J J hr k) (fun hs7_110 => ?_) (fun hs7_110 => ?_)
   ·
    have hs7_11 := of_decide_eq_true hs7_110
    refine G5 ?_
    refine .idxSlP 32 J J J hbp J Y26.h Sz25 (k - 1) oM oM (.loadEN (Aa (ls.getD (k - 1) [])) J J J Y25.h J Sz25 sP (by rw [Aa, List.length_map]; exact getD_len hW.row (by rw [hW.len]; omega)) (sees_row hW.row hbs (by rw [hW.len]; omega)) ?_)
    refine .lA J J J Y25.h J Sz25 Z0 (by (rw [Aa, List.length_map]; assumption)) ?_
    refine .cV J J J J Body47 (block_cmp _ _ hr1 hr0) tV (G5 ?_)
    refine .condP J (fun hc2 => ?_) (fun hc2 => ?_)
    ·
     refine G5 ?_
     -- ret
     refine G7 ?_
     refine ⟨_, [], Al J J, sP, sP, ?_, rfl⟩
     exact congrArg i64 (bcheck_bad hnb (linksBad_at (k := k) oM (by unfold badAt; simp_all))).symm
    refine G3 ?_
    refine ⟨(), by unfold badAt; simp_all, Ad (wk1 J (wk1 J (wk1 J (wk1 J (wk1 J wk0))))) (wh1 Z1 (wh1 Z2 wh0)) nD⟩
   have hs7_11 := of_decide_eq_false hs7_110
   refine G14 ?_
   refine .cond_f J J (G3 ?_)
   refine ⟨(), by unfold badAt; simp_all, Ad (wk1 J (wk1 J (wk1 J (wk1 J (wk1 J wk0))))) (wh1 Z1 (wh1 Z2 wh0)) nD⟩
  intro _u hj
  have hgk := hj
  refine G5 ?_
  exact ⟨k + 1, ⟨by omega, fun j hj => by rcases Nat.lt_succ_iff_lt_or_eq.1 hj with h | rfl; exact hg j h; exact hgk⟩, by omega, Ad (wk1 rfl (wk1 rfl (wk1 rfl (wk1 rfl (wk1 rfl wk0))))) (wh1 Z0 (wh1 Z1 wh0)) nD⟩
 obtain rfl : k = B.fLinks.n := by omega
 refine G10 ?_
 -- ret
 refine G2 ?_
 refine ⟨_, [], Al J J, sP, sP, ?_, rfl⟩
 exact congrArg i64 (bcheck_ok hnb (linksBad_not (by rw [hW.len]; exact hg))).symm
theorem kit_names (s : Sl) (ls : List (List UInt8)) (hn : s.n ≤ 500000) : Meets Tryz.prog 54 [s.v] [] (fun W => RowsAt W s 32 ls) (fun v out => FreshRow v out (A1 ls) 25 s.n 32) := by
 intro W hW
 refine Ac Tryz.func54 J 6 Tryz.ntmps54 J (G7 ?_)
 refine .mkRow (z := agg (Aa (List.replicate 32 0))) [] ([]) J J J Y26.h Sz25 Zr25 J J (by intro v hv; cases hv) dE (rfl) ?_
 intro q0
 refine G1 ?_
 refine .appendSl (z := agg (Aa (List.replicate 32 0))) (by' := 32) (A1 ls) J J J J J Y26.h Y26.h Sz25 Zr25 (by unfold By; kernel_rfl) J (fun w h => A6 h J hW.see) (fun e => by have := hW.nil e; have := hW.cap; omega) (flatB_cell ls) A5 J J oM oM oM (by rw [A7 hW.row, hW.len]) ?_
 intro q1 c1 hq1
 refine G3 ?_
 -- ret
 refine G2 ?_
 refine ⟨_, [⟨q1, [] ++ A1 ls, 25, c1 * 32⟩], Al J J, (by intro b hb; rw [List.mem_singleton.1 hb]; exact Bx), nodup1, ⟨q1, c1, by rw [Nat.zero_add], by omega, rfl⟩⟩

theorem kit_own (s : Sl) (l : List UInt8) (hn : s.n ≤ 500000) : Meets Tryz.prog 55 [s.v] [] (fun W => BytesAt W s l) (fun v out => FreshRow v out (Aa l) 5 s.n 1) := by
 intro W hW
 refine Ac Tryz.func55 J 6 Tryz.ntmps55 J (G7 ?_)
 refine .mkRow (z := u8 0) [] ([]) J J J Y27.h Sz5 Zr5 J J (by intro v hv; cases hv) dE (rfl) ?_
 intro q0
 refine G1 ?_
 refine .appendSl (z := u8 0) (by' := 1) (Aa l) J J J J J Y27.h Y27.h Sz5 Zr5 (by unfold By; kernel_rfl) J (fun w h => A6 h J hW.see) (fun e => by have := hW.nil e; have := hW.cap; omega) (by simp [Aa, isCell, u8]) A5 J J oM oM oM (by rw [Aa, List.length_map, hW.len, Nat.mul_one]) ?_
 intro q1 c1 hq1
 refine G3 ?_
 -- ret
 refine G2 ?_
 refine ⟨_, [⟨q1, [] ++ Aa l, 5, c1 * 1⟩], Al J J, (by intro b hb; rw [List.mem_singleton.1 hb]; exact Bx), nodup1, ⟨q1, c1, by rw [Nat.zero_add], by omega, rfl⟩⟩

def ownB (B : Block) (q1 c1 q2 c2 : Nat) : Block := { B with fLinks := ⟨some ⟨q1, 0, none⟩, B.fLinks.n, c1⟩, fData := ⟨some ⟨q2, 0, none⟩, B.fData.n, c2⟩ }
theorem ownB_ok {B : Block} (h : B.ok) (q1 c1 q2 c2 : Nat) : (ownB B q1 c1 q2 c2).ok := ⟨h.l_fWriter, h.l_fPrev, h.l_fSig⟩
def OwnedBlock (B : Block) (ls : List (List UInt8)) (l : List UInt8) (v : Value) (out : List Blk) : Prop := ∃ q1 c1 q2 c2, v = agg (ownB B q1 c1 q2 c2).cells ∧ B.fLinks.n ≤ c1 ∧ B.fData.n ≤ c2 ∧ out = [⟨q2, Aa l, 5, c2 * 1⟩, ⟨q1, A1 ls, 25, c1 * 32⟩]
theorem rows_ext {C : Cx} {hp : List Blk} {w : World} {s : Sl} {m : Nat} {ls : List (List UInt8)} (h : HRep C hp w) (hl : C.lent = []) (hr : RowsAt C.W0 s m ls) : RowsAt w s m ls := ⟨hr.len, hr.row, hr.cap, A6 h hl hr.see, hr.max, hr.nil⟩
theorem bytes_ext {C : Cx} {hp : List Blk} {w : World} {s : Sl} {l : List UInt8} (h : HRep C hp w) (hl : C.lent = []) (hr : BytesAt C.W0 s l) : BytesAt w s l := ⟨hr.len, hr.cap, A6 h hl hr.see, hr.max, hr.nil⟩

theorem kit_own_block (B : Block) (hB : B.ok) (ls : List (List UInt8)) (l : List UInt8) (hn : B.fLinks.n ≤ 500000) (hd : B.fData.n ≤ 500000) : Meets Tryz.prog 24 [agg B.cells] [] (fun W => RowsAt W B.fLinks 32 ls ∧ BytesAt W B.fData l) (OwnedBlock B ls l) := by
 intro W hW
 refine Ac Tryz.func24 J 12 Tryz.ntmps24 J (G3 ?_)
 intro n1 hn1 hf1
 refine .alloc (cs := Block.zero.cells) J Block.zr J ?_
 intro n2 hn2 hf2
 refine G3 ?_
 refine .draw [(0, 0), (1, 1), (0, 3), (1, 4), (3, 2), (0, 6), (3, 5), (4, 7), (0, 8), (4, 9)] Ap zK (G4 ?_)
 refine .call J J J J Body54 (kit_names _ ls hn) (FreshRow.loose _ _ _ _) (fun w h => rows_ext h J hW.1) ?_
 rintro v1 out1 ⟨q1, c1, rfl, hc1, rfl⟩
 refine G1 ?_
 refine .call J J J J Body55 (kit_own _ l hd) (FreshRow.loose _ _ _ _) (fun w h => bytes_ext h J hW.2) ?_
 rintro v2 out2 ⟨q2, c2, rfl, hc2, rfl⟩
 refine .s1 J J J J J Sz26 Z3 (by rw [Block.length zA]; decide) (by exact Block.setS_fLinks zA _ _ _) (by exact upd3) ?_
 refine G1 ?_
 refine .s1 J J J J J Sz27 Z3 (by rw [Block.length (by exact ⟨hB.l_fWriter, hB.l_fPrev, hB.l_fSig⟩)]; decide) (by exact Block.setS_fData (by exact ⟨hB.l_fWriter, hB.l_fPrev, hB.l_fSig⟩) _ _ _) (by exact upd3) ?_
 refine G4 ?_
 refine .lA J J J Y31.h J Sz31 Z3 (Block.length (by exact ⟨hB.l_fWriter, hB.l_fPrev, hB.l_fSig⟩)) ?_
 refine .sA J J J J (Block.isCell (by exact ⟨hB.l_fWriter, hB.l_fPrev, hB.l_fSig⟩)) Sz31 (Block.length (by exact ⟨hB.l_fWriter, hB.l_fPrev, hB.l_fSig⟩)) Z2 (Block.length (by exact Block.zero_ok)) (by exact upd2) ?_
 refine G2 ?_
 -- ret
 refine G2 ?_
 refine ⟨_, [⟨q2, Aa l, 5, c2 * 1⟩, ⟨q1, A1 ls, 25, c1 * 32⟩], An J J Y31.h J Sz31 Z2 (Block.length (ownB_ok hB q1 c1 q2 c2)), (by intro b hb; rcases List.mem_cons.1 hb with rfl | hb; exact Bx; rw [List.mem_singleton.1 hb]; exact mem1), (fun h => h.sublist sP), ⟨q1, c1, q2, c2, rfl, hc1, hc2, rfl⟩⟩

theorem parents_nil (B : Block) (hB : B.ok) (ls : List (List UInt8)) (hn : B.fLinks.n ≤ 500000) (hs : (B.fSeq.toNat : Int) = 0) (h0 : B.fLinks.n = 0) : Meets Tryz.prog 44 [agg B.cells] [] (fun W => RowsAt W B.fLinks 32 ls) (fun v out => v = .slice none 0 0 ∧ out = []) := by
 intro W hW
 have hl0 : ∃ p c, B.fLinks.v = .slice p 0 c := ⟨_, _, by rw [Sl.v, h0]⟩
 obtain ⟨p9, c9, hl9⟩ := hl0
 have hg9 := Block.get_fLinks hB
 rw [hl9] at hg9
 refine Ac Tryz.func44 J 16 Tryz.ntmps44 J (G3 ?_)
 intro n1 hn1 hf1
 refine G13 ?_
 refine .nei J J J J (show (!decide _) = false from congrArg not (decide_eq_true (hs))) (G2 ?_)
 refine .cond_f J (rfl) (G6 ?_)
 refine .load1 J J J Y26.h J Z0 hg9 ?_
 refine .appendNilNil J J J J Y26.h Y26.h Sz25 (G3 ?_)
 -- ret
 refine G2 ?_
 refine ⟨_, [], Al J J, sP, sP, ?_, rfl⟩
 rfl

theorem parents_0 (B : Block) (hB : B.ok) (ls : List (List UInt8)) (hn : B.fLinks.n ≤ 500000) (hs : (B.fSeq.toNat : Int) = 0) (h0 : 0 < B.fLinks.n) : Meets Tryz.prog 44 [agg B.cells] [] (fun W => RowsAt W B.fLinks 32 ls) (fun v out => FreshRow v out (A1 ls) 25 B.fLinks.n 32) := by
 intro W hW
 refine Ac Tryz.func44 J 16 Tryz.ntmps44 J (G3 ?_)
 intro n1 hn1 hf1
 refine G13 ?_
 refine .nei J J J J (show (!decide _) = false from congrArg not (decide_eq_true (hs))) (G2 ?_)
 refine .cond_f J (rfl) (G7 ?_)
 refine .appendToNil (z := agg (Aa (List.replicate 32 0))) (by' := 32) (A1 ls) J J J J Y26.h Y26.h Sz25 Zr25 (by unfold By; kernel_rfl) J (fun w h => A6 h J hW.see) h0 (fun e => by have := hW.nil e; have := hW.cap; omega) (flatB_cell ls) oM oM (by rw [A7 hW.row, hW.len]) ?_
 intro q1 c1 hq1
 refine G3 ?_
 -- ret
 refine G2 ?_
 refine ⟨_, [⟨q1, A1 ls, 25, c1 * 32⟩], Al J J, (by intro b hb; rw [List.mem_singleton.1 hb]; exact Bx), nodup1, ⟨q1, c1, rfl, hq1, rfl⟩⟩

theorem parents_s (B : Block) (hB : B.ok) (ls : List (List UInt8)) (hn : B.fLinks.n ≤ 500000) (hs : ¬ (B.fSeq.toNat : Int) = 0) : Meets Tryz.prog 44 [agg B.cells] [] (fun W => RowsAt W B.fLinks 32 ls) (fun v out => FreshRow v out (A1 (B.fPrev :: ls)) 25 (1 + B.fLinks.n) 32) := by
 intro W hW
 refine Ac Tryz.func44 J 16 Tryz.ntmps44 J (G3 ?_)
 intro n1 hn1 hf1
 refine G13 ?_
 refine .nei J J J J (show (!decide _) = true from congrArg not (decide_eq_false (hs))) (G2 ?_)
 refine .cond_t J (rfl) (G3 ?_)
 refine .lN (Aa _) J J J Y25.h J Sz25 Z0 (Block.row_fPrev zA) (Block.rl_fPrev zA) ?_
 refine .mkRow (z := agg (Aa (List.replicate 32 0))) [agg (Aa B.fPrev)] (Aa B.fPrev) J J J Y26.h Sz25 Zr25 J J (by intro v hv; rw [List.mem_singleton.1 hv]; simp [Value.cells, hB.l_fPrev]) dE (by simp [Value.cells]) ?_
 intro q0
 refine .appendToNil (z := agg (Aa (List.replicate 32 0))) (by' := 32) (Aa B.fPrev) J J J J Y26.h Y26.h Sz25 Zr25 (by unfold By; kernel_rfl) J (fun w h => SeesP.of (Ar h Bx)) dE (fun e => by cases e) (by simp [Aa, isCell, u8]) dE dE (by simp [hB.l_fPrev]) ?_
 intro q1 c1 hq1
 refine G8 ?_
 refine .appendSl (z := agg (Aa (List.replicate 32 0))) (by' := 32) (A1 ls) J J J J J Y26.h Y26.h Sz25 Zr25 (by unfold By; kernel_rfl) J (fun w h => A6 h J hW.see) (fun e => by have := hW.nil e; have := hW.cap; omega) (flatB_cell ls) A5 J (by simp [hB.l_fPrev]) hq1 oM oM (by rw [A7 hW.row, hW.len]) ?_
 intro q2 c2 hq2
 refine G3 ?_
 -- ret
 refine G2 ?_
 refine ⟨_, [⟨q2, Aa B.fPrev ++ A1 ls, 25, c2 * 32⟩], Al J J, (by intro b hb; rw [List.mem_singleton.1 hb]; exact Bx), nodup1, ⟨q2, c2, rfl, hq2, rfl⟩⟩

theorem take_step {α : Type} {xs bs : List α} {k : Nat} (d : α) (ha : k < xs.length) (hb : k < bs.length) (h : xs.take k = bs.take k) (he : xs.getD k d = bs.getD k d) : xs.take (k + 1) = bs.take (k + 1) := by
  rw [List.take_succ_eq_append_getElem ha, List.take_succ_eq_append_getElem hb, h]
  have e1 : xs.getD k d = xs[k] := by simp [List.getD, ha]
  have e2 : bs.getD k d = bs[k] := by simp [List.getD, hb]
  rw [← e1, ← e2, he]

theorem digests_eq (p q : Option Addr) (n c1 c2 : Nat) (xs bs : List (List UInt8)) (hra : ∀ l ∈ xs, l.length = 32) (hrb : ∀ l ∈ bs, l.length = 32) (ha : xs.length = n) (hb : bs.length = n) (hn : n ≤ 1000000) : Meets Tryz.prog 29 [.slice p n c1, .slice q n c2] [] (fun W => SeesP W p (A1 xs) ∧ SeesP W q (A1 bs)) (fun v out => v = .bool (decide (xs = bs)) ∧ out = []) := by
 intro W hW
 refine Ac Tryz.func29 J 26 Tryz.ntmps29 J (G12 ?_)
 refine .nei J J J J (show (!decide _) = false from congrArg not (decide_eq_true (rfl))) (G2 ?_)
 refine .cond_f J (rfl) (G9 ?_)
 refine .loop (ι := Nat) (fun k => ⟨[(0, .slice p n c1), (1, .slice q n c2), (5, i64 (k : Int))], []⟩) (fun k => k ≤ n ∧ xs.take k = bs.take k) (fun k => n - k) (0) ?_ ?_ ?_
 · exact ⟨by omega, rfl⟩
 · exact Ad (wk1 rfl (wk1 rfl (wk1 rfl wk0))) wh0 nD
 rintro k ⟨hk, hg⟩
 refine G9 ?_
 refine .condP J (fun hc1 => ?_) (fun hc1 => ?_)
 ·
  have hk2 : k < n := by omega
  obtain ⟨b1, o1, hp1, hs1⟩ := hW.1.at (by rw [A7 hra]; omega)
  obtain ⟨b2, o2, hp2, hs2⟩ := hW.2.at (by rw [A7 hrb]; omega)
  have r1 : (xs.getD k []).length = 32 := getD_len hra oM
  have r2 : (bs.getD k []).length = 32 := getD_len hrb oM
  refine G5 ?_
  refine .draw [(0, 0), (0, 1), (0, 2), (1, 3), (0, 4), (0, 5), (0, 6), (1, 7), (0, 8)] Ap zK (G2 ?_)
  refine .idxSlP 32 J J J hp1 J Y26.h Sz25 k J oM (.loadEN (Aa (xs.getD k [])) J J J Y25.h J Sz25 sP (by rw [Aa, List.length_map]; exact getD_len hra oM) (sees_row hra hs1 oM) ?_)
  refine G2 ?_
  refine .idxSlP 32 J J J hp2 J Y26.h Sz25 k J oM (.loadEN (Aa (bs.getD k [])) J J J Y25.h J Sz25 sP (by rw [Aa, List.length_map]; exact getD_len hrb oM) (sees_row hrb hs2 oM) ?_)
  refine .neq_bytes J J J J Tryz.eqGuardType25 Y25.h Y5.h Sz5 zA zA J ?_
  refine G2 ?_
  refine .condNP J (fun hc2 => ?_) (fun hc2 => ?_)
  ·
   refine G5 ?_
   -- ret
   refine G7 ?_
   refine ⟨_, [], Al J J, sP, sP, ?_, rfl⟩
   (rw [decide_eq_false (fun e => hc2 (by rw [e]))]; done)
  refine G9 ?_
  exact ⟨k + 1, ⟨by omega, take_step [] oM oM hg hc2⟩, by omega, Ad (wk1 rfl (wk1 rfl (wk1 rfl wk0))) wh0 nD⟩
 obtain rfl : k = n := by omega
 refine G10 ?_
 -- ret
 refine G2 ?_
 refine ⟨_, [], Al J J, sP, sP, ?_, rfl⟩
 (rw [List.take_of_length_le oM, List.take_of_length_le oM] at hg; rw [decide_eq_true hg]; done)

def len8S : ByteArray := ⟨#[0, 1, 2, 2, 3, 3, 3, 3, 4, 4, 4, 4, 4, 4, 4, 4, 5, 5, 5, 5, 5, 5, 5, 5, 5, 5, 5, 5, 5, 5, 5, 5, 6, 6, 6, 6, 6, 6, 6, 6, 6, 6, 6, 6, 6, 6, 6, 6, 6, 6, 6, 6, 6, 6, 6, 6, 6, 6, 6, 6, 6, 6, 6, 6, 7, 7, 7, 7, 7, 7, 7, 7, 7, 7, 7, 7, 7, 7, 7, 7, 7, 7, 7, 7, 7, 7, 7, 7, 7, 7, 7, 7, 7, 7, 7, 7, 7, 7, 7, 7, 7, 7, 7, 7, 7, 7, 7, 7, 7, 7, 7, 7, 7, 7, 7, 7, 7, 7, 7, 7, 7, 7, 7, 7, 7, 7, 7, 7, 8, 8, 8, 8, 8, 8, 8, 8, 8, 8, 8, 8, 8, 8, 8, 8, 8, 8, 8, 8, 8, 8, 8, 8, 8, 8, 8, 8, 8, 8, 8, 8, 8, 8, 8, 8, 8, 8, 8, 8, 8, 8, 8, 8, 8, 8, 8, 8, 8, 8, 8, 8, 8, 8, 8, 8, 8, 8, 8, 8, 8, 8, 8, 8, 8, 8, 8, 8, 8, 8, 8, 8, 8, 8, 8, 8, 8, 8, 8, 8, 8, 8, 8, 8, 8, 8, 8, 8, 8, 8, 8, 8, 8, 8, 8, 8, 8, 8, 8, 8, 8, 8, 8, 8, 8, 8, 8, 8, 8, 8, 8, 8, 8, 8, 8, 8, 8, 8, 8, 8, 8, 8, 8, 8, 8, 8, 8, 8]⟩
theorem len8_all : ∀ n, n < 256 → len8S.data.toList[n]? = some (UInt8.ofNat (bLen n)) := by decide
theorem len8_get (x : UInt8) : len8S[x.toNat]? = some (UInt8.ofNat (bLen x.toNat)) := by
  have h := len8_all x.toNat x.toNat_lt
  have h2 : x.toNat < len8S.size := x.toNat_lt
  have e : len8S[x.toNat]? = len8S.data.toList[x.toNat]? := by
    rw [getElem?_pos len8S x.toNat h2, List.getElem?_eq_getElem (by exact x.toNat_lt)]
    rfl
  rw [e]; exact h
theorem len8_nat (x : UInt8) : (UInt8.ofNat (bLen x.toNat)).toNat = bLen x.toNat := by
  have : bLen x.toNat ≤ 8 := bLen_le.2 x.toNat_lt
  rw [UInt8.toNat_ofNat', Nat.mod_eq_of_lt oM]

theorem shr64_nat (x : UInt64) (n : Nat) : (Aq x n).toNat = x.toNat / 2 ^ n := by
  have h : x.toNat / 2 ^ n ≤ x.toNat := Nat.div_le_self _ _
  have := x.toNat_lt
  rw [Aq, UInt64.toNat_ofNat', Nat.mod_eq_of_lt oM]

theorem bits_len64 (x : UInt64) : Meets Tryz.prog 107 [u64 x] [] (fun _ => True) (fun v out => v = i64 ((bLen x.toNat : Nat) : Int) ∧ out = []) := by
 intro W hW
 have hx := x.toNat_lt
 refine Ac Tryz.func107 J 25 Tryz.ntmps107 J (G5 ?_)
 refine .join (ι := UInt64 × Nat) (fun p => ⟨[(0, u64 p.1), (2, i64 (p.2 : Int))], []⟩) (fun p => bLen x.toNat = p.2 + bLen p.1.toNat ∧ p.1.toNat < 2 ^ 32 ∧ p.2 ≤ 32) ?_ ?_
 ·
  refine G6 ?_
  refine .condP J (fun hc0 => ?_) (fun hc0 => ?_)
  ·
   refine G3 ?_
   refine .shr_u64 J J J J 32 J dE (G7 ?_)
   exact ⟨(Aq x 32, 0 + 32), ⟨by simp only [shr64_nat]; have := bLen_shr (n := x.toNat) (k := 32) oM; omega, by simp only [shr64_nat]; omega, by simp only []; omega⟩, Ad (wk1 rfl (wk1 (by rfl) wk0)) wh0 nD⟩
  refine G2 ?_
  exact ⟨(x, 0), ⟨by simp only []; omega, by simp only []; omega, by simp only []; omega⟩, Ad (wk1 rfl (wk1 (by rfl) wk0)) wh0 nD⟩
 intro p hj
 obtain ⟨y, n⟩ := p
 obtain ⟨hb, hy, hn⟩ := hj
 simp only at hb hy hn ⊢
 refine .join (ι := UInt64 × Nat) (fun p => ⟨[(0, u64 p.1), (2, i64 (p.2 : Int))], []⟩) (fun p => bLen x.toNat = p.2 + bLen p.1.toNat ∧ p.1.toNat < 2 ^ 16 ∧ p.2 ≤ 48) ?_ ?_
 ·
  refine G6 ?_
  refine .condP J (fun hc1 => ?_) (fun hc1 => ?_)
  ·
   refine G3 ?_
   refine .shr_u64 J J J J 16 J dE (G9 ?_)
   exact ⟨(Aq y 16, n + 16), ⟨by simp only [shr64_nat]; have := bLen_shr (n := y.toNat) (k := 16) oM; omega, by simp only [shr64_nat]; omega, by simp only []; omega⟩, Ad (wk1 rfl (wk1 (by rfl) wk0)) wh0 nD⟩
  refine G2 ?_
  exact ⟨(y, n), ⟨by simp only []; omega, by simp only []; omega, by simp only []; omega⟩, Ad (wk1 rfl (wk1 (by rfl) wk0)) wh0 nD⟩
 intro p hj
 obtain ⟨y, n⟩ := p
 obtain ⟨hb, hy, hn⟩ := hj
 simp only at hb hy hn ⊢
 refine .join (ι := UInt64 × Nat) (fun p => ⟨[(0, u64 p.1), (2, i64 (p.2 : Int))], []⟩) (fun p => bLen x.toNat = p.2 + bLen p.1.toNat ∧ p.1.toNat < 2 ^ 8 ∧ p.2 ≤ 56) ?_ ?_
 ·
  refine G6 ?_
  refine .condP J (fun hc2 => ?_) (fun hc2 => ?_)
  ·
   refine G3 ?_
   refine .shr_u64 J J J J 8 J dE (G9 ?_)
   exact ⟨(Aq y 8, n + 8), ⟨by simp only [shr64_nat]; have := bLen_shr (n := y.toNat) (k := 8) oM; omega, by simp only [shr64_nat]; omega, by simp only []; omega⟩, Ad (wk1 rfl (wk1 (by rfl) wk0)) wh0 nD⟩
  refine G2 ?_
  exact ⟨(y, n), ⟨by simp only []; omega, by simp only []; omega, by simp only []; omega⟩, Ad (wk1 rfl (wk1 (by rfl) wk0)) wh0 nD⟩
 intro p hj
 obtain ⟨y, n⟩ := p
 obtain ⟨hb, hy, hn⟩ := hj
 simp only at hb hy hn ⊢
 refine G5 ?_
 refine .idxStr (s := len8S) J J J J Tryz.underlying9 _ J (len8_get y.toUInt8) ?_
 have h8 : y.toUInt8.toNat = y.toNat := by simp; omega
 have h9 := len8_nat y.toUInt8
 have h10 : bLen y.toUInt8.toNat ≤ 8 := bLen_le.2 (by rw [h8]; omega)
 refine G5 ?_
 -- ret
 refine G2 ?_
 refine ⟨_, [], Al J J, sP, sP, ?_, rfl⟩
 rw [h9, h8, hb, Int.natCast_add]
theorem oct_size (x : UInt64) : Meets Tryz.prog 193 [u64 x] [] (fun _ => True) (fun v out => v = i64 ((szN x.toNat : Nat) : Int) ∧ out = []) := by
 intro W hW
 have hb : bLen (x ||| 1).toNat ≤ 64 := bLen_le.2 (x ||| 1).toNat_lt
 have ho : (x ||| 1).toNat = x.toNat ||| 1 := by rw [UInt64.toNat_or]; rfl
 refine Ac Tryz.func193 J 9 Tryz.ntmps193 J (G8 ?_)
 refine .or_u64 J J J (show Ag _ _ = some (u64 1) from rfl) (.cV J J J J Body107 (bits_len64 _) tV (G1 ?_))
 refine .quo_i64 J J J J oM (.min2 J J J J (rfl) (G3 ?_))
 -- ret
 refine G2 ?_
 refine ⟨_, [], Al J J, sP, sP, ?_, rfl⟩
 rw [szN, ← ho]; congr 1; split <;> omega

theorem oct_grown (p : Option Addr) (n c m : Nat) (l : List UInt8) (hl : l.length = n) (hp : p = none → n = 0) (hn : n ≤ 100000) (hm : m ≤ 100000) : Meets Tryz.prog 192 [.slice p n c, i64 (m : Int)] [] (fun W => SeesP W p (Aa l)) (fun v out => FreshRow v out (Aa l) 5 n 1) := by
 intro W hW
 refine Ac Tryz.func192 J 12 Tryz.ntmps192 J (G11 ?_)
 refine .mkRoom (z := u8 0) (by' := 1) (n + m) J J J J oM Y27.h Sz5 Zr5 (by unfold By; kernel_rfl) J oM oM ?_
 intro n9
 refine G1 ?_
 refine .appendSl (z := u8 0) (by' := 1) (Aa l) J J J J J Y27.h Y27.h Sz5 Zr5 (by unfold By; kernel_rfl) J (fun w h => A6 h J hW) hp (by simp [Aa, isCell, u8]) A5 oM J oM oM oM (by simp [Aa, hl]) ?_
 intro q1 c1 hq1
 refine G3 ?_
 -- ret
 refine G2 ?_
 refine ⟨_, [⟨q1, [] ++ Aa l, 5, c1 * 1⟩], Al J J, (by intro b hb; rw [List.mem_singleton.1 hb]; exact Bx), nodup1, ⟨q1, c1, by rw [Nat.zero_add], by omega, rfl⟩⟩

theorem oct_number (q n c : Nat) (l : List UInt8) (x : UInt64) (hl : l.length = n) (hnc : n ≤ c) (hn : n ≤ 200000) : Meets Tryz.prog 191 [.slice (some ⟨q, 0, none⟩) n c, u64 x] [q] (fun W => BlkOk W ⟨q, Aa (l), 5, c * 1⟩) (fun v out => FreshRow v out (Aa (l ++ numB x)) 5 (n + szN x.toNat) 1) := by
 intro W hW
 have hz := Cp x.toNat
 refine calls_of (hp0 := [⟨q, Aa (l), 5, c * 1⟩]) Tryz.func191 J 37 Tryz.ntmps191 J (HRep.one hW) (G8 ?_)
 refine .cV J J J J Body193 (oct_size _) tV (G4 ?_)
 refine .draw [(0, 0), (0, 1), (0, 2), (0, 3), (0, 4), (0, 5), (0, 6), (0, 7), (0, 8), (0, 9), (0, 10), (4, 11), (4, 12), (0, 13)] Ap zK (G3 ?_)
 refine .shl_u8 J J (show Ag _ _ = some (u8 255) from rfl) J (9 - szN x.toNat) oM oM (G3 ?_)
 refine .mul_i64 J J J J oM (.shr_u64 J J J J (8 * (szN x.toNat - 1)) oM oM (G1 ?_))
 refine .or_u8 J J J J (.mkRow (z := u8 0) [u8 (headB x)] (Aa [headB x]) J J J Y27.h Sz5 Zr5 J J (by intro v hv; rw [List.mem_singleton.1 hv]; rfl) dE J ?_)
 intro q20
 refine .appendSl (z := u8 0) (by' := 1) (Aa [headB x]) J J J J J Y27.h Y27.h Sz5 Zr5 (by unfold By; kernel_rfl) J (fun w h => SeesP.of (Ar h Bx)) (fun e => by cases e) (by simp [Aa, isCell, u8]) (rem_there A5) J (by simp [Aa, hl]) oM oM oM (by rfl) ?_
 intro q1 c1 hq1
 refine G12 ?_
 refine .loop (ι := Nat × Nat × Nat) (fun p => ⟨[(0, .slice (some ⟨p.2.1, 0, none⟩) (n + 1 + p.1) p.2.2), (1, u64 x), (5, i64 ((szN x.toNat : Nat) : Int)), (6, i64 (((szN x.toNat : Nat) : Int) - 2 - (p.1 : Int)))], [⟨p.2.1, Aa (l ++ numUp x p.1), 5, p.2.2 * 1⟩]⟩) (fun p => p.1 ≤ szN x.toNat - 1 ∧ n + 1 + p.1 ≤ p.2.2) (fun p => szN x.toNat - 1 - p.1) ((0, q1, c1)) ?_ ?_ ?_
 · exact ⟨Nat.zero_le _, hq1⟩
 · exact Ad (wk1 rfl (wk1 rfl (wk1 rfl (wk1 (by rw [show (((szN x.toNat : Nat) : Int) - 2 - ((0 : Nat) : Int)) = ((szN x.toNat : Nat) : Int) - 2 by omega]; rfl) wk0)))) (wh1 (by rw [numUp_zero]; simp only [Aa, List.map_append]; exact Bx) wh0) nD
 rintro p ⟨hp1, hp2⟩
 refine G7 ?_
 refine .condP J (fun hc0 => ?_) (fun hc0 => ?_)
 ·
  have hp3 : p.1 < szN x.toNat - 1 := by omega
  refine G8 ?_
  refine .mul_i64 J J J J oM (.shr_u64 J J J J (8 * (szN x.toNat - 2 - p.1)) oM oM (G1 ?_))
  refine .mkRow (z := u8 0) [u8 ((Aq x (8 * (szN x.toNat - 2 - p.1))).toUInt8)] (Aa [(Aq x (8 * (szN x.toNat - 2 - p.1))).toUInt8]) J J J Y27.h Sz5 Zr5 J J (by intro v hv; rw [List.mem_singleton.1 hv]; rfl) dE J ?_
  intro q34
  refine .appendSl (z := u8 0) (by' := 1) (Aa [(Aq x (8 * (szN x.toNat - 2 - p.1))).toUInt8]) J J J J J Y27.h Y27.h Sz5 Zr5 (by unfold By; kernel_rfl) J (fun w h => SeesP.of (Ar h Bx)) (fun e => by cases e) (by simp [Aa, isCell, u8]) (rem_there A5) J (by rw [Aa, List.length_map, List.length_append, hl, numUp_length x p.1 oM]; omega) oM oM oM (by rfl) ?_
  intro q2 c2 hq2
  refine G10 ?_
  exact ⟨(p.1 + 1, q2, c2), ⟨by simp only []; omega, by simp only []; omega⟩, by simp only []; omega, Ad (wk1 (by rw [show n + 1 + (p.1 + 1) = n + 1 + p.1 + 1 by omega]; rfl) (wk1 rfl (wk1 rfl (wk1 (by rw [show (((szN x.toNat : Nat) : Int) - 2 - ((p.1 + 1 : Nat) : Int)) = ((szN x.toNat : Nat) : Int) - 2 - (p.1 : Int) - 1 by omega]; rfl) wk0)))) (wh1 (by rw [numUp_step x p.1 oM, ← List.append_assoc]; simp only [Aa, List.map_append]; exact Bx) wh0) nD⟩
 have hp3 : p.1 = szN x.toNat - 1 := by omega
 refine G11 ?_
 -- ret
 refine G2 ?_
 refine ⟨_, [⟨p.2.1, Aa (l ++ numB x), 5, p.2.2 * 1⟩], Al J J, (by intro b hb; rw [List.mem_singleton.1 hb, ← numUp_all, ← hp3]; exact Bx), nodup1, ⟨p.2.1, p.2.2, by rw [show n + 1 + p.1 = n + szN x.toNat by omega], by omega, rfl⟩⟩
theorem oct_Number (p : Option Addr) (n c : Nat) (l : List UInt8) (x : UInt64) (hl : l.length = n) (hp : p = none → n = 0) (hn : n ≤ 90000) : Meets Tryz.prog 151 [.slice p n c, u64 x] [] (fun W => SeesP W p (Aa l)) (fun v out => FreshRow v out (Aa (l ++ numB x)) 5 (n + szN x.toNat) 1) := by
 intro W hW
 have hz := Cp x.toNat
 refine Ac Tryz.func151 J 11 Tryz.ntmps151 J (G9 ?_)
 refine .cV J J J J Body193 (oct_size _) tV (.call J J J J Body192 (oct_grown p n c (szN x.toNat) l hl hp oM oM) (FreshRow.loose _ _ _ _) (fun w h => A6 h J hW) ?_)
 rintro v1 out1 ⟨q1, c1, rfl, hc1, rfl⟩
 refine G1 ?_
 refine .callL (L := [⟨q1, Aa (l), 5, c1 * 1⟩]) J J J J J Body191 (oct_number q1 (n) c1 (l) x (by simp [hl]) hc1 oM) A5 lO (fun w h => own_blk h Z0) ?_
 rintro v2 out2 ⟨q2, c2, rfl, hc2, rfl⟩
 refine G3 ?_
 -- ret
 refine G2 ?_
 refine ⟨_, [⟨q2, Aa (l ++ numB x), 5, c2 * 1⟩], Al J J, (by intro b hb; rw [List.mem_singleton.1 hb]; exact Bx), nodup1, ⟨q2, c2, rfl, hc2, rfl⟩⟩

theorem oct_Block (p r : Option Addr) (n c m d : Nat) (l ys : List UInt8) (hl : l.length = n) (hy : ys.length = m) (hp : p = none → n = 0) (hr : r = none → m = 0) (hn : n ≤ 40000) (hm : m ≤ 40000) : Meets Tryz.prog 152 [.slice p n c, .slice r m d] [] (fun W => SeesP W p (Aa l) ∧ SeesP W r (Aa ys)) (fun v out => FreshRow v out (Aa (l ++ numB (UInt64.ofNat m) ++ ys)) 5 (n + szN m + m) 1) := by
 intro W hW
 have hz := Cp m
 have hw : wordOf (m : Int) = UInt64.ofNat m := by simp only [wordOf]; congr 1; omega
 have hmn : (UInt64.ofNat m).toNat = m := by rw [UInt64.toNat_ofNat', Nat.mod_eq_of_lt oM]
 refine Ac Tryz.func152 J 20 Tryz.ntmps152 J (G10 ?_)
 rw [hw]
 refine G7 ?_
 refine .cV J J J J Body193 (oct_size _) tV ?_
 rw [hmn]
 refine G3 ?_
 refine .call J J J J Body192 (oct_grown p n c (szN m + m) l hl hp oM oM) (FreshRow.loose _ _ _ _) (fun w h => A6 h J hW.1) ?_
 rintro v1 out1 ⟨q1, c1, rfl, hc1, rfl⟩
 refine G1 ?_
 refine .callL (L := [⟨q1, Aa (l), 5, c1 * 1⟩]) J J J J J Body191 (oct_number q1 n c1 l (UInt64.ofNat m) hl hc1 oM) A5 lO (fun w h => own_blk h Z0) ?_
 rintro v2 out2 ⟨q2, c2, rfl, hc2, rfl⟩
 rw [hmn] at hc2 ⊢
 refine G1 ?_
 refine .appendSl (z := u8 0) (by' := 1) (Aa ys) J J J J J Y27.h Y27.h Sz5 Zr5 (by unfold By; kernel_rfl) J (fun w h => A6 h J hW.2) hr (by simp [Aa, isCell, u8]) A5 J (by rw [Aa, List.length_map, List.length_append, Bk, hl, hmn, Nat.mul_one]) oM oM oM (by simp [Aa, hy]) ?_
 intro q3 c3 hq3
 refine G3 ?_
 -- ret
 refine G2 ?_
 refine ⟨_, [⟨q3, Aa (l ++ numB (UInt64.ofNat m) ++ ys), 5, c3 * 1⟩], Al J J, (by intro b hb; rw [List.mem_singleton.1 hb]; simp only [Aa, List.map_append]; exact Bx), nodup1, ⟨q3, c3, rfl, hq3, rfl⟩⟩


theorem res_none {C : Cx} {fn : Func} {s : St} (hr : fn.results = #[]) : Res C fn s (.tuple #[]) := fun a w r => by
  simp [results, hr]




theorem BlkOk.keep {ex : List Nat} {w w' : World} {b : Blk} (h : Keeps ex w w') (hb : BlkOk w b) (hn : b.n ∉ ex) : BlkOk w' b := hb.of_heap (h.block b.n hb.lt hn)




theorem clone_bytes (a : Addr) (n c : Nat) (l : List UInt8) (hl : l.length = n) (hn : n ≤ 90000) : Meets Tryz.prog 65 [.slice (some a) n c] [] (fun W => SeesP W (some a) (Aa l)) (fun v out => FreshRow v out (Aa l) 5 n 1) := by
 intro W hW
 refine Ac Tryz.func65 J 8 Tryz.ntmps65 J (G9 ?_)
 refine .eqNilS (r := false) J J J J Y27.h J (G2 ?_)
 refine .cond_f J (rfl) (G4 ?_)
 refine .mkRow (z := u8 0) [] [] rfl J J Y27.h Sz5 Zr5 J J (by intro v hv; cases hv) dE J ?_
 intro q0
 refine G1 ?_
 refine .appendSl (z := u8 0) (by' := 1) (Aa l) J J J J J Y27.h Y27.h Sz5 Zr5 (by unfold By; kernel_rfl) J (fun w h => A6 h J hW) (fun e => by cases e) (by simp [Aa, isCell, u8]) A5 J J oM oM oM (by simp [Aa, hl]) ?_
 intro q1 c1 hq1
 refine G3 ?_
 -- ret
 refine G2 ?_
 refine ⟨_, [⟨q1, [] ++ Aa l, 5, c1 * 1⟩], Al J J, (by intro b hb; rw [List.mem_singleton.1 hb]; exact Bx), nodup1, ⟨q1, c1, by rw [Nat.zero_add], by omega, rfl⟩⟩

def bodyB (B : Block) (ls : List (List UInt8)) (ds : List UInt8) : List UInt8 := B.fWriter ++ numB B.fSeq ++ B.fPrev ++ numB (UInt64.ofNat B.fLinks.n) ++ ls.flatten ++ (numB (UInt64.ofNat B.fData.n) ++ ds)
theorem word_nat {n : Nat} (h : n ≤ 1000000) : wordOf (n : Int) = UInt64.ofNat n := by simp only [wordOf]; congr 1; omega
theorem ofNat_nat {n : Nat} (h : n ≤ 1000000) : (UInt64.ofNat n).toNat = n := by rw [UInt64.toNat_ofNat', Nat.mod_eq_of_lt oM]
theorem flatten_take_step {ls : List (List UInt8)} {k : Nat} (hk : k < ls.length) : (ls.take (k + 1)).flatten = (ls.take k).flatten ++ ls.getD k [] := by
  rw [List.take_succ_eq_append_getElem hk, List.flatten_append]
  simp [List.getD, hk]
theorem Cj {ls : List (List UInt8)} (h : ∀ l ∈ ls, l.length = 32) {k : Nat} (hk : k ≤ ls.length) : (ls.take k).flatten.length = k * 32 := by
  rw [flatten_len 32 _ (fun l hl => h l (List.mem_of_mem_take hl)), List.length_take, Nat.min_eq_left hk]

theorem block_body (B : Block) (hB : B.ok) (ls : List (List UInt8)) (ds : List UInt8) (hn : B.fLinks.n ≤ 40) (hd : B.fData.n ≤ 2000) : Meets Tryz.prog 90 [agg B.cells] [] (fun W => RowsAt W B.fLinks 32 ls ∧ BytesAt W B.fData ds) (fun v out => ∃ N, N = (bodyB B ls ds).length ∧ N ≤ 4000 ∧ FreshRow v out (Aa (bodyB B ls ds)) 5 N 1) := by
 intro W hW
 have hz1 := Cp B.fSeq.toNat
 have hz2 := Cp (UInt64.ofNat B.fLinks.n).toNat
 have hz3 := Cp B.fData.n
 have hw2 := word_nat (n := B.fLinks.n) oM
 have hll := hW.1.len
 refine Ac Tryz.func90 J 41 Tryz.ntmps90 J (G3 ?_)
 intro n1 hn1 hf1
 refine G7 ?_
 refine .call J J J J Body65 (clone_bytes ⟨n1, 0, none⟩ 32 32 B.fWriter hB.l_fWriter oM) (FreshRow.loose _ _ _ _) (fun W2 W2h => (SeesP.of (sees_part W2h Z0 (Block.see_fWriter hB)))) ?_
 rintro v1 out1 ⟨q1, c1, rfl, hc1, rfl⟩
 refine G8 ?_
 refine .call J J J J Body151 (oct_Number none 0 0 [] (B.fSeq) J (fun _ => rfl) oM) (FreshRow.loose _ _ _ _) (fun _ _ => SeesP.nil) ?_
 rintro v2 out2 ⟨q2, c2, rfl, hc2, rfl⟩
 refine .appendSl (z := u8 0) (by' := 1) (Aa ([] ++ numB B.fSeq)) J J J J J Y27.h Y27.h Sz5 Zr5 (by unfold By; kernel_rfl) J (fun w h => SeesP.of (Ar h Bx)) (fun e => by cases e) (Ax _) (rem_there A5) J (by simp only [Aa, List.length_map, List.length_append, Bk, hB.l_fWriter, hB.l_fPrev, List.length_nil]; try omega) hc1 oM oM (by simp [Bk]) ?_
 intro q3 c3 hq3
 refine G8 ?_
 refine .appendSl (z := u8 0) (by' := 1) (Aa B.fPrev) J J J J J Y27.h Y27.h Sz5 Zr5 (by unfold By; kernel_rfl) J (fun W2 W2h => (SeesP.of (sees_part W2h Z2 (Block.see_fPrev hB)))) (fun e => by cases e) (Ax _) A5 J (by simp only [Aa, List.length_map, List.length_append, Bk, hB.l_fWriter, hB.l_fPrev, List.length_nil]; try omega) hq3 oM oM (by simp [hB.l_fPrev]) ?_
 intro q5 c5 hq5
 refine G10 ?_
 rw [hw2]
 refine .call J J J J Body151 (oct_Number none 0 0 [] (UInt64.ofNat B.fLinks.n) J (fun _ => rfl) oM) (FreshRow.loose _ _ _ _) (fun _ _ => SeesP.nil) ?_
 rintro v4 out4 ⟨q4, c4, rfl, hc4, rfl⟩
 refine .appendSl (z := u8 0) (by' := 1) (Aa ([] ++ numB (UInt64.ofNat B.fLinks.n))) J J J J J Y27.h Y27.h Sz5 Zr5 (by unfold By; kernel_rfl) J (fun w h => SeesP.of (Ar h Bx)) (fun e => by cases e) (Ax _) (rem_there A5) J (by simp only [Aa, List.length_map, List.length_append, Bk, hB.l_fWriter, hB.l_fPrev, List.length_nil]; try omega) hq5 oM oM (by simp [Bk]) ?_
 intro q6 c6 hq6
 refine G13 ?_
 refine .loop (ι := Nat × Nat × Nat) (fun p => ⟨[(1, ptr n1 0), (3, .slice (some ⟨p.2.1, 0, none⟩) (32 + (0 + szN B.fSeq.toNat) + 32 + (0 + szN (UInt64.ofNat B.fLinks.n).toNat) + 32 * p.1) p.2.2), (26, B.fLinks.v), (27, i64 (B.fLinks.n : Int)), (28, i64 (p.1 : Int))], [⟨p.2.1, Aa (B.fWriter ++ numB B.fSeq ++ B.fPrev ++ numB (UInt64.ofNat B.fLinks.n) ++ (ls.take p.1).flatten), 5, p.2.2 * 1⟩, ⟨n1, B.cells, 31, B.cells.length⟩]⟩) (fun p => p.1 ≤ B.fLinks.n ∧ 32 + (0 + szN B.fSeq.toNat) + 32 + (0 + szN (UInt64.ofNat B.fLinks.n).toNat) + 32 * p.1 ≤ p.2.2) (fun p => B.fLinks.n - p.1) ((0, q6, c6)) ?_ ?_ ?_
 · exact ⟨Nat.zero_le _, by simp only []; omega⟩
 · exact Ad (wk1 rfl (wk1 rfl (wk1 rfl (wk1 rfl (wk1 rfl wk0))))) (wh1 (by simp only [List.take_zero, List.flatten_nil, List.append_nil, Aa, List.map_append, List.nil_append]; exact Bx) (wh1 Z3 wh0)) nD
 rintro p ⟨hp1, hp2⟩
 refine G6 ?_
 refine .condP J (fun hc0 => ?_) (fun hc0 => ?_)
 ·
  have hp3 : p.1 < B.fLinks.n := by omega
  obtain ⟨b, o, hbp, hbs⟩ := hW.1.see.at (by rw [A7 hW.1.row]; omega)
  have hrk : (ls.getD p.1 []).length = 32 := getD_len hW.1.row oM
  refine G6 ?_
  refine .idxSlP 32 J J J hbp J Y26.h Sz25 p.1 J oM (.loadEN (Aa (ls.getD p.1 [])) J J J Y25.h J Sz25 sP (by rw [Aa, List.length_map]; exact hrk) (sees_row hW.1.row hbs oM) ?_)
  refine .alloc (cs := (Aa (List.replicate 32 0))) J Zr25 J ?_
  intro n5 hn5 hf5
  refine .sA J J J J zE Sz25 (by (rw [Aa, List.length_map]; assumption)) Z0 sP zU ?_
  refine G5 ?_
  refine .appendSl (z := u8 0) (by' := 1) (Aa (ls.getD p.1 [])) J J J J J Y27.h Y27.h Sz5 Zr5 (by unfold By; kernel_rfl) J (fun w h => SeesP.of (Ar h Bx)) (fun e => by cases e) (Ax _) (rem_there A5) J (by simp only [Aa, List.length_map, List.length_append, Bk, hB.l_fWriter, hB.l_fPrev, Cj hW.1.row (show p.1 ≤ ls.length by omega)]; omega) hp2 oM oM (by rw [Aa, List.length_map, hrk]) ?_
  intro q7 c7 hq7
  refine G9 ?_
  exact ⟨(p.1 + 1, q7, c7), ⟨by simp only []; omega, by simp only []; omega⟩, by simp only []; omega, Ad (wk1 rfl (wk1 (by rw [show 32 + (0 + szN B.fSeq.toNat) + 32 + (0 + szN (UInt64.ofNat B.fLinks.n).toNat) + 32 * (p.1 + 1) = 32 + (0 + szN B.fSeq.toNat) + 32 + (0 + szN (UInt64.ofNat B.fLinks.n).toNat) + 32 * p.1 + 32 by omega]; rfl) (wk1 rfl (wk1 rfl (wk1 rfl wk0))))) (wh1 (by rw [flatten_take_step oM, ← List.append_assoc]; simp only [Aa, List.map_append]; exact Bx) (wh1 Z2 wh0)) nD⟩
 have hp3 : p.1 = B.fLinks.n := by omega
 refine G10 ?_
 refine .call J J J J Body152 (oct_Block none B.fData.p 0 0 B.fData.n B.fData.c [] ds J hW.2.len (fun _ => rfl) (fun e => by have := hW.2.nil e; have := hW.2.cap; omega) oM oM) (FreshRow.loose _ _ _ _) (fun w h => ⟨SeesP.nil, A6 h J hW.2.see⟩) ?_
 rintro v9 out9 ⟨q9, c9, rfl, hc9, rfl⟩
 refine .appendSl (z := u8 0) (by' := 1) (Aa ([] ++ numB (UInt64.ofNat B.fData.n) ++ ds)) J J J J J Y27.h Y27.h Sz5 Zr5 (by unfold By; kernel_rfl) J (fun w h => SeesP.of (Ar h Bx)) (fun e => by cases e) (Ax _) (rem_there A5) J (by simp only [Aa, List.length_map, List.length_append, Bk, hB.l_fWriter, hB.l_fPrev, Cj hW.1.row (show p.1 ≤ ls.length by omega)]; omega) hp2 oM oM (by simp [Bk, hW.2.len, ofNat_nat (show B.fData.n ≤ 1000000 by omega)]) ?_
 intro q8 c8 hq8
 refine G3 ?_
 -- ret
 refine G2 ?_
 have hN : 32 + (0 + szN B.fSeq.toNat) + 32 + (0 + szN (UInt64.ofNat B.fLinks.n).toNat) + 32 * p.1 + (0 + szN B.fData.n + B.fData.n) = (bodyB B ls ds).length := by
  have hfl := Cj hW.1.row (Nat.le_refl ls.length)
  rw [List.take_length] at hfl
  simp only [bodyB, List.length_append, Bk, hB.l_fWriter, hB.l_fPrev, hfl, hW.2.len, ofNat_nat (show B.fData.n ≤ 1000000 by omega)]
  omega
 refine ⟨_, [⟨q8, Aa (bodyB B ls ds), 5, c8 * 1⟩], Al J J, (by intro b hb; rw [List.mem_singleton.1 hb, show bodyB B ls ds = B.fWriter ++ numB B.fSeq ++ B.fPrev ++ numB (UInt64.ofNat B.fLinks.n) ++ (ls.take p.1).flatten ++ (numB (UInt64.ofNat B.fData.n) ++ ds) by rw [bodyB, List.take_of_length_le oM]]; simp only [Aa, List.map_append, List.append_assoc, List.nil_append]; exact Bx), nodup1, ⟨_, rfl, by omega, q8, c8, by rw [← hN], by omega, rfl⟩⟩
theorem check_small {B : Block} {ls : List (List UInt8)} (h : bcheck B ls = 0) : B.fLinks.n ≤ 16 ∧ B.fData.n ≤ 512 := by
  unfold bcheck at h
  by_cases h1 : bheadB B = true
  · rw [if_pos h1] at h; cases h
  · unfold bheadB at h1
    simp at h1
    omega
def bytesB (B : Block) (ls : List (List UInt8)) (ds : List UInt8) : List UInt8 := bodyB B ls ds ++ B.fSig

theorem body_small (B : Block) (hB : B.ok) (ls : List (List UInt8)) (ds : List UInt8) (hr : ∀ l ∈ ls, l.length = 32) (hl : ls.length = B.fLinks.n) (hd : ds.length = B.fData.n) (hn : B.fLinks.n ≤ 40) (hd2 : B.fData.n ≤ 2000) : (bodyB B ls ds).length ≤ 4000 := by
  have hz1 := Cp B.fSeq.toNat
  have hz2 := Cp (UInt64.ofNat B.fLinks.n).toNat
  have hz3 := Cp (UInt64.ofNat B.fData.n).toNat
  have hfl := Cj hr (Nat.le_refl ls.length)
  rw [List.take_length] at hfl
  simp only [bodyB, List.length_append, Bk, hB.l_fWriter, hB.l_fPrev, hfl, hd]
  omega

theorem bytes_bad (B : Block) (hB : B.ok) (ls : List (List UInt8)) (ds : List UInt8) (hc : ¬ bcheck B ls = 0) : Meets Tryz.prog 63 [agg B.cells] [] (fun W => RowsAt W B.fLinks 32 ls ∧ BytesAt W B.fData ds) (fun v out => v = .tuple #[.slice none 0 0, i64 (bcheck B ls)] ∧ out = []) := by
 intro W hW
 refine Ac Tryz.func63 J 15 Tryz.ntmps63 J (G3 ?_)
 intro n1 hn1 hf1
 refine G8 ?_
 refine .cV J J J J Body60 (block_check B hB ls) (fun w h => rows_ext h J hW.1) (G6 ?_)
 refine .nei J J J J (show (!decide _) = true from congrArg not (decide_eq_false (hc))) (G2 ?_)
 refine .cond_t J (rfl) (G7 ?_)
 -- ret
 refine G3 ?_
 refine ⟨_, [], res_tmp2 J J J, sP, sP, ?_, rfl⟩
 rfl

theorem bytes_ok (B : Block) (hB : B.ok) (ls : List (List UInt8)) (ds : List UInt8) (hc : bcheck B ls = 0) : Meets Tryz.prog 63 [agg B.cells] [] (fun W => RowsAt W B.fLinks 32 ls ∧ BytesAt W B.fData ds) (fun v out => ∃ q c N, N = (bytesB B ls ds).length ∧ N ≤ 5000 ∧ v = .tuple #[.slice (some ⟨q, 0, none⟩) N c, i64 0] ∧ N ≤ c ∧ out = [⟨q, Aa (bytesB B ls ds), 5, c * 1⟩]) := by
 intro W hW
 have hsm := check_small hc
 refine Ac Tryz.func63 J 15 Tryz.ntmps63 J (G3 ?_)
 intro n1 hn1 hf1
 refine G8 ?_
 refine .cV J J J J Body60 (block_check B hB ls) (fun w h => rows_ext h J hW.1) (G6 ?_)
 refine .nei J J J J (show (!decide _) = false from congrArg not (decide_eq_true (hc))) (G2 ?_)
 refine .cond_f J (rfl) (G3 ?_)
 refine .draw [(1, 0), (0, 2), (0, 3), (3, 1), (4, 4), (0, 5), (0, 6)] Ap zK (G3 ?_)
 refine .call J J J J Body90 (block_body B hB ls ds oM oM) (fun l hl => by obtain ⟨v, out, h1, h2⟩ := FreshRow.loose (Aa (bodyB B ls ds)) 5 (bodyB B ls ds).length 1 l hl; exact ⟨v, out, ⟨_, rfl, body_small B hB ls ds hW.1.row hW.1.len hW.2.len oM oM, h1⟩, h2⟩) (fun w h => ⟨rows_ext h J hW.1, bytes_ext h J hW.2⟩) ?_
 rintro v1 out1 ⟨N1, hN1, hN2, q1, c1, rfl, hc1, rfl⟩
 refine .appendSl (z := u8 0) (by' := 1) (Aa B.fSig) J J J J J Y27.h Y27.h Sz5 Zr5 (by unfold By; kernel_rfl) J (fun W2 W2h => (SeesP.of (sees_part W2h Z1 (Block.see_fSig hB)))) (fun e => by cases e) (Ax _) A5 J (by rw [Aa, List.length_map, hN1, Nat.mul_one]) hc1 oM oM (by simp [hB.l_fSig]) ?_
 intro q2 c2 hq2
 refine G4 ?_
 -- ret
 refine G2 ?_
 refine ⟨_, [⟨q2, Aa (bytesB B ls ds), 5, c2 * 1⟩], res_tmp2 J J J, (by intro b hb; rw [List.mem_singleton.1 hb, bytesB]; simp only [Aa, List.map_append]; exact Bx), nodup1, ⟨q2, c2, N1 + 64, by rw [hN1, bytesB, List.length_append, hB.l_fSig], by omega, rfl, hq2, rfl⟩⟩


structure DB where
  w : List UInt8
  seq : UInt64
  prev : List UInt8
  ls : List (List UInt8)
  ds : List UInt8
  sg : List UInt8
deriving DecidableEq
def DB.zero : DB := ⟨List.replicate 32 0, 0, List.replicate 32 0, [], [], List.replicate 64 0⟩
def DB.head (D : DB) : Bool := decide ((4294967295 : Int) < (D.seq.toNat : Int)) || (!decide (decide (D.prev = List.replicate 32 0) = decide ((D.seq.toNat : Int) = 0)) || (decide ((16 : Int) < (D.ls.length : Int)) || decide ((512 : Int) < (D.ds.length : Int))))
def DB.check (D : DB) : Int := if D.head = true then 2 else (if linksBad D.prev D.ls = true then 2 else 0)
def DB.body (D : DB) : List UInt8 := D.w ++ numB D.seq ++ D.prev ++ numB (UInt64.ofNat D.ls.length) ++ D.ls.flatten ++ (numB (UInt64.ofNat D.ds.length) ++ D.ds)
def DB.bytes (D : DB) : List UInt8 := D.body ++ D.sg
structure DB.ok (D : DB) : Prop where
  w : D.w.length = 32
  prev : D.prev.length = 32
  sg : D.sg.length = 64
  ls : ∀ l ∈ D.ls, l.length = 32
structure BlockIs (W : World) (B : Block) (D : DB) : Prop where
  ok : B.ok
  w : B.fWriter = D.w
  seq : B.fSeq = D.seq
  prev : B.fPrev = D.prev
  ls : RowsAt W B.fLinks 32 D.ls
  ds : BytesAt W B.fData D.ds
  sg : B.fSig = D.sg
theorem BlockIs.dok {W : World} {B : Block} {D : DB} (h : BlockIs W B D) : D.ok := ⟨by rw [← h.w]; exact h.ok.l_fWriter, by rw [← h.prev]; exact h.ok.l_fPrev, by rw [← h.sg]; exact h.ok.l_fSig, h.ls.row⟩
theorem BlockIs.check {W : World} {B : Block} {D : DB} (h : BlockIs W B D) : bcheck B D.ls = D.check := by
  simp only [bcheck, bheadB, DB.check, DB.head, h.seq, h.prev, h.ls.len, h.ds.len]
theorem BlockIs.body {W : World} {B : Block} {D : DB} (h : BlockIs W B D) : bodyB B D.ls D.ds = D.body := by
  simp only [bodyB, DB.body, h.w, h.seq, h.prev, h.ls.len, h.ds.len]
theorem BlockIs.bytes {W : World} {B : Block} {D : DB} (h : BlockIs W B D) : bytesB B D.ls D.ds = D.bytes := by
  simp only [bytesB, DB.bytes, h.body, h.sg]
theorem acc_rows {s : Sl} {bl : List Blk} {ls : List (List UInt8)} {E : TypeId} {n : Nat} {w : World} (h : Acc s bl (A1 ls) E n 32) (hl : Lies bl w) (hr : ∀ l ∈ ls, l.length = 32) (hn : ls.length = n) (hm : n ≤ 1000000) : RowsAt w s 32 ls :=
  ⟨by rw [h.num, hn], hr, h.cap, h.see hl, by rw [h.num]; unfold maxLen; omega, h.nilc⟩
theorem acc_bytes {s : Sl} {bl : List Blk} {l : List UInt8} {E : TypeId} {n : Nat} {w : World} (h : Acc s bl (Aa l) E n 1) (hl : Lies bl w) (hn : l.length = n) (hm : n ≤ 1000000) : BytesAt w s l :=
  ⟨by rw [h.num, hn], h.cap, h.see hl, by rw [h.num]; unfold maxLen; omega, h.nilc⟩
theorem zero_is (W : World) : BlockIs W Block.zero DB.zero := ⟨Block.zero_ok, rfl, rfl, rfl, ⟨rfl, fun l hl => (by cases hl), Nat.le_refl _, SeesP.nil, Nat.zero_le _, fun _ => rfl⟩, ⟨rfl, Nat.le_refl _, SeesP.nil, Nat.zero_le _, fun _ => rfl⟩, rfl⟩

def kW : List UInt64 := [4794697086780616226, 8158064640168781261, 13096744586834688815, 16840607885511220156, 4131703408338449720, 6480981068601479193, 10538285296894168987, 12329834152419229976, 15566598209576043074, 1334009975649890238, 2608012711638119052, 6128411473006802146, 8268148722764581231, 9286055187155687089, 11230858885718282805, 13951009754708518548, 16472876342353939154, 17275323862435702243, 1135362057144423861, 2597628984639134821, 3308224258029322869, 5365058923640841347, 6679025012923562964, 8573033837759648693, 10970295158949994411, 12119686244451234320, 12683024718118986047, 13788192230050041572, 14330467153632333762, 15395433587784984357, 489312712824947311, 1452737877330783856, 2861767655752347644, 3322285676063803686, 5560940570517711597, 5996557281743188959, 7280758554555802590, 8532644243296465576, 9350256976987008742, 10552545826968843579, 11727347734174303076, 12113106623233404929, 14000437183269869457, 14369950271660146224, 15101387698204529176, 15463397548674623760, 17586052441742319658, 1182934255886127544, 1847814050463011016, 2177327727835720531, 2830643537854262169, 3796741975233480872, 4115178125766777443, 5681478168544905931, 6601373596472566643, 7507060721942968483, 8399075790359081724, 8693463985226723168, 9568029438360202098, 10144078919501101548, 10430055236837252648, 11840083180663258601, 13761210420658862357, 14299343276471374635, 14566680578165727644, 15097957966210449927, 16922976911328602910, 17689382322260857208, 500013540394364858, 748580250866718886, 1242879168328830382, 1977374033974150939, 2944078676154940804, 3659926193048069267, 4368137639120453308, 4836135668995329356, 5532061633213252278, 6448918945643986474, 6902733635092675308, 7801388544844847127]
def startW : List UInt64 := [7640891576956012808, 13503953896175478587, 4354685564936845355, 11912009170470909681, 5840696475078001361, 11170449401992604703, 2270897969802886507, 6620516959819538809]

theorem sha_K  : Meets Tryz.prog 197 [] [] (fun _ => True) (fun v out => v = agg (Ae kW) ∧ out = []) := by
 intro W hW
 refine Ac Tryz.func197 J 2 Tryz.ntmps197 J (G2 ?_)
 refine .alloc (cs := (Ae (List.replicate 80 0))) J Zr199 J ?_
 intro n0 hn0 hf0
 refine G4 ?_
 refine .build (cs := Ae kW) J J J (fun w => by kernel_rfl) ?_
 refine .sA J J J J zB Sz199 (by (simp [kW]; done)) Z0 sP zU ?_
 refine G2 ?_
 -- ret
 refine G2 ?_
 refine ⟨_, [], An J J Y199 J Sz199 Z0 (by simp [kW]), sP, sP, ?_, rfl⟩
 rfl

theorem sha_Start  : Meets Tryz.prog 156 [] [] (fun _ => True) (fun v out => v = agg (Ae startW) ∧ out = []) := by
 intro W hW
 refine Ac Tryz.func156 J 2 Tryz.ntmps156 J (G2 ?_)
 refine .alloc (cs := (Ae (List.replicate 8 0))) J Zr120 J ?_
 intro n0 hn0 hf0
 refine G4 ?_
 refine .build (cs := Ae startW) J J J (fun w => by kernel_rfl) ?_
 refine .sA J J J J zB Sz120 (by (simp [startW]; done)) Z0 sP zU ?_
 refine G2 ?_
 -- ret
 refine G2 ?_
 refine ⟨_, [], An J J Y120.h J Sz120 Z0 (by simp [startW]), sP, sP, ?_, rfl⟩
 rfl

theorem bits_rol (x : UInt64) (k : Int) (s : Nat) (hk : -64 ≤ k ∧ k ≤ 64) (hs : (wordOf k &&& 63).toNat = s) (hs2 : s ≤ 63) : Meets Tryz.prog 198 [u64 x, i64 k] [] (fun _ => True) (fun v out => v = u64 (rolW x s) ∧ out = []) := by
 intro W hW
 have h64 : ((64 : UInt64) - (wordOf k &&& 63)).toNat = 64 - s := by rw [UInt64.toNat_sub_of_le _ _ (by rw [UInt64.le_iff_toNat_le, hs]; show s ≤ 64; omega), hs]; rfl
 refine Ac Tryz.func198 J 17 Tryz.ntmps198 J (G2 ?_)
 refine .a J J (show Ag _ _ = some (u64 0) from rfl) (G6 ?_)
 refine .and_u64 J J J (show Ag _ _ = some (u64 63) from rfl) (G7 ?_)
 refine .shl_u64 J J J J s oM oM (G2 ?_)
 refine .sub_u64 J J (show Ag _ _ = some (u64 64) from rfl) J (.shr_u64 J J J J (64 - s) oM oM (G4 ?_))
 -- ret
 refine G2 ?_
 refine ⟨_, [], Al J J, sP, sP, ?_, rfl⟩
 rfl

theorem sha_schedule (p : List UInt8) (hp : p.length = 128) (A w : List UInt64) (hA : Hid (schA p 128 = A)) (hwp : Hid (schB A 64 = w)) : Meets Tryz.prog 196 [agg (Aa p)] [] (fun _ => True) (fun v out => v = agg (Ae w) ∧ out = []) := by
 intro W hW
 have hA80 : A.length = 80 := by rw [← hA.out]; exact schA_length p 128
 have hw80 : w.length = 80 := by rw [← hwp.out, schB_length]; exact hA80
 refine Ac Tryz.func196 J 72 Tryz.ntmps196 J (G3 ?_)
 intro n1 hn1 hf1
 refine .alloc (cs := (Ae (List.replicate 80 0))) J Zr199 J ?_
 intro n2 hn2 hf2
 refine G4 ?_
 refine .alloc (cs := (Ae (List.replicate 80 0))) J Zr199 J ?_
 intro n3 hn3 hf3
 refine G5 ?_
 refine .lA J J J Tryz.underlying189 J Sz189 Z2 (by (simp [hp]; done)) ?_
 refine G4 ?_
 refine .loop (ι := Nat) (fun k => ⟨[(3, ptr n3 0), (2, ptr n2 0), (11, agg (Aa p)), (12, i64 (k : Int))], [⟨n3, Ae (schA p k), 199, 80⟩, ⟨n2, Ae (List.replicate 80 0), 199, 80⟩]⟩) (fun k => k ≤ 128) (fun k => 128 - k) (0) ?_ ?_ ?_
 · omega
 · exact Ad (wk1 rfl (wk1 rfl (wk1 rfl (wk1 rfl wk0)))) (wh1 Z0 (wh1 Z1 wh0)) nD
 rintro k hi
 have hlk := schA_length p k
 refine G6 ?_
 refine .condP J (fun hc0 => ?_) (fun hc0 => ?_)
 ·
  refine G7 ?_
  refine .idxA1 J J J J Tryz.underlying189 Sz5 Y5.h J _ J oM zG ?_
  refine G6 ?_
  refine .quo_i64 J J J J oM (G1 ?_)
  refine .quo_i64 J J J J oM (.i1 J J J J Y199 Sz24 (k / 8) oM oM (G1 ?_))
  refine .shl_u64 J J J J 8 J dE (G3 ?_)
  refine .i1 J J J J Y199 Sz24 (k / 8) oM oM (.s1 J J J J J Sz24 Z0 (by (simp [schA_length]; omega)) (by exact A8 _ _ _) zU ?_)
  refine G8 ?_
  exact ⟨k + 1, by omega, by omega, Ad (wk1 rfl (wk1 rfl (wk1 rfl (wk1 rfl wk0)))) (wh1 Z0 (wh1 Z1 wh0)) nD⟩
 obtain rfl : k = 128 := by omega
 rw [hA.out]
 clear hlk
 refine G12 ?_
 refine .loop (ι := Nat) (fun j => ⟨[(3, ptr n3 0), (2, ptr n2 0), (6, i64 (16 + (j : Int)))], [⟨n3, Ae (schB A j), 199, 80⟩, ⟨n2, Ae (List.replicate 80 0), 199, 80⟩]⟩) (fun j => j ≤ 64) (fun j => 64 - j) (0) ?_ ?_ ?_
 · omega
 · exact Ad (wk1 rfl (wk1 rfl (wk1 rfl wk0))) (wh1 Z0 (wh1 Z1 wh0)) nD
 rintro j hi
 have hlj := schB_length A j
 refine G7 ?_
 refine .condP J (fun hc1 => ?_) (fun hc1 => ?_)
 ·
  refine G5 ?_
  refine .draw [(0, 0), (0, 1), (0, 2), (1, 3), (0, 4), (0, 5), (0, 6), (1, 7), (0, 8), (0, 9)] Ap zK (G2 ?_)
  refine .i1 J J J J Y199 Sz24 (j + 1) oM oM (G3 ?_)
  refine .i1 J J J J Y199 Sz24 (j + 14) oM oM (G8 ?_)
  refine .cV J J J J Body198 (bits_rol _ (-1) 63 dE dE dE) tV (G1 ?_)
  refine .cV J J J J Body198 (bits_rol _ (-8) 56 dE dE dE) tV (G2 ?_)
  refine .shr_u64 J J J J 7 J dE (G7 ?_)
  refine .cV J J J J Body198 (bits_rol _ (-19) 45 dE dE dE) tV (G1 ?_)
  refine .cV J J J J Body198 (bits_rol _ (-61) 3 dE dE dE) tV (G2 ?_)
  refine .shr_u64 J J J J 6 J dE (G4 ?_)
  refine .draw [(0, 0), (0, 1), (0, 2), (0, 3), (1, 4), (0, 5), (0, 6), (0, 7), (0, 8), (0, 9), (1, 10), (0, 11), (0, 12), (0, 13), (0, 14), (4, 15)] Ap zK (G3 ?_)
  refine .i1 J J J J Y199 Sz24 j oM oM (G5 ?_)
  refine .i1 J J J J Y199 Sz24 (j + 9) oM oM (G4 ?_)
  refine .i1 J J J J Y199 Sz24 (16 + j) oM oM (.s1 J J J J J Sz24 Z0 (by (simp [schB_length, hA80]; omega)) (by exact A8 _ _ _) zU ?_)
  refine G9 ?_
  exact ⟨j + 1, by omega, by omega, Ad (wk1 rfl (wk1 rfl (wk1 (congrArg (fun z => some (i64 z)) oM) wk0))) (wh1 Z0 (wh1 Z1 wh0)) nD⟩
 obtain rfl : j = 64 := by omega
 rw [hwp.out]
 clear hlj
 refine G7 ?_
 refine .lA J J J Y199 J Sz199 Z0 (by (simp [hw80]; done)) ?_
 refine .sA J J J J zB Sz199 (by (simp [hw80]; done)) Z1 sP zV ?_
 refine G2 ?_
 -- ret
 refine G2 ?_
 refine ⟨_, [], An J J Y199 J Sz199 Z1 (by simp [hw80]), sP, sP, ?_, rfl⟩
 rfl
theorem sha_Kk (k : List UInt64) (hk : Hid (kW = k)) : Meets Tryz.prog 197 [] [] (fun _ => True) (fun v out => v = agg (Ae k) ∧ out = []) := by
  rw [← hk.out]; exact sha_K
theorem W8.l_length (R : W8) : R.l.length = 8 := rfl

theorem sha_Piece (st : List UInt64) (hst : st.length = 8) (p : List UInt8) (hp : p.length = 128) (A w k : List UInt64) (R : W8) (hA : Hid (schA p 128 = A)) (hwp : Hid (schB A 64 = w)) (hw : w.length = 80) (hk : Hid (kW = k)) (hk80 : k.length = 80) (hR : Hid (rnds k w (W8.of st) 80 = R)) : Meets Tryz.prog 155 [agg (Ae st), agg (Aa p)] [] (fun _ => True) (fun v out => v = agg (Ae (addUp st R.l 8)) ∧ out = []) := by
 intro W hW
 refine Ac Tryz.func155 J 127 Tryz.ntmps155 J (G3 ?_)
 intro n2 hn2 hf2
 refine G1 ?_
 intro n3 hn3 hf3
 refine .alloc (cs := (Ae (List.replicate 8 0))) J Zr120 J ?_
 intro n4 hn4 hf4
 refine G4 ?_
 refine .lA J J J Tryz.underlying189 J Sz189 Z1 (by (simp [hp]; done)) ?_
 refine .cV J J J J Body196 (sha_schedule p hp A w hA hwp) tV (.cV J J J J Body197 (sha_Kk k hk) tV (.alloc (cs := (Ae (List.replicate 80 0))) J Zr199 J ?_))
 intro n5 hn5 hf5
 refine .alloc (cs := (Ae (List.replicate 80 0))) J Zr199 J ?_
 intro n6 hn6 hf6
 refine .sA J J J J zB Sz199 (by (simp [hw]; done)) Z1 sP zV ?_
 refine .sA J J J J zB Sz199 (by (simp [hk80]; done)) Z0 sP zU ?_
 refine G3 ?_
 refine .draw [(0, 0), (1, 1), (0, 2), (1, 3), (0, 4), (1, 5), (0, 6), (1, 7), (0, 8), (0, 9), (0, 10), (0, 11)] Ap zK (.i1 J J J J Y120.h Sz24 0 J dE (G1 ?_))
 refine .i1 J J J J Y120.h Sz24 1 J dE (G1 ?_)
 refine .i1 J J J J Y120.h Sz24 2 J dE (G1 ?_)
 refine .i1 J J J J Y120.h Sz24 3 J dE (G8 ?_)
 refine .draw [(0, 0), (1, 1), (0, 2), (1, 3), (0, 4), (1, 5), (0, 6), (1, 7), (0, 8), (0, 9), (0, 10), (0, 11)] Ap zK (.i1 J J J J Y120.h Sz24 4 J dE (G1 ?_))
 refine .i1 J J J J Y120.h Sz24 5 J dE (G1 ?_)
 refine .i1 J J J J Y120.h Sz24 6 J dE (G1 ?_)
 refine .i1 J J J J Y120.h Sz24 7 J dE (G14 ?_)
 refine .loop (ι := Nat) (fun t => ⟨[(2, ptr n2 0), (4, ptr n4 0), (5, ptr n5 0), (6, ptr n6 0), (7, u64 (rnds k w (W8.of st) t).a), (8, u64 (rnds k w (W8.of st) t).b), (9, u64 (rnds k w (W8.of st) t).c), (10, u64 (rnds k w (W8.of st) t).d), (11, u64 (rnds k w (W8.of st) t).e), (12, u64 (rnds k w (W8.of st) t).f), (13, u64 (rnds k w (W8.of st) t).g), (14, u64 (rnds k w (W8.of st) t).h), (41, i64 (t : Int))], [⟨n6, Ae k, 199, 80⟩, ⟨n5, Ae w, 199, 80⟩, ⟨n4, Ae (List.replicate 8 0), 120, 8⟩, ⟨n2, Ae st, 120, (Ae st).length⟩]⟩) (fun t => t ≤ 80) (fun t => 80 - t) (0) ?_ ?_ ?_
 · omega
 · exact Ad (wk1 rfl (wk1 rfl (wk1 rfl (wk1 rfl (wk1 rfl (wk1 rfl (wk1 rfl (wk1 rfl (wk1 rfl (wk1 rfl (wk1 rfl (wk1 rfl (wk1 rfl wk0))))))))))))) (wh1 Z0 (wh1 Z1 (wh1 Z2 (wh1 Z4 wh0)))) nD
 rintro t hi
 refine G6 ?_
 refine .condP J (fun hc0 => ?_) (fun hc0 => ?_)
 ·
  refine G13 ?_
  refine .cV J J J J Body198 (bits_rol _ (-14) 50 dE dE dE) tV (G1 ?_)
  refine .cV J J J J Body198 (bits_rol _ (-18) 46 dE dE dE) tV (G2 ?_)
  refine .cV J J J J Body198 (bits_rol _ (-41) 23 dE dE dE) tV (G5 ?_)
  refine .draw [(0, 0), (0, 1), (0, 2), (0, 3), (0, 4), (0, 5), (0, 6), (0, 7), (0, 8), (0, 9), (0, 10), (0, 11), (0, 12), (0, 13), (1, 14), (0, 15), (0, 16), (0, 17), (1, 18), (0, 19), (0, 20)] Ap zK (G7 ?_)
  refine .not_u64 J J J (G5 ?_)
  refine .i1 J J J J Y199 Sz24 _ J oM (G3 ?_)
  refine .i1 J J J J Y199 Sz24 _ J oM (G8 ?_)
  refine .cV J J J J Body198 (bits_rol _ (-28) 36 dE dE dE) tV (G1 ?_)
  refine .cV J J J J Body198 (bits_rol _ (-34) 30 dE dE dE) tV (G2 ?_)
  refine .cV J J J J Body198 (bits_rol _ (-39) 25 dE dE dE) tV (G51 ?_)
  exact ⟨t + 1, by omega, by omega, Ad (wk1 rfl (wk1 rfl (wk1 rfl (wk1 rfl (wk1 rfl (wk1 rfl (wk1 rfl (wk1 rfl (wk1 rfl (wk1 rfl (wk1 rfl (wk1 rfl (wk1 rfl wk0))))))))))))) (wh1 Z0 (wh1 Z1 (wh1 Z2 (wh1 Z3 wh0)))) nD⟩
 obtain rfl : t = 80 := by omega
 rw [hR.out]
 refine G16 ?_
 refine .build (cs := Ae R.l) J J J (fun w => by kernel_rfl) ?_
 refine G4 ?_
 refine .loop (ι := Nat) (fun i => ⟨[(2, ptr n2 0), (4, ptr n4 0), (114, agg (Ae R.l)), (115, i64 (i : Int))], [⟨n4, Ae (List.replicate 8 0), 120, 8⟩, ⟨n2, Ae (addUp st R.l i), 120, (Ae st).length⟩]⟩) (fun i => i ≤ 8) (fun i => 8 - i) (0) ?_ ?_ ?_
 · omega
 · exact Ad (wk1 rfl (wk1 rfl (wk1 rfl (wk1 rfl wk0)))) (wh1 Z2 (wh1 Z3 wh0)) nD
 rintro i hi
 have hli := Bt st R.l i
 have hRl := W8.l_length R
 refine G6 ?_
 refine .condP J (fun hc1 => ?_) (fun hc1 => ?_)
 ·
  refine G7 ?_
  refine .idxA1 J J J J Y120.h Sz24 Y24.h J _ J oM (by exact get_words oM) ?_
  refine G6 ?_
  refine .i1 J J J J Y120.h Sz24 _ J oM (G3 ?_)
  refine .i1 J J J J Y120.h Sz24 _ J oM (.s1 J J J J J Sz24 Z1 (by (simp [hst, Bt]; omega)) (by exact A8 _ _ _) zV ?_)
  refine G8 ?_
  exact ⟨i + 1, by omega, by omega, Ad (wk1 rfl (wk1 rfl (wk1 rfl (wk1 rfl wk0)))) (wh1 Z0 (wh1 Z1 wh0)) nD⟩
 obtain rfl : i = 8 := by omega
 refine G7 ?_
 refine .lA J J J Y120.h J Sz120 Z1 (by (simp [hst, Bt]; done)) ?_
 refine .sA J J J J zB Sz120 (by (simp [hst, Bt]; done)) Z0 sP zU ?_
 refine G2 ?_
 -- ret
 refine G2 ?_
 refine ⟨_, [], An J J Y120.h J Sz120 Z0 (by simp [hst, Bt]), sP, sP, ?_, rfl⟩
 rfl
theorem sha_sum (st : List UInt64) (hst : st.length = 8) (s : List UInt8) (hs : Hid (sumUp st 64 = s)) : Meets Tryz.prog 91 [agg (Ae st)] [] (fun _ => True) (fun v out => v = agg (Aa s) ∧ out = []) := by
 intro W hW
 have hs64 : s.length = 64 := by rw [← hs.out]; exact Cf st 64
 refine Ac Tryz.func91 J 22 Tryz.ntmps91 J (G3 ?_)
 intro n1 hn1 hf1
 refine .alloc (cs := (Aa (List.replicate 64 0))) J Zr28 J ?_
 intro n2 hn2 hf2
 refine G4 ?_
 refine .alloc (cs := (Aa (List.replicate 64 0))) J Zr28 J ?_
 intro n3 hn3 hf3
 refine G9 ?_
 refine .loop (ι := Nat) (fun k => ⟨[(1, ptr n1 0), (2, ptr n2 0), (3, ptr n3 0), (5, i64 (k : Int))], [⟨n3, Aa (sumUp st k), 28, 64⟩, ⟨n2, Aa (List.replicate 64 0), 28, 64⟩, ⟨n1, Ae st, 120, (Ae st).length⟩]⟩) (fun k => k ≤ 64) (fun k => 64 - k) (0) ?_ ?_ ?_
 · omega
 · exact Ad (wk1 rfl (wk1 rfl (wk1 rfl (wk1 rfl wk0)))) (wh1 Z0 (wh1 Z1 (wh1 Z2 wh0))) nD
 rintro k hi
 have hlk := Cf st k
 refine G6 ?_
 refine .condP J (fun hc0 => ?_) (fun hc0 => ?_)
 ·
  refine G13 ?_
  refine .quo_i64 J J J J oM (.i1 J J J J Y120.h Sz24 (k / 8) oM oM (G2 ?_))
  refine .rem_i64 J J J J oM (.mul_i64 J J J J oM (G1 ?_))
  refine .shr_u64 J J J J (56 - 8 * (k % 8)) oM oM (G1 ?_)
  refine .i1 J J J J Y28.h Sz5 _ J oM (.s1 J J J J J Sz5 Z0 (by (simp [Cf]; omega)) (by exact Be _ _ _) zU ?_)
  refine G8 ?_
  exact ⟨k + 1, by omega, by omega, Ad (wk1 rfl (wk1 rfl (wk1 rfl (wk1 rfl wk0)))) (wh1 Z0 (wh1 Z1 (wh1 Z2 wh0))) nD⟩
 obtain rfl : k = 64 := by omega
 rw [hs.out]
 clear hlk
 refine G7 ?_
 refine .lA J J J Y28.h J Sz28 Z0 (by (simp [hs64]; done)) ?_
 refine .sA J J J J zE Sz28 (by (simp [hs64]; done)) Z1 sP zV ?_
 refine G2 ?_
 -- ret
 refine G2 ?_
 refine ⟨_, [], An J J Y28.h J Sz28 Z1 (by simp [hs64]), sP, sP, ?_, rfl⟩
 rfl

theorem and_low {x : UInt64} (h : x.toNat < 4294967296) : x &&& 4294967295 = x := by
  apply UInt64.toNat_inj.1
  rw [UInt64.toNat_and]
  show x.toNat &&& (2 ^ 32 - 1) = x.toNat
  rw [Nat.and_two_pow_sub_one_eq_mod, Nat.mod_eq_of_lt oM]
theorem shr_small {x : UInt64} {n : Nat} (h : x.toNat < 2 ^ n) : Aq x n = 0 := by
  apply UInt64.toNat_inj.1
  rw [shr64_nat, Nat.div_eq_of_lt h]; rfl
theorem mul8_nat {x : UInt64} (h : x.toNat < 536870912) : (x * 8).toNat = x.toNat * 8 := by
  rw [UInt64.toNat_mul]; show x.toNat * 8 % 18446744073709551616 = _; omega

theorem bits_mul8 (x : UInt64) (hx : x.toNat < 536870912) : Meets Tryz.prog 195 [u64 x, u64 8] [] (fun _ => True) (fun v out => v = .tuple #[u64 0, u64 (x * 8)] ∧ out = []) := by
 intro W hW
 have h1 := and_low (x := x) oM
 have h2 := shr_small (x := x) (n := 32) oM
 have h3 := mul8_nat hx
 have h4 := shr_small (x := x * 8) (n := 32) oM
 refine Ac Tryz.func195 J 51 Tryz.ntmps195 J (G2 ?_)
 refine .a J J (show Ag _ _ = some (u64 0) from rfl) (.a J J (show Ag _ _ = some (u64 0) from rfl) (G5 ?_))
 refine .and_u64 J J J (show Ag _ _ = some (u64 4294967295) from rfl) (G6 ?_)
 refine .shr_u64 J J J J 32 oM oM (G6 ?_)
 refine .and_u64 J J J (show Ag _ _ = some (u64 4294967295) from rfl) (G6 ?_)
 refine .shr_u64 J J (show Ag _ _ = some (u64 8) from rfl) J 32 oM oM (G17 ?_)
 refine .shr_u64 J J J J 32 J dE (G7 ?_)
 refine .and_u64 J J J (show Ag _ _ = some (u64 4294967295) from rfl) (G6 ?_)
 refine .shr_u64 J J J J 32 J dE (G21 ?_)
 refine .shr_u64 J J J J 32 J dE (G12 ?_)
 -- ret
 refine G2 ?_
 refine ⟨_, [], res_tmp2 J J J, sP, sP, ?_, rfl⟩
 simp only [h1, h2, show Aq 8 32 = 0 from rfl, show (8 : UInt64) &&& 4294967295 = 8 from rfl]
 rw [h4, UInt64.mul_zero (a := x)]
 rfl

theorem bytesV_app (a b : List UInt8) : Aa (a ++ b) = Aa a ++ Aa b := List.map_append
theorem sl_get {ss : List Sl} {j : Nat} (h : j < ss.length) : (ss.map Sl.v)[j]? = some (ss.getD j Sl.nil).v := by simp [List.getElem?_eq_getElem h, List.getD]
theorem take_flat {ls : List (List UInt8)} {j : Nat} (h : j < ls.length) : (ls.take (j + 1)).flatten = (ls.take j).flatten ++ ls.getD j [] := by
  rw [List.take_succ_eq_append_getElem h, List.flatten_append]
  simp [List.getD, h]
theorem take_flat_le (ls : List (List UInt8)) (j : Nat) : (ls.take j).flatten.length ≤ ls.flatten.length := by
  have : ls.flatten = (ls.take j).flatten ++ (ls.drop j).flatten := by rw [← List.flatten_append, List.take_append_drop]
  rw [this, List.length_append]; omega

theorem sha_padded (p : Option Addr) (n c : Nat) (ss : List Sl) (ls : List (List UInt8)) (hss : ss.length = n) (hls : ls.length = n) (hsl : ∀ j, j < n → (ss.getD j Sl.nil).n = (ls.getD j []).length ∧ ((ss.getD j Sl.nil).p = none → (ss.getD j Sl.nil).n = 0)) (F : List UInt8) (hF : ls.flatten = F) (htot : F.length ≤ 90000) (hn : n ≤ 1000000) : Meets Tryz.prog 154 [.slice p n c] [] (fun W => SeesP W p (ss.map Sl.v) ∧ ∀ j, j < n → SeesP W (ss.getD j Sl.nil).p (Aa (ls.getD j []))) (fun v out => ∃ s, v = s.v ∧ Acc s out (Aa (padB F)) 5 (padB F).length 1) := by
 intro W hW
 have hz := padZ_lt F.length
 have hle := take_flat_le ls
 rw [hF] at hle
 refine Ac Tryz.func154 J 76 Tryz.ntmps154 J (G19 ?_)
 refine .loop (ι := Nat) (fun k => ⟨[(0, .slice p n c), (3, i64 ((ls.take k).flatten.length : Int)), (14, .slice p n c), (15, i64 (n : Int)), (16, i64 (k : Int))], []⟩) (fun k => k ≤ n) (fun k => n - k) (0) ?_ ?_ ?_
 · omega
 · exact Ao (wk1 rfl (wk1 rfl (wk1 rfl (wk1 rfl (wk1 rfl wk0))))) Ak
 rintro k hi
 refine G6 ?_
 refine .condP J (fun hc0 => ?_) (fun hc0 => ?_)
 ·
  have hk3 : k < n := by omega
  obtain ⟨b, o, hbp, hbs⟩ := hW.1.at (by rw [List.length_map]; omega)
  have hv : W.cell? ⟨b, o + k * 1, none⟩ = some (ss.getD k Sl.nil).v := by rw [Nat.mul_one]; exact hbs k _ (sl_get oM)
  have hstep := hle (k + 1)
  rw [take_flat oM, List.length_append, ← (hsl k oM).1] at hstep
  refine G6 ?_
  refine .idxSlP 1 J J J hbp J Y118.h Sz27 k J oM (.loadE J J J Y27.h J sP (hv) (G17 ?_))
  exact ⟨k + 1, by omega, by omega, Ao (wk1 rfl (wk1 (congrArg (fun z => some (i64 z)) (by rw [take_flat oM, List.length_append, (hsl k oM).1]; simp)) (wk1 rfl (wk1 rfl (wk1 rfl wk0))))) Ak⟩
 have hk3 : k = n := by omega
 rw [hk3, List.take_of_length_le oM, hF]
 refine G9 ?_
 refine .quo_i64 J J J J oM (.mul_i64 J J J J oM (G1 ?_))
 refine .mkRoom (z := u8 0) (by' := 1) ((F.length + 16) / 128 * 128 + 128) J J J J oM Y27.h Sz5 Zr5 (by unfold By; kernel_rfl) J oM oM ?_
 intro q30
 refine G12 ?_
 refine .loop (ι := Nat × Sl × List Blk) (fun x => ⟨[(3, i64 (F.length : Int)), (6, x.2.1.v), (31, .slice p n c), (32, i64 (n : Int)), (33, i64 (x.1 : Int))], (x.2.2 ++ [])⟩) (fun x => x.1 ≤ n ∧ Acc x.2.1 x.2.2 (Aa (ls.take x.1).flatten) 5 (ls.take x.1).flatten.length 1) (fun x => n - x.1) ((0, ⟨some ⟨q30, 0, none⟩, 0, (F.length + 16) / 128 * 128 + 128⟩, [⟨q30, [], 5, ((F.length + 16) / 128 * 128 + 128) * 1⟩])) ?_ ?_ ?_
 · exact ⟨Nat.zero_le _, Acc.some (Nat.zero_le _) rfl⟩
 · exact Ao (wk1 rfl (wk1 rfl (wk1 rfl (wk1 rfl (wk1 rfl wk0))))) (pm_consE rM rfl (Nat.mul_one _).symm Ak)
 rintro x ⟨hx, hax⟩
 refine G6 ?_
 refine .condP J (fun hc1 => ?_) (fun hc1 => ?_)
 ·
  have hx3 : x.1 < n := by omega
  obtain ⟨b, o, hbp, hbs⟩ := hW.1.at (by rw [List.length_map]; omega)
  have hv : W.cell? ⟨b, o + x.1 * 1, none⟩ = some (ss.getD x.1 Sl.nil).v := by rw [Nat.mul_one]; exact hbs x.1 _ (sl_get oM)
  have hstep := hle (x.1 + 1)
  rw [take_flat oM, List.length_append, ← (hsl x.1 oM).1] at hstep
  refine G6 ?_
  refine .idxSlP 1 J J J hbp J Y118.h Sz27 x.1 J oM (.loadE J J J Y27.h J sP (hv) (G6 ?_))
  refine .appendAcc (z := u8 0) (by' := 1) (Aa (ls.getD x.1 [])) J J J J J Y27.h Y27.h Sz5 Zr5 (by unfold By; kernel_rfl) J hax sG (fun w h => A6 h J (hW.2 x.1 oM)) (hsl x.1 oM).2 (Ax _) oM oM (by rw [Aa, List.length_map, Nat.mul_one]; exact (hsl x.1 oM).1.symm) ?_
  intro s39 bl39 hac39
  refine G9 ?_
  refine ⟨(x.1 + 1, s39, bl39), ⟨by simp only []; omega, ?_⟩, by simp only []; omega, Ao (wk1 J (wk1 J (wk1 J (wk1 J (wk1 J wk0))))) (Af sG Ak)⟩
  rw [take_flat oM, List.length_append, ← (hsl x.1 oM).1]
  simpa [Aa] using hac39
 have hx3 : x.1 = n := by omega
 rw [hx3, List.take_of_length_le oM, hF] at hax
 refine G8 ?_
 refine .mkRow (z := u8 0) [u8 (128)] (Aa [128]) J J J Y27.h Sz5 Zr5 J J (by intro v hv; rw [List.mem_singleton.1 hv]; rfl) dE J ?_
 intro q42
 refine .appendAcc (z := u8 0) (by' := 1) (Aa [128]) J J J J J Y27.h Y27.h Sz5 Zr5 (by unfold By; kernel_rfl) J hax sG (fun w h => SeesP.of (Ar h Z0)) (fun e => by cases e) (Ax _) oM oM (by rfl) ?_
 intro s43 bl43 hac43
 refine G5 ?_
 refine .loop (ι := Nat × Sl × List Blk) (fun z => ⟨[(3, i64 (F.length : Int)), (6, z.2.1.v)], (z.2.2 ++ [])⟩) (fun z => z.1 ≤ padZ F.length ∧ Acc z.2.1 z.2.2 (Aa (F ++ [128] ++ List.replicate z.1 0)) 5 (F.length + 1 + z.1) 1) (fun z => padZ F.length - z.1) ((0, s43, bl43)) ?_ ?_ ?_
 · exact ⟨Nat.zero_le _, by simpa [Aa] using hac43⟩
 · exact Ao (wk1 rfl (wk1 rfl wk0)) (Af sG Ak)
 rintro z ⟨hz1, haz⟩
 have hzn := haz.num
 have hpz := padZ_at F.length z.1 hz1
 refine G5 ?_
 refine .rem_i64 J J J J oM (G3 ?_)
 refine .condNP J (fun hc2 => ?_) (fun hc2 => ?_)
 ·
  have hz3 : z.1 < padZ F.length := by omega
  refine G5 ?_
  refine .mkRow (z := u8 0) [u8 (0)] (Aa [0]) J J J Y27.h Sz5 Zr5 J J (by intro v hv; rw [List.mem_singleton.1 hv]; rfl) dE J ?_
  intro q49
  refine .appendAcc (z := u8 0) (by' := 1) (Aa [0]) J J J J J Y27.h Y27.h Sz5 Zr5 (by unfold By; kernel_rfl) J haz sG (fun w h => SeesP.of (Ar h Z0)) (fun e => by cases e) (Ax _) oM oM (by rfl) ?_
  intro s50 bl50 hac50
  refine G4 ?_
  refine ⟨(z.1 + 1, s50, bl50), ⟨by simp only []; omega, ?_⟩, by simp only []; omega, Ao (wk1 J (wk1 J wk0)) (Af sG Ak)⟩
  rw [List.replicate_succ', ← List.append_assoc]
  simpa [Aa, Nat.add_assoc] using hac50
 have hz3 : z.1 = padZ F.length := by omega
 rw [hz3] at haz
 refine G9 ?_
 rw [word_nat (n := F.length) oM]
 refine .cV J J J J Body195 (bits_mul8 (UInt64.ofNat F.length) (by rw [ofNat_nat oM]; omega)) tV ?_
 refine G12 ?_
 refine .build (cs := [u64 0, u64 (UInt64.ofNat F.length * 8)]) J J J (fun w => by kernel_rfl) ?_
 refine G4 ?_
 refine .rounds 3 (SRounds.more (G6 ?_))
 refine .cond_t J (rfl) (G6 ?_)
 refine .idxA1 J J J J Tryz.underlying218 Sz24 Y24.h J 0 J oM J (G9 ?_)
 refine .loop (ι := Nat × Sl × List Blk) (fun y => ⟨[(3, i64 (F.length : Int)), (6, y.2.1.v), (12, u64 (0)), (13, i64 (56 - 8 * (y.1 : Int))), (59, agg [u64 0, u64 (UInt64.ofNat F.length * 8)]), (60, i64 0)], (y.2.2 ++ [])⟩) (fun y => y.1 ≤ 8 ∧ Acc y.2.1 y.2.2 (Aa (F ++ [128] ++ List.replicate (padZ F.length) 0 ++ beUp (0) y.1)) 5 ((F.length + 1 + padZ F.length) + y.1) 1) (fun y => 8 - y.1) ((0, z.2.1, z.2.2)) ?_ ?_ ?_
 · exact ⟨Nat.zero_le _, by simpa [beUp] using haz⟩
 · exact Ao (wk1 rfl (wk1 rfl (wk1 rfl (wk1 rfl (wk1 rfl (wk1 rfl wk0)))))) (Af sG Ak)
 rintro y ⟨hy, hay⟩
 refine G7 ?_
 refine .condP J (fun hc4 => ?_) (fun hc4 => ?_)
 ·
  have hy3 : y.1 ≤ 7 := by omega
  refine G8 ?_
  refine .shr_u64 J J J J (56 - 8 * y.1) oM oM (G1 ?_)
  refine .mkRow (z := u8 0) [u8 ((Aq 0 (56 - 8 * y.1)).toUInt8)] (Aa [(Aq 0 (56 - 8 * y.1)).toUInt8]) J J J Y27.h Sz5 Zr5 J J (by intro v hv; rw [List.mem_singleton.1 hv]; rfl) dE J ?_
  intro q72
  refine .appendAcc (z := u8 0) (by' := 1) (Aa [(Aq 0 (56 - 8 * y.1)).toUInt8]) J J J J J Y27.h Y27.h Sz5 Zr5 (by unfold By; kernel_rfl) J hay sG (fun w h => SeesP.of (Ar h Z0)) (fun e => by cases e) (Ax _) oM oM (by rfl) ?_
  intro s73 bl73 hac73
  refine G10 ?_
  refine ⟨(y.1 + 1, s73, bl73), ⟨by simp only []; omega, ?_⟩, by simp only []; omega, Ao (wk1 J (wk1 J (wk1 J (wk1 (congrArg (fun z => some (i64 z)) oM) (wk1 J (wk1 J wk0)))))) (Af sG Ak)⟩
  rw [show beUp (0) (y.1 + 1) = beUp (0) y.1 ++ [(Aq (0) (56 - 8 * y.1)).toUInt8] from rfl, ← List.append_assoc, bytesV_app]
  exact hac73
 have hy3 : y.1 = 8 := by omega
 rw [hy3] at hay
 refine G10 ?_
 refine Cq (SRounds.more (G6 ?_))
 refine .cond_t J (rfl) (G6 ?_)
 refine .idxA1 J J J J Tryz.underlying218 Sz24 Y24.h J 1 J oM J (G9 ?_)
 refine .loop (ι := Nat × Sl × List Blk) (fun y => ⟨[(3, i64 (F.length : Int)), (6, y.2.1.v), (12, u64 (UInt64.ofNat F.length * 8)), (13, i64 (56 - 8 * (y.1 : Int))), (59, agg [u64 0, u64 (UInt64.ofNat F.length * 8)]), (60, i64 (0 + 1))], (y.2.2 ++ [])⟩) (fun y => y.1 ≤ 8 ∧ Acc y.2.1 y.2.2 (Aa (F ++ [128] ++ List.replicate (padZ F.length) 0 ++ beUp 0 8 ++ beUp (UInt64.ofNat F.length * 8) y.1)) 5 ((F.length + 1 + padZ F.length + 8) + y.1) 1) (fun y => 8 - y.1) ((0, y.2.1, y.2.2)) ?_ ?_ ?_
 · exact ⟨Nat.zero_le _, by simpa [beUp] using hay⟩
 · exact Ao (wk1 rfl (wk1 rfl (wk1 rfl (wk1 rfl (wk1 rfl (wk1 rfl wk0)))))) (Af sG Ak)
 rintro y ⟨hy, hay⟩
 refine G7 ?_
 refine .condP J (fun hc4 => ?_) (fun hc4 => ?_)
 ·
  have hy3 : y.1 ≤ 7 := by omega
  refine G8 ?_
  refine .shr_u64 J J J J (56 - 8 * y.1) oM oM (G1 ?_)
  refine .mkRow (z := u8 0) [u8 ((Aq (UInt64.ofNat F.length * 8) (56 - 8 * y.1)).toUInt8)] (Aa [(Aq (UInt64.ofNat F.length * 8) (56 - 8 * y.1)).toUInt8]) J J J Y27.h Sz5 Zr5 J J (by intro v hv; rw [List.mem_singleton.1 hv]; rfl) dE J ?_
  intro q72
  refine .appendAcc (z := u8 0) (by' := 1) (Aa [(Aq (UInt64.ofNat F.length * 8) (56 - 8 * y.1)).toUInt8]) J J J J J Y27.h Y27.h Sz5 Zr5 (by unfold By; kernel_rfl) J hay sG (fun w h => SeesP.of (Ar h Z0)) (fun e => by cases e) (Ax _) oM oM (by rfl) ?_
  intro s73 bl73 hac73
  refine G10 ?_
  refine ⟨(y.1 + 1, s73, bl73), ⟨by simp only []; omega, ?_⟩, by simp only []; omega, Ao (wk1 J (wk1 J (wk1 J (wk1 (congrArg (fun z => some (i64 z)) oM) (wk1 J (wk1 J wk0)))))) (Af sG Ak)⟩
  rw [show beUp (UInt64.ofNat F.length * 8) (y.1 + 1) = beUp (UInt64.ofNat F.length * 8) y.1 ++ [(Aq (UInt64.ofNat F.length * 8) (56 - 8 * y.1)).toUInt8] from rfl, ← List.append_assoc, bytesV_app]
  exact hac73
 have hy3 : y.1 = 8 := by omega
 rw [hy3] at hay
 refine G10 ?_
 refine Cq (SRounds.more (G6 ?_))
 refine .cond_f J (rfl) (G11 ?_)
 -- ret
 refine G2 ?_
 refine Az (out := (y.2.2 ++ [])) (Al J J) (Af sG Ak) ?_
 refine ⟨y.2.1, rfl, ?_⟩
 have e8 : UInt64.ofNat F.length * 8 = UInt64.ofNat (8 * F.length) := by
  apply UInt64.toNat_inj.1
  rw [mul8_nat (by rw [ofNat_nat oM]; omega), ofNat_nat oM, ofNat_nat oM]; omega
 rw [e8] at hay
 rw [padB_length, padB]
 simpa [Nat.add_assoc, Nat.add_comm, Nat.add_left_comm] using hay

theorem mk_chunk (p : Option Addr) (n c : Nat) : Meets Tryz.prog 153 [.slice p n c, i64 128] [] (fun _ => True) (fun v out => ∃ b1 b2, v = .func (.func 194) #[] #[ptr b1 0, ptr b2 0] ∧ out = [⟨b1, [.slice p n c], 27, 1⟩, ⟨b2, [i64 128], 3, 1⟩]) := by
 intro W hW
 refine Ac Tryz.func153 J 9 Tryz.ntmps153 J (G2 ?_)
 refine .box1 J J J ?_
 intro n2 hn2 hf2
 refine .box1 J J J ?_
 intro n3 hn3 hf3
 refine G10 ?_
 refine .cond_f J dE (G8 ?_)
 -- ret
 refine G2 ?_
 refine Az (out := (⟨n2, [.slice p n c], 27, 1⟩ :: (⟨n3, [i64 128], 3, 1⟩ :: []))) (Al J J) (Ab rM (Ab rM Ak)) ?_
 exact ⟨n2, n3, rfl, by simp⟩

def encC (q i : Nat) : Value := .slice (some ⟨q, 128 * i, none⟩) 128 128
theorem encC_eq (q i : Nat) : (.slice (some ⟨q, if 128 * i + 128 = 128 * i then 0 else 0 + 128 * i * 1, none⟩) (128 * i + 128 - 128 * i) (128 * i + 128 - 128 * i) : Value) = encC q i := by
  have e1 : 128 * i + 128 - 128 * i = 128 := by omega
  have e2 : 0 + 128 * i * 1 = 128 * i := by omega
  rw [if_neg oM, e1, e2]; rfl

theorem chunk_iter (l b1 b2 q n c K : Nat) (X : Nat → List Blk) (names : List Nat) (hnk : n = 128 * K) (hnc : n ≤ c) (hbig : n ≤ 1000000) : Meets Tryz.prog 194 [.func (.yield l) #[] #[], ptr b1 0, ptr b2 0] names (fun W => HRep ⟨Tryz.prog, W, 0, names, [], []⟩ (⟨b1, [.slice (some ⟨q, 0, none⟩) n c], 27, 1⟩ :: ⟨b2, [i64 128], 3, 1⟩ :: X 0) W ∧ ∀ i, i < K → ∀ W2, HRep ⟨Tryz.prog, W, 0, names, [], []⟩ (⟨b1, [.slice (some ⟨q, 0, none⟩) n c], 27, 1⟩ :: ⟨b2, [i64 128], 3, 1⟩ :: X i) W2 → YieldAt Fence.wide 0 Tryz.prog l #[encC q i] W2 fun e W3 => e = .returned (.bool true) ∧ HRep ⟨Tryz.prog, W, 0, names, [], []⟩ (⟨b1, [.slice (some ⟨q, 0, none⟩) n c], 27, 1⟩ :: ⟨b2, [i64 128], 3, 1⟩ :: X (i + 1)) W3) (fun v out => v = .tuple #[] ∧ out = ⟨b1, [.slice (some ⟨q, 0, none⟩) n c], 27, 1⟩ :: ⟨b2, [i64 128], 3, 1⟩ :: X K) := by
 intro W hW
 refine calls_of (hp0 := ⟨b1, [.slice (some ⟨q, 0, none⟩) n c], 27, 1⟩ :: ⟨b2, [i64 128], 3, 1⟩ :: X 0) Tryz.func194 J 31 Tryz.ntmps194 J (HRep.reN hW.1) (G6 ?_)
 refine .loop (ι := Nat) (fun i => ⟨[(0, .func (.yield l) #[] #[]), (1, ptr b1 0), (2, ptr b2 0), (4, i64 (128 * (i : Int)))], (⟨b1, [.slice (some ⟨q, 0, none⟩) n c], 27, 1⟩ :: (⟨b2, [i64 128], 3, 1⟩ :: (X i ++ [])))⟩) (fun i => i ≤ K) (fun i => K - i) (0) ?_ ?_ ?_
 · exact Nat.zero_le _
 · exact Ao (wk1 rfl (wk1 rfl (wk1 rfl (wk1 rfl wk0)))) (Ab rM (Ab rM (Af (by repeat (exact sg_end)) Ak)))
 rintro i hi
 refine G9 ?_
 refine .condP J (fun hc0 => ?_) (fun hc0 => ?_)
 ·
  have hi3 : i < K := by omega
  refine G5 ?_
  refine .draw [(1, 0), (1, 1), (0, 2), (0, 3), (0, 4), (0, 5), (0, 6)] Ap zK (G3 ?_)
  refine .sliceLoN (128*i) J J J J oM oM oM Y27.h Sz5 (G1 ?_)
  refine .min2 J J J J (show Value.int .i64 (if ((n - 128 * i : Nat) : Int) < (128 : Int) then ((n - 128 * i : Nat) : Int) else (128 : Int)) = i64 128 from by rw [if_neg oM]) ?_
  refine G4 ?_
  refine .regionY 10 J zK (G9 ?_)
  refine .slice3 (128*i) (128*i+128) (128*i+128) J J J J J J oM oM oM oM oM oM Y27.h Sz5 (.nil (yop J J (congrArg some (encC_eq q i)) (fun w h => hW.2 i hi3 w (by rw [List.append_nil] at h; exact h)) ?_))
  refine G3 ?_
  refine .cond_f J (rfl) (G10 ?_)
  exact ⟨i + 1, by omega, by omega, Ao (wk1 rfl (wk1 rfl (wk1 rfl (wk1 (congrArg (fun z => some (i64 z)) oM) wk0)))) (Ab rM (Ab rM (Af (by repeat (exact sg_end)) Ak)))⟩
 have hi3 : i = K := by omega
 refine G5 ?_
 refine Az (out := (⟨b1, [.slice (some ⟨q, 0, none⟩) n c], 27, 1⟩ :: (⟨b2, [i64 128], 3, 1⟩ :: (X i ++ [])))) (res_none J) (Ab rM (Ab rM (Af sG Ak))) ?_
 rw [hi3]; exact ⟨rfl, by simp⟩
theorem chunk_seq {l b1 b2 q n c K : Nat} {X : Nat → List Blk} {names : List Nat} (hnk : n = 128 * K) (hnc : n ≤ c) (hbig : n ≤ 1000000) (hnm : ∀ i, (⟨b1, [.slice (some ⟨q, 0, none⟩) n c], 27, 1⟩ :: ⟨b2, [i64 128], 3, 1⟩ :: X i).map (·.n) = names) (w1 : World) (hh : HRep ⟨Tryz.prog, w1, 0, names, [], []⟩ (⟨b1, [.slice (some ⟨q, 0, none⟩) n c], 27, 1⟩ :: ⟨b2, [i64 128], 3, 1⟩ :: X 0) w1)
    (hy : ∀ i, i < K → ∀ W2, HRep ⟨Tryz.prog, w1, 0, names, [], []⟩ (⟨b1, [.slice (some ⟨q, 0, none⟩) n c], 27, 1⟩ :: ⟨b2, [i64 128], 3, 1⟩ :: X i) W2 → YieldAt Fence.wide 0 Tryz.prog l #[encC q i] W2 fun e W3 => e = .returned (.bool true) ∧ HRep ⟨Tryz.prog, w1, 0, names, [], []⟩ (⟨b1, [.slice (some ⟨q, 0, none⟩) n c], 27, 1⟩ :: ⟨b2, [i64 128], 3, 1⟩ :: X (i + 1)) W3) :
    CallsIn Fence.wide 0 Tryz.prog 194 (#[.func (.yield l) #[] #[]] ++ #[ptr b1 0, ptr b2 0]) w1 fun e W' => (∃ v, e = .returned v) ∧ HRep ⟨Tryz.prog, w1, 0, names, [], []⟩ (⟨b1, [.slice (some ⟨q, 0, none⟩) n c], 27, 1⟩ :: ⟨b2, [i64 128], 3, 1⟩ :: X K) W' :=
  callsIn_wide.2 ((chunk_iter l b1 b2 q n c K X names hnk hnc hbig w1 ⟨hh, hy⟩).mono fun e W' ⟨v, out, he, ⟨_, ho⟩, hr⟩ => ⟨⟨v, he⟩, by subst ho; exact HRep.ofRet hr (hnm K)⟩)
theorem take_len {xs : List UInt8} {i K : Nat} (h : xs.length = 128 * K) (hi : i < K) : ((xs.drop (128 * i)).take 128).length = 128 := by simp; omega

theorem sha_whole (st : List UInt64) (hst : st.length = 8) (k : List UInt64) (hk : Hid (kW = k)) (hk80 : k.length = 80) (p : Option Addr) (n c : Nat) (ss : List Sl) (ls : List (List UInt8)) (hss : ss.length = n) (hls : ls.length = n) (hsl : ∀ j, j < n → (ss.getD j Sl.nil).n = (ls.getD j []).length ∧ ((ss.getD j Sl.nil).p = none → (ss.getD j Sl.nil).n = 0)) (F : List UInt8) (hF : ls.flatten = F) (htot : F.length ≤ 90000) (hn : n ≤ 1000000)  : Meets Tryz.prog 92 [agg (Ae st), .slice p n c] [] (fun W => SeesP W p (ss.map Sl.v) ∧ ∀ j, j < n → SeesP W (ss.getD j Sl.nil).p (Aa (ls.getD j []))) (fun v out => v = agg (Ae (allW k st F)) ∧ out = []) := by
  intro W hW
  have hpl := padB_length F
  have hpz := padZ_lt F.length
  have hpm := padB_mod F
  have hst2 : (runW k st (padB F) ((padB F).length / 128)).length = 8 := by rw [runW_length]; exact hst
  refine calls_range Tryz.func92 rfl 16 Tryz.ntmps92 rfl ?_
  refine G2 ?_
  intro n2 hn2 hf2
  refine Tr.alloc (cs := (Ae (List.replicate 8 0))) rfl Zr120 rfl ?_
  intro n4 hn4 hf4
  refine G4 ?_
  refine Tr.call4 rfl rfl rfl rfl rfl Body154 (sha_padded p n c ss ls hss hls hsl F hF htot hn) (fun w h => ⟨A6 h rfl hW.1, fun j hj => A6 h rfl (hW.2 j hj)⟩) ?_
  rintro v7 out7 ⟨s7, rfl, hac7⟩
  obtain ⟨q7, c7, rfl, hc7, rfl⟩ := acc_pos hac7 oM
  refine Tr.call4 rfl rfl rfl rfl rfl Body153 (mk_chunk (some ⟨q7, 0, none⟩) (padB F).length c7) tV ?_
  rintro v8 out8 ⟨b1, b2, rfl, rfl⟩
  refine G2 ?_
  refine ⟨_, _, fun i => ⟨b1, [.slice (some ⟨q7, 0, none⟩) (padB F).length c7], 27, 1⟩ :: ⟨b2, [i64 128], 3, 1⟩ :: [⟨q7, Aa (padB F), 5, c7 * 1⟩, ⟨n4, Ae (List.replicate 8 0), 120, (Ae (List.replicate 8 0)).length⟩, ⟨n2, Ae (runW k st (padB F) i), 120, (Ae st).length⟩], [b1, b2, q7, n4, n2], encC q7, ((padB F).length / 128), fun sl i => (5, encC q7 i) :: (9, encC q7 i) :: sl, rfl, rfl, Body194, dE, fun _ => rfl, ?_, ?_, ?_, ?_⟩
  ·
    intro l w1 hh hy
    exact chunk_seq (X := fun i => [⟨q7, Aa (padB F), 5, c7 * 1⟩, ⟨n4, Ae (List.replicate 8 0), 120, (Ae (List.replicate 8 0)).length⟩, ⟨n2, Ae (runW k st (padB F) i), 120, (Ae st).length⟩]) hpm hc7 oM (fun _ => rfl) w1 hh hy
  ·
    intro i hi l W2 hh
    refine SatI.region zK ?_
    refine G2 ?_
    exact ⟨rfl, rfl⟩
  ·
    intro i hi l W2 hh
    obtain ⟨A, hA⟩ : ∃ A, Hid (schA ((padB F).drop (128 * i) |>.take 128) 128 = A) := ⟨_, ⟨rfl⟩⟩
    obtain ⟨w, hwp⟩ : ∃ w, Hid (schB A 64 = w) := ⟨_, ⟨rfl⟩⟩
    obtain ⟨R, hR⟩ : ∃ R, Hid (rnds k w (W8.of (runW k st (padB F) i)) 80 = R) := ⟨_, ⟨rfl⟩⟩
    have hw : w.length = 80 := by rw [← hwp.out, schB_length, ← hA.out]; exact schA_length _ 128
    have e1 : addUp (runW k st (padB F) i) R.l 8 = runW k st (padB F) (i + 1) := by rw [runW, pieceW, schW, hA.out, hwp.out, hR.out]
    refine SatI.block ?_
    refine SatI.draw [(1, 0), (0, 1), (0, 2), (1, 3), (3, 4), (4, 5)] Ap zK zK ?_
    refine Tr.lA rfl rfl rfl Y120.h rfl Sz120 Z4 (by rw [List.length_map, runW_length]; exact hst) ?_
    refine G1 ?_
    refine Tr.s2a rfl rfl rfl Tryz.underlying189 oM ?_
    refine Tr.lN (Aa ((padB F).drop (128 * i) |>.take 128)) rfl rfl rfl Tryz.underlying189 rfl Sz189 Z2 (by rw [← List.map_drop, ← List.map_take]) (by rw [List.length_map]; exact take_len hpm hi) ?_
    refine Tr.cV rfl rfl rfl rfl Body155 (sha_Piece (runW k st (padB F) i) (by rw [runW_length]; exact hst) ((padB F).drop (128 * i) |>.take 128) (take_len hpm hi) A w k R hA hwp hw hk hk80 hR) tV ?_
    refine Tr.sA rfl rfl rfl rfl zB Sz120 (by (rw [List.length_map, Bt, runW_length]; exact hst)) Z4 (by (rw [List.length_map, runW_length]; exact hst)) (by exact upd4) ?_
    refine Tr.nil ?_
    rw [e1]; rfl
  intro D W2
  refine G2 ?_
  refine Tr.lA rfl rfl rfl Y120.h rfl Sz120 Z4 (by (simp [hst2]; done)) ?_
  refine Tr.sA rfl rfl rfl rfl zB Sz120 (by (simp [hst2]; done)) Z3 sP (by exact upd3) ?_
  refine G2 ?_
  -- ret
  refine Sat.ret ?_
  refine enA_r ?_
  refine ⟨_, [], fun W names => An rfl rfl Y120.h rfl Sz120 Z3 (by simp [hst2]), sP, sP, ?_⟩
  exact ⟨rfl, rfl⟩
theorem startW_length : startW.length = 8 := rfl
def xorUp : Nat → List UInt64
  | 0 => startW
  | i + 1 => (xorUp i).set i ((xorUp i).getD i 0 ^^^ 11936128518282651045)
theorem xorUp_length : ∀ i, (xorUp i).length = 8
  | 0 => rfl
  | i + 1 => by rw [xorUp, List.length_set, xorUp_length i]
def shaTag : List UInt8 := [83, 72, 65, 45, 53, 49, 50, 47, 50, 53, 54]
def shaI : List UInt64 := allW kW (xorUp 8) shaTag
theorem shaI_length : shaI.length = 8 := by rw [shaI, allW_length, xorUp_length]
def sha256 (l : List UInt8) : List UInt8 := (sumUp (allW kW shaI l) 64).take 32
theorem sha256_length (l : List UInt8) : (sha256 l).length = 32 := by rw [sha256, List.length_take, Cf]; rfl

theorem sha_StartShort (k s0 i0 : List UInt64) (G : List UInt8) (hk : Hid (kW = k)) (hk80 : k.length = 80) (hs0 : Hid (xorUp 8 = s0)) (hs8 : s0.length = 8) (hG : Hid (shaTag = G)) (hGl : G.length = 11) (hi0 : Hid (allW k s0 G = i0)) (hi8 : i0.length = 8)  : Meets Tryz.prog 93 [] [] (fun _ => True) (fun v out => v = agg (Ae i0) ∧ out = []) := by
 intro W hW
 refine Ac Tryz.func93 J 18 Tryz.ntmps93 J (G2 ?_)
 refine .alloc (cs := (Ae (List.replicate 8 0))) J Zr120 J ?_
 intro n0 hn0 hf0
 refine G4 ?_
 refine .cV J J J J Body156 (sha_Start) tV (.alloc (cs := (Ae (List.replicate 8 0))) J Zr120 J ?_)
 intro n1 hn1 hf1
 refine .sA J J J J zB Sz120 (by (simp [startW_length]; done)) Z0 sP zU ?_
 refine G9 ?_
 refine .loop (ι := Nat) (fun j => ⟨[(0, ptr n0 0), (1, ptr n1 0), (4, i64 (j : Int))], [⟨n1, Ae (xorUp j), 120, 8⟩, ⟨n0, Ae (List.replicate 8 0), 120, 8⟩]⟩) (fun j => j ≤ 8) (fun j => 8 - j) (0) ?_ ?_ ?_
 · omega
 · exact Ao (wk1 rfl (wk1 rfl (wk1 rfl wk0))) (Ab rM (Ab rM Ak))
 rintro j hi
 have hlj := xorUp_length j
 refine G6 ?_
 refine .condP J (fun hc0 => ?_) (fun hc0 => ?_)
 ·
  refine G12 ?_
  refine .i1 J J J J Y120.h Sz24 _ J oM (G1 ?_)
  refine .xor_u64 J J J (show Ag _ _ = some (u64 11936128518282651045) from rfl) (.i1 J J J J Y120.h Sz24 _ J oM (.s1 J J J J J Sz24 Z0 (by (simp [xorUp_length]; omega)) (by exact A8 _ _ _) zU ?_))
  refine G8 ?_
  exact ⟨j + 1, by omega, by omega, Ao (wk1 rfl (wk1 rfl (wk1 rfl wk0))) (Ab rM (Ab rM Ak))⟩
 obtain rfl : j = 8 := by omega
 rw [hs0.out]
 clear hlj
 refine G7 ?_
 refine .lA J J J Y120.h J Sz120 Z0 (by (simp [hs8]; done)) ?_
 refine .mkRow (z := u8 0) [u8 83, u8 72, u8 65, u8 45, u8 53, u8 49, u8 50, u8 47, u8 50, u8 53, u8 54] (Aa shaTag) J J J Y27.h Sz5 Zr5 J J (by intro v hv; simp only [List.mem_cons, List.not_mem_nil, or_false] at hv; rcases hv with rfl | rfl | rfl | rfl | rfl | rfl | rfl | rfl | rfl | rfl | rfl <;> rfl) dE J ?_
 intro q14
 rw [hG.out]
 refine .constB J J J J Y27.h Y5.h Z0 ?_
 refine .mkRow (z := .slice none 0 0) [.slice (some ⟨q14, 0, none⟩) 11 11] [.slice (some ⟨q14, 0, none⟩) 11 11] rfl J J Y118.h Sz27 Zr27 J J (by intro v hv; rw [List.mem_singleton.1 hv]; rfl) dE J ?_
 intro q16
 refine .cV J J J J Body92 (sha_whole s0 hs8 k hk hk80 (some ⟨q16, 0, none⟩) 1 1 [⟨some ⟨q14, 0, none⟩, 11, 11⟩] [G] rfl J (fun j hj => (by obtain rfl : j = 0 := oM; exact ⟨by simp [hGl], fun e => by cases e⟩)) G sP oM dE) (fun w h => ⟨SeesP.of (Ar h Z0), fun j hj => (by obtain rfl : j = 0 := oM; exact SeesP.of (Ar h Z1))⟩) ?_
 rw [hi0.out]
 refine .sA J J J J zB Sz120 (by (simp [hi8]; done)) Z3 sP (by exact upd3) ?_
 refine G2 ?_
 -- ret
 refine G2 ?_
 refine ⟨_, [], An J J Y120.h J Sz120 Z3 (by simp [hi8]), sP, sP, ?_, rfl⟩
 rfl
theorem sha_Sum (k s0 i0 : List UInt64) (G : List UInt8) (hk : Hid (kW = k)) (hk80 : k.length = 80) (hs0 : Hid (xorUp 8 = s0)) (hs8 : s0.length = 8) (hG : Hid (shaTag = G)) (hGl : G.length = 11) (hi0 : Hid (allW k s0 G = i0)) (hi8 : i0.length = 8) (p : Option Addr) (n c : Nat) (ss : List Sl) (ls : List (List UInt8)) (hss : ss.length = n) (hls : ls.length = n) (hsl : ∀ j, j < n → (ss.getD j Sl.nil).n = (ls.getD j []).length ∧ ((ss.getD j Sl.nil).p = none → (ss.getD j Sl.nil).n = 0)) (F : List UInt8) (hF : ls.flatten = F) (htot : F.length ≤ 90000) (hn : n ≤ 1000000) (r : List UInt64) (hr : Hid (allW k i0 F = r)) (s : List UInt8) (hs : Hid (sumUp r 64 = s))  : Meets Tryz.prog 64 [.slice p n c] [] (fun W => SeesP W p (ss.map Sl.v) ∧ ∀ j, j < n → SeesP W (ss.getD j Sl.nil).p (Aa (ls.getD j []))) (fun v out => v = agg (Aa (s.take 32)) ∧ out = []) := by
 intro W hW
 have hr8 : r.length = 8 := by rw [← hr.out, allW_length]; exact hi8
 have hs64 : s.length = 64 := by rw [← hs.out]; exact Cf r 64
 have hs32 : (s.take 32).length = 32 := by rw [List.length_take, hs64]; rfl
 refine Ac Tryz.func64 J 11 Tryz.ntmps64 J (G2 ?_)
 refine .alloc (cs := (Aa (List.replicate 32 0))) J Zr25 J ?_
 intro n2 hn2 hf2
 refine G4 ?_
 refine .cV J J J J Body93 (sha_StartShort k s0 i0 G hk hk80 hs0 hs8 hG hGl hi0 hi8) tV (G1 ?_)
 refine .cV J J J J Body92 (sha_whole i0 hi8 k hk hk80 p n c ss ls hss hls hsl F hF htot hn) (fun w h => ⟨A6 h J hW.1, fun j hj => A6 h J (hW.2 j hj)⟩) ?_
 rw [hr.out]
 refine .cV J J J J Body91 (sha_sum r hr8 s hs) tV (.alloc (cs := (Aa (List.replicate 64 0))) J Zr28 J ?_)
 intro n3 hn3 hf3
 refine .sA J J J J zE Sz28 (by (simp [hs64]; done)) Z0 sP zU ?_
 refine G4 ?_
 refine .sliceArrHi 32 J J J J J dE dE Y28.h Sz5 (.s2a J J J Y25.h oM (.lN (Aa (s.take 32)) J J J Y25.h J Sz25 Z0 (by rw [List.drop_zero, ← List.map_take]) (by rw [List.length_map]; exact hs32) ?_))
 refine .sA J J J J zE Sz25 (by (simp [hs64]; done)) Z1 sP zV ?_
 refine G2 ?_
 -- ret
 refine G2 ?_
 refine ⟨_, [], An J J Y25.h J Sz25 Z1 (by simp [hs64]), sP, sP, ?_, rfl⟩
 rfl


theorem DB.head_small {D : DB} (h : D.check = 0) : D.ls.length ≤ 16 ∧ D.ds.length ≤ 512 := by
  unfold DB.check at h
  by_cases h1 : D.head = true
  · rw [if_pos h1] at h; cases h
  · unfold DB.head at h1
    simp at h1
    omega
theorem DB.bytes_small {D : DB} (h : D.check = 0) (hd : D.ok) : D.bytes.length ≤ 5000 := by
  have hs := D.head_small h
  have hz1 := Cp D.seq.toNat
  have hz2 := Cp (UInt64.ofNat D.ls.length).toNat
  have hz3 := Cp (UInt64.ofNat D.ds.length).toNat
  have hfl := Cj hd.ls (Nat.le_refl D.ls.length)
  rw [List.take_length] at hfl
  simp only [DB.bytes, DB.body, List.length_append, Bk, hd.w, hd.prev, hd.sg, hfl]
  omega
def bytesR (D : DB) : List UInt8 := if D.check = 0 then D.bytes else []
theorem db_check (B : Block) (D : DB) : Meets Tryz.prog 60 [agg B.cells] [] (fun W => BlockIs W B D) (fun v out => v = i64 D.check ∧ out = []) :=
  fun W hW => by rw [← hW.check]; exact block_check B hW.ok D.ls W hW.ls
theorem db_bytes (B : Block) (D : DB) : Meets Tryz.prog 63 [agg B.cells] [] (fun W => BlockIs W B D) (fun v out => ∃ s, v = .tuple #[s.v, i64 D.check] ∧ Acc s out (Aa (bytesR D)) 5 (bytesR D).length 1) := fun W hW => by
  unfold bytesR
  by_cases h : D.check = 0
  · rw [if_pos h]
    refine (bytes_ok B hW.ok D.ls D.ds (by rw [hW.check]; exact h) W ⟨hW.ls, hW.ds⟩).mono fun e W' ⟨v, out, h1, ⟨q, c, N, h2, h3, h4, h5, h6⟩, h7⟩ => ⟨v, out, h1, ⟨⟨some ⟨q, 0, none⟩, N, c⟩, ?_, ?_⟩, h7⟩
    · rw [h]; exact h4
    · rw [h6]
      rw [hW.bytes] at h2 ⊢
      rw [← h2]
      exact Acc.some h5 (by rw [Aa, List.length_map, ← h2]; omega)
  · rw [if_neg h]
    refine (bytes_bad B hW.ok D.ls D.ds (by rw [hW.check]; exact h) W ⟨hW.ls, hW.ds⟩).mono fun e W' ⟨v, out, h1, ⟨h2, h3⟩, h7⟩ => ⟨v, out, h1, ⟨Sl.nil, ?_, ?_⟩, h7⟩
    · rw [h2, hW.check]; rfl
    · rw [h3]; exact Acc.none
def Bd (D : DB) : List UInt8 := if D.check = 0 then sha256 D.bytes else List.replicate 32 0
theorem nameD_length (D : DB) : (Bd D).length = 32 := by
  unfold Bd
  split
  · exact sha256_length _
  · rfl
theorem BlockIs.ext {C : Cx} {hp : List Blk} {w : World} {B : Block} {D : DB} (hh : HRep C hp w) (hl : C.lent = []) (h : BlockIs C.W0 B D) : BlockIs w B D :=
  ⟨h.ok, h.w, h.seq, h.prev, rows_ext hh hl h.ls, bytes_ext hh hl h.ds, h.sg⟩

theorem db_name (B : Block) (D : DB) : Meets Tryz.prog 35 [agg B.cells] [] (fun W => BlockIs W B D) (fun v out => v = agg (Aa (Bd D)) ∧ out = []) := by
 intro W hW
 have hok := hW.ok
 obtain ⟨k, hk⟩ : ∃ k, Hid (kW = k) := ⟨_, ⟨rfl⟩⟩
 obtain ⟨s0, hs0⟩ : ∃ s0, Hid (xorUp 8 = s0) := ⟨_, ⟨rfl⟩⟩
 obtain ⟨G, hG⟩ : ∃ G, Hid (shaTag = G) := ⟨_, ⟨rfl⟩⟩
 obtain ⟨i0, hi0⟩ : ∃ i0, Hid (allW k s0 G = i0) := ⟨_, ⟨rfl⟩⟩
 have hk80 : k.length = 80 := by rw [← hk.out]; rfl
 have hs8 : s0.length = 8 := by rw [← hs0.out]; exact xorUp_length 8
 have hGl : G.length = 11 := by rw [← hG.out]; rfl
 have hi8 : i0.length = 8 := by rw [← hi0.out, allW_length]; exact hs8
 obtain ⟨r, hr⟩ : ∃ r, Hid (allW k i0 (D.bytes) = r) := ⟨_, ⟨rfl⟩⟩
 obtain ⟨s, hs⟩ : ∃ s, Hid (sumUp r 64 = s) := ⟨_, ⟨rfl⟩⟩
 have hsd : Hid (s.take 32 = sha256 (D.bytes)) := ⟨by rw [← hs.out, ← hr.out, ← hi0.out, ← hG.out, ← hs0.out, ← hk.out]; rfl⟩
 have hs64 : s.length = 64 := by rw [← hs.out]; exact Cf r 64
 have hs32 : (s.take 32).length = 32 := by rw [List.length_take, hs64]; rfl
 refine Ac Tryz.func35 J 16 Tryz.ntmps35 J (G3 ?_)
 intro n1 hn1 hf1
 refine .alloc (cs := (Aa (List.replicate 32 0))) J Zr25 J ?_
 intro n2 hn2 hf2
 refine G5 ?_
 refine .call4 J J J J J Body63 (db_bytes B D) (fun w h => hW.ext h J) ?_
 rintro v7 out7 ⟨s7, rfl, hac7⟩
 refine G11 ?_
 refine two (fun r hr k => Tr.nei J J J J hr k) (fun hs2_10 => ?_) (fun hs2_10 => ?_)
 ·
  have hs2_1 := nd_t hs2_10
  skip
  refine G2 ?_
  refine .cond_t J J (G2 ?_)
  refine .build (cs := Aa (List.replicate 32 0)) J J J (fun w => by kernel_rfl) ?_
  refine .sA J J J J zE Sz25 sP mR sP (by (repeat (first | exact upd0 | apply Upd.seg))) ?_
  refine G2 ?_
  -- ret
  refine G3 ?_
  refine ⟨_, [], An J J Y25.h J Sz25 mR sP, sP, sP, ?_, rfl⟩
  (rw [Bd, if_neg hs2_1]; done)
 have hs2_1 := nd_f hs2_10
 have h0 : D.check = 0 := by omega
 have hb7 : bytesR D = D.bytes := if_pos h0
 refine G2 ?_
 refine .cond_f J J (G5 ?_)
 refine .mkRow (z := .slice none 0 0) [s7.v] [s7.v] rfl J J Y118.h Sz27 Zr27 J J (by intro v hv; rw [List.mem_singleton.1 hv]; rfl) dE J ?_
 intro q14
 refine .cV J J J J Body64 (sha_Sum k s0 i0 G hk hk80 hs0 hs8 hG hGl hi0 hi8 (some ⟨q14, 0, none⟩) 1 1 [s7] [D.bytes] rfl J (fun j hj => (by obtain rfl : j = 0 := oM; exact ⟨by simp [hac7.num, hb7], fun e => hac7.nil e⟩)) D.bytes sP (by have := D.bytes_small h0 hW.dok; omega) dE r hr s hs) (fun w h => ⟨SeesP.of (Ar h Z0), fun j hj => (by obtain rfl : j = 0 := oM; exact (by have := hac7.see (Lies.of h (by repeat (first | exact Bf | refine Bp ?_))); rw [hb7] at this; exact this))⟩) ?_
 refine .sA J J J J zE Sz25 (by (simp [hs64]; done)) mR sP uU ?_
 refine G2 ?_
 -- ret
 refine G2 ?_
 refine ⟨_, [], An J J Y25.h J Sz25 mR (by simp [hs64]), sP, sP, ?_, rfl⟩
 (rw [Bd, if_pos h0, hsd.out]; done)

theorem scalar_modulus  : Meets Tryz.prog 132 [] [] (fun _ => True) (fun v out => v = agg (Ae modW) ∧ out = []) := by
 intro W hW
 refine Ac Tryz.func132 J 2 Tryz.ntmps132 J (G2 ?_)
 refine .alloc (cs := (Ae (List.replicate 4 0))) J Zr166 J ?_
 intro n0 hn0 hf0
 refine G4 ?_
 refine .build (cs := Ae modW) J J J (fun w => by kernel_rfl) ?_
 refine .sA J J J J zB Sz166 (by (simp [modW_length]; done)) Z0 sP zU ?_
 refine G2 ?_
 -- ret
 refine G2 ?_
 refine ⟨_, [], An J J Y166.h J Sz166 Z0 (by simp [modW_length]), sP, sP, ?_, rfl⟩
 rfl

theorem scalar_doubled (w : List UInt64) (b : UInt64) (hw : w.length = 4) : Meets Tryz.prog 223 [agg (Ae w), u64 b] [] (fun _ => True) (fun v out => v = agg (Ae (dblW w b)) ∧ out = []) := by
 intro W hW
 refine Ac Tryz.func223 J 32 Tryz.ntmps223 J (G3 ?_)
 intro n2 hn2 hf2
 refine .alloc (cs := (Ae (List.replicate 4 0))) J Zr166 J ?_
 intro n4 hn4 hf4
 refine G4 ?_
 refine .i1 J J J J Y166.h Sz24 0 J dE (G1 ?_)
 refine .shl_u64 J J J J 1 J dE (.i1 J J J J Y166.h Sz24 1 J dE (G1 ?_))
 refine .shr_u64 J J J J 63 J dE (G1 ?_)
 refine .i1 J J J J Y166.h Sz24 1 J dE (G1 ?_)
 refine .shl_u64 J J J J 1 J dE (.i1 J J J J Y166.h Sz24 2 J dE (G1 ?_))
 refine .shr_u64 J J J J 63 J dE (G1 ?_)
 refine .i1 J J J J Y166.h Sz24 2 J dE (G1 ?_)
 refine .shl_u64 J J J J 1 J dE (.i1 J J J J Y166.h Sz24 3 J dE (G1 ?_))
 refine .shr_u64 J J J J 63 J dE (G1 ?_)
 refine .i1 J J J J Y166.h Sz24 3 J dE (G1 ?_)
 refine .shl_u64 J J J J 1 J dE (G2 ?_)
 refine .build (cs := Ae (dblW w b)) J J J (fun w => by kernel_rfl) ?_
 refine .sA J J J J zB Sz166 (by (simp [dblW_length]; done)) Z0 sP zU ?_
 refine G2 ?_
 -- ret
 refine G2 ?_
 refine ⟨_, [], An J J Y166.h J Sz166 Z0 (by simp [dblW_length]), sP, sP, ?_, rfl⟩
 rfl

theorem scalar_load (a : List UInt8) (ha : a.length = 32) : Meets Tryz.prog 130 [agg (Aa a)] [] (fun _ => True) (fun v out => v = agg (Ae (ldW a 32)) ∧ out = []) := by
 intro W hW
 refine Ac Tryz.func130 J 24 Tryz.ntmps130 J (G3 ?_)
 intro n1 hn1 hf1
 refine .alloc (cs := (Ae (List.replicate 4 0))) J Zr166 J ?_
 intro n2 hn2 hf2
 refine G4 ?_
 refine .alloc (cs := (Ae (List.replicate 4 0))) J Zr166 J ?_
 intro n3 hn3 hf3
 refine G9 ?_
 refine .loop (ι := Nat) (fun k => ⟨[(1, ptr n1 0), (2, ptr n2 0), (3, ptr n3 0), (5, i64 (k : Int))], [⟨n3, Ae (ldW a k), 166, 4⟩, ⟨n2, Ae (List.replicate 4 0), 166, 4⟩, ⟨n1, Aa a, 124, (Aa a).length⟩]⟩) (fun k => k ≤ 32) (fun k => 32 - k) (0) ?_ ?_ ?_
 · omega
 · exact Ad (wk1 rfl (wk1 rfl (wk1 rfl (wk1 rfl wk0)))) (wh1 Z0 (wh1 Z1 (wh1 Z2 wh0))) nD
 rintro k hi
 have hlk := ldW_length a k
 refine G6 ?_
 refine .condP J (fun hc0 => ?_) (fun hc0 => ?_)
 ·
  refine G10 ?_
  refine .draw [(0, 0), (0, 1), (0, 2), (0, 3), (0, 4), (1, 5), (0, 6), (0, 7), (0, 8), (0, 9), (1, 10), (0, 11), (0, 12), (0, 13), (4, 14)] Ap zK (G1 ?_)
  refine .quo_i64 J J J J oM (G1 ?_)
  refine .quo_i64 J J J J oM (.i1 J J J J Y166.h Sz24 (k / 8) oM oM (G1 ?_))
  refine .shl_u64 J J J J 8 J dE (G2 ?_)
  refine .i1 J J J J Y124.h Sz5 (31 - k) oM oM (G3 ?_)
  refine .i1 J J J J Y166.h Sz24 (k / 8) oM oM (.s1 J J J J J Sz24 Z0 (by (simp [ldW_length]; omega)) (by exact A8 _ _ _) zU ?_)
  refine G8 ?_
  exact ⟨k + 1, by omega, by omega, Ad (wk1 rfl (wk1 rfl (wk1 rfl (wk1 rfl wk0)))) (wh1 Z0 (wh1 Z1 (wh1 Z2 wh0))) nD⟩
 obtain rfl : k = 32 := by omega
 refine G7 ?_
 refine .lA J J J Y166.h J Sz166 Z0 (by (simp [ldW_length]; done)) ?_
 refine .sA J J J J zB Sz166 (by (simp [ldW_length]; done)) Z1 sP zV ?_
 refine G2 ?_
 -- ret
 refine G2 ?_
 refine ⟨_, [], An J J Y166.h J Sz166 Z1 (by simp [ldW_length]), sP, sP, ?_, rfl⟩
 rfl
theorem scalar_store (w : List UInt64) (hw : w.length = 4) : Meets Tryz.prog 225 [agg (Ae w)] [] (fun _ => True) (fun v out => v = agg (Aa (stB w 32)) ∧ out = []) := by
 intro W hW
 refine Ac Tryz.func225 J 23 Tryz.ntmps225 J (G3 ?_)
 intro n1 hn1 hf1
 refine .alloc (cs := (Aa (List.replicate 32 0))) J A4 J ?_
 intro n2 hn2 hf2
 refine G4 ?_
 refine .alloc (cs := (Aa (List.replicate 32 0))) J A4 J ?_
 intro n3 hn3 hf3
 refine G9 ?_
 refine .loop (ι := Nat) (fun k => ⟨[(1, ptr n1 0), (2, ptr n2 0), (3, ptr n3 0), (5, i64 (k : Int))], [⟨n3, Aa (stB w k), 124, 32⟩, ⟨n2, Aa (List.replicate 32 0), 124, 32⟩, ⟨n1, Ae w, 166, (Ae w).length⟩]⟩) (fun k => k ≤ 32) (fun k => 32 - k) (0) ?_ ?_ ?_
 · omega
 · exact Ad (wk1 rfl (wk1 rfl (wk1 rfl (wk1 rfl wk0)))) (wh1 Z0 (wh1 Z1 (wh1 Z2 wh0))) nD
 rintro k hi
 have hlk := stB_length w k
 refine G6 ?_
 refine .condP J (fun hc0 => ?_) (fun hc0 => ?_)
 ·
  refine G14 ?_
  refine .quo_i64 J J J J oM (.i1 J J J J Y166.h Sz24 (k / 8) oM oM (G2 ?_))
  refine .rem_i64 J J J J oM (.mul_i64 J J J J oM (G1 ?_))
  refine .shr_u64 J J J J (56 - 8 * (k % 8)) oM oM (G1 ?_)
  refine .i1 J J J J Y124.h Sz5 (31 - k) oM oM (.s1 J J J J J Sz5 Z0 (by (simp [stB_length]; omega)) (by exact Be _ _ _) zU ?_)
  refine G8 ?_
  exact ⟨k + 1, by omega, by omega, Ad (wk1 rfl (wk1 rfl (wk1 rfl (wk1 rfl wk0)))) (wh1 Z0 (wh1 Z1 (wh1 Z2 wh0))) nD⟩
 obtain rfl : k = 32 := by omega
 refine G7 ?_
 refine .lA J J J Y124.h J Sz124 Z0 (by (simp [stB_length]; done)) ?_
 refine .sA J J J J zB Sz124 (by (simp [stB_length]; done)) Z1 sP zV ?_
 refine G2 ?_
 -- ret
 refine G2 ?_
 refine ⟨_, [], An J J Y124.h J Sz124 Z1 (by simp [stB_length]), sP, sP, ?_, rfl⟩
 rfl
theorem sub64_run (x y b : UInt64) (hb : b.toNat ≤ 1) (w : World) : (callFunc 233 [u64 x, u64 y, u64 b].toArray).run Tryz.prog w = .ok (.value (.tuple #[u64 (w64 (x.toNat + 2 ^ 64 - y.toNat - b.toNat)), u64 (if x.toNat < y.toNat + b.toNat then 1 else 0)])) w := by
  rw [run_callFunc_extern Tryz.func233 zK zK zK (e := sub64E) zK]
  have h : (sub64E [u64 x, u64 y, u64 b].toArray).run Tryz.prog w = .ok (.tuple #[.int .u64 (((x.toNat + 18446744073709551616 - y.toNat - b.toNat) % 18446744073709551616 : Nat) : Int), .int .u64 ((if x.toNat < y.toNat + b.toNat then 1 else 0 : Nat) : Int)]) w := by
    have : b.toNat = 0 ∨ b.toNat = 1 := by omega
    rcases this with h | h <;> simp only [u64, h] <;> rfl
  rw [h]
  simp only [Result.andThen, u64, Bl]
  congr 5
  split <;> rfl
theorem add64_run (x y b : UInt64) (hb : b.toNat ≤ 1) (w : World) : (callFunc 232 [u64 x, u64 y, u64 b].toArray).run Tryz.prog w = .ok (.value (.tuple #[u64 (w64 (x.toNat + y.toNat + b.toNat)), u64 (w64 ((x.toNat + y.toNat + b.toNat) / 2 ^ 64))])) w := by
  rw [run_callFunc_extern Tryz.func232 zK zK zK (e := add64Entry) zK]
  have hx := x.toNat_lt; have hy := y.toNat_lt
  have h := run_add64 (P := Tryz.prog) (x.toNat : Int) y.toNat b.toNat oM oM oM oM w
  have e : [u64 x, u64 y, u64 b].toArray = #[.int .u64 x.toNat, .int .u64 y.toNat, .int .u64 b.toNat] := rfl
  have e1 : ((x.toNat : Int) + y.toNat + b.toNat) % 18446744073709551616 = ((w64 (x.toNat + y.toNat + b.toNat)).toNat : Int) := by rw [Bl]; omega
  have e2 : ((x.toNat : Int) + y.toNat + b.toNat) / 18446744073709551616 = ((w64 ((x.toNat + y.toNat + b.toNat) / 2 ^ 64)).toNat : Int) := by rw [Bl]; omega
  rw [e, h, e1, e2]
  rfl

theorem isNaN_u64 (x : UInt64) : Meets Tryz.prog 74 [u64 x] [] (fun _ => True) (fun v out => v = .bool false ∧ out = []) := by
 intro W hW
 refine Ac Tryz.func74 J 6 Tryz.ntmps74 J (G9 ?_)
 refine .nei J J J J (show (!decide _) = false from congrArg not (decide_eq_true (rfl))) (G3 ?_)
 -- ret
 refine G2 ?_
 refine ⟨_, [], Al J J, sP, sP, ?_, rfl⟩
 rfl

theorem cmp_u64 (x y : UInt64) : Meets Tryz.prog 53 [u64 x, u64 y] [] (fun _ => True) (fun v out => v = i64 (cmp1 x y) ∧ out = []) := by
 intro W hW
 refine Ac Tryz.func53 J 20 Tryz.ntmps53 J (G8 ?_)
 refine .cV J J J J Body74 (isNaN_u64 _) tV (G6 ?_)
 refine .cV J J J J Body74 (isNaN_u64 _) tV (G9 ?_)
 refine .cond_f J (rfl) (G8 ?_)
 refine .cond_f J (rfl) (G10 ?_)
 refine .condP J (fun hc3 => ?_) (fun hc3 => ?_)
 ·
  refine G5 ?_
  -- ret
  refine G3 ?_
  refine ⟨_, [], Al J J, sP, sP, ?_, rfl⟩
  unfold cmp1
  rw [if_pos oM]
 refine G10 ?_
 refine .condP J (fun hc4 => ?_) (fun hc4 => ?_)
 ·
  refine G5 ?_
  -- ret
  refine G3 ?_
  refine ⟨_, [], Al J J, sP, sP, ?_, rfl⟩
  unfold cmp1
  rw [if_neg oM, if_pos oM]
 refine G7 ?_
 -- ret
 refine G2 ?_
 refine ⟨_, [], Al J J, sP, sP, ?_, rfl⟩
 unfold cmp1
 rw [if_neg oM, if_neg oM]
theorem cmpFunc_u64 (b1 o1 c1 b2 o2 c2 n : Nat) (xs ys : List UInt64) (hx : xs.length = n) (hy : ys.length = n) (hn : n ≤ 1000000) : Meets Tryz.prog 179 [.slice (some ⟨b1, o1, none⟩) n c1, .slice (some ⟨b2, o2, none⟩) n c2, .func (.func 53) #[] #[]] [] (fun W => Sees W b1 o1 (Ae xs) ∧ Sees W b2 o2 (Ae ys)) (fun v out => v = i64 (cmpW xs ys) ∧ out = []) := by
 intro W hW
 refine Ac Tryz.func179 J 39 Tryz.ntmps179 J (G14 ?_)
 refine .loop (ι := Nat) (fun k => ⟨[(0, .slice (some ⟨b1, o1, none⟩) n c1), (1, .slice (some ⟨b2, o2, none⟩) n c2), (2, .func (.func 53) #[] #[]), (11, .slice (some ⟨b1, o1, none⟩) n c1), (12, i64 (n : Int)), (13, i64 (k : Int))], []⟩) (fun k => k ≤ n ∧ ∀ j, j < k → xs.getD j 0 = ys.getD j 0) (fun k => n - k) (0) ?_ ?_ ?_
 · exact ⟨by omega, fun j hj => by omega⟩
 · exact Ad (wk1 rfl (wk1 rfl (wk1 rfl (wk1 rfl (wk1 rfl (wk1 rfl wk0)))))) wh0 nD
 rintro k ⟨hk, hi⟩
 refine G6 ?_
 refine .condP J (fun hc0 => ?_) (fun hc0 => ?_)
 ·
  refine G7 ?_
  refine .idxSlO J J J J Y203.h Sz24 _ J oM (.loadE J J J Y24.h J sP (hW.1 _ _ (get_words oM)) (G13 ?_))
  refine .cond_f J (by simp; omega) ?_
  refine G6 ?_
  refine .idxSlO J J J J Y203.h Sz24 _ J oM (.loadE J J J Y24.h J sP (hW.2 _ _ (get_words oM)) (G8 ?_))
  refine .cV J J J J Body53 (cmp_u64 _ _) tV (G9 ?_)
  refine .condNP J (fun hc2 => ?_) (fun hc2 => ?_)
  ·
   refine G6 ?_
   -- ret
   refine G7 ?_
   refine ⟨_, [], Al J J, sP, sP, ?_, rfl⟩
   exact congrArg i64 (cmpW_at _ _ _ hi oM oM hc2).symm
  refine G8 ?_
  exact ⟨k + 1, ⟨by omega, fun j hj => if h : j < k then hi j h else (show j = k by omega) ▸ cmp1_eq hc2⟩, by omega, Ad (wk1 rfl (wk1 rfl (wk1 rfl (wk1 rfl (wk1 rfl (wk1 rfl wk0)))))) wh0 nD⟩
 obtain rfl : k = n := by omega
 refine G15 ?_
 refine .cond_f J sP (G7 ?_)
 -- ret
 refine G2 ?_
 refine ⟨_, [], Al J J, sP, sP, ?_, rfl⟩
 exact congrArg i64 (cmpW_all _ _ oM (by rw [hx]; exact hi)).symm
theorem scalar_below (w m : List UInt64) (hw : w.length = 4) (hm : m.length = 4) : Meets Tryz.prog 131 [agg (Ae w), agg (Ae m)] [] (fun _ => True) (fun v out => v = .bool (decide (wv w < wv m)) ∧ out = []) := by
 intro W hW
 refine Ac Tryz.func131 J 9 Tryz.ntmps131 J (G3 ?_)
 intro n2 hn2 hf2
 refine G1 ?_
 intro n3 hn3 hf3
 refine G4 ?_
 refine .draw [(0, 0), (0, 1), (3, 2), (0, 3), (0, 4)] Ap zK (G2 ?_)
 refine .cV J J J J Body179 (cmpFunc_u64 _ _ _ _ _ _ 4 w m hw hm oM) (fun W h => ⟨Ar h Z1, Ar h Z0⟩) ?_
 refine G4 ?_
 -- ret
 refine G2 ?_
 refine ⟨_, [], Al J J, sP, sP, ?_, rfl⟩
 exact congrArg Value.bool (by simp only [cmpW_lt hw hm])

theorem scalar_minus (w m : List UInt64) (hw : w.length = 4) (hm : m.length = 4) : Meets Tryz.prog 224 [agg (Ae w), agg (Ae m)] [] (fun _ => True) (fun v out => v = agg (Ae (mnsW w m 4).1) ∧ out = []) := by
 intro W hW
 refine Ac Tryz.func224 J 25 Tryz.ntmps224 J (G3 ?_)
 intro n2 hn2 hf2
 refine G1 ?_
 intro n3 hn3 hf3
 refine .alloc (cs := (Ae (List.replicate 4 0))) J Zr166 J ?_
 intro n4 hn4 hf4
 refine G4 ?_
 refine .a J J (show Ag _ _ = some (u64 0) from rfl) (G9 ?_)
 refine .loop (ι := Nat) (fun k => ⟨[(2, ptr n2 0), (3, ptr n3 0), (4, ptr n4 0), (5, u64 (mnsW w m k).2), (6, i64 (3 - (k : Int)))], [⟨n4, Ae (List.replicate 4 0), 166, 4⟩, ⟨n3, Ae m, 166, (Ae m).length⟩, ⟨n2, Ae (mnsW w m k).1, 166, (Ae w).length⟩]⟩) (fun k => k ≤ 4) (fun k => 4 - k) (0) ?_ ?_ ?_
 · omega
 · exact Ad (wk1 rfl (wk1 rfl (wk1 rfl (wk1 rfl (wk1 rfl wk0))))) (wh1 Z0 (wh1 Z1 (wh1 Z2 wh0))) nD
 rintro k hi
 have hl := mnsW_length w m k
 refine G7 ?_
 refine .condP J (fun hc0 => ?_) (fun hc0 => ?_)
 ·
  have hk4 : k < 4 := by omega
  refine G4 ?_
  refine .draw [(0, 0), (0, 1), (0, 2), (1, 3), (0, 4), (0, 5), (1, 6), (0, 7), (0, 8), (0, 9), (0, 10), (0, 11), (0, 12), (4, 13), (0, 14)] Ap zK (G2 ?_)
  refine .i1 J J J J Y166.h Sz24 (3 - k) oM oM (G2 ?_)
  refine .i1 J J J J Y166.h Sz24 (3 - k) oM oM (G2 ?_)
  refine .ext J J J J (sub64_run _ _ _ (mnsW_borrow w m k)) (G3 ?_)
  refine .i1 J J J J Y166.h Sz24 (3 - k) oM oM (.s1 J J J J J Sz24 Z2 (by (simp [mnsW_length, hw]; omega)) (by exact A8 _ _ _) (by exact upd2) ?_)
  refine G10 ?_
  exact ⟨k + 1, by omega, by omega, Ad (wk1 rfl (wk1 rfl (wk1 rfl (wk1 rfl (wk1 (by rw [show (3 - ((k + 1 : Nat) : Int)) = 3 - (k : Int) - 1 by omega]; rfl) wk0))))) (wh1 Z0 (wh1 Z1 (wh1 Z2 wh0))) nD⟩
 obtain rfl : k = 4 := by omega
 refine G7 ?_
 refine .lA J J J Y166.h J Sz166 Z2 (by (simp [mnsW_length, hw]; done)) ?_
 refine .sA J J J J zB Sz166 (by (simp [mnsW_length, hw]; done)) Z0 sP zU ?_
 refine G2 ?_
 -- ret
 refine G2 ?_
 refine ⟨_, [], An J J Y166.h J Sz166 Z0 (by simp [mnsW_length, hw]), sP, sP, ?_, rfl⟩
 rfl
theorem mul64_ok (x y : UInt64) : Meets Tryz.prog 195 [u64 x, u64 y] [] (fun _ => True) (fun v out => v = .tuple #[u64 (mulHi x y), u64 (x * y)] ∧ out = []) := by
 intro W hW
 refine Ac Tryz.func195 J 51 Tryz.ntmps195 J (G2 ?_)
 refine .a J J (show Ag _ _ = some (u64 0) from rfl) (.a J J (show Ag _ _ = some (u64 0) from rfl) (G5 ?_))
 refine .and_u64 J J J (show Ag _ _ = some (u64 4294967295) from rfl) (G6 ?_)
 refine .shr_u64 J J J J 32 J dE (G6 ?_)
 refine .and_u64 J J J (show Ag _ _ = some (u64 4294967295) from rfl) (G6 ?_)
 refine .shr_u64 J J J J 32 J dE (G17 ?_)
 refine .shr_u64 J J J J 32 J dE (G7 ?_)
 refine .and_u64 J J J (show Ag _ _ = some (u64 4294967295) from rfl) (G6 ?_)
 refine .shr_u64 J J J J 32 J dE (G21 ?_)
 refine .shr_u64 J J J J 32 J dE (G12 ?_)
 -- ret
 refine G2 ?_
 refine ⟨_, [], res_tmp2 J J J, sP, sP, ?_, rfl⟩
 rfl

theorem scalar_load_n (a : List UInt8) (ha : a.length = 32) : Meets Tryz.prog 130 [agg (Aa a)] [] (fun _ => True) (fun v out => v = agg (Ae (Bq (le a))) ∧ out = []) := by
  rw [← ldW_eq ha]; exact scalar_load a ha
theorem scalar_store_n (n : Nat) : Meets Tryz.prog 225 [agg (Ae (Bq n))] [] (fun _ => True) (fun v out => v = agg (Aa (leb 32 n)) ∧ out = []) := by
  rw [← stB_eq n]; exact scalar_store (Bq n) rfl
theorem scalar_modulus_n : Meets Tryz.prog 132 [] [] (fun _ => True) (fun v out => v = agg (Ae (Bq L)) ∧ out = []) := by
  rw [← modW_eq]; exact scalar_modulus
theorem scalar_doubled_n (n : Nat) (b : UInt64) (hb : b.toNat ≤ 1) : Meets Tryz.prog 223 [agg (Ae (Bq n)), u64 b] [] (fun _ => True) (fun v out => v = agg (Ae (Bq (2 * n + b.toNat))) ∧ out = []) := by
  rw [← dblW_eq n b hb]; exact scalar_doubled (Bq n) b rfl
theorem scalar_below_n (n m : Nat) (hn : n < 2 ^ 256) (hm : m < 2 ^ 256) : Meets Tryz.prog 131 [agg (Ae (Bq n)), agg (Ae (Bq m))] [] (fun _ => True) (fun v out => v = .bool (decide (n < m)) ∧ out = []) := by
  have := scalar_below (Bq n) (Bq m) rfl rfl
  rw [wv_words4, wv_words4, Nat.mod_eq_of_lt hn, Nat.mod_eq_of_lt hm] at this
  exact this
theorem scalar_minus_n (n m : Nat) (hn : n < 2 ^ 256) (hm : m ≤ n) : Meets Tryz.prog 224 [agg (Ae (Bq n)), agg (Ae (Bq m))] [] (fun _ => True) (fun v out => v = agg (Ae (Bq (n - m))) ∧ out = []) := by
  have := scalar_minus (Bq n) (Bq m) rfl rfl
  rw [mnsW_eq rfl rfl, wv_words4, wv_words4, Nat.mod_eq_of_lt hn, Nat.mod_eq_of_lt (Nat.lt_of_le_of_lt hm hn)] at this
  have e : Bq (n + 2 ^ 256 - m) = Bq (n - m) := by rw [← words4_mod, show (n + 2 ^ 256 - m) % 2 ^ 256 = (n - m) % 2 ^ 256 by omega, words4_mod]
  rw [← e, ← words4_mod n, Nat.mod_eq_of_lt hn]
  exact this
theorem bit_le (x : UInt64) (n : Nat) : (Aq x n &&& 1).toNat = x.toNat / 2 ^ n % 2 := by
  rw [UInt64.toNat_and, A3]
  exact Nat.and_two_pow_sub_one_eq_mod _ 1
theorem words4_start (xs : List UInt64) : Bq (wv (List.take 0 xs) % L) = List.replicate 4 0 := by
  rw [List.take_zero]; decide
theorem res_bd (m : Nat) (x : UInt64) (n : Nat) (h : m < L) : 2 * m + (Aq x n &&& 1).toNat < 2 ^ 256 := by
  have hL : L < 2 ^ 254 := by decide
  rw [bit_le]; omega

theorem scalar_residue (b o c n : Nat) (xs : List UInt64) (hx : xs.length = n) (hn : n ≤ 1000000) : Meets Tryz.prog 190 [.slice (some ⟨b, o, none⟩) n c] [] (fun W => Sees W b o (Ae xs)) (fun v out => v = agg (Aa (leb 32 (wv xs % L))) ∧ out = []) := by
 intro W hW
 have hL : L < 2 ^ 256 := by decide
 refine Ac Tryz.func190 J 35 Tryz.ntmps190 J (G2 ?_)
 refine .alloc (cs := (Aa (List.replicate 32 0))) J A4 J ?_
 intro n2 hn2 hf2
 refine G4 ?_
 refine .alloc (cs := (Ae (List.replicate 4 0))) J Zr166 J ?_
 intro n3 hn3 hf3
 refine G4 ?_
 refine .cV J J J J Body132 (scalar_modulus_n) tV (.alloc (cs := (Ae (List.replicate 4 0))) J Zr166 J ?_)
 intro n4 hn4 hf4
 refine .sA J J J J zB Sz166 (by (simp [Co]; done)) Z0 sP zU ?_
 refine G11 ?_
 refine .loop (ι := Nat) (fun k => ⟨[(2, ptr n2 0), (3, ptr n3 0), (4, ptr n4 0), (9, .slice (some ⟨b, o, none⟩) n c), (10, i64 (n : Int)), (11, i64 (k : Int))], [⟨n4, Ae (Bq L), 166, 4⟩, ⟨n3, Ae (Bq (wv (xs.take k) % L)), 166, 4⟩, ⟨n2, Aa (List.replicate 32 0), 124, 32⟩]⟩) (fun k => k ≤ n) (fun k => n - k) (0) ?_ ?_ ?_
 · omega
 · exact Ad (wk1 rfl (wk1 rfl (wk1 rfl (wk1 rfl (wk1 rfl (wk1 rfl wk0)))))) (wh1 Z0 (wh1 (by rw [words4_start]; exact mem1) (wh1 Z2 wh0))) nD
 rintro k hi
 refine G6 ?_
 refine .condP J (fun hc0 => ?_) (fun hc0 => ?_)
 ·
  refine G6 ?_
  refine .idxSlO J J J J Y203.h Sz24 _ J oM (.loadE J J J Y24.h J sP (hW _ _ (get_words oM)) (G9 ?_))
  refine .loop (ι := Nat) (fun t => ⟨[(2, ptr n2 0), (3, ptr n3 0), (4, ptr n4 0), (6, u64 (xs.getD k 0)), (7, i64 (63 - (t : Int))), (9, .slice (some ⟨b, o, none⟩) n c), (10, i64 (n : Int)), (11, i64 (k : Int))], [⟨n4, Ae (Bq L), 166, 4⟩, ⟨n3, Ae (Bq ((wv (xs.take k) * 2 ^ (t) + (xs.getD k 0).toNat / 2 ^ (64 - (t))) % L)), 166, 4⟩, ⟨n2, Aa (List.replicate 32 0), 124, 32⟩]⟩) (fun t => t ≤ 64) (fun t => 64 - t) (0) ?_ ?_ ?_
  · omega
  · exact Ad (wk1 rfl (wk1 rfl (wk1 rfl (wk1 rfl (wk1 rfl (wk1 rfl (wk1 rfl (wk1 rfl wk0)))))))) (wh1 Z0 (wh1 (by rw [Nat.pow_zero, Nat.mul_one, Nat.div_eq_of_lt (UInt64.toNat_lt _), Nat.add_zero]; exact mem1) (wh1 Z2 wh0))) nD
  rintro t hi
  refine G7 ?_
  refine .condP J (fun hc1 => ?_) (fun hc1 => ?_)
  ·
   have ht : t < 64 := by omega
   have hmL : (wv (xs.take k) * 2 ^ t + (xs.getD k 0).toNat / 2 ^ (64 - t)) % L < L := Nat.mod_lt _ dE
   refine G2 ?_
   refine .join (ι := Unit) (fun _u => ⟨[(2, ptr n2 0), (3, ptr n3 0), (4, ptr n4 0), (6, u64 (xs.getD k 0)), (7, i64 (63 - (t : Int))), (9, .slice (some ⟨b, o, none⟩) n c), (10, i64 (n : Int)), (11, i64 (k : Int))], [⟨n4, Ae (Bq L), 166, 4⟩, ⟨n3, Ae (Bq ((wv (xs.take k) * 2 ^ (t + 1) + (xs.getD k 0).toNat / 2 ^ (64 - (t + 1))) % L)), 166, 4⟩, ⟨n2, Aa (List.replicate 32 0), 124, 32⟩]⟩) (fun _u => True) ?_ ?_
   ·
    refine G2 ?_
    refine .draw [(1, 0), (0, 1), (0, 2), (0, 3), (0, 4), (3, 5), (4, 6)] Ap zK (.lA J J J Y166.h J Sz166 Z1 (by (simp [Co]; done)) ?_)
    refine G2 ?_
    refine .shr_u64 J J J J (63 - t) oM oM (.and_u64 J J J (show Ag _ _ = some (u64 1) from rfl) (.cV J J J J Body223 (scalar_doubled_n _ _ (by rw [bit_le]; omega)) tV ?_))
    refine .sA J J J J zB Sz166 (by (simp [Co]; done)) Z1 (by (simp [Co]; done)) zV ?_
    refine G4 ?_
    refine .lA J J J Y166.h J Sz166 Z1 (by (simp [Co]; done)) ?_
    refine .lA J J J Y166.h J Sz166 Z0 (by (simp [Co]; done)) ?_
    refine .cV J J J J Body131 (scalar_below_n _ _ (res_bd _ _ _ hmL) hL) tV (G3 ?_)
    refine .condNP J (fun hc2 => ?_) (fun hc2 => ?_)
    ·
     refine .region (.lA J J J Y166.h J Sz166 Z1 (by (simp [Co]; done)) ?_)
     refine .lA J J J Y166.h J Sz166 Z0 (by (simp [Co]; done)) ?_
     refine .cV J J J J Body224 (scalar_minus_n _ _ (res_bd _ _ _ hmL) (Nat.le_of_not_lt hc2)) tV (.sA J J J J zB Sz166 (by (simp [Co]; done)) Z1 (by (simp [Co]; done)) zV ?_)
     refine G3 ?_
     have hst := res_step (wv (xs.take k)) (xs.getD k 0).toNat t (UInt64.toNat_lt _) ht
     simp only [] at hst
     refine ⟨(), trivial, Ad (wk1 J (wk1 J (wk1 J (wk1 J (wk1 J (wk1 J (wk1 J (wk1 J wk0)))))))) (wh1 Z0 (wh1 (by rw [show 64 - (t + 1) = 63 - t by omega, ← hst, ← bit_le]; simp only [hc2, if_true, if_false]; exact mem1) (wh1 Z2 wh0))) nD⟩
    refine G3 ?_
    have hst := res_step (wv (xs.take k)) (xs.getD k 0).toNat t (UInt64.toNat_lt _) ht
    simp only [] at hst
    refine ⟨(), trivial, Ad (wk1 J (wk1 J (wk1 J (wk1 J (wk1 J (wk1 J (wk1 J (wk1 J wk0)))))))) (wh1 Z0 (wh1 (by rw [show 64 - (t + 1) = 63 - t by omega, ← hst, ← bit_le]; simp only [hc2, if_true, if_false]; exact mem1) (wh1 Z2 wh0))) nD⟩
   intro _u hj
   skip
   refine G6 ?_
   exact ⟨t + 1, by omega, by omega, Ad (wk1 rfl (wk1 rfl (wk1 rfl (wk1 rfl (wk1 (by rw [show (63 - ((t + 1 : Nat) : Int)) = 63 - (t : Int) - 1 by omega]; rfl) (wk1 rfl (wk1 rfl (wk1 rfl wk0)))))))) (wh1 Z0 (wh1 Z1 (wh1 Z2 wh0))) nD⟩
  obtain rfl : t = 64 := by omega
  refine G11 ?_
  exact ⟨k + 1, by omega, by omega, Ad (wk1 rfl (wk1 rfl (wk1 rfl (wk1 rfl (wk1 rfl (wk1 rfl wk0)))))) (wh1 Z0 (wh1 (by rw [wv_take_succ xs k oM, show (64 - 64 : Nat) = 0 from rfl, Nat.pow_zero, Nat.div_one]; exact mem1) (wh1 Z2 wh0))) nD⟩
 obtain rfl : k = n := by omega
 refine G7 ?_
 refine .lA J J J Y166.h J Sz166 Z1 (by (simp [Co]; done)) ?_
 refine .cV J J J J Body225 (scalar_store_n _) tV (.sA J J J J zB Sz124 (by (simp [Ah]; done)) Z2 sP (by exact upd2) ?_)
 refine G2 ?_
 -- ret
 refine G2 ?_
 refine ⟨_, [], An J J Y124.h J Sz124 Z2 (by simp [Ah]), sP, sP, ?_, rfl⟩
 rw [List.take_of_length_le oM]

open Ed

theorem field_put (q o n c m : Nat) (l : List UInt8) (x : UInt64) (BT : TypeId) (hn : 8 ≤ n) (hl : o + 8 ≤ l.length) : Meets Tryz.prog 184 [.slice (some ⟨q, o, none⟩) n c, u64 x] [q] (fun W => BlkOk W ⟨q, Aa l, BT, m⟩) (fun v out => out = [⟨q, Aa (set8 l o x), BT, m⟩]) := by
 intro W hW
 refine calls_of (hp0 := [⟨q, Aa l, BT, m⟩]) Tryz.func184 J 46 Tryz.ntmps184 J (HRep.one hW) (G3 ?_)
 refine .idxSlO J J J J Y27.h Sz5 7 J oM (.load1 J J J Y5.h J Z0 (get_bytes oM) ?_)
 refine G11 ?_
 refine .shr_u64 J J J J 8 J dE (G2 ?_)
 refine .shr_u64 J J J J 16 J dE (G2 ?_)
 refine .shr_u64 J J J J 24 J dE (G1 ?_)
 refine .idxSlO J J J J Y27.h Sz5 0 J oM (.s1 J J J J J Sz5 Z0 (by simp; omega) (Be _ _ _) zU ?_)
 refine .idxSlO J J J J Y27.h Sz5 1 J oM (.s1 J J J J J Sz5 Z0 (by simp; omega) (Be _ _ _) zU ?_)
 refine .idxSlO J J J J Y27.h Sz5 2 J oM (.s1 J J J J J Sz5 Z0 (by simp; omega) (Be _ _ _) zU ?_)
 refine .idxSlO J J J J Y27.h Sz5 3 J oM (.s1 J J J J J Sz5 Z0 (by simp; omega) (Be _ _ _) zU ?_)
 refine G8 ?_
 refine .shr_u64 J J J J 32 J dE (G2 ?_)
 refine .shr_u64 J J J J 40 J dE (G2 ?_)
 refine .shr_u64 J J J J 48 J dE (G2 ?_)
 refine .shr_u64 J J J J 56 J dE (G1 ?_)
 refine .idxSlO J J J J Y27.h Sz5 4 J oM (.s1 J J J J J Sz5 Z0 (by simp; omega) (Be _ _ _) zU ?_)
 refine .idxSlO J J J J Y27.h Sz5 5 J oM (.s1 J J J J J Sz5 Z0 (by simp; omega) (Be _ _ _) zU ?_)
 refine .idxSlO J J J J Y27.h Sz5 6 J oM (.s1 J J J J J Sz5 Z0 (by simp; omega) (Be _ _ _) zU ?_)
 refine .idxSlO J J J J Y27.h Sz5 7 J oM (.s1 J J J J J Sz5 Z0 (by simp; omega) (Be _ _ _) zU ?_)
 refine G2 ?_
 exact ⟨_, _, res_none rfl, (fun b hb => by rw [List.mem_singleton.1 hb]; exact Bx), nodup1, rfl⟩

theorem field_quarters (a : List UInt8) (ha : a.length = 32) : Meets Tryz.prog 218 [agg (Aa a)] [] (fun _ => True) (fun v out => v = agg (Ae [qw a 0, qw a 1, qw a 2, qw a 3]) ∧ out = []) := by
 intro W hW
 refine Ac Tryz.func218 J 65 Tryz.ntmps218 J (G3 ?_)
 intro n1 hn1 hf1
 refine .alloc (cs := (Ae (List.replicate 4 0))) J Zr165 J ?_
 intro n2 hn2 hf2
 refine G4 ?_
 refine .alloc (cs := (Ae (List.replicate 4 0))) J Zr165 J ?_
 intro n3 hn3 hf3
 refine G9 ?_
 refine .loop (ι := Nat) (fun k => ⟨[(1, ptr n1 0), (2, ptr n2 0), (3, ptr n3 0), (6, i64 (k : Int))], [⟨n3, Ae (qtA a k), 165, 4⟩, ⟨n2, Ae (List.replicate 4 0), 165, 4⟩, ⟨n1, Aa a, 124, (Aa a).length⟩]⟩) (fun k => k ≤ 4) (fun k => 4 - k) (0) ?_ ?_ ?_
 · omega
 · exact Ad (wk1 rfl (wk1 rfl (wk1 rfl (wk1 rfl wk0)))) (wh1 Z0 (wh1 Z1 (wh1 Z2 wh0))) nD
 rintro k hi
 have hlk := qtA_length a k
 refine G6 ?_
 refine .condP J (fun hc0 => ?_) (fun hc0 => ?_)
 ·
  refine G13 ?_
  refine .mul_i64 J J J J oM (G1 ?_)
  refine .mul_i64 J J J J oM (G1 ?_)
  refine .sliceArrLH (8 * k) (8 * k + 8) J J J J J oM oM oM oM oM Y124.h Sz5 (G3 ?_)
  refine .draw [(0, 0), (0, 1), (0, 2), (1, 3), (0, 4), (0, 5), (0, 6), (1, 7), (0, 8), (0, 9), (0, 10), (0, 11), (0, 12), (1, 13), (0, 14), (0, 15), (0, 16), (0, 17), (0, 18), (1, 19), (0, 20), (0, 21), (0, 22), (0, 23), (0, 24), (1, 25), (0, 26), (0, 27), (0, 28), (0, 29), (0, 30), (1, 31), (0, 32), (0, 33), (0, 34), (0, 35), (0, 36), (1, 37), (0, 38), (0, 39), (0, 40), (0, 41), (0, 42), (1, 43), (0, 44), (0, 45), (0, 46), (0, 47), (4, 48)] Ap zK (G2 ?_)
  refine .idxSlO J J J J Y27.h Sz5 0 J oM (G3 ?_)
  refine .idxSlO J J J J Y27.h Sz5 1 J oM (G2 ?_)
  refine .shl_u64 J J J J 8 J dE (G2 ?_)
  refine .idxSlO J J J J Y27.h Sz5 2 J oM (G2 ?_)
  refine .shl_u64 J J J J 16 J dE (G2 ?_)
  refine .idxSlO J J J J Y27.h Sz5 3 J oM (G2 ?_)
  refine .shl_u64 J J J J 24 J dE (G2 ?_)
  refine .idxSlO J J J J Y27.h Sz5 4 J oM (G2 ?_)
  refine .shl_u64 J J J J 32 J dE (G2 ?_)
  refine .idxSlO J J J J Y27.h Sz5 5 J oM (G2 ?_)
  refine .shl_u64 J J J J 40 J dE (G2 ?_)
  refine .idxSlO J J J J Y27.h Sz5 6 J oM (G2 ?_)
  refine .shl_u64 J J J J 48 J dE (G2 ?_)
  refine .idxSlO J J J J Y27.h Sz5 7 J oM (G2 ?_)
  refine .shl_u64 J J J J 56 J dE (G1 ?_)
  refine .i1 J J J J Y165 Sz24 _ J oM (.s1 J J J J J Sz24 Z0 (by (simp [qtA_length]; omega)) (by exact A8 _ _ _) zU ?_)
  refine G8 ?_
  exact ⟨k + 1, by omega, by omega, Ad (wk1 rfl (wk1 rfl (wk1 rfl (wk1 rfl wk0)))) (wh1 Z0 (wh1 Z1 (wh1 Z2 wh0))) nD⟩
 obtain rfl : k = 4 := by omega
 refine G7 ?_
 refine .lA J J J Y165 J Sz165 Z0 (by (simp [qtA_length]; done)) ?_
 refine .sA J J J J zB Sz165 (by (simp [qtA_length]; done)) Z1 sP zV ?_
 refine G2 ?_
 -- ret
 refine G2 ?_
 refine ⟨_, [], An J J Y165 J Sz165 Z1 (by simp [qtA_length]), sP, sP, ?_, rfl⟩
 rfl
theorem field_load (a : List UInt8) (ha : a.length = 32) : Meets Tryz.prog 181 [agg (Aa a)] [] (fun _ => True) (fun v out => v = agg (Ae (ldN a).l) ∧ out = []) := by
 intro W hW
 refine Ac Tryz.func181 J 37 Tryz.ntmps181 J (G3 ?_)
 intro n1 hn1 hf1
 refine .alloc (cs := (Ae (List.replicate 5 0))) J Zr205 J ?_
 intro n2 hn2 hf2
 refine G4 ?_
 refine .lA J J J Y124.h J Sz124 Z1 (by (simp [ha]; done)) ?_
 refine .cV J J J J Body218 (field_quarters a ha) tV (.alloc (cs := (Ae (List.replicate 4 0))) J Zr165 J ?_)
 intro n3 hn3 hf3
 refine .sA J J J J zB Sz165 sP Z0 sP zU ?_
 refine G4 ?_
 refine .i1 J J J J Y165 Sz24 0 J dE (G1 ?_)
 refine .and_u64 J J J (show Ag _ _ = some (u64 2251799813685247) from rfl) (.i1 J J J J Y165 Sz24 0 J dE (G1 ?_))
 refine .shr_u64 J J J J 51 J dE (.i1 J J J J Y165 Sz24 1 J dE (G1 ?_))
 refine .shl_u64 J J J J 13 J dE (G1 ?_)
 refine .and_u64 J J J (show Ag _ _ = some (u64 2251799813685247) from rfl) (.i1 J J J J Y165 Sz24 1 J dE (G1 ?_))
 refine .shr_u64 J J J J 38 J dE (.i1 J J J J Y165 Sz24 2 J dE (G1 ?_))
 refine .shl_u64 J J J J 26 J dE (G1 ?_)
 refine .and_u64 J J J (show Ag _ _ = some (u64 2251799813685247) from rfl) (.i1 J J J J Y165 Sz24 2 J dE (G1 ?_))
 refine .shr_u64 J J J J 25 J dE (.i1 J J J J Y165 Sz24 3 J dE (G1 ?_))
 refine .shl_u64 J J J J 39 J dE (G1 ?_)
 refine .and_u64 J J J (show Ag _ _ = some (u64 2251799813685247) from rfl) (.i1 J J J J Y165 Sz24 3 J dE (G1 ?_))
 refine .shr_u64 J J J J 12 J dE (.build (cs := Ae (ldN a).l) J J J (fun w => by kernel_rfl) ?_)
 refine .sA J J J J zB Sz205 zW Z1 sP zV ?_
 refine G2 ?_
 -- ret
 refine G2 ?_
 refine ⟨_, [], An J J Y205.h J Sz205 Z1 (by simp [W5.l_length]), sP, sP, ?_, rfl⟩
 rfl

theorem field_carried (w : W5) : Meets Tryz.prog 221 [agg (Ae w.l)] [] (fun _ => True) (fun v out => v = agg (Ae (carF w).l) ∧ out = []) := by
 intro W hW
 refine Ac Tryz.func221 J 40 Tryz.ntmps221 J (G3 ?_)
 intro n1 hn1 hf1
 refine .alloc (cs := (Ae (List.replicate 5 0))) J Zr205 J ?_
 intro n2 hn2 hf2
 refine G4 ?_
 refine .i1 J J J J Y205.h Sz24 0 J dE (G1 ?_)
 refine .and_u64 J J J (show Ag _ _ = some (u64 2251799813685247) from rfl) (.i1 J J J J Y205.h Sz24 4 J dE (G1 ?_))
 refine .shr_u64 J J J J 51 J dE (.mul_u64 J J (show Ag _ _ = some (u64 19) from rfl) J (G1 ?_))
 refine .i1 J J J J Y205.h Sz24 1 J dE (G1 ?_)
 refine .and_u64 J J J (show Ag _ _ = some (u64 2251799813685247) from rfl) (.i1 J J J J Y205.h Sz24 0 J dE (G1 ?_))
 refine .shr_u64 J J J J 51 J dE (G1 ?_)
 refine .i1 J J J J Y205.h Sz24 2 J dE (G1 ?_)
 refine .and_u64 J J J (show Ag _ _ = some (u64 2251799813685247) from rfl) (.i1 J J J J Y205.h Sz24 1 J dE (G1 ?_))
 refine .shr_u64 J J J J 51 J dE (G1 ?_)
 refine .i1 J J J J Y205.h Sz24 3 J dE (G1 ?_)
 refine .and_u64 J J J (show Ag _ _ = some (u64 2251799813685247) from rfl) (.i1 J J J J Y205.h Sz24 2 J dE (G1 ?_))
 refine .shr_u64 J J J J 51 J dE (G1 ?_)
 refine .i1 J J J J Y205.h Sz24 4 J dE (G1 ?_)
 refine .and_u64 J J J (show Ag _ _ = some (u64 2251799813685247) from rfl) (.i1 J J J J Y205.h Sz24 3 J dE (G1 ?_))
 refine .shr_u64 J J J J 51 J dE (G1 ?_)
 refine .build (cs := Ae (carF w).l) J J J (fun w => by kernel_rfl) ?_
 refine .sA J J J J zB Sz205 zW Z0 sP zU ?_
 refine G2 ?_
 -- ret
 refine G2 ?_
 refine ⟨_, [], An J J Y205.h J Sz205 Z0 (by simp [W5.l_length]), sP, sP, ?_, rfl⟩
 rfl

theorem Br (s : UInt64 × UInt64) (a b : UInt64) : Meets Tryz.prog 219 [agg [u64 s.1, u64 s.2], u64 a, u64 b] [] (fun _ => True) (fun v out => v = agg [u64 (plF s a b).1, u64 (plF s a b).2] ∧ out = []) := by
 intro W hW
 refine Ac Tryz.func219 J 34 Tryz.ntmps219 J (G3 ?_)
 intro n3 hn3 hf3
 refine .alloc (cs := ([u64 0] ++ [u64 0])) J Zr238 J ?_
 intro n6 hn6 hf6
 refine G6 ?_
 refine .cV J J J J Body195 (mul64_ok _ _) tV (G12 ?_)
 refine .ext J J J J (add64_run _ _ 0 dE) (G13 ?_)
 refine .ext J J J J (add64_run _ _ _ (by rw [Bl]; have := s.2.toNat_lt; have := (a * b).toNat_lt; simp only [show (0 : UInt64).toNat = 0 from rfl]; omega)) ?_
 refine G10 ?_
 refine .build (cs := [u64 (plF s a b).1, u64 (plF s a b).2]) J J J (fun w => by kernel_rfl) ?_
 refine .sA J J J J zB Sz238 sP Z0 sP zU ?_
 refine G2 ?_
 -- ret
 refine G2 ?_
 refine ⟨_, [], An J J Y238.h J Sz238 Z0 sP, sP, sP, ?_, rfl⟩
 rfl

theorem wide_upper (s : UInt64 × UInt64) : Meets Tryz.prog 220 [agg [u64 s.1, u64 s.2]] [] (fun _ => True) (fun v out => v = u64 (upF s) ∧ out = []) := by
 intro W hW
 refine Ac Tryz.func220 J 10 Tryz.ntmps220 J (G3 ?_)
 intro n1 hn1 hf1
 refine .a J J (show Ag _ _ = some (u64 0) from rfl) (G6 ?_)
 refine .shl_u64 J J J J 13 J dE (G2 ?_)
 refine .shr_u64 J J J J 51 J dE (G4 ?_)
 -- ret
 refine G2 ?_
 refine ⟨_, [], Al J J, sP, sP, ?_, rfl⟩
 rfl

theorem field_product (na nb : Nat) (a b : W5) : Meets Tryz.prog 182 [ptr na 0, ptr nb 0] [] (fun W => Sees W na 0 (Ae a.l) ∧ Sees W nb 0 (Ae b.l)) (fun v out => v = agg (Ae (mulF a b).l) ∧ out = []) := by
 intro W hW
 refine Ac Tryz.func182 J 267 Tryz.ntmps182 J (G2 ?_)
 refine .alloc (cs := (Ae (List.replicate 5 0))) J Zr205 J ?_
 intro n4 hn4 hf4
 refine G3 ?_
 refine .draw [(0, 0), (0, 1), (0, 2), (1, 3), (0, 4), (0, 5), (0, 6), (0, 7), (1, 8), (0, 9), (0, 10), (0, 11), (0, 12), (1, 13), (0, 14), (0, 15), (0, 16), (0, 17), (1, 18), (0, 19), (0, 20), (0, 21), (0, 22), (0, 23)] Ap zK (G2 ?_)
 refine .i1 J J J J Y205.h Sz24 1 J dE (.loadE J J J Y24.h J sP (hW.1 1 _ J) (.mul_u64 J J (show Ag _ _ = some (u64 19) from rfl) J (G2 ?_)))
 refine .i1 J J J J Y205.h Sz24 2 J dE (.loadE J J J Y24.h J sP (hW.1 2 _ J) (.mul_u64 J J (show Ag _ _ = some (u64 19) from rfl) J (G2 ?_)))
 refine .i1 J J J J Y205.h Sz24 3 J dE (.loadE J J J Y24.h J sP (hW.1 3 _ J) (.mul_u64 J J (show Ag _ _ = some (u64 19) from rfl) J (G2 ?_)))
 refine .i1 J J J J Y205.h Sz24 4 J dE (.loadE J J J Y24.h J sP (hW.1 4 _ J) (.mul_u64 J J (show Ag _ _ = some (u64 19) from rfl) J (G7 ?_)))
 refine .draw [(0, 0), (0, 1), (0, 2), (0, 3), (1, 4), (0, 5), (0, 6), (0, 7), (1, 8), (0, 10), (0, 11), (0, 12), (0, 13), (1, 14), (0, 16), (0, 17), (0, 18), (0, 19), (1, 20), (0, 22), (0, 23), (0, 24), (0, 25), (1, 26), (0, 28), (0, 29), (0, 30), (0, 31), (1, 32), (3, 9), (3, 15), (3, 21), (3, 27), (3, 33), (2, 34), (4, 35)] Ap zK (.build (cs := [u64 0, u64 0]) J J J (fun w => by kernel_rfl) ?_)
 refine G2 ?_
 refine .i1 J J J J Y205.h Sz24 0 J dE (.loadE J J J Y24.h J sP (hW.1 0 _ J) (G2 ?_))
 refine .i1 J J J J Y205.h Sz24 0 J dE (.loadE J J J Y24.h J sP (hW.2 0 _ J) (G3 ?_))
 refine .i1 J J J J Y205.h Sz24 4 J dE (.loadE J J J Y24.h J sP (hW.2 4 _ J) (G3 ?_))
 refine .i1 J J J J Y205.h Sz24 3 J dE (.loadE J J J Y24.h J sP (hW.2 3 _ J) (G3 ?_))
 refine .i1 J J J J Y205.h Sz24 2 J dE (.loadE J J J Y24.h J sP (hW.2 2 _ J) (G3 ?_))
 refine .i1 J J J J Y205.h Sz24 1 J dE (.loadE J J J Y24.h J sP (hW.2 1 _ J) (.cV J J J J Cr (Br (0, 0) a.a b.a) tV (.cV J J J J Cr (Br (plF (0, 0) a.a b.a) (19 * a.b) b.e) tV (.cV J J J J Cr (Br (plF (plF (0, 0) a.a b.a) (19 * a.b) b.e) (19 * a.c) b.d) tV (.cV J J J J Cr (Br (plF (plF (plF (0, 0) a.a b.a) (19 * a.b) b.e) (19 * a.c) b.d) (19 * a.d) b.c) tV (.cV J J J J Cr (Br (plF (plF (plF (plF (0, 0) a.a b.a) (19 * a.b) b.e) (19 * a.c) b.d) (19 * a.d) b.c) (19 * a.e) b.b) tV (.alloc (cs := ([u64 0] ++ [u64 0])) J Zr238 J ?_)))))))
 intro n9 hn9 hf9
 refine .sA J J J J zB Sz238 sP Z0 sP zU ?_
 refine G3 ?_
 refine .draw [(0, 0), (0, 1), (0, 2), (0, 3), (1, 4), (0, 5), (0, 6), (0, 7), (1, 8), (0, 10), (0, 11), (0, 12), (1, 13), (0, 14), (0, 15), (0, 16), (1, 17), (0, 19), (0, 20), (0, 21), (0, 22), (1, 23), (0, 25), (0, 26), (0, 27), (0, 28), (1, 29), (0, 31), (0, 32), (0, 33), (0, 34), (1, 35), (3, 9), (3, 18), (3, 24), (3, 30), (3, 36), (2, 37), (4, 38)] Ap zK (.build (cs := [u64 0, u64 0]) J J J (fun w => by kernel_rfl) ?_)
 refine G2 ?_
 refine .i1 J J J J Y205.h Sz24 0 J dE (.loadE J J J Y24.h J sP (hW.1 0 _ J) (G2 ?_))
 refine .i1 J J J J Y205.h Sz24 1 J dE (.loadE J J J Y24.h J sP (hW.2 1 _ J) (G2 ?_))
 refine .i1 J J J J Y205.h Sz24 1 J dE (.loadE J J J Y24.h J sP (hW.1 1 _ J) (G2 ?_))
 refine .i1 J J J J Y205.h Sz24 0 J dE (.loadE J J J Y24.h J sP (hW.2 0 _ J) (G3 ?_))
 refine .i1 J J J J Y205.h Sz24 4 J dE (.loadE J J J Y24.h J sP (hW.2 4 _ J) (G3 ?_))
 refine .i1 J J J J Y205.h Sz24 3 J dE (.loadE J J J Y24.h J sP (hW.2 3 _ J) (G3 ?_))
 refine .i1 J J J J Y205.h Sz24 2 J dE (.loadE J J J Y24.h J sP (hW.2 2 _ J) (.cV J J J J Cr (Br (0, 0) a.a b.b) tV (.cV J J J J Cr (Br (plF (0, 0) a.a b.b) a.b b.a) tV (.cV J J J J Cr (Br (plF (plF (0, 0) a.a b.b) a.b b.a) (19 * a.c) b.e) tV (.cV J J J J Cr (Br (plF (plF (plF (0, 0) a.a b.b) a.b b.a) (19 * a.c) b.e) (19 * a.d) b.d) tV (.cV J J J J Cr (Br (plF (plF (plF (plF (0, 0) a.a b.b) a.b b.a) (19 * a.c) b.e) (19 * a.d) b.d) (19 * a.e) b.c) tV (.alloc (cs := ([u64 0] ++ [u64 0])) J Zr238 J ?_)))))))
 intro n10 hn10 hf10
 refine .sA J J J J zB Sz238 sP Z0 sP zU ?_
 refine G3 ?_
 refine .draw [(0, 0), (0, 1), (0, 2), (0, 3), (1, 4), (0, 5), (0, 6), (0, 7), (1, 8), (0, 10), (0, 11), (0, 12), (1, 13), (0, 14), (0, 15), (0, 16), (1, 17), (0, 19), (0, 20), (0, 21), (1, 22), (0, 23), (0, 24), (0, 25), (1, 26), (0, 28), (0, 29), (0, 30), (0, 31), (1, 32), (0, 34), (0, 35), (0, 36), (0, 37), (1, 38), (3, 9), (3, 18), (3, 27), (3, 33), (3, 39), (2, 40), (4, 41)] Ap zK (.build (cs := [u64 0, u64 0]) J J J (fun w => by kernel_rfl) ?_)
 refine G2 ?_
 refine .i1 J J J J Y205.h Sz24 0 J dE (.loadE J J J Y24.h J sP (hW.1 0 _ J) (G2 ?_))
 refine .i1 J J J J Y205.h Sz24 2 J dE (.loadE J J J Y24.h J sP (hW.2 2 _ J) (G2 ?_))
 refine .i1 J J J J Y205.h Sz24 1 J dE (.loadE J J J Y24.h J sP (hW.1 1 _ J) (G2 ?_))
 refine .i1 J J J J Y205.h Sz24 1 J dE (.loadE J J J Y24.h J sP (hW.2 1 _ J) (G2 ?_))
 refine .i1 J J J J Y205.h Sz24 2 J dE (.loadE J J J Y24.h J sP (hW.1 2 _ J) (G2 ?_))
 refine .i1 J J J J Y205.h Sz24 0 J dE (.loadE J J J Y24.h J sP (hW.2 0 _ J) (G3 ?_))
 refine .i1 J J J J Y205.h Sz24 4 J dE (.loadE J J J Y24.h J sP (hW.2 4 _ J) (G3 ?_))
 refine .i1 J J J J Y205.h Sz24 3 J dE (.loadE J J J Y24.h J sP (hW.2 3 _ J) (.cV J J J J Cr (Br (0, 0) a.a b.c) tV (.cV J J J J Cr (Br (plF (0, 0) a.a b.c) a.b b.b) tV (.cV J J J J Cr (Br (plF (plF (0, 0) a.a b.c) a.b b.b) a.c b.a) tV (.cV J J J J Cr (Br (plF (plF (plF (0, 0) a.a b.c) a.b b.b) a.c b.a) (19 * a.d) b.e) tV (.cV J J J J Cr (Br (plF (plF (plF (plF (0, 0) a.a b.c) a.b b.b) a.c b.a) (19 * a.d) b.e) (19 * a.e) b.d) tV (.alloc (cs := ([u64 0] ++ [u64 0])) J Zr238 J ?_)))))))
 intro n11 hn11 hf11
 refine .sA J J J J zB Sz238 sP Z0 sP zU ?_
 refine G3 ?_
 refine .draw [(0, 0), (0, 1), (0, 2), (0, 3), (1, 4), (0, 5), (0, 6), (0, 7), (1, 8), (0, 10), (0, 11), (0, 12), (1, 13), (0, 14), (0, 15), (0, 16), (1, 17), (0, 19), (0, 20), (0, 21), (1, 22), (0, 23), (0, 24), (0, 25), (1, 26), (0, 28), (0, 29), (0, 30), (1, 31), (0, 32), (0, 33), (0, 34), (1, 35), (0, 37), (0, 38), (0, 39), (0, 40), (1, 41), (3, 9), (3, 18), (3, 27), (3, 36), (3, 42), (2, 43), (4, 44)] Ap zK (.build (cs := [u64 0, u64 0]) J J J (fun w => by kernel_rfl) ?_)
 refine G2 ?_
 refine .i1 J J J J Y205.h Sz24 0 J dE (.loadE J J J Y24.h J sP (hW.1 0 _ J) (G2 ?_))
 refine .i1 J J J J Y205.h Sz24 3 J dE (.loadE J J J Y24.h J sP (hW.2 3 _ J) (G2 ?_))
 refine .i1 J J J J Y205.h Sz24 1 J dE (.loadE J J J Y24.h J sP (hW.1 1 _ J) (G2 ?_))
 refine .i1 J J J J Y205.h Sz24 2 J dE (.loadE J J J Y24.h J sP (hW.2 2 _ J) (G2 ?_))
 refine .i1 J J J J Y205.h Sz24 2 J dE (.loadE J J J Y24.h J sP (hW.1 2 _ J) (G2 ?_))
 refine .i1 J J J J Y205.h Sz24 1 J dE (.loadE J J J Y24.h J sP (hW.2 1 _ J) (G2 ?_))
 refine .i1 J J J J Y205.h Sz24 3 J dE (.loadE J J J Y24.h J sP (hW.1 3 _ J) (G2 ?_))
 refine .i1 J J J J Y205.h Sz24 0 J dE (.loadE J J J Y24.h J sP (hW.2 0 _ J) (G3 ?_))
 refine .i1 J J J J Y205.h Sz24 4 J dE (.loadE J J J Y24.h J sP (hW.2 4 _ J) (.cV J J J J Cr (Br (0, 0) a.a b.d) tV (.cV J J J J Cr (Br (plF (0, 0) a.a b.d) a.b b.c) tV (.cV J J J J Cr (Br (plF (plF (0, 0) a.a b.d) a.b b.c) a.c b.b) tV (.cV J J J J Cr (Br (plF (plF (plF (0, 0) a.a b.d) a.b b.c) a.c b.b) a.d b.a) tV (.cV J J J J Cr (Br (plF (plF (plF (plF (0, 0) a.a b.d) a.b b.c) a.c b.b) a.d b.a) (19 * a.e) b.e) tV (.alloc (cs := ([u64 0] ++ [u64 0])) J Zr238 J ?_)))))))
 intro n12 hn12 hf12
 refine .sA J J J J zB Sz238 sP Z0 sP zU ?_
 refine G3 ?_
 refine .draw [(0, 0), (0, 1), (0, 2), (0, 3), (1, 4), (0, 5), (0, 6), (0, 7), (1, 8), (0, 10), (0, 11), (0, 12), (1, 13), (0, 14), (0, 15), (0, 16), (1, 17), (0, 19), (0, 20), (0, 21), (1, 22), (0, 23), (0, 24), (0, 25), (1, 26), (0, 28), (0, 29), (0, 30), (1, 31), (0, 32), (0, 33), (0, 34), (1, 35), (0, 37), (0, 38), (0, 39), (1, 40), (0, 41), (0, 42), (0, 43), (1, 44), (3, 9), (3, 18), (3, 27), (3, 36), (3, 45), (2, 46), (4, 47)] Ap zK (.build (cs := [u64 0, u64 0]) J J J (fun w => by kernel_rfl) ?_)
 refine G2 ?_
 refine .i1 J J J J Y205.h Sz24 0 J dE (.loadE J J J Y24.h J sP (hW.1 0 _ J) (G2 ?_))
 refine .i1 J J J J Y205.h Sz24 4 J dE (.loadE J J J Y24.h J sP (hW.2 4 _ J) (G2 ?_))
 refine .i1 J J J J Y205.h Sz24 1 J dE (.loadE J J J Y24.h J sP (hW.1 1 _ J) (G2 ?_))
 refine .i1 J J J J Y205.h Sz24 3 J dE (.loadE J J J Y24.h J sP (hW.2 3 _ J) (G2 ?_))
 refine .i1 J J J J Y205.h Sz24 2 J dE (.loadE J J J Y24.h J sP (hW.1 2 _ J) (G2 ?_))
 refine .i1 J J J J Y205.h Sz24 2 J dE (.loadE J J J Y24.h J sP (hW.2 2 _ J) (G2 ?_))
 refine .i1 J J J J Y205.h Sz24 3 J dE (.loadE J J J Y24.h J sP (hW.1 3 _ J) (G2 ?_))
 refine .i1 J J J J Y205.h Sz24 1 J dE (.loadE J J J Y24.h J sP (hW.2 1 _ J) (G2 ?_))
 refine .i1 J J J J Y205.h Sz24 4 J dE (.loadE J J J Y24.h J sP (hW.1 4 _ J) (G2 ?_))
 refine .i1 J J J J Y205.h Sz24 0 J dE (.loadE J J J Y24.h J sP (hW.2 0 _ J) (.cV J J J J Cr (Br (0, 0) a.a b.e) tV (.cV J J J J Cr (Br (plF (0, 0) a.a b.e) a.b b.d) tV (.cV J J J J Cr (Br (plF (plF (0, 0) a.a b.e) a.b b.d) a.c b.c) tV (.cV J J J J Cr (Br (plF (plF (plF (0, 0) a.a b.e) a.b b.d) a.c b.c) a.d b.b) tV (.cV J J J J Cr (Br (plF (plF (plF (plF (0, 0) a.a b.e) a.b b.d) a.c b.c) a.d b.b) a.e b.a) tV (.alloc (cs := ([u64 0] ++ [u64 0])) J Zr238 J ?_)))))))
 intro n13 hn13 hf13
 refine .sA J J J J zB Sz238 sP Z0 sP zU ?_
 refine G3 ?_
 refine .draw [(0, 0), (1, 1), (0, 2), (1, 3), (0, 7), (1, 8), (0, 9), (1, 10), (0, 13), (1, 14), (0, 15), (1, 16), (0, 19), (1, 20), (0, 21), (1, 22), (0, 25), (1, 26), (0, 27), (1, 28), (3, 4), (0, 5), (0, 6), (3, 11), (0, 12), (3, 17), (0, 18), (3, 23), (0, 24), (3, 29), (0, 30), (0, 31), (3, 32), (4, 33)] Ap zK (G2 ?_)
 refine .and_u64 J J J (show Ag _ _ = some (u64 2251799813685247) from rfl) (.lA J J J Y238.h J Sz238 Z0 sP ?_)
 refine G2 ?_
 refine .and_u64 J J J (show Ag _ _ = some (u64 2251799813685247) from rfl) (.lA J J J Y238.h J Sz238 Z4 sP ?_)
 refine G2 ?_
 refine .and_u64 J J J (show Ag _ _ = some (u64 2251799813685247) from rfl) (.lA J J J Y238.h J Sz238 Z3 sP ?_)
 refine G2 ?_
 refine .and_u64 J J J (show Ag _ _ = some (u64 2251799813685247) from rfl) (.lA J J J Y238.h J Sz238 Z2 sP ?_)
 refine G2 ?_
 refine .and_u64 J J J (show Ag _ _ = some (u64 2251799813685247) from rfl) (.lA J J J Y238.h J Sz238 Z1 sP ?_)
 refine .cV J J J J Body220 (wide_upper (s4F a b)) tV (.mul_u64 J J (show Ag _ _ = some (u64 19) from rfl) J (G1 ?_))
 refine .cV J J J J Body220 (wide_upper (s0F a b)) tV (G1 ?_)
 refine .cV J J J J Body220 (wide_upper (s1F a b)) tV (G1 ?_)
 refine .cV J J J J Body220 (wide_upper (s2F a b)) tV (G1 ?_)
 refine .cV J J J J Body220 (wide_upper (s3F a b)) tV (G1 ?_)
 refine .build (cs := Ae (⟨((s0F a b).2 &&& LOW) + 19 * upF (s4F a b), ((s1F a b).2 &&& LOW) + upF (s0F a b), ((s2F a b).2 &&& LOW) + upF (s1F a b), ((s3F a b).2 &&& LOW) + upF (s2F a b), ((s4F a b).2 &&& LOW) + upF (s3F a b)⟩ : W5).l) J J J (fun w => by kernel_rfl) ?_
 refine .cV J J J J Body221 (field_carried ⟨((s0F a b).2 &&& LOW) + 19 * upF (s4F a b), ((s1F a b).2 &&& LOW) + upF (s0F a b), ((s2F a b).2 &&& LOW) + upF (s1F a b), ((s3F a b).2 &&& LOW) + upF (s2F a b), ((s4F a b).2 &&& LOW) + upF (s3F a b)⟩) tV (.sA J J J J zB Sz205 zW (by exact mem5) sP (by exact upd5) ?_)
 refine G2 ?_
 -- ret
 refine G2 ?_
 refine ⟨_, [], An J J Y205.h J Sz205 (by exact mem5) (by simp [W5.l_length]), sP, sP, ?_, rfl⟩
 rfl

theorem field_store (w : W5) : Meets Tryz.prog 183 [agg (Ae w.l)] [] (fun _ => True) (fun v out => v = agg (Aa (fb (fe w.v))) ∧ out = []) := by
 intro W hW
 refine Ac Tryz.func183 J 88 Tryz.ntmps183 J (G3 ?_)
 intro n1 hn1 hf1
 refine .alloc (cs := (Aa (List.replicate 32 0))) J A4 J ?_
 intro n2 hn2 hf2
 refine G5 ?_
 refine .cV J J J J Body221 (field_carried w) tV (G5 ?_)
 refine .i1 J J J J Y205.h Sz24 0 J dE (G1 ?_)
 refine .add_u64 J J J (show Ag _ _ = some (u64 19) from rfl) (.shr_u64 J J J J 51 J dE (G10 ?_))
 refine .rounds 5 (SRounds.more (G7 ?_))
 refine .cond_t J (rfl) (G6 ?_)
 refine .i1 J J J J Y205.h Sz24 1 J oM (G3 ?_)
 refine .shr_u64 J J J J 51 J dE (G9 ?_)
 refine Cq (SRounds.more (G7 ?_))
 refine .cond_t J (rfl) (G6 ?_)
 refine .i1 J J J J Y205.h Sz24 2 J oM (G3 ?_)
 refine .shr_u64 J J J J 51 J dE (G9 ?_)
 refine Cq (SRounds.more (G7 ?_))
 refine .cond_t J (rfl) (G6 ?_)
 refine .i1 J J J J Y205.h Sz24 3 J oM (G3 ?_)
 refine .shr_u64 J J J J 51 J dE (G9 ?_)
 refine Cq (SRounds.more (G7 ?_))
 refine .cond_t J (rfl) (G6 ?_)
 refine .i1 J J J J Y205.h Sz24 4 J oM (G3 ?_)
 refine .shr_u64 J J J J 51 J dE (G9 ?_)
 refine Cq (SRounds.more (G7 ?_))
 refine .cond_f J (rfl) (G7 ?_)
 refine .i1 J J J J Y205.h Sz24 0 J dE (G2 ?_)
 refine .mul_u64 J J (show Ag _ _ = some (u64 19) from rfl) J (G1 ?_)
 refine .i1 J J J J Y205.h Sz24 0 J dE (.s1 J J J J J Sz24 Z1 zW (by exact A8 _ _ _) zV ?_)
 refine G9 ?_
 refine .rounds 5 (SRounds.more (G6 ?_))
 refine .cond_t J (rfl) (G11 ?_)
 refine .draw [(0, 0), (0, 1), (0, 2), (1, 3), (0, 4), (0, 5), (1, 6), (0, 7), (0, 8), (0, 9), (4, 10)] Ap zK (G2 ?_)
 refine .i1 J J J J Y205.h Sz24 1 J oM (G2 ?_)
 refine .i1 J J J J Y205.h Sz24 0 J oM (G1 ?_)
 refine .shr_u64 J J J J 51 J dE (G1 ?_)
 refine .i1 J J J J Y205.h Sz24 1 J oM (.s1 J J J J J Sz24 Z1 zW (by exact A8 _ _ _) zV ?_)
 refine G4 ?_
 refine .i1 J J J J Y205.h Sz24 0 J oM (G1 ?_)
 refine .and_u64 J J J (show Ag _ _ = some (u64 2251799813685247) from rfl) (.i1 J J J J Y205.h Sz24 0 J oM (.s1 J J J J J Sz24 Z1 zW (by exact A8 _ _ _) zV ?_))
 refine G7 ?_
 refine Cq (SRounds.more (G6 ?_))
 refine .cond_t J (rfl) (G11 ?_)
 refine .draw [(0, 0), (0, 1), (0, 2), (1, 3), (0, 4), (0, 5), (1, 6), (0, 7), (0, 8), (0, 9), (4, 10)] Ap zK (G2 ?_)
 refine .i1 J J J J Y205.h Sz24 2 J oM (G2 ?_)
 refine .i1 J J J J Y205.h Sz24 1 J oM (G1 ?_)
 refine .shr_u64 J J J J 51 J dE (G1 ?_)
 refine .i1 J J J J Y205.h Sz24 2 J oM (.s1 J J J J J Sz24 Z1 zW (by exact A8 _ _ _) zV ?_)
 refine G4 ?_
 refine .i1 J J J J Y205.h Sz24 1 J oM (G1 ?_)
 refine .and_u64 J J J (show Ag _ _ = some (u64 2251799813685247) from rfl) (.i1 J J J J Y205.h Sz24 1 J oM (.s1 J J J J J Sz24 Z1 zW (by exact A8 _ _ _) zV ?_))
 refine G7 ?_
 refine Cq (SRounds.more (G6 ?_))
 refine .cond_t J (rfl) (G11 ?_)
 refine .draw [(0, 0), (0, 1), (0, 2), (1, 3), (0, 4), (0, 5), (1, 6), (0, 7), (0, 8), (0, 9), (4, 10)] Ap zK (G2 ?_)
 refine .i1 J J J J Y205.h Sz24 3 J oM (G2 ?_)
 refine .i1 J J J J Y205.h Sz24 2 J oM (G1 ?_)
 refine .shr_u64 J J J J 51 J dE (G1 ?_)
 refine .i1 J J J J Y205.h Sz24 3 J oM (.s1 J J J J J Sz24 Z1 zW (by exact A8 _ _ _) zV ?_)
 refine G4 ?_
 refine .i1 J J J J Y205.h Sz24 2 J oM (G1 ?_)
 refine .and_u64 J J J (show Ag _ _ = some (u64 2251799813685247) from rfl) (.i1 J J J J Y205.h Sz24 2 J oM (.s1 J J J J J Sz24 Z1 zW (by exact A8 _ _ _) zV ?_))
 refine G7 ?_
 refine Cq (SRounds.more (G6 ?_))
 refine .cond_t J (rfl) (G11 ?_)
 refine .draw [(0, 0), (0, 1), (0, 2), (1, 3), (0, 4), (0, 5), (1, 6), (0, 7), (0, 8), (0, 9), (4, 10)] Ap zK (G2 ?_)
 refine .i1 J J J J Y205.h Sz24 4 J oM (G2 ?_)
 refine .i1 J J J J Y205.h Sz24 3 J oM (G1 ?_)
 refine .shr_u64 J J J J 51 J dE (G1 ?_)
 refine .i1 J J J J Y205.h Sz24 4 J oM (.s1 J J J J J Sz24 Z1 zW (by exact A8 _ _ _) zV ?_)
 refine G4 ?_
 refine .i1 J J J J Y205.h Sz24 3 J oM (G1 ?_)
 refine .and_u64 J J J (show Ag _ _ = some (u64 2251799813685247) from rfl) (.i1 J J J J Y205.h Sz24 3 J oM (.s1 J J J J J Sz24 Z1 zW (by exact A8 _ _ _) zV ?_))
 refine G7 ?_
 refine Cq (SRounds.more (G6 ?_))
 refine .cond_f J (rfl) (G7 ?_)
 refine .i1 J J J J Y205.h Sz24 4 J dE (G1 ?_)
 refine .and_u64 J J J (show Ag _ _ = some (u64 2251799813685247) from rfl) (.i1 J J J J Y205.h Sz24 4 J dE (.s1 J J J J J Sz24 Z1 zW (by exact A8 _ _ _) zV ?_))
 refine G4 ?_
 refine .alloc (cs := (Aa (List.replicate 32 0))) J A4 J ?_
 intro n6 hn6 hf6
 refine G3 ?_
 refine .draw [(0, 0), (0, 1), (1, 2), (0, 3), (1, 4), (0, 5), (0, 6), (4, 7)] Ap zK (.sliceArrLH 0 8 J J J J J J J dE dE dE Y124.h Sz5 (.i1 J J J J Y205.h Sz24 0 J dE (G1 ?_)))
 refine .i1 J J J J Y205.h Sz24 1 J dE (G1 ?_)
 refine .shl_u64 J J J J 51 J dE (G1 ?_)
 refine .callL (L := [⟨n6, Aa (List.replicate 32 0), 124, 32⟩]) J J J J J Body184 (field_put n6 0 8 32 32 (List.replicate 32 0) ((stF w).a ||| Ay (stF w).b 51) _ dE sP) (Ab rM Ak) (B6 J) (fun w h => own_blk h Z0) ?_
 rintro v59 out59 rfl
 rw [set8_1]
 refine G3 ?_
 refine .draw [(0, 0), (0, 1), (1, 2), (0, 3), (0, 4), (1, 5), (0, 6), (0, 7), (4, 8)] Ap zK (.sliceArrLH 8 16 J J J J J J J dE dE dE Y124.h Sz5 (.i1 J J J J Y205.h Sz24 1 J dE (G1 ?_)))
 refine .shr_u64 J J J J 13 J dE (.i1 J J J J Y205.h Sz24 2 J dE (G1 ?_))
 refine .shl_u64 J J J J 38 J dE (G1 ?_)
 refine .callL (L := [⟨n6, Aa (by8 ((stF w).a ||| Ay (stF w).b 51) ++ List.replicate 24 0), 124, 32⟩]) J J J J J Body184 (field_put n6 8 8 24 32 (by8 ((stF w).a ||| Ay (stF w).b 51) ++ List.replicate 24 0) (Aq (stF w).b 13 ||| Ay (stF w).c 38) _ dE (by simp [by8_length])) (Ab rM Ak) (B6 J) (fun w h => own_blk h Z0) ?_
 rintro v68 out68 rfl
 rw [set8_2]
 refine G3 ?_
 refine .draw [(0, 0), (0, 1), (1, 2), (0, 3), (0, 4), (1, 5), (0, 6), (0, 7), (4, 8)] Ap zK (.sliceArrLH 16 24 J J J J J J J dE dE dE Y124.h Sz5 (.i1 J J J J Y205.h Sz24 2 J dE (G1 ?_)))
 refine .shr_u64 J J J J 26 J dE (.i1 J J J J Y205.h Sz24 3 J dE (G1 ?_))
 refine .shl_u64 J J J J 25 J dE (G1 ?_)
 refine .callL (L := [⟨n6, Aa (by8 ((stF w).a ||| Ay (stF w).b 51) ++ by8 (Aq (stF w).b 13 ||| Ay (stF w).c 38) ++ List.replicate 16 0), 124, 32⟩]) J J J J J Body184 (field_put n6 16 8 16 32 (by8 ((stF w).a ||| Ay (stF w).b 51) ++ by8 (Aq (stF w).b 13 ||| Ay (stF w).c 38) ++ List.replicate 16 0) (Aq (stF w).c 26 ||| Ay (stF w).d 25) _ dE (by simp [by8_length])) (Ab rM Ak) (B6 J) (fun w h => own_blk h Z0) ?_
 rintro v77 out77 rfl
 rw [set8_3]
 refine G3 ?_
 refine .draw [(0, 0), (0, 1), (1, 2), (0, 3), (0, 4), (1, 5), (0, 6), (0, 7), (4, 8)] Ap zK (.sliceArrLH 24 32 J J J J J J J dE dE dE Y124.h Sz5 (.i1 J J J J Y205.h Sz24 3 J dE (G1 ?_)))
 refine .shr_u64 J J J J 39 J dE (.i1 J J J J Y205.h Sz24 4 J dE (G1 ?_))
 refine .shl_u64 J J J J 12 J dE (G1 ?_)
 refine .callL (L := [⟨n6, Aa (by8 ((stF w).a ||| Ay (stF w).b 51) ++ by8 (Aq (stF w).b 13 ||| Ay (stF w).c 38) ++ by8 (Aq (stF w).c 26 ||| Ay (stF w).d 25) ++ List.replicate 8 0), 124, 32⟩]) J J J J J Body184 (field_put n6 24 8 8 32 (by8 ((stF w).a ||| Ay (stF w).b 51) ++ by8 (Aq (stF w).b 13 ||| Ay (stF w).c 38) ++ by8 (Aq (stF w).c 26 ||| Ay (stF w).d 25) ++ List.replicate 8 0) (Aq (stF w).d 39 ||| Ay (stF w).e 12) _ dE (by simp [by8_length])) (Ab rM Ak) (B6 J) (fun w h => own_blk h Z0) ?_
 rintro v86 out86 rfl
 rw [set8_4]
 refine G4 ?_
 refine .lA J J J Y124.h J Sz124 Z0 (by (simp [by8_length]; done)) ?_
 refine .sA J J J J zE Sz124 (by (simp [by8_length]; done)) Z1 sP zV ?_
 refine G2 ?_
 -- ret
 refine G2 ?_
 refine ⟨_, [], An J J Y124.h J Sz124 Z1 (by simp [by8_length]), sP, sP, ?_, rfl⟩
 rw [fb_fe, ← store_eq, ← by8_store]

theorem field_Rest (a : List UInt8) (ha : a.length = 32) : Meets Tryz.prog 180 [agg (Aa a)] [] (fun _ => True) (fun v out => v = agg (Aa (fb (fe (le a)))) ∧ out = []) := by
 intro W hW
 refine Ac Tryz.func180 J 6 Tryz.ntmps180 J (G3 ?_)
 intro n1 hn1 hf1
 refine .alloc (cs := (Aa (List.replicate 32 0))) J A4 J ?_
 intro n2 hn2 hf2
 refine G4 ?_
 refine .lA J J J Y124.h J Sz124 Z1 (by (simp [ha]; done)) ?_
 refine .cV J J J J Body181 (field_load a ha) tV (.cV J J J J Body183 (field_store (ldN a)) tV (.sA J J J J zE Sz124 zF Z0 sP zU ?_))
 refine G2 ?_
 -- ret
 refine G2 ?_
 refine ⟨_, [], An J J Y124.h J Sz124 Z0 (by simp [Am]), sP, sP, ?_, rfl⟩
 rw [ldN_v ha]

theorem field_Canon (a : List UInt8) (ha : a.length = 32) : Meets Tryz.prog 133 [agg (Aa a)] [] (fun _ => True) (fun v out => v = .bool (decide (fb (fe (le a)) = a)) ∧ out = []) := by
 intro W hW
 refine Ac Tryz.func133 J 7 Tryz.ntmps133 J (G3 ?_)
 intro n1 hn1 hf1
 refine G4 ?_
 refine .draw [(1, 0), (1, 2), (3, 1), (0, 3), (0, 4)] Ap zK (.lA J J J Y124.h J Sz124 Z0 (by (simp [ha]; done)) ?_)
 refine .lA J J J Y124.h J Sz124 Z0 (by (simp [ha]; done)) ?_
 refine .cV J J J J Body180 (field_Rest a ha) tV (.eql_bytes J J J J Tryz.eqGuardType124 Y124.h Y5.h Sz5 zF (by (simp [ha]; done)) J ?_)
 refine G3 ?_
 -- ret
 refine G2 ?_
 refine ⟨_, [], Al J J, sP, sP, ?_, rfl⟩
 rfl

theorem field_Same (a b : List UInt8) (ha : a.length = 32) (hb : b.length = 32) : Meets Tryz.prog 187 [agg (Aa a), agg (Aa b)] [] (fun _ => True) (fun v out => v = .bool (decide (fe (le a) = fe (le b))) ∧ out = []) := by
 intro W hW
 refine Ac Tryz.func187 J 10 Tryz.ntmps187 J (G3 ?_)
 intro n2 hn2 hf2
 refine G1 ?_
 intro n3 hn3 hf3
 refine G4 ?_
 refine .draw [(1, 0), (1, 2), (3, 1), (3, 3), (0, 4), (0, 5)] Ap zK (.lA J J J Y124.h J Sz124 Z1 (by (simp [ha]; done)) ?_)
 refine .lA J J J Y124.h J Sz124 Z0 (by (simp [hb]; done)) ?_
 refine .cV J J J J Body180 (field_Rest a ha) tV (.cV J J J J Body180 (field_Rest b hb) tV (.eql_bytes J J J J Tryz.eqGuardType124 Y124.h Y5.h Sz5 zF zF J (G3 ?_)))
 -- ret
 refine G2 ?_
 refine ⟨_, [], Al J J, sP, sP, ?_, rfl⟩
 rw [fb_dec]

theorem field_Odd (a : List UInt8) (ha : a.length = 32) : Meets Tryz.prog 188 [agg (Aa a)] [] (fun _ => True) (fun v out => v = .bool (decide ((fe (le a)).val % 2 = 1)) ∧ out = []) := by
 intro W hW
 refine Ac Tryz.func188 J 8 Tryz.ntmps188 J (G3 ?_)
 intro n1 hn1 hf1
 refine G5 ?_
 refine .lA J J J Y124.h J Sz124 Z0 (by (simp [ha]; done)) ?_
 refine .cV J J J J Body180 (field_Rest a ha) tV (.idxA1 J J J J Y124.h Sz5 Y5.h J 0 J oM (by rfl) ?_)
 refine .and_u8 J J J (show Ag _ _ = some (u8 1) from rfl) (G4 ?_)
 -- ret
 refine G2 ?_
 refine ⟨_, [], Al J J, sP, sP, ?_, rfl⟩
 exact congrArg Value.bool (odd_byte _)

structure PowS where
  k : Nat
  p : W5
  a : UInt64
  b : UInt64
  c : UInt64
  d : UInt64
theorem leb_small (x : UInt64) : leb 8 x.toNat ++ List.replicate 24 0 = leb 32 x.toNat := by
  have h := leb_split 24 8 x.toNat
  rw [show x.toNat / 256 ^ 8 = 0 from Nat.div_eq_of_lt x.toNat_lt] at h
  rw [show leb 24 0 = List.replicate 24 0 from by decide] at h
  exact h.symm

theorem field_Of (x : UInt64) : Meets Tryz.prog 136 [u64 x] [] (fun _ => True) (fun v out => v = agg (Aa (fb (fe x.toNat))) ∧ out = []) := by
 intro W hW
 refine Ac Tryz.func136 J 8 Tryz.ntmps136 J (G2 ?_)
 refine .alloc (cs := (Aa (List.replicate 32 0))) J A4 J ?_
 intro n2 hn2 hf2
 refine G4 ?_
 refine .alloc (cs := (Aa (List.replicate 32 0))) J A4 J ?_
 intro n3 hn3 hf3
 refine G4 ?_
 refine .sliceArrHi 8 J J J J J dE dE Y124.h Sz5 (G1 ?_)
 refine .callL (L := [⟨n3, Aa (List.replicate 32 0), 124, 32⟩]) J J J J J Body184 (field_put n3 0 8 32 32 (List.replicate 32 0) (x) _ dE sP) (Ab rM Ak) (B6 J) (fun w h => own_blk h Z0) ?_
 rintro v6 out6 rfl
 rw [set8_1]
 refine G4 ?_
 refine .lA J J J Y124.h J Sz124 Z0 (by (simp [by8_length]; done)) ?_
 refine .sA J J J J zE Sz124 (by (simp [by8_length]; done)) Z1 sP zV ?_
 refine G2 ?_
 -- ret
 refine G2 ?_
 refine ⟨_, [], An J J Y124.h J Sz124 Z1 (by simp [by8_length]), sP, sP, ?_, rfl⟩
 rw [fe_small, by8_eq]
 exact congrArg (fun l => agg (Aa l)) (leb_small x)

theorem field_Add (a b : List UInt8) (ha : a.length = 32) (hb : b.length = 32) : Meets Tryz.prog 137 [agg (Aa a), agg (Aa b)] [] (fun _ => True) (fun v out => v = agg (Aa (fb (fe (le a) + fe (le b)))) ∧ out = []) := by
 intro W hW
 refine Ac Tryz.func137 J 26 Tryz.ntmps137 J (G3 ?_)
 intro n2 hn2 hf2
 refine G1 ?_
 intro n3 hn3 hf3
 refine .alloc (cs := (Aa (List.replicate 32 0))) J A4 J ?_
 intro n4 hn4 hf4
 refine G3 ?_
 refine .draw [(1, 0), (1, 2), (3, 1), (3, 3), (2, 4), (2, 5), (4, 6), (4, 7)] Ap zK (.lA J J J Y124.h J Sz124 Z2 (by (simp [ha]; done)) ?_)
 refine .lA J J J Y124.h J Sz124 Z1 (by (simp [hb]; done)) ?_
 refine .cV J J J J Body181 (field_load a ha) tV (.cV J J J J Body181 (field_load b hb) tV (.alloc (cs := (Ae (List.replicate 5 0))) J Zr205 J ?_))
 intro n5 hn5 hf5
 refine .alloc (cs := (Ae (List.replicate 5 0))) J Zr205 J ?_
 intro n6 hn6 hf6
 refine .sA J J J J zB Sz205 zW Z1 sP zV ?_
 refine .sA J J J J zB Sz205 zW Z0 sP zU ?_
 refine G9 ?_
 refine .rounds 6 (SRounds.more (G6 ?_))
 refine .cond_t J (rfl) (G10 ?_)
 refine .draw [(0, 0), (0, 1), (1, 2), (0, 3), (0, 4), (1, 5), (0, 6), (0, 7), (4, 8)] Ap zK (G1 ?_)
 refine .i1 J J J J Y205.h Sz24 0 J oM (G2 ?_)
 refine .i1 J J J J Y205.h Sz24 0 J oM (G2 ?_)
 refine .i1 J J J J Y205.h Sz24 0 J oM (.s1 J J J J J Sz24 Z1 zW (by exact A8 _ _ _) zV ?_)
 refine G7 ?_
 refine Cq (SRounds.more (G6 ?_))
 refine .cond_t J (rfl) (G10 ?_)
 refine .draw [(0, 0), (0, 1), (1, 2), (0, 3), (0, 4), (1, 5), (0, 6), (0, 7), (4, 8)] Ap zK (G1 ?_)
 refine .i1 J J J J Y205.h Sz24 1 J oM (G2 ?_)
 refine .i1 J J J J Y205.h Sz24 1 J oM (G2 ?_)
 refine .i1 J J J J Y205.h Sz24 1 J oM (.s1 J J J J J Sz24 Z1 zW (by exact A8 _ _ _) zV ?_)
 refine G7 ?_
 refine Cq (SRounds.more (G6 ?_))
 refine .cond_t J (rfl) (G10 ?_)
 refine .draw [(0, 0), (0, 1), (1, 2), (0, 3), (0, 4), (1, 5), (0, 6), (0, 7), (4, 8)] Ap zK (G1 ?_)
 refine .i1 J J J J Y205.h Sz24 2 J oM (G2 ?_)
 refine .i1 J J J J Y205.h Sz24 2 J oM (G2 ?_)
 refine .i1 J J J J Y205.h Sz24 2 J oM (.s1 J J J J J Sz24 Z1 zW (by exact A8 _ _ _) zV ?_)
 refine G7 ?_
 refine Cq (SRounds.more (G6 ?_))
 refine .cond_t J (rfl) (G10 ?_)
 refine .draw [(0, 0), (0, 1), (1, 2), (0, 3), (0, 4), (1, 5), (0, 6), (0, 7), (4, 8)] Ap zK (G1 ?_)
 refine .i1 J J J J Y205.h Sz24 3 J oM (G2 ?_)
 refine .i1 J J J J Y205.h Sz24 3 J oM (G2 ?_)
 refine .i1 J J J J Y205.h Sz24 3 J oM (.s1 J J J J J Sz24 Z1 zW (by exact A8 _ _ _) zV ?_)
 refine G7 ?_
 refine Cq (SRounds.more (G6 ?_))
 refine .cond_t J (rfl) (G10 ?_)
 refine .draw [(0, 0), (0, 1), (1, 2), (0, 3), (0, 4), (1, 5), (0, 6), (0, 7), (4, 8)] Ap zK (G1 ?_)
 refine .i1 J J J J Y205.h Sz24 4 J oM (G2 ?_)
 refine .i1 J J J J Y205.h Sz24 4 J oM (G2 ?_)
 refine .i1 J J J J Y205.h Sz24 4 J oM (.s1 J J J J J Sz24 Z1 zW (by exact A8 _ _ _) zV ?_)
 refine G7 ?_
 refine Cq (SRounds.more (G6 ?_))
 refine .cond_f J (rfl) (G8 ?_)
 refine .cV J J J J Body183 (field_store (addF (ldN a) (ldN b))) tV (.sA J J J J zE Sz124 zF Z2 sP (by exact upd2) ?_)
 refine G2 ?_
 -- ret
 refine G2 ?_
 refine ⟨_, [], An J J Y124.h J Sz124 Z2 (by simp [Am]), sP, sP, ?_, rfl⟩
 rw [addF_fe ha hb]

theorem field_Sub (a b : List UInt8) (ha : a.length = 32) (hb : b.length = 32) : Meets Tryz.prog 135 [agg (Aa a), agg (Aa b)] [] (fun _ => True) (fun v out => v = agg (Aa (fb (fe (le a) - fe (le b)))) ∧ out = []) := by
 intro W hW
 refine Ac Tryz.func135 J 34 Tryz.ntmps135 J (.sr (.boxA J J ?_))
 intro n2 hn2 hf2
 refine .boxA J J ?_
 intro n3 hn3 hf3
 refine .alloc (cs := (Aa (List.replicate 32 0))) J A4 J ?_
 intro n4 hn4 hf4
 refine .na (.seq (.draw [(1, 0), (1, 2), (3, 1), (3, 3), (2, 4), (2, 5), (4, 6), (4, 7)] Ap zK (.lA J J J Y124.h J Sz124 Z2 (by (simp [ha]; done)) ?_)))
 refine .lA J J J Y124.h J Sz124 Z1 (by (simp [hb]; done)) ?_
 refine .cV J J J J Body181 (field_load a ha) tV (.cV J J J J Body181 (field_load b hb) tV (.alloc (cs := (Ae (List.replicate 5 0))) J Zr205 J ?_))
 intro n5 hn5 hf5
 refine .alloc (cs := (Ae (List.replicate 5 0))) J Zr205 J ?_
 intro n6 hn6 hf6
 refine .sA J J J J zB Sz205 zW Z1 sP zV ?_
 refine .sA J J J J zB Sz205 zW Z0 sP zU ?_
 refine .nsr (.i1 J J J J Y205.h Sz24 0 J dE (.load1 J J J Y24.h J Z1 (by rfl) ?_))
 refine .i1 J J J J Y205.h Sz24 0 J dE (.load1 J J J Y24.h J Z0 (by rfl) ?_)
 refine .sub_u64 J J (show Ag _ _ = some (u64 9007199254740916) from rfl) J (.add_u64 J J J J (.i1 J J J J Y205.h Sz24 0 J dE (.s1 J J J J J Sz24 Z1 zW (by exact A8 _ _ _) zV ?_)))
 refine .na (.seq (.sr (.a J J J (.na (.block (.rounds 5 (SRounds.more (.seq (.sr (.m J J J (.lss J J J J J (.na (.cond_t J (rfl) (.skip (Cq (.seq (.block (.draw [(0, 0), (0, 1), (1, 2), (0, 3), (0, 4), (1, 5), (0, 6), (0, 7), (0, 8), (4, 9)] Ap zK (.m J J J (.i1 J J J J Y205.h Sz24 1 J oM (.load1 J J J Y24.h J Z1 (by rfl) ?_)))))))))))))))))))))
 refine .m J J J (.i1 J J J J Y205.h Sz24 1 J oM (.load1 J J J Y24.h J Z0 (by rfl) ?_))
 refine .sub_u64 J J (show Ag _ _ = some (u64 9007199254740988) from rfl) J (.add_u64 J J J J (.i1 J J J J Y205.h Sz24 1 J oM (.s1 J J J J J Sz24 Z1 zW (by exact A8 _ _ _) zV ?_)))
 refine .nil (bl_n (Cq (.region (.m J J J (.aI J J J J oM (.a J J J (.na (SRounds.more (.seq (.sr (.m J J J (.lss J J J J J (.na (.cond_t J (rfl) (.skip (Cq (.seq (.block (.draw [(0, 0), (0, 1), (1, 2), (0, 3), (0, 4), (1, 5), (0, 6), (0, 7), (0, 8), (4, 9)] Ap zK (.m J J J (.i1 J J J J Y205.h Sz24 2 J oM (.load1 J J J Y24.h J Z1 (by rfl) ?_))))))))))))))))))))))
 refine .m J J J (.i1 J J J J Y205.h Sz24 2 J oM (.load1 J J J Y24.h J Z0 (by rfl) ?_))
 refine .sub_u64 J J (show Ag _ _ = some (u64 9007199254740988) from rfl) J (.add_u64 J J J J (.i1 J J J J Y205.h Sz24 2 J oM (.s1 J J J J J Sz24 Z1 zW (by exact A8 _ _ _) zV ?_)))
 refine .nil (bl_n (Cq (.region (.m J J J (.aI J J J J oM (.a J J J (.na (SRounds.more (.seq (.sr (.m J J J (.lss J J J J J (.na (.cond_t J (rfl) (.skip (Cq (.seq (.block (.draw [(0, 0), (0, 1), (1, 2), (0, 3), (0, 4), (1, 5), (0, 6), (0, 7), (0, 8), (4, 9)] Ap zK (.m J J J (.i1 J J J J Y205.h Sz24 3 J oM (.load1 J J J Y24.h J Z1 (by rfl) ?_))))))))))))))))))))))
 refine .m J J J (.i1 J J J J Y205.h Sz24 3 J oM (.load1 J J J Y24.h J Z0 (by rfl) ?_))
 refine .sub_u64 J J (show Ag _ _ = some (u64 9007199254740988) from rfl) J (.add_u64 J J J J (.i1 J J J J Y205.h Sz24 3 J oM (.s1 J J J J J Sz24 Z1 zW (by exact A8 _ _ _) zV ?_)))
 refine .nil (bl_n (Cq (.region (.m J J J (.aI J J J J oM (.a J J J (.na (SRounds.more (.seq (.sr (.m J J J (.lss J J J J J (.na (.cond_t J (rfl) (.skip (Cq (.seq (.block (.draw [(0, 0), (0, 1), (1, 2), (0, 3), (0, 4), (1, 5), (0, 6), (0, 7), (0, 8), (4, 9)] Ap zK (.m J J J (.i1 J J J J Y205.h Sz24 4 J oM (.load1 J J J Y24.h J Z1 (by rfl) ?_))))))))))))))))))))))
 refine .m J J J (.i1 J J J J Y205.h Sz24 4 J oM (.load1 J J J Y24.h J Z0 (by rfl) ?_))
 refine .sub_u64 J J (show Ag _ _ = some (u64 9007199254740988) from rfl) J (.add_u64 J J J J (.i1 J J J J Y205.h Sz24 4 J oM (.s1 J J J J J Sz24 Z1 zW (by exact A8 _ _ _) zV ?_)))
 refine .nil (bl_n (Cq (.region (.m J J J (.aI J J J J oM (.a J J J (.na (SRounds.more (.seq (.sr (.m J J J (.lss J J J J J (.na (.cond_f J (rfl) (.exit (at_x (at_x (bl_h (Cq (.sr (.lA J J J Y205.h J Sz205 Z1 zW ?_)))))))))))))))))))))
 refine .cV J J J J Body183 (field_store (subF (ldN a) (ldN b))) tV (.sA J J J J zE Sz124 zF Z2 sP (by exact upd2) ?_)
 refine .na ?_
 -- ret
 refine .ret (en_r ?_)
 refine ⟨_, [], An J J Y124.h J Sz124 Z2 (by simp [Am]), sP, sP, ?_, rfl⟩
 rw [subL_fe ha hb]

theorem field_Neg (a : List UInt8) (ha : a.length = 32) : Meets Tryz.prog 141 [agg (Aa a)] [] (fun _ => True) (fun v out => v = agg (Aa (fb (- fe (le a)))) ∧ out = []) := by
 intro W hW
 refine Ac Tryz.func141 J 6 Tryz.ntmps141 J (G3 ?_)
 intro n1 hn1 hf1
 refine .alloc (cs := (Aa (List.replicate 32 0))) J A4 J ?_
 intro n2 hn2 hf2
 refine G4 ?_
 refine .build (cs := Aa (List.replicate 32 0)) J J J (fun w => by kernel_rfl) ?_
 refine .lA J J J Y124.h J Sz124 Z1 (by (simp [ha]; done)) ?_
 refine .cV J J J J Body135 (field_Sub (List.replicate 32 0) a J ha) tV (.sA J J J J zE Sz124 zF Z0 sP zU ?_)
 refine G2 ?_
 -- ret
 refine G2 ?_
 refine ⟨_, [], An J J Y124.h J Sz124 Z0 (by simp [Am]), sP, sP, ?_, rfl⟩
 rw [show fe (le (List.replicate 32 0)) - fe (le a) = - fe (le a) from by rw [show fe (le (List.replicate 32 0)) = 0 by kernel_rfl]; grind]

theorem field_Mul (a b : List UInt8) (ha : a.length = 32) (hb : b.length = 32) : Meets Tryz.prog 134 [agg (Aa a), agg (Aa b)] [] (fun _ => True) (fun v out => v = agg (Aa (fb (fe (le a) * fe (le b)))) ∧ out = []) := by
 intro W hW
 refine Ac Tryz.func134 J 13 Tryz.ntmps134 J (G3 ?_)
 intro n2 hn2 hf2
 refine G1 ?_
 intro n3 hn3 hf3
 refine .alloc (cs := (Aa (List.replicate 32 0))) J A4 J ?_
 intro n4 hn4 hf4
 refine G3 ?_
 refine .draw [(1, 0), (1, 2), (3, 1), (3, 3), (2, 4), (2, 5), (4, 6), (4, 7)] Ap zK (.lA J J J Y124.h J Sz124 Z2 (by (simp [ha]; done)) ?_)
 refine .lA J J J Y124.h J Sz124 Z1 (by (simp [hb]; done)) ?_
 refine .cV J J J J Body181 (field_load a ha) tV (.cV J J J J Body181 (field_load b hb) tV (.alloc (cs := (Ae (List.replicate 5 0))) J Zr205 J ?_))
 intro n5 hn5 hf5
 refine .alloc (cs := (Ae (List.replicate 5 0))) J Zr205 J ?_
 intro n6 hn6 hf6
 refine .sA J J J J zB Sz205 zW Z1 sP zV ?_
 refine .sA J J J J zB Sz205 zW Z0 sP zU ?_
 refine G4 ?_
 refine .cV J J J J Body182 (field_product n5 n6 (ldN a) (ldN b)) (fun w h => ⟨Ar h Z1, Ar h Z0⟩) ?_
 refine .cV J J J J Body183 (field_store (mulF (ldN a) (ldN b))) tV (.sA J J J J zE Sz124 zF Z2 sP (by exact upd2) ?_)
 refine G2 ?_
 -- ret
 refine G2 ?_
 refine ⟨_, [], An J J Y124.h J Sz124 Z2 (by simp [Am]), sP, sP, ?_, rfl⟩
 rw [mulL_fe ha hb]

theorem field_shifted (a b c d : UInt64) : Meets Tryz.prog 222 [agg (Ae [a, b, c, d])] [] (fun _ => True) (fun v out => v = agg (Ae [Ay a 1, Ay b 1 ||| Aq a 63, Ay c 1 ||| Aq b 63, Ay d 1 ||| Aq c 63]) ∧ out = []) := by
 intro W hW
 refine Ac Tryz.func222 J 25 Tryz.ntmps222 J (G3 ?_)
 intro n1 hn1 hf1
 refine .alloc (cs := (Ae (List.replicate 4 0))) J Zr165 J ?_
 intro n2 hn2 hf2
 refine G9 ?_
 refine .rounds 4 (SRounds.more (G7 ?_))
 refine .cond_t J (rfl) (G4 ?_)
 refine .draw [(0, 0), (0, 1), (0, 2), (1, 3), (0, 4), (0, 5), (0, 6), (0, 7), (1, 8), (0, 9), (0, 10), (0, 11), (4, 12)] Ap zK (G2 ?_)
 refine .i1 J J J J Y165 Sz24 3 J oM (G1 ?_)
 refine .shl_u64 J J J J 1 J dE (G2 ?_)
 refine .i1 J J J J Y165 Sz24 2 J oM (G1 ?_)
 refine .shr_u64 J J J J 63 J dE (G1 ?_)
 refine .i1 J J J J Y165 Sz24 3 J oM (.s1 J J J J J Sz24 Z1 sP (by exact A8 _ _ _) zV ?_)
 refine G8 ?_
 refine Cq (SRounds.more (G7 ?_))
 refine .cond_t J (rfl) (G4 ?_)
 refine .draw [(0, 0), (0, 1), (0, 2), (1, 3), (0, 4), (0, 5), (0, 6), (0, 7), (1, 8), (0, 9), (0, 10), (0, 11), (4, 12)] Ap zK (G2 ?_)
 refine .i1 J J J J Y165 Sz24 2 J oM (G1 ?_)
 refine .shl_u64 J J J J 1 J dE (G2 ?_)
 refine .i1 J J J J Y165 Sz24 1 J oM (G1 ?_)
 refine .shr_u64 J J J J 63 J dE (G1 ?_)
 refine .i1 J J J J Y165 Sz24 2 J oM (.s1 J J J J J Sz24 Z1 sP (by exact A8 _ _ _) zV ?_)
 refine G8 ?_
 refine Cq (SRounds.more (G7 ?_))
 refine .cond_t J (rfl) (G4 ?_)
 refine .draw [(0, 0), (0, 1), (0, 2), (1, 3), (0, 4), (0, 5), (0, 6), (0, 7), (1, 8), (0, 9), (0, 10), (0, 11), (4, 12)] Ap zK (G2 ?_)
 refine .i1 J J J J Y165 Sz24 1 J oM (G1 ?_)
 refine .shl_u64 J J J J 1 J dE (G2 ?_)
 refine .i1 J J J J Y165 Sz24 0 J oM (G1 ?_)
 refine .shr_u64 J J J J 63 J dE (G1 ?_)
 refine .i1 J J J J Y165 Sz24 1 J oM (.s1 J J J J J Sz24 Z1 sP (by exact A8 _ _ _) zV ?_)
 refine G8 ?_
 refine Cq (SRounds.more (G7 ?_))
 refine .cond_f J (rfl) (G7 ?_)
 refine .i1 J J J J Y165 Sz24 0 J dE (G1 ?_)
 refine .shl_u64 J J J J 1 J dE (.i1 J J J J Y165 Sz24 0 J dE (.s1 J J J J J Sz24 Z1 sP (by exact A8 _ _ _) zV ?_))
 refine G4 ?_
 refine .lA J J J Y165 J Sz165 Z1 sP ?_
 refine .sA J J J J zB Sz165 sP Z0 sP zU ?_
 refine G2 ?_
 -- ret
 refine G2 ?_
 refine ⟨_, [], An J J Y165 J Sz165 Z0 sP, sP, sP, ?_, rfl⟩
 rfl

theorem field_ones (f l : UInt8) : Meets Tryz.prog 186 [u8 f, u8 l] [] (fun _ => True) (fun v out => v = agg (Aa (onesB f l)) ∧ out = []) := by
 intro W hW
 refine Ac Tryz.func186 J 18 Tryz.ntmps186 J (G2 ?_)
 refine .alloc (cs := (Aa (List.replicate 32 0))) J A4 J ?_
 intro n4 hn4 hf4
 refine G4 ?_
 refine .alloc (cs := (Aa (List.replicate 32 0))) J A4 J ?_
 intro n5 hn5 hf5
 refine G9 ?_
 refine .loop (ι := Nat) (fun k => ⟨[(0, u8 f), (1, u8 l), (4, ptr n4 0), (5, ptr n5 0), (7, i64 (k : Int))], [⟨n5, Aa (List.replicate k 255 ++ List.replicate (32 - k) 0), 124, 32⟩, ⟨n4, Aa (List.replicate 32 0), 124, 32⟩]⟩) (fun k => k ≤ 32) (fun k => 32 - k) (0) ?_ ?_ ?_
 · omega
 · exact Ad (wk1 rfl (wk1 rfl (wk1 rfl (wk1 rfl (wk1 rfl wk0))))) (wh1 Z0 (wh1 Z1 wh0)) nD
 rintro k hi
 refine G6 ?_
 refine .condP J (fun hc0 => ?_) (fun hc0 => ?_)
 ·
  have hk2 : k < 32 := by omega
  refine G12 ?_
  refine .i1 J J J J Y124.h Sz5 _ J oM (.s1 J J J (show Ag _ _ = some (u8 255) from rfl) J Sz5 Z0 (by (simp; omega)) (by exact Be _ _ _) zU ?_)
  refine G8 ?_
  exact ⟨k + 1, by omega, by omega, Ad (wk1 rfl (wk1 rfl (wk1 rfl (wk1 rfl (wk1 rfl wk0))))) (wh1 (by rw [← ones_step hk2]; exact Bx) (wh1 Z1 wh0)) nD⟩
 obtain rfl : k = 32 := by omega
 rw [show ((List.replicate 32 255 ++ List.replicate (32 - 32) 0) : List UInt8) = List.replicate 32 255 from rfl]
 refine G9 ?_
 refine .i1 J J J J Y124.h Sz5 0 J dE (.s1 J J J J J Sz5 Z0 sP (by exact Be _ _ _) zU ?_)
 refine .i1 J J J J Y124.h Sz5 31 J dE (.s1 J J J J J Sz5 Z0 sP (by exact Be _ _ _) zU ?_)
 refine G4 ?_
 refine .lA J J J Y124.h J Sz124 Z0 sP ?_
 refine .sA J J J J zE Sz124 sP Z1 sP zV ?_
 refine G2 ?_
 -- ret
 refine G2 ?_
 refine ⟨_, [], An J J Y124.h J Sz124 Z1 sP, sP, sP, ?_, rfl⟩
 rfl
theorem field_Pow (a e : List UInt8) (ha : a.length = 32) (he : e.length = 32) : Meets Tryz.prog 185 [agg (Aa a), agg (Aa e)] [] (fun _ => True) (fun v out => v = agg (Aa (fb (Ci (fe (le a)) (le e)))) ∧ out = []) := by
 intro W hW
 have hE : le e < 2 ^ 256 := le32 he
 have hXf : (ldN a).fit := (ldN_lt a).fit
 have hXv : fe (ldN a).v = fe (le a) := by rw [ldN_v ha]
 refine Ac Tryz.func185 J 26 Tryz.ntmps185 J (G3 ?_)
 intro n2 hn2 hf2
 refine G1 ?_
 intro n3 hn3 hf3
 refine .alloc (cs := (Aa (List.replicate 32 0))) J A4 J ?_
 intro n4 hn4 hf4
 refine G3 ?_
 refine .draw [(1, 0), (1, 2), (0, 4), (3, 1), (3, 3), (2, 5), (2, 6), (2, 7), (4, 8), (4, 9), (4, 10)] Ap zK (.lA J J J Y124.h J Sz124 Z2 (by (simp [ha]; done)) ?_)
 refine .lA J J J Y124.h J Sz124 Z1 (by (simp [he]; done)) ?_
 refine .build (cs := Ae (⟨1, 0, 0, 0, 0⟩ : W5).l) J J J (fun w => by kernel_rfl) ?_
 refine .cV J J J J Body181 (field_load a ha) tV (.cV J J J J Body218 (field_quarters e he) tV (.alloc (cs := (Ae (List.replicate 5 0))) J Zr205 J ?_))
 intro n5 hn5 hf5
 refine .alloc (cs := (Ae (List.replicate 4 0))) J Zr165 J ?_
 intro n6 hn6 hf6
 refine .alloc (cs := (Ae (List.replicate 5 0))) J Zr205 J ?_
 intro n7 hn7 hf7
 refine .sA J J J J zB Sz205 zW Z2 sP (by exact upd2) ?_
 refine .sA J J J J zB Sz165 sP Z1 sP zV ?_
 refine .sA J J J J zB Sz205 zW Z0 sP zU ?_
 refine G9 ?_
 refine .loop (ι := PowS) (fun s => ⟨[(4, ptr n4 0), (5, ptr n5 0), (6, ptr n6 0), (7, ptr n7 0), (13, i64 (s.k : Int))], [⟨n7, Ae s.p.l, 205, 5⟩, ⟨n6, Ae [s.a, s.b, s.c, s.d], 165, 4⟩, ⟨n5, Ae (ldN a).l, 205, 5⟩, ⟨n4, Aa (List.replicate 32 0), 124, 32⟩]⟩) (fun s => PowI (le e) (fe (le a)) s.k s.p s.a s.b s.c s.d) (fun s => 256 - s.k) (⟨0, ⟨1, 0, 0, 0, 0⟩, qw e 0, qw e 1, qw e 2, qw e 3⟩) ?_ ?_ ?_
 · exact PowI.first he _
 · exact Ad (wk1 rfl (wk1 rfl (wk1 rfl (wk1 rfl (wk1 rfl wk0))))) (wh1 Z0 (wh1 Z1 (wh1 Z2 (wh1 Z3 wh0)))) nD
 rintro s hs
 have hsl := hs.le
 refine G6 ?_
 refine .condP J (fun hc0 => ?_) (fun hc0 => ?_)
 ·
  have hk2 : s.k < 256 := by omega
  refine G6 ?_
  refine .cV J J J J Body182 (field_product n7 n7 s.p s.p) (fun w h => ⟨Ar h Z0, Ar h Z0⟩) ?_
  refine G3 ?_
  refine .join (ι := W5) (fun u => ⟨[(4, ptr n4 0), (5, ptr n5 0), (6, ptr n6 0), (7, ptr n7 0), (13, i64 (s.k : Int))], [⟨n7, Ae u.l, 205, 5⟩, ⟨n6, Ae [s.a, s.b, s.c, s.d], 165, 4⟩, ⟨n5, Ae (ldN a).l, 205, 5⟩, ⟨n4, Aa (List.replicate 32 0), 124, 32⟩]⟩) (fun u => PowI (le e) (fe (le a)) (s.k + 1) u (Ay s.a 1) (Ay s.b 1 ||| Aq s.a 63) (Ay s.c 1 ||| Aq s.b 63) (Ay s.d 1 ||| Aq s.c 63)) ?_ ?_
  ·
   refine G2 ?_
   refine .i1 J J J J Y165 Sz24 3 J dE (G1 ?_)
   refine .shr_u64 J J J J 63 J dE (G3 ?_)
   refine .condP J (fun hc1 => ?_) (fun hc1 => ?_)
   ·
    have hb1 : (Aq s.d 63).toNat = 1 := by omega
    refine .region (.cV J J J J Body182 (field_product n7 n5 (mulF s.p s.p) (ldN a)) (fun w h => ⟨Ar h Z0, Ar h Z2⟩) ?_)
    refine G3 ?_
    exact ⟨mulF (mulF s.p s.p) (ldN a), hs.odd hE hk2 hXf hXv hb1, Ad (wk1 rfl (wk1 rfl (wk1 rfl (wk1 rfl (wk1 rfl wk0))))) (wh1 Z0 (wh1 Z1 (wh1 Z2 (wh1 Z3 wh0)))) nD⟩
   have hb1 : ¬ (Aq s.d 63).toNat = 1 := by omega
   refine G2 ?_
   exact ⟨mulF s.p s.p, hs.even hE hk2 hb1, Ad (wk1 rfl (wk1 rfl (wk1 rfl (wk1 rfl (wk1 rfl wk0))))) (wh1 Z0 (wh1 Z1 (wh1 Z2 (wh1 Z3 wh0)))) nD⟩
  intro u hj
  have hu := hj
  refine .region (.lA J J J Y165 J Sz165 Z1 sP ?_)
  refine .cV J J J J Body222 (field_shifted s.a s.b s.c s.d) tV (.sA J J J J zB Sz165 sP Z1 sP zV ?_)
  refine G8 ?_
  exact ⟨⟨s.k + 1, u, _, _, _, _⟩, hu, by simp only []; omega, Ad (wk1 rfl (wk1 rfl (wk1 rfl (wk1 rfl (wk1 rfl wk0))))) (wh1 Z0 (wh1 Z1 (wh1 Z2 (wh1 Z3 wh0)))) nD⟩
 have hke : s.k = 256 := by omega
 have hfin : fe s.p.v = Ci (fe (le a)) (le e) := by rw [hke] at hs; exact hs.last
 refine G8 ?_
 refine .cV J J J J Body183 (field_store s.p) tV (.sA J J J J zE Sz124 zF Z3 sP (by exact upd3) ?_)
 refine G2 ?_
 -- ret
 refine G2 ?_
 refine ⟨_, [], An J J Y124.h J Sz124 Z3 (by simp [Am]), sP, sP, ?_, rfl⟩
 rw [hfin]
theorem field_Inv (a : List UInt8) (ha : a.length = 32) : Meets Tryz.prog 140 [agg (Aa a)] [] (fun _ => True) (fun v out => v = agg (Aa (fb (finv (fe (le a))))) ∧ out = []) := by
 intro W hW
 refine Ac Tryz.func140 J 6 Tryz.ntmps140 J (G3 ?_)
 intro n1 hn1 hf1
 refine .alloc (cs := (Aa (List.replicate 32 0))) J A4 J ?_
 intro n2 hn2 hf2
 refine G3 ?_
 refine .draw [(1, 0), (3, 1), (3, 2), (4, 3)] Ap zK (.lA J J J Y124.h J Sz124 Z1 (by (simp [ha]; done)) ?_)
 refine .cV J J J J Body186 (field_ones 235 127) tV (.cV J J J J Body185 (field_Pow a (onesB 235 127) ha (onesB_length _ _)) tV (.sA J J J J zE Sz124 zF Z0 sP zU ?_))
 refine G2 ?_
 -- ret
 refine G2 ?_
 refine ⟨_, [], An J J Y124.h J Sz124 Z0 (by simp [Am]), sP, sP, ?_, rfl⟩
 rw [ones_inv]; rfl

end Go.Proofs.YtfcbgdkpagcbbaaGreat
end
