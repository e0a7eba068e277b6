/- Contracts of functions of the loaded program, and the lemmas that they need (part 3). It proves no statement by itself; it has no conditions. -/
import Derived.WalkKit
import Derived.Orders
import Derived.Deep.LoopGhost
import Derived.IntWalk
import Derived.Laws.StructEq
import Derived.ArgAppend
import Derived.Deep.AppendSrc
import Derived.Lib.Bytealg
import Derived.Lib.BytesEntry
import Derived.Laws.IdiomStrings
import Derived.WideKeyArr2
import Derived.ProofKit
import Derived.OpenShut
import Derived.Deep.Slices
import Derived.Laws.Pointers
import Derived.Laws.Cover3
import Derived.LaidEqlPtr
import Derived.LoopN
import Derived.RangeFuncLeaves
import Derived.RangeFuncSeq
import Derived.OrdersIn
import Derived.Maps.Keyed
import Derived.Maps.RangeRun
import Derived.DeepKeys4
import Derived.Below
import Derived.Test.YtdilealohibfoaaGreatRows
import Derived.KernelRfl
import Derived.Laws.Externs
import Derived.Defers
import Derived.Laws.MathBits
import Derived.Shelf.SlSortCmp.WholeK
import Derived.Shelf.SlGeneric
import Derived.Test.YtdilealohibfoaaGreatProg
import Derived.Shelf.SlSortCmp.NoneTotal
import Derived.Deep.QuietTactic
import Derived.BigQuiet
import Derived.ScopeJumps
import Derived.DeepKeys3
import Derived.ChangeOld
import Derived.JoinedOf
import Derived.Test.YtdilealohibfoaaGreatCNlX2
set_option maxRecDepth 100000
set_option maxHeartbeats 8000000
set_option linter.unusedVariables false
set_option linter.unusedSimpArgs false
set_option linter.unusedSectionVars false
set_option linter.unnecessarySimpa false
section
namespace Hw
open Go
set_option maxRecDepth 100000

def padW (N n k : Nat) : List UInt8 := leb k n ++ List.replicate (N - k) 0
theorem padW_length (N n k : Nat) (h : k ≤ N) : (padW N n k).length = N := by simp [padW, Ag]; omega
theorem padW_zero (N n : Nat) : padW N n 0 = List.replicate N 0 := by simp [padW, leb]
theorem padW_all (N n : Nat) : padW N n N = leb N n := by simp [padW]
theorem leb_getD (k n i : Nat) (h : i < k) : (leb k n).getD i 0 = UInt8.ofNat (n / 256 ^ i) := by
  rw [List.getD_eq_getElem?_getD, leb_get k n i h]; rfl
theorem ofNat8 {m n : Nat} (h : m % 256 = n % 256) : UInt8.ofNat m = UInt8.ofNat n := by
  apply UInt8.toNat_inj.1;rw [UInt8.toNat_ofNat', UInt8.toNat_ofNat']; exact h
theorem byte_low (A m k i : Nat) (h : i < k) : (A + 256 ^ k * m) / 256 ^ i % 256 = A / 256 ^ i % 256 := by
  have e : 256 ^ k * m = 256 ^ i * (256 * (256 ^ (k - i - 1) * m)) := by
    rw [← Nat.mul_assoc, ← Nat.mul_assoc, ← Nat.pow_succ, ← Nat.pow_add];congr 2; omega
  rw [e, Nat.add_mul_div_left _ _ (Nat.pow_pos dE), Nat.add_mul_mod_self_left]
theorem leb_low (A m k : Nat) : leb k (A + 256 ^ k * m) = leb k A := by
  apply List.ext_getElem?;intro i;rcases Nat.lt_or_ge i k with h | h
  · rw [leb_get _ _ i h, leb_get _ _ i h]
    congr 1;exact ofNat8 (byte_low A m k i h)
  · rw [List.getElem?_eq_none (by rw [Ag]; exact h), List.getElem?_eq_none (by rw [Ag]; exact h)]
theorem leb_succ' (k n : Nat) : leb (k + 1) n = leb k n ++ [UInt8.ofNat (n / 256 ^ k)] := by
  apply List.ext_getElem?;intro i;rcases Nat.lt_trichotomy i k with h | h | h
  · rw [leb_get _ _ i oM, List.getElem?_append_left (by rw [Ag]; exact h), leb_get _ _ i h]
  · subst h
    rw [leb_get _ _ i oM, List.getElem?_append_right (by rw [Ag]; omega), Ag, Nat.sub_self]; rfl
  · rw [List.getElem?_eq_none (by rw [Ag]; omega), List.getElem?_eq_none (by simp [Ag]; omega)]
theorem byteOf_mod (s : Int) : byteOf (s % 256) = byteOf s := by simp [byteOf]
theorem byteOf_nat (n : Nat) : byteOf (n : Int) = UInt8.ofNat n := by
  apply ofNat8;omega
theorem set_end {α : Type} (l : List α) (x y : α) (r : List α) (k : Nat) (h : l.length = k) : (l ++ x :: r).set k y = l ++ [y] ++ r := by
  subst h; simp
theorem padW_step (N A m k : Nat) (hk : k < N) (s : Int) (hs : s = ((A / 256 ^ k + m : Nat) : Int)) :
    (padW N A k).set k (byteOf s) = padW N (A + 256 ^ k * m) (k + 1) := by
  subst hs;have e : List.replicate (N - k) (0 : UInt8) = 0 :: List.replicate (N - (k + 1)) 0 := by
    rw [show N - k = (N - (k + 1)) + 1 by omega]; rfl
  rw [padW, e, set_end _ _ _ _ _ (Ag k A), padW, leb_succ', leb_low, Nat.add_mul_div_left _ _ (Nat.pow_pos dE), byteOf_nat]
theorem carry_step (A m k : Nat) (s : Int) (hs : s = ((A / 256 ^ k + m : Nat) : Int)) : s / 256 = (((A + 256 ^ k * m) / 256 ^ (k + 1) : Nat) : Int) := by
  subst hs;rw [Nat.pow_succ, ← Nat.div_div_eq_div_mul, Nat.add_mul_div_left _ _ (Nat.pow_pos dE)];omega
theorem le_lt_at {a b : List UInt8} {i : Nat} (ha : a.length = 32) (hb : b.length = 32) (hi : i < 32) (hd : a.drop (i + 1) = b.drop (i + 1)) (hne : (a.getD i 0).toNat ≠ (b.getD i 0).toNat) :
    ((a.getD i 0).toNat < (b.getD i 0).toNat) ↔ le a < le b := by
  have h1 := le_take_drop a (i + 1) oM;have h2 := le_take_drop b (i + 1) oM;rw [le_take_succ a i oM] at h1;rw [le_take_succ b i oM, ← hd] at h2;have l1 := le_take_lt a i;have l2 := le_take_lt b i;generalize 256 ^ (i + 1) * le (a.drop (i + 1)) = X at h1 h2;generalize hP : 256 ^ i = P at h1 h2 l1 l2;generalize (a.getD i 0).toNat = x at *;generalize (b.getD i 0).toNat = y at *;rw [h1, h2];constructor
  · intro h
    have : P * (x + 1) ≤ P * y := Nat.mul_le_mul_left _ h;rw [Nat.mul_add, Nat.mul_one] at this;omega
  · intro h
    apply Nat.lt_of_not_le;intro h';have : P * (y + 1) ≤ P * x := Nat.mul_le_mul_left _ oM;rw [Nat.mul_add, Nat.mul_one] at this;omega
theorem drop_step {a b : List UInt8} {i : Nat} (ha : a.length = 32) (hb : b.length = 32) (hi : i < 32) (hd : a.drop (i + 1) = b.drop (i + 1)) (he : (a.getD i 0).toNat = (b.getD i 0).toNat) : a.drop i = b.drop i := by
  rw [List.drop_eq_getElem_cons oM, List.drop_eq_getElem_cons (l := b) oM, hd];congr 1;have := UInt8.toNat_inj.1 he;rw [List.getD_eq_getElem?_getD, List.getD_eq_getElem?_getD, List.getElem?_eq_getElem oM, List.getElem?_eq_getElem oM] at this;exact this

def bor (D m k : Nat) : Nat := (D % 256 ^ k + m % 256 ^ k) / 256 ^ k
theorem bor_zero (D m : Nat) : bor D m 0 = 0 := by simp [bor, Nat.mod_one]
theorem mod_succ256 (n k : Nat) : n % 256 ^ (k + 1) = n % 256 ^ k + 256 ^ k * (n / 256 ^ k % 256) := by
  rw [Nat.pow_succ, Nat.mod_mul]
theorem bor_step (D m k : Nat) : bor D m (k + 1) = (D / 256 ^ k % 256 + m / 256 ^ k % 256 + bor D m k) / 256 := by
  unfold bor;rw [mod_succ256, mod_succ256, Nat.pow_succ, ← Nat.div_div_eq_div_mul];have e : D % 256 ^ k + 256 ^ k * (D / 256 ^ k % 256) + (m % 256 ^ k + 256 ^ k * (m / 256 ^ k % 256)) = (D % 256 ^ k + m % 256 ^ k) + 256 ^ k * (D / 256 ^ k % 256 + m / 256 ^ k % 256) := by
    rw [Nat.mul_add]; omega
  rw [e, Nat.add_mul_div_left _ _ (Nat.pow_pos dE), Nat.add_comm (_ / _)]
theorem bor_le (D m k : Nat) : bor D m k ≤ 1 := by
  unfold bor;have h1 : D % 256 ^ k < 256 ^ k := Nat.mod_lt _ (Nat.pow_pos dE);have h2 : m % 256 ^ k < 256 ^ k := Nat.mod_lt _ (Nat.pow_pos dE);rw [← Nat.lt_succ_iff, Nat.div_lt_iff_lt_mul (Nat.pow_pos dE)];omega
theorem sum_byte (D m k : Nat) : (D + m) / 256 ^ k % 256 = (D / 256 ^ k % 256 + m / 256 ^ k % 256 + bor D m k) % 256 := by
  have e : D + m = (D % 256 ^ k + m % 256 ^ k) + 256 ^ k * (D / 256 ^ k + m / 256 ^ k) := by
    have h1 := Nat.mod_add_div D (256 ^ k);have h2 := Nat.mod_add_div m (256 ^ k);rw [Nat.mul_add]; omega
  rw [e, Nat.add_mul_div_left _ _ (Nat.pow_pos dE)];change (bor D m k + _) % 256 = _;omega
def subB (D m k : Nat) : List UInt8 := leb k D ++ (leb 32 (D + m)).drop k
theorem subB_length (D m k : Nat) (h : k ≤ 32) : (subB D m k).length = 32 := by simp [subB, Ag]; omega
theorem subB_zero (D m : Nat) : subB D m 0 = leb 32 (D + m) := by simp [subB, leb]
theorem subB_all (D m : Nat) : subB D m 32 = leb 32 D := by simp [subB, Ag]
theorem subB_get (D m k : Nat) (h : k < 32) : (subB D m k).getD k 0 = UInt8.ofNat ((D + m) / 256 ^ k) := by
  rw [List.getD_eq_getElem?_getD, subB, List.getElem?_append_right (by rw [Ag]; omega), Ag, Nat.sub_self, List.getElem?_drop, Nat.add_zero, leb_get _ _ _ h]; rfl
theorem subB_step (D m k : Nat) (h : k < 32) (d : Int) (hd : d = (((D + m) / 256 ^ k % 256 : Nat) : Int) - ((m / 256 ^ k % 256 : Nat) : Int) + -((bor D m k : Nat) : Int)) :
    (subB D m k).set k (byteOf (d + 256)) = subB D m (k + 1) := by
  have e : (leb 32 (D + m)).drop k = UInt8.ofNat ((D + m) / 256 ^ k) :: (leb 32 (D + m)).drop (k + 1) := by
    rw [List.drop_eq_getElem_cons (by rw [Ag]; omega)];congr 1;have := leb_get 32 (D + m) k h;rw [List.getElem?_eq_getElem (by rw [Ag]; omega)] at this;exact Option.some.inj this
  rw [subB, e, set_end _ _ _ _ _ (Ag k D), subB, leb_succ' k D];congr 2;have hb := sum_byte D m k;have hle := bor_le D m k;generalize bor D m k = c at *;generalize (D + m) / 256 ^ k % 256 = x at *;have hm : m / 256 ^ k % 256 < 256 := Nat.mod_lt _ dE;generalize m / 256 ^ k % 256 = y at *;rw [show UInt8.ofNat (D / 256 ^ k) = UInt8.ofNat (D / 256 ^ k % 256) from ofNat8 oM];have hz : D / 256 ^ k % 256 < 256 := Nat.mod_lt _ dE;generalize D / 256 ^ k % 256 = z at *;congr 1;apply ofNat8;subst hd;omega
theorem bor_next (D m k : Nat) (d : Int) (hd : d = (((D + m) / 256 ^ k % 256 : Nat) : Int) - ((m / 256 ^ k % 256 : Nat) : Int) + -((bor D m k : Nat) : Int)) :
    (d < 0 → bor D m (k + 1) = 1) ∧ (¬ d < 0 → bor D m (k + 1) = 0) := by
  rw [bor_step];have hb := sum_byte D m k;have hle := bor_le D m k;generalize bor D m k = c at *;generalize (D + m) / 256 ^ k % 256 = x at *;have hm : m / 256 ^ k % 256 < 256 := Nat.mod_lt _ dE;generalize m / 256 ^ k % 256 = y at *;have hz : D / 256 ^ k % 256 < 256 := Nat.mod_lt _ dE;generalize D / 256 ^ k % 256 = z at *;subst hd;omega
theorem ofNat8_toNat (n : Nat) : (UInt8.ofNat n).toNat = n % 256 := by rw [UInt8.toNat_ofNat']
theorem wordOf_id (n : Int) (h : 0 ≤ n ∧ n < 18446744073709551616) : ((wordOf n).toNat : Int) = n := by
  rw [wordOf, UInt64.toNat_ofNat']; omega
theorem zero_set (n : UInt64) (k : Nat) (hk : k < 8) : (padW 32 n.toNat k).set k (Ap n (8 * k)).toUInt8 = padW 32 n.toNat (k + 1) := by
  have e : List.replicate (32 - k) (0 : UInt8) = 0 :: List.replicate (32 - (k + 1)) 0 := by
    rw [show 32 - k = (32 - (k + 1)) + 1 by omega]; rfl
  rw [padW, e, set_end _ _ _ _ _ (Ag k _), padW, leb_succ'];congr 3;apply UInt8.toNat_inj.1;rw [UInt64.toNat_toUInt8, A4, UInt8.toNat_ofNat', pow256]
theorem pad_small (n : UInt64) : padW 32 n.toNat 8 = leb 32 n.toNat := by
  have h := n.toNat_lt;apply List.ext_getElem?;intro i;rw [padW];rcases Nat.lt_or_ge i 8 with hi | hi
  · rw [List.getElem?_append_left (by rw [Ag]; exact hi), leb_get _ _ _ hi, leb_get _ _ _ oM]
  · rw [List.getElem?_append_right (by rw [Ag]; exact hi), Ag]
    rcases Nat.lt_or_ge i 32 with h2 | h2
    · rw [leb_get _ _ _ h2, List.getElem?_replicate, if_pos oM, Nat.div_eq_of_lt]; rfl
      refine Nat.lt_of_lt_of_le h ?_;rw [pow256]; exact Nat.pow_le_pow_right dE oM
    · rw [List.getElem?_replicate, if_neg oM, List.getElem?_eq_none (by rw [Ag]; exact h2)]
theorem div_bit (n j : Nat) : n / 2 ^ j = 2 * (n / 2 ^ (j + 1)) + (if n.testBit j then 1 else 0) := by
  rw [Nat.pow_succ, ← Nat.div_div_eq_div_mul, Nat.testBit_eq_decide_div_mod_eq];by_cases h : n / 2 ^ j % 2 = 1
  · rw [if_pos (decide_eq_true h)]; omega
  · rw [if_neg (by simpa using h)]; omega
theorem le_one' : le ((List.replicate 32 0).set 0 1) = 1 := by decide
theorem dbl_mod (m : Nat) : (m % L + m % L) % L = (2 * m) % L := by
  rw [← Nat.add_mod, Nat.two_mul]
theorem dbl_mod1 (m : Nat) : ((m % L + m % L) % L + 1) % L = (2 * m + 1) % L := by
  rw [← Nat.add_mod, Nat.mod_add_mod, Nat.two_mul]
theorem le_zero_div (xs : List UInt8) (n : Nat) (h : xs.length = n) : le xs / 2 ^ (8 * n) = 0 := by
  apply Nat.div_eq_of_lt;rw [← pow256, ← h]; exact le_lt xs
theorem leb_zero32 : leb 32 0 = List.replicate 32 0 := by decide
theorem zero_modL : 0 % L = 0 := Nat.zero_mod L
theorem mod_bit (n k : Nat) : n % 2 ^ (k + 1) = n % 2 ^ k + (if n.testBit k then 2 ^ k else 0) := by
  rw [Nat.pow_succ, Nat.mod_mul, Nat.testBit_eq_decide_div_mod_eq];by_cases h : n / 2 ^ k % 2 = 1
  · rw [if_pos (decide_eq_true h), h, Nat.mul_one]
  · rw [if_neg (by simpa using h), show n / 2 ^ k % 2 = 0 by omega, Nat.mul_zero]
end Hw
end

section
namespace Ed
open Hw Go

def BB : Nat := 115792089237316195423570985008687907853269984665640564039457584007913129639936
def pk (x y z t : Nat) : Nat := (x + BB * (y + BB * (z + BB * t))) + 1
def ux (s : Nat) : Nat := (s - 1) % BB
def uy (s : Nat) : Nat := (s - 1) / BB % BB
def uz (s : Nat) : Nat := (s - 1) / BB / BB % BB
def ut (s : Nat) : Nat := (s - 1) / BB / BB / BB
def wdN (s : Nat) : Wd Fp := ⟨fe (ux s), fe (uy s), fe (uz s), fe (ut s)⟩
def subN (a b : Nat) : Nat := (a + (PF - b % PF)) % PF
def finN (e f g h : Nat) : Nat := pk (e * f % PF) (g * h % PF) (f * g % PF) (e * h % PF)
def dblN (s : Nat) : Nat :=
  finN (subN (ux s * ux s + uy s * uy s) ((ux s + uy s) * (ux s + uy s))) ((uz s * uz s + uz s * uz s + subN (ux s * ux s) (uy s * uy s)) % PF) (subN (ux s * ux s) (uy s * uy s)) ((ux s * ux s + uy s * uy s) % PF)
def twoDN : Nat := 2 * fD.val
def addN (s p : Nat) : Nat :=
  finN (subN ((uy s + ux s) * (uy p + ux p)) (subN (uy s) (ux s) * subN (uy p) (ux p))) (subN (uz s * uz p + uz s * uz p) (ut s * twoDN % PF * ut p)) ((uz s * uz p + uz s * uz p + ut s * twoDN % PF * ut p) % PF) (((uy s + ux s) * (uy p + ux p) + subN (uy s) (ux s) * subN (uy p) (ux p)) % PF)
theorem fe_neg (n : Nat) : fe (PF - n % PF) = - fe n := by
  have h : fe (PF - n % PF) + fe n = 0 := by
    rw [← fe_add];refine Fin.ext ?_;rw [fe_val];show _ = 0;have h1 : n % PF < PF := Nat.mod_lt _ dE;have e : (PF - n % PF + n) = PF * (n / PF + 1) := by
      have := Nat.mod_add_div n PF;rw [Nat.mul_add, Nat.mul_one];generalize PF * (n / PF) = q at *;omega
    rw [e, Nat.mul_mod_right]
  grind
theorem fe_subN (a b : Nat) : fe (subN a b) = fe a - fe b := by
  rw [subN, fe_mod, fe_add, fe_neg]; grind
theorem pk_lt (e : Nat) : e % PF < BB := Nat.lt_trans (Nat.mod_lt _ dE) dE
theorem wd_pk (x y z t : Nat) (hx : x < BB) (hy : y < BB) (hz : z < BB) : wdN (pk x y z t) = ⟨fe x, fe y, fe z, fe t⟩ := by
  have e1 : ux (pk x y z t) = x := by
    rw [ux, pk, Nat.add_sub_cancel, Nat.add_mul_mod_self_left, Nat.mod_eq_of_lt hx]
  have d1 : (pk x y z t - 1) / BB = y + BB * (z + BB * t) := by
    rw [pk, Nat.add_sub_cancel, Nat.add_mul_div_left _ _ dE, Nat.div_eq_of_lt hx, Nat.zero_add]
  have d2 : (pk x y z t - 1) / BB / BB = z + BB * t := by
    rw [d1, Nat.add_mul_div_left _ _ dE, Nat.div_eq_of_lt hy, Nat.zero_add]
  have e2 : uy (pk x y z t) = y := by rw [uy, d1, Nat.add_mul_mod_self_left, Nat.mod_eq_of_lt hy]
  have e3 : uz (pk x y z t) = z := by rw [uz, d2, Nat.add_mul_mod_self_left, Nat.mod_eq_of_lt hz]
  have e4 : ut (pk x y z t) = t := by rw [ut, d2, Nat.add_mul_div_left _ _ dE, Nat.div_eq_of_lt hz, Nat.zero_add]
  rw [wdN, e1, e2, e3, e4]
theorem wd_fin (e f g h : Nat) : wdN (finN e f g h) = Wd.fin (fe e) (fe f) (fe g) (fe h) := by
  rw [finN, wd_pk _ _ _ _ (pk_lt _) (pk_lt _) (pk_lt _)];simp only [Wd.fin, fe_mod, fe_mul]
theorem wd_dbl (s : Nat) : wdN (dblN s) = Wd.dbl (wdN s) := by
  rw [dblN, wd_fin];simp only [Wd.dbl, wdN, fe_subN, fe_mod, fe_add, fe_mul]
theorem fe_twoD : fe twoDN = fD + fD := by
  rw [twoDN, Nat.two_mul, fe_add, fe_of]
theorem wd_add (s p : Nat) : wdN (addN s p) = Wd.add fD (wdN s) (wdN p) := by
  rw [addN, wd_fin];simp only [Wd.add, wdN, fe_subN, fe_mod, fe_add, fe_mul, fe_twoD]
def force (s : Nat) (f : Nat → Nat) : Nat := Nat.casesOn (motive := fun _ => Nat) s (f 0) (fun m => f (m + 1))
theorem force_eq (s : Nat) (f : Nat → Nat) : force s f = f s := by cases s <;> rfl
def stepN (p : Nat) (s : Nat) (b : Bool) : Nat := force s fun s => bif b then addN (dblN s) p else dblN s
def loopN (p : Nat) (bs : List Bool) (s : Nat) : Nat := bs.foldl (stepN p) s
theorem stepN_t (p s : Nat) : stepN p s true = addN (dblN s) p := by rw [stepN, force_eq]; rfl
theorem stepN_f (p s : Nat) : stepN p s false = dblN s := by rw [stepN, force_eq]; rfl
theorem loopN_eq (p : Nat) (bs : List Bool) : ∀ s : Nat, wdN (loopN p bs s) = mulW fD (wdN p) bs (wdN s) := by
  induction bs with
  | nil => intro s; rfl
  | cons b bs ih =>
    intro s;rw [loopN, List.foldl_cons, ← loopN, ih];cases b
    · rw [stepN_f, wd_dbl, mulW_f]
    · rw [stepN_t, wd_add, wd_dbl, mulW_t]
def bN : Nat := pk bP.x.val bP.y.val 1 (bP.x * bP.y).val
theorem bN_wd : wdN bN = Wd.of bP := by
  rw [bN, wd_pk _ _ _ _ (Nat.lt_trans bP.x.isLt dE) (Nat.lt_trans bP.y.isLt dE) dE, fe_of, fe_of, fe_of];rfl
def zN : Nat := pk 0 1 1 0
theorem zN_wd : wdN zN = Wd.of zero := by
  rw [zN, wd_pk _ _ _ _ dE dE dE];have e : (Wd.of zero : Wd Fp) = ⟨0, 1, 1, 0 * 1⟩ := rfl;rw [e];have h : (0 : Fp) * 1 = 0 := by kernel_rfl
  rw [h]; rfl
def fastN (n : Nat) : Nat := loopN bN (toBits 256 n) zN
theorem fastN_rep {n : Nat} (hn : n < 2 ^ 256) : (wdN (fastN n)).rep (cv.mul n bP) := by
  have h0 : (wdN zN).rep (cv.mul 0 bP) := by rw [zN_wd]; exact cv.rep_of zero
  have h := cv.mulW_rep bP_on (cv.rep_of bP) (toBits 256 n) (wdN zN) 0 h0;rw [toBits_v, Nat.zero_mul, Nat.zero_add, Nat.mod_eq_of_lt hn] at h;have e : wdN (fastN n) = mulW cv.d (Wd.of bP) (toBits 256 n) (wdN zN) := by
    rw [fastN, loopN_eq, bN_wd]; rfl
  rw [e]; exact h
theorem fastN_pt {n : Nat} (hn : n < 2 ^ 256) {X Y : Fp} (hx : (wdN (fastN n)).x * finv (wdN (fastN n)).z = X) (hy : (wdN (fastN n)).y * finv (wdN (fastN n)).z = Y) : cv.mul n bP = ⟨X, Y⟩ := by
  have h : (⟨(wdN (fastN n)).x * finv (wdN (fastN n)).z, (wdN (fastN n)).y * finv (wdN (fastN n)).z⟩ : Pt Fp) = cv.mul n bP := cv.rep_pt (fastN_rep hn);rw [hx, hy] at h;exact h.symm
theorem order_x : ux (fastN L) % PF = 0 := by kernel_rfl
theorem order_y : uy (fastN L) = uz (fastN L) := by kernel_rfl
theorem bP_order : cv.mul L bP = zero := by
  have h := fastN_rep (n := L) dE;have h1 : fe (ux (fastN L)) = (cv.mul L bP).x * fe (uz (fastN L)) := h.x;have h2 : fe (uy (fastN L)) = (cv.mul L bP).y * fe (uz (fastN L)) := h.y;have h3 : fe (uz (fastN L)) ≠ 0 := h.z;have hx : fe (ux (fastN L)) = 0 := Fin.ext order_x;rw [hx] at h1;rw [order_y] at h2;generalize fe (uz (fastN L)) = z at *;generalize cv.mul L bP = Q at *;obtain ⟨x, y⟩ := Q;simp only at h1 h2;have e1 : x = 0 := by
    rcases cv.zero_or h1.symm with e | e
    · exact e
    · exact absurd e h3
  have e2 : y = 1 := by
    refine cv.cancel h3 ?_;have e3 : z * y = y * z := by grind
    have e4 : z * 1 = z := by grind
    rw [e3, e4]; exact h2.symm
  rw [e1, e2]; rfl
theorem fp_cases {a : Fp} (h : a * a = 1) : a = 1 ∨ a = -1 := by
  have h1 : (a - 1) * (a + 1) = 0 := by grind
  rcases cv.zero_or h1 with e | e
  · exact .inl (by grind)
  · exact .inr (by grind)
theorem sq_cases {a b : Fp} (h : a * a = b * b) : a = b ∨ a = -b := by
  have h1 : (a - b) * (a + b) = 0 := by grind
  rcases cv.zero_or h1 with e | e
  · exact .inl (by grind)
  · exact .inr (by grind)
def unit2 : Fp := Ch (fe 2) ((PF - 1) / 4)
theorem unit2_sq : unit2 * unit2 = -1 := by kernel_rfl
theorem fpow_one' (a : Fp) : Ch a 1 = a := by
  rw [show (1 : Nat) = 0 + 1 from rfl, fpow_succ dE, fpow_zero]; grind
theorem fpow_sq2 (x : Fp) : x * x = Ch x 2 := by
  rw [show (2 : Nat) = 2 * 1 from rfl, fpow_two dE, fpow_one']
theorem root_pow (x : Fp) : Ch (x * x) ((PF + 3) / 8) * Ch (x * x) ((PF + 3) / 8) = x * x * Ch x ((PF - 1) / 2) := by
  rw [← fpow_two dE, fpow_sq2, fpow_mul dE dE dE, ← fpow_add dE];rfl
theorem half_cases {x : Fp} (h : x ≠ 0) : Ch x ((PF - 1) / 2) = 1 ∨ Ch x ((PF - 1) / 2) = -1 := by
  refine fp_cases ?_;rw [← fpow_two dE];exact ferm h
theorem fRoot1_sq (x : Fp) : fRoot1 (x * x) * fRoot1 (x * x) = x * x := by
  have h0 := root_pow x;have hu := unit2_sq;unfold fRoot1;change (if Ch (x * x) ((PF + 3) / 8) * Ch (x * x) ((PF + 3) / 8) = x * x then Ch (x * x) ((PF + 3) / 8) else Ch (x * x) ((PF + 3) / 8) * unit2) * (if Ch (x * x) ((PF + 3) / 8) * Ch (x * x) ((PF + 3) / 8) = x * x then Ch (x * x) ((PF + 3) / 8) else Ch (x * x) ((PF + 3) / 8) * unit2) = x * x;have hc : Ch (x * x) ((PF + 3) / 8) * Ch (x * x) ((PF + 3) / 8) = x * x ∨ Ch (x * x) ((PF + 3) / 8) * Ch (x * x) ((PF + 3) / 8) = -(x * x) := by
    by_cases hx : x = 0
    · left
      rw [h0, hx]; grind
    · rcases half_cases hx with e | e
      · left; rw [h0, e]; grind
      · right; rw [h0, e]; grind
  revert hc;generalize Ch (x * x) ((PF + 3) / 8) = r;generalize unit2 = u at *;intro hc;clear h0;by_cases h1 : r * r = x * x
  · rw [if_pos h1]; exact h1
  · rw [if_neg h1]
    rcases hc with e | e
    · exact absurd e h1
    · have : r * u * (r * u) = r * r * (u * u) := by grind
      rw [this, e, hu]; grind
theorem val_neg {x : Fp} (h : x ≠ 0) : (-x).val + x.val = PF := by
  have h1 : fe ((-x).val + x.val) = 0 := by
    rw [fe_add, fe_of, fe_of]; grind
  have h2 : ((-x).val + x.val) % PF = 0 := congrArg Fin.val h1;have h3 := (-x).isLt;have h4 := x.isLt;have h5 : x.val ≠ 0 := fun e => h (Fin.ext e);have h6 : PF ∣ (-x).val + x.val := Nat.dvd_of_mod_eq_zero h2;obtain ⟨k, hk⟩ := h6;generalize (-x).val = a at *;generalize x.val = b at *;clear h h1 h2;have hP : 0 < PF := by decide
  generalize PF = q at *;have h7 : k = 1 := by
    rcases Nat.lt_or_ge k 1 with h | h
    · obtain rfl : k = 0 := by omega
      rw [Nat.mul_zero] at hk; omega
    · rcases Nat.lt_or_ge 1 k with h9 | h9
      · have : q * 2 ≤ q * k := Nat.mul_le_mul_left _ h9
        omega
      · omega
  rw [h7, Nat.mul_one] at hk;exact hk
theorem neg_neg' (x : Fp) : - -x = x := by grind
theorem fRoot_eq (x : Fp) : fRoot (x * x) = ((if x.val % 2 = 1 then -x else x), true) := by
  have h1 := fRoot1_sq x;have h2 := sq_cases h1;unfold fRoot;generalize fRoot1 (x * x) = r at *;rw [if_pos h1];congr 1;by_cases hx : x = 0
  · have : r = 0 := by rcases h2 with e | e <;> rw [e, hx] <;> grind
    rw [this, hx]
  · have hv := val_neg hx
    have hodd : PF % 2 = 1 := by decide
    rcases h2 with e | e
    · rw [e]
    · rw [e]
      have hn : -x ≠ 0 := fun e2 => hx (by grind);by_cases h3 : x.val % 2 = 1
      · rw [if_pos h3, if_neg oM]
      · rw [if_neg h3, if_pos oM, neg_neg']
theorem on_xsq {x y : Fp} (h : cv.on ⟨x, y⟩) : (y * y - 1) * finv (fD * (y * y) + 1) = x * x := by
  have h1 := finv_mul (cv.below_ne y);have h2 := (cv.on_iff ⟨x, y⟩).1 h;have h3 : y * y - x * x = 1 + fD * (x * x * (y * y)) := h2;have h4 : (cv.d * (y * y) + 1) * finv (cv.d * (y * y) + 1) = 1 := h1;change (fD * (y * y) + 1) * finv (fD * (y * y) + 1) = 1 at h4;generalize finv (fD * (y * y) + 1) = u at *;generalize fD = d at *;have h5 : y * y - 1 = x * x * (d * (y * y) + 1) := by grind
  rw [h5];have : x * x * (d * (y * y) + 1) * u = x * x * ((d * (y * y) + 1) * u) := by grind
  rw [this, h4]; grind
theorem xOf_eq {x y : Fp} (h : cv.on ⟨x, y⟩) : xOf y = ((if x.val % 2 = 1 then -x else x), true) := by
  rw [xOf, on_xsq h, fRoot_eq]
theorem fb_top (x : Fp) : ((fb x).getD 31 0).toNat < 128 := by
  have h : (fb x).getD 31 0 = UInt8.ofNat (x.val / 256 ^ 31) := leb_getD 32 x.val 31 dE;have h1 := x.isLt;have h2 : x.val / 256 ^ 31 < 128 := by
    rw [Nat.div_lt_iff_lt_mul dE];exact Nat.lt_of_lt_of_le h1 dE
  rw [h, UInt8.toNat_ofNat'];omega
theorem byte_clear : ∀ b : UInt8, b.toNat < 128 → (b &&& 127) = b ∧ ((b ||| 128) &&& 127) = b ∧ (b &&& 128) = 0 ∧ ((b ||| 128) &&& 128) = 128 := by
  intro b hb;have h : ∀ n, n < 128 → ((UInt8.ofNat n) &&& 127) = UInt8.ofNat n ∧ ((UInt8.ofNat n ||| 128) &&& 127) = UInt8.ofNat n ∧ (UInt8.ofNat n &&& 128) = 0 ∧ ((UInt8.ofNat n ||| 128) &&& 128) = 128 := by decide
  have h2 := h b.toNat hb;rwa [UInt8.ofNat_toNat] at h2
theorem set_same (l : List UInt8) (i : Nat) (hi : i < l.length) : l.set i (l.getD i 0) = l := by
  apply List.ext_getElem sP;intro j h1 h2;rw [List.getElem_set];split
  · rename_i e
    subst e;rw [List.getD_eq_getElem?_getD, List.getElem?_eq_getElem hi]; rfl
  · rfl
theorem getD_set (l : List UInt8) (i : Nat) (v : UInt8) (hi : i < l.length) : (l.set i v).getD i 0 = v := by
  rw [List.getD_eq_getElem?_getD, List.getElem?_set_self hi, Option.getD_some]
theorem lowB_pb (P : Pt Fp) : lowB (pb P) = fb P.y := by
  have h := byte_clear _ (fb_top P.y);have hl := Am P.y;unfold lowB pb;split
  · rw [getD_set _ _ _ oM, h.2.1, List.set_set, set_same _ _ oM]
  · rw [h.1, set_same _ _ oM]
theorem topB_pb (P : Pt Fp) : topB (pb P) = decide (P.x.val % 2 = 1) := by
  have h := byte_clear _ (fb_top P.y);have hl := Am P.y;unfold topB pb;split
  · rename_i e
    rw [getD_set _ _ _ oM, h.2.2.2, decide_eq_true e]; rfl
  · rename_i e
    rw [h.2.2.1, decide_eq_false e]; rfl
theorem rdP_pb {P : Pt Fp} (h : cv.on P) : rdP (pb P) = some P := by
  obtain ⟨x, y⟩ := P;have hx := xOf_eq h;unfold rdP;rw [lowB_pb, topB_pb, fe_fb, if_pos rfl, hx];simp only;by_cases h1 : x.val % 2 = 1
  · have hx0 : x ≠ 0 := fun e => by rw [e] at h1; revert h1; decide
    have hn : -x ≠ 0 := fun e2 => hx0 (by grind);rw [if_pos h1, if_pos ⟨trivial, fun e => hn e.2⟩, if_pos (decide_eq_true h1), neg_neg']
  · rw [if_neg h1, if_pos ⟨trivial, fun e => h1 (of_decide_eq_true e.1)⟩, if_neg (fun e => h1 (of_decide_eq_true e))]
end Ed
end

section
namespace Hw
open Go Go.RowKit

def Bi (w : List Nat) : List Value := Bw (w.map Int.ofNat)
theorem Ak (w : List Nat) : (Bi w).length = w.length := by simp [Bi, Bw]
theorem get_wds {w : List Nat} {o : Nat} (h : o < w.length) : (Bi w)[o]? = some (i64 ((w.getD o 0 : Nat) : Int)) := by
  rw [Bi, get_ints (by simpa using h)];congr 2;rw [List.getD_eq_getElem?_getD, List.getD_eq_getElem?_getD, List.getElem?_map, List.getElem?_eq_getElem h];rfl
theorem set_wds (w : List Nat) (o v : Nat) : (Bi w).set o (i64 (v : Int)) = Bi (w.set o v) := by
  simp [Bi, Bw, List.map_set]
theorem B9 (w : List Nat) : ∀ u ∈ Bi w, isCell u = true := by
  intro u hu;simp only [Bi, Bw, List.mem_map] at hu;obtain ⟨x, _, rfl⟩ := hu;rfl
section
variable {C : Cx} {ops : Array Oper} {rest : List (Nat × Oper)} {sl : List (Nat × Value)} {hp : List Blk} {Q : St → Prop} {c d : Nat} {ty : TypeId} {pos : String} {af : Array Edge} {g : Option (Nat × Bool)}
variable {xT yT : TypeId} {x y : Operand}
theorem Tr.addN (a b : Nat) (hg : Aj ops sl g = true) (hk : okD c d C.N = true) (hx : Af sl x = some (i64 (a : Int))) (hy : Af sl y = some (i64 (b : Int))) (hr : a + b ≤ 9223372036854775807)
    (k : Tr C ops rest ⟨(d, i64 ((a + b : Nat) : Int)) :: sl, hp⟩ Q) : Tr C ops ((c, ⟨some d, .binOp .add xT x y yT, ty, pos, af, g⟩) :: rest) ⟨sl, hp⟩ Q := by
  refine Tr.aI hg hk hx hy oM ?_;rwa [show ((a : Int) + b) = ((a + b : Nat) : Int) by omega]
theorem Tr.subN (a b : Nat) (hg : Aj ops sl g = true) (hk : okD c d C.N = true) (hx : Af sl x = some (i64 (a : Int))) (hy : Af sl y = some (i64 (b : Int))) (hr : b ≤ a ∧ a ≤ 9223372036854775807)
    (k : Tr C ops rest ⟨(d, i64 ((a - b : Nat) : Int)) :: sl, hp⟩ Q) : Tr C ops ((c, ⟨some d, .binOp .sub xT x y yT, ty, pos, af, g⟩) :: rest) ⟨sl, hp⟩ Q := by
  refine .sub_i64 hg hk hx hy oM ?_;rwa [show ((a : Int) - b) = ((a - b : Nat) : Int) by omega]
theorem Tr.mulN (a b : Nat) (hg : Aj ops sl g = true) (hk : okD c d C.N = true) (hx : Af sl x = some (i64 (a : Int))) (hy : Af sl y = some (i64 (b : Int))) (hr : a * b ≤ 9223372036854775807)
    (k : Tr C ops rest ⟨(d, i64 ((a * b : Nat) : Int)) :: sl, hp⟩ Q) : Tr C ops ((c, ⟨some d, .binOp .mul xT x y yT, ty, pos, af, g⟩) :: rest) ⟨sl, hp⟩ Q := by
  have e : ((a : Int) * b) = ((a * b : Nat) : Int) := (Int.natCast_mul a b).symm;refine .mul_i64 hg hk hx hy (by rw [e]; omega) ?_;rwa [e]
theorem Tr.remN (a b : Nat) (hg : Aj ops sl g = true) (hk : okD c d C.N = true) (hx : Af sl x = some (i64 (a : Int))) (hy : Af sl y = some (i64 (b : Int))) (hr : 1 ≤ b)
    (k : Tr C ops rest ⟨(d, i64 ((a % b : Nat) : Int)) :: sl, hp⟩ Q) : Tr C ops ((c, ⟨some d, .binOp .rem xT x y yT, ty, pos, af, g⟩) :: rest) ⟨sl, hp⟩ Q := by
  refine .rem_i64 hg hk hx hy oM ?_;rwa [show ((a : Int) % b) = ((a % b : Nat) : Int) from rfl]
theorem Tr.quoN (a b : Nat) (hg : Aj ops sl g = true) (hk : okD c d C.N = true) (hx : Af sl x = some (i64 (a : Int))) (hy : Af sl y = some (i64 (b : Int))) (hr : 1 ≤ b ∧ a ≤ 9223372036854775807)
    (k : Tr C ops rest ⟨(d, i64 ((a / b : Nat) : Int)) :: sl, hp⟩ Q) : Tr C ops ((c, ⟨some d, .binOp .quo xT x y yT, ty, pos, af, g⟩) :: rest) ⟨sl, hp⟩ Q := by
  refine .quo_i64 hg hk hx hy oM ?_;rwa [show ((a : Int) / b) = ((a / b : Nat) : Int) from rfl]
theorem Tr.shrN (a n : Nat) {ky : IntKind} {b : Int} (hg : Aj ops sl g = true) (hk : okD c d C.N = true) (hx : Af sl x = some (i64 (a : Int))) (hy : Af sl y = some (.int ky b)) (hn : b = n) (hr : n ≤ 64)
    (k : Tr C ops rest ⟨(d, i64 ((a / 2 ^ n : Nat) : Int)) :: sl, hp⟩ Q) : Tr C ops ((c, ⟨some d, .binOp .shr xT x y yT, ty, pos, af, g⟩) :: rest) ⟨sl, hp⟩ Q :=
  .bin hg hk hx hy (fun w => by
    subst hn;simp only [binOp, Op.shift, IntKind.bits];rw [if_neg oM, Int.toNat_natCast, Nat.min_eq_left hr];have e : ((2 : Int) ^ n) = ((2 ^ n : Nat) : Int) := by simp
    rw [e, Int.fdiv_eq_ediv_of_nonneg _ (Int.natCast_nonneg _)];rfl) k
theorem Tr.shlN (a n : Nat) {ky : IntKind} {b : Int} (hg : Aj ops sl g = true) (hk : okD c d C.N = true) (hx : Af sl x = some (i64 (a : Int))) (hy : Af sl y = some (.int ky b)) (hn : b = n) (hn2 : n ≤ 64) (hr : a * 2 ^ n ≤ 9223372036854775807)
    (k : Tr C ops rest ⟨(d, i64 ((a * 2 ^ n : Nat) : Int)) :: sl, hp⟩ Q) : Tr C ops ((c, ⟨some d, .binOp .shl xT x y yT, ty, pos, af, g⟩) :: rest) ⟨sl, hp⟩ Q :=
  .bin hg hk hx hy (fun w => by
    subst hn;simp only [binOp, Op.shift, IntKind.bits];rw [if_neg oM, Int.toNat_natCast, Nat.min_eq_left hn2];have e : ((a : Int) * 2 ^ n) = ((a * 2 ^ n : Nat) : Int) := by simp
    rw [e, i64_wrap oM]; rfl) k
theorem Tr.quo_u8 {p : UInt8} {b : Int} (hg : Aj ops sl g = true) (hk : okD c d C.N = true) (hx : Af sl x = some (u8 p)) (hy : Af sl y = some (.int .u8 b)) (n : Nat) (hn : b = n) (h0 : 0 < n)
    (k : Tr C ops rest ⟨(d, u8 (UInt8.ofNat (p.toNat / n))) :: sl, hp⟩ Q) : Tr C ops ((c, ⟨some d, .binOp .quo xT x y yT, ty, pos, af, g⟩) :: rest) ⟨sl, hp⟩ Q :=
  .bin hg hk hx hy (fun w => by
    subst hn;simp [binOp, Op.intDiv, show ¬ n = 0 by omega];exact IntKind.wrap_u8 _) k
end
end Hw
end

section
namespace Ed
open Hw Go

def mr : List Nat → List Nat → Nat
  | w :: ws, b :: bs => w + 2 ^ b * mr ws bs
  | _, _ => 0
def dg (n : Nat) : List Nat → List Nat
  | b :: bs => n % 2 ^ b :: dg (n / 2 ^ b) bs
  | [] => []
def carL (c : Nat) : List Nat → List Nat → List Nat
  | w :: ws, b :: bs => (w + c) % 2 ^ b :: carL ((w + c) / 2 ^ b) ws bs
  | _, _ => []
theorem dg_length : ∀ (bs : List Nat) (n : Nat), (dg n bs).length = bs.length
  | [], _ => rfl
  | b :: bs, n => by simp [dg, dg_length bs]
theorem carL_dg : ∀ (bs ws : List Nat) (c : Nat), ws.length = bs.length → carL c ws bs = dg (mr ws bs + c) bs
  | [], ws, c, h => by cases ws <;> simp_all [carL, dg]
  | b :: bs, [], c, h => by simp at h
  | b :: bs, w :: ws, c, h => by
    have hp : 0 < 2 ^ b := Nat.pow_pos dE;have h1 : mr (w :: ws) (b :: bs) + c = (w + c) + 2 ^ b * mr ws bs := by rw [mr]; omega
    rw [carL, dg, h1, Nat.add_mul_mod_self_left, Nat.add_mul_div_left _ _ hp, carL_dg bs ws _ (by simpa using h), Nat.add_comm (mr ws bs)]
theorem mr_dg : ∀ (bs : List Nat) (n : Nat), mr (dg n bs) bs = n % 2 ^ bs.sum
  | [], n => by simp [mr, dg, Nat.mod_one]
  | b :: bs, n => by
    rw [dg, mr, mr_dg bs, List.sum_cons, Nat.pow_add, Nat.mod_mul]
def b10 : List Nat := [26, 25, 26, 25, 26, 25, 26, 25, 26, 25]
theorem b10_sum : b10.sum = 255 := rfl
def A3 (i : Nat) : Nat := if i % 2 = 0 then 26 else 25
def v10 (w : List Nat) : Nat := mr w b10
def stepC (w : List Nat) (i : Nat) : List Nat :=
  if i = 9 then (w.set i (w.getD i 0 % 2 ^ A3 i)).set 0 ((w.set i (w.getD i 0 % 2 ^ A3 i)).getD 0 0 + 19 * (w.getD i 0 / 2 ^ A3 i))
  else (w.set i (w.getD i 0 % 2 ^ A3 i)).set (i + 1) ((w.set i (w.getD i 0 % 2 ^ A3 i)).getD (i + 1) 0 + w.getD i 0 / 2 ^ A3 i)
def Ci (w : List Nat) : Nat → List Nat
  | 0 => w
  | i + 1 => stepC (Ci w i) i
def Cj (w : List Nat) : List Nat := (dg (v10 w) b10).set 0 (v10 w % 2 ^ 26 + 19 * (v10 w / 2 ^ 255))
theorem len10 {w : List Nat} (h : w.length = 10) : ∃ a b c d e f g i j k, w = [a, b, c, d, e, f, g, i, j, k] := by
  match w, h with
  | [a, b, c, d, e, f, g, i, j, k], _ => exact ⟨a, b, c, d, e, f, g, i, j, k, rfl⟩
def cout (c : Nat) : List Nat → List Nat → Nat
  | w :: ws, b :: bs => cout ((w + c) / 2 ^ b) ws bs
  | _, _ => c
theorem cout_eq : ∀ (bs ws : List Nat) (c : Nat), ws.length = bs.length → cout c ws bs = (mr ws bs + c) / 2 ^ bs.sum
  | [], ws, c, h => by cases ws <;> simp_all [cout, mr]
  | b :: bs, [], c, h => by simp at h
  | b :: bs, w :: ws, c, h => by
    have hp : 0 < 2 ^ b := Nat.pow_pos dE;have h1 : mr (w :: ws) (b :: bs) + c = (w + c) + 2 ^ b * mr ws bs := by rw [mr]; omega
    rw [cout, h1, List.sum_cons, Nat.pow_add, ← Nat.div_div_eq_div_mul, Nat.add_mul_div_left _ _ hp, cout_eq bs ws _ (by simpa using h), Nat.add_comm (mr ws bs)]
theorem stepC_0 (a b c d e f g i j k : Nat) : stepC [a, b, c, d, e, f, g, i, j, k] 0 = [a % 2 ^ 26, b + a / 2 ^ 26, c, d, e, f, g, i, j, k] := rfl
theorem stepC_1 (a b c d e f g i j k : Nat) : stepC [a, b, c, d, e, f, g, i, j, k] 1 = [a, b % 2 ^ 25, c + b / 2 ^ 25, d, e, f, g, i, j, k] := rfl
theorem stepC_2 (a b c d e f g i j k : Nat) : stepC [a, b, c, d, e, f, g, i, j, k] 2 = [a, b, c % 2 ^ 26, d + c / 2 ^ 26, e, f, g, i, j, k] := rfl
theorem stepC_3 (a b c d e f g i j k : Nat) : stepC [a, b, c, d, e, f, g, i, j, k] 3 = [a, b, c, d % 2 ^ 25, e + d / 2 ^ 25, f, g, i, j, k] := rfl
theorem stepC_4 (a b c d e f g i j k : Nat) : stepC [a, b, c, d, e, f, g, i, j, k] 4 = [a, b, c, d, e % 2 ^ 26, f + e / 2 ^ 26, g, i, j, k] := rfl
theorem stepC_5 (a b c d e f g i j k : Nat) : stepC [a, b, c, d, e, f, g, i, j, k] 5 = [a, b, c, d, e, f % 2 ^ 25, g + f / 2 ^ 25, i, j, k] := rfl
theorem stepC_6 (a b c d e f g i j k : Nat) : stepC [a, b, c, d, e, f, g, i, j, k] 6 = [a, b, c, d, e, f, g % 2 ^ 26, i + g / 2 ^ 26, j, k] := rfl
theorem stepC_7 (a b c d e f g i j k : Nat) : stepC [a, b, c, d, e, f, g, i, j, k] 7 = [a, b, c, d, e, f, g, i % 2 ^ 25, j + i / 2 ^ 25, k] := rfl
theorem stepC_8 (a b c d e f g i j k : Nat) : stepC [a, b, c, d, e, f, g, i, j, k] 8 = [a, b, c, d, e, f, g, i, j % 2 ^ 26, k + j / 2 ^ 26] := rfl
theorem stepC_9 (a b c d e f g i j k : Nat) : stepC [a, b, c, d, e, f, g, i, j, k] 9 = [a + 19 * (k / 2 ^ 25), b, c, d, e, f, g, i, j, k % 2 ^ 25] := rfl
theorem carAt_car {w : List Nat} (h : w.length = 10) : Ci w 10 = (carL 0 w b10).set 0 ((carL 0 w b10).getD 0 0 + 19 * cout 0 w b10) := by
  obtain ⟨a, b, c, d, e, f, g, i, j, k, rfl⟩ := len10 h;simp only [Ci, stepC_0, stepC_1, stepC_2, stepC_3, stepC_4, stepC_5, stepC_6, stepC_7, stepC_8, stepC_9, b10, carL, cout, Nat.add_zero, List.set_cons_zero, List.getD_cons_zero]
theorem carAt_eq {w : List Nat} (h : w.length = 10) : Ci w 10 = Cj w := by
  rw [carAt_car h, carL_dg b10 w 0 h, cout_eq b10 w 0 h, b10_sum];rfl
theorem car10_length (w : List Nat) : (Cj w).length = 10 := by simp [Cj, dg_length, b10]
structure Fit10 (w : List Nat) : Prop where
  len : w.length = 10
  lo : w.getD 0 0 < 2 ^ 26 + 128
  hi : ∀ i, 0 < i → i < 10 → w.getD i 0 < 2 ^ A3 i
theorem dg_lt : ∀ (bs : List Nat) (n i : Nat), i < bs.length → (dg n bs).getD i 0 < 2 ^ bs.getD i 0
  | b :: bs, n, 0, _ => Nat.mod_lt _ (Nat.pow_pos dE)
  | b :: bs, n, i + 1, h => dg_lt bs (n / 2 ^ b) i (by simpa using h)
theorem b10_at : ∀ i : _root_.Fin 10, b10.getD i.val 0 = A3 i.val := by decide
theorem car10_fit {w : List Nat} (h : v10 w < 6 * 2 ^ 255) : Fit10 (Cj w) := by
  refine ⟨car10_length w, ?_, fun i h1 h2 => ?_⟩
  · show v10 w % 2 ^ 26 + 19 * (v10 w / 2 ^ 255) < _
    have : v10 w / 2 ^ 255 < 6 := Nat.div_lt_of_lt_mul oM;have := Nat.mod_lt (v10 w) (show 0 < 2 ^ 26 by decide);omega
  · have h3 := dg_lt b10 (v10 w) i h2
    rw [b10_at ⟨i, h2⟩] at h3;rwa [Cj, List.getD_eq_getElem?_getD, List.getElem?_set_ne oM, ← List.getD_eq_getElem?_getD]
theorem car10_val (w : List Nat) : v10 (Cj w) = v10 w % 2 ^ 255 + 19 * (v10 w / 2 ^ 255) := by
  have h1 : dg (v10 w) b10 = v10 w % 2 ^ 26 :: dg (v10 w / 2 ^ 26) [25, 26, 25, 26, 25, 26, 25, 26, 25] := rfl;have h2 : mr (dg (v10 w) b10) b10 = v10 w % 2 ^ 255 := mr_dg b10 (v10 w);rw [← h2, v10, Cj, h1];show (v10 w % 2 ^ 26 + 19 * (v10 w / 2 ^ 255)) + 2 ^ 26 * _ = (v10 w % 2 ^ 26 + 2 ^ 26 * _) + _;generalize mr _ _ = x;omega
theorem car10_v (w : List Nat) : fe (v10 (Cj w)) = fe (v10 w) := by
  rw [car10_val];have h4 : v10 w = v10 w % 2 ^ 255 + 2 ^ 255 * (v10 w / 2 ^ 255) := (Nat.mod_add_div _ _).symm;generalize v10 w / 2 ^ 255 = q at *;generalize v10 w % 2 ^ 255 = r at *;rw [h4, fe_eq];have e : r + 2 ^ 255 * q = (r + 19 * q) + PF * q := by
    have : (2 : Nat) ^ 255 = 19 + PF := by decide
    rw [this, Nat.add_mul]; omega
  rw [e, Nat.add_mul_mod_self_left]
def Bn (i : Nat) : Nat := (51 * i + 1) / 2
def coef (i k : Nat) : Nat := (if i + k > 9 then 19 else 1) * (if i % 2 = 1 ∧ k % 2 = 1 then 2 else 1)
theorem coef_le (i k : Nat) : coef i k ≤ 38 := by
  unfold coef;split <;> split <;> omega
def coefOk (i k : Nat) : Bool := Nat.beq (2 ^ Bn ((i + k) % 10) * coef i k % PF) (2 ^ Bn i * 2 ^ Bn k % PF)
def coefAll : Bool := (List.range 10).all fun i => (List.range 10).all fun k => coefOk i k
theorem coef_all : coefAll = true := by kernel_rfl
theorem coef_fe {i k : Nat} (hi : i < 10) (hk : k < 10) : fe (2 ^ Bn ((i + k) % 10) * coef i k) = fe (2 ^ Bn i) * fe (2 ^ Bn k) := by
  have h := coef_all;unfold coefAll at h;rw [List.all_eq_true] at h;have h1 := h i (List.mem_range.2 hi);rw [List.all_eq_true] at h1;have h2 := h1 k (List.mem_range.2 hk);rw [← fe_mul];exact fe_eq.2 (Nat.eq_of_beq_eq_true h2)
theorem mr_set (p : Nat) : ∀ (bs w : List Nat) (m : Nat), w.length = bs.length → m < w.length → mr (w.set m (w.getD m 0 + p)) bs = mr w bs + 2 ^ (bs.take m).sum * p
  | [], [], m, _, h => by simp at h
  | b :: bs, x :: w, 0, _, _ => by
    show (x + p) + 2 ^ b * mr w bs = (x + 2 ^ b * mr w bs) + 2 ^ 0 * p;omega
  | b :: bs, x :: w, m + 1, h1, h2 => by
    have ih := mr_set p bs w m (by simpa using h1) (by simpa using h2);show x + 2 ^ b * mr (w.set m (w.getD m 0 + p)) bs = (x + 2 ^ b * mr w bs) + 2 ^ (b + (bs.take m).sum) * p;rw [ih, Nat.mul_add, Nat.pow_add, Nat.mul_assoc, Nat.add_assoc]
theorem at_sum : ∀ m : _root_.Fin 10, (b10.take m.val).sum = Bn m.val := by decide
theorem v10_set {w : List Nat} (h : w.length = 10) (p : Nat) {m : Nat} (hm : m < 10) : v10 (w.set m (w.getD m 0 + p)) = v10 w + 2 ^ Bn m * p := by
  rw [v10, mr_set p b10 w m h oM, at_sum ⟨m, hm⟩]; rfl
def tCell (x y : List Nat) (i k : Nat) (o : List Nat) : List Nat := o.set ((i + k) % 10) (o.getD ((i + k) % 10) 0 + coef i k * (x.getD i 0 * y.getD k 0))
def tRow (x y : List Nat) (i : Nat) (o : List Nat) : Nat → List Nat
  | 0 => o
  | k + 1 => tCell x y i k (tRow x y i o k)
def tAll (x y : List Nat) : Nat → List Nat
  | 0 => List.replicate 10 0
  | i + 1 => tRow x y i (tAll x y i) 10
theorem tRow_length (x y : List Nat) (i : Nat) {o : List Nat} (h : o.length = 10) : ∀ k, (tRow x y i o k).length = 10
  | 0 => h
  | k + 1 => by rw [tRow, tCell, List.length_set, tRow_length x y i h k]
theorem tAll_length (x y : List Nat) : ∀ i, (tAll x y i).length = 10
  | 0 => rfl
  | i + 1 => tRow_length x y i (tAll_length x y i) 10
def pv (w : List Nat) : Nat → Fp
  | 0 => 0
  | k + 1 => pv w k + fe (2 ^ Bn k) * fe (w.getD k 0)
theorem pv_all {w : List Nat} (h : w.length = 10) : pv w 10 = fe (v10 w) := by
  obtain ⟨a, b, c, d, e, f, g, i, j, k, rfl⟩ := len10 h;have e1 : v10 [a, b, c, d, e, f, g, i, j, k] = 2 ^ Bn 0 * a + 2 ^ Bn 1 * b + 2 ^ Bn 2 * c + 2 ^ Bn 3 * d + 2 ^ Bn 4 * e + 2 ^ Bn 5 * f + 2 ^ Bn 6 * g + 2 ^ Bn 7 * i + 2 ^ Bn 8 * j + 2 ^ Bn 9 * k := by
    simp only [v10, mr, b10, Bn, Nat.mul_add, ← Nat.mul_assoc, ← Nat.pow_add, Nat.mul_zero, Nat.add_zero, ← Nat.add_assoc];simp
  rw [e1];simp only [fe_add, fe_mul, pv, List.getD_cons_zero, List.getD_cons_succ];grind
theorem tRow_v (x y : List Nat) (i : Nat) (hi : i < 10) {o : List Nat} (h : o.length = 10) : ∀ k, k ≤ 10 → fe (v10 (tRow x y i o k)) = fe (v10 o) + fe (2 ^ Bn i) * fe (x.getD i 0) * pv y k
  | 0, _ => by simp only [tRow, pv]; grind
  | k + 1, hk => by
    have ih := tRow_v x y i hi h k oM;have hc := coef_fe hi (show k < 10 by omega);rw [tRow, tCell, v10_set (tRow_length x y i h k) _ (Nat.mod_lt _ dE), fe_add, ih, ← Nat.mul_assoc, fe_mul, hc, fe_mul, pv];generalize fe (2 ^ Bn i) = A;generalize fe (2 ^ Bn k) = B;grind
theorem tAll_v {x y : List Nat} (hy : y.length = 10) : ∀ i, i ≤ 10 → fe (v10 (tAll x y i)) = pv x i * fe (v10 y)
  | 0, _ => by
    have e : fe (v10 (List.replicate 10 0)) = 0 := by kernel_rfl
    rw [tAll, e, pv]; grind
  | i + 1, hi => by
    rw [tAll, tRow_v x y i oM (tAll_length x y i) 10 (Nat.le_refl _), tAll_v hy i oM, pv_all hy, pv];grind
def ones : List Nat → Nat
  | b :: bs => 1 + 2 ^ b * ones bs
  | [] => 0
theorem mr_le (B : Nat) : ∀ bs w : List Nat, w.length = bs.length → (∀ m, m < w.length → w.getD m 0 ≤ B) → mr w bs ≤ B * ones bs
  | [], [], _, _ => Nat.zero_le _
  | b :: bs, x :: w, h1, h2 => by
    have ih := mr_le B bs w (by simpa using h1) (fun m hm => h2 (m + 1) (by simpa using hm));have hx : x ≤ B := h2 0 sP;have h3 : 2 ^ b * mr w bs ≤ 2 ^ b * (B * ones bs) := Nat.mul_le_mul_left _ ih;show x + 2 ^ b * mr w bs ≤ B * (1 + 2 ^ b * ones bs);rw [Nat.mul_add, Nat.mul_one, Nat.mul_left_comm B];omega
theorem ones_lt : Nat.ble (ones b10 + 1) (2 ^ 231) = true := by kernel_rfl
theorem v10_le {w : List Nat} (h : w.length = 10) (B : Nat) (h2 : ∀ m, m < 10 → w.getD m 0 ≤ B) : v10 w ≤ B * 2 ^ 231 :=
  Nat.le_trans (mr_le B b10 w h (by rw [h]; exact h2)) (Nat.mul_le_mul_left _ (Nat.le_of_succ_le (Nat.le_of_ble_eq_true ones_lt)))
theorem getD_set' {l : List Nat} {i j v : Nat} (hi : i < l.length) : (l.set i v).getD j 0 = if j = i then v else l.getD j 0 := by
  rw [List.getD_eq_getElem?_getD, List.getElem?_set];split
  · rename_i e; subst e; rw [if_pos rfl]; simp
  · rename_i e; rw [if_neg (fun h => e h.symm), List.getD_eq_getElem?_getD]
theorem tRow_le {x y : List Nat} {B i : Nat} (hi : i < 10) (hb : ∀ k, k < 10 → coef i k * (x.getD i 0 * y.getD k 0) ≤ B) {o : List Nat} (h : o.length = 10) : ∀ k, k ≤ 10 → ∀ m, m < 10 → (tRow x y i o k).getD m 0 ≤ o.getD m 0 + (if (m + 10 - i) % 10 < k then B else 0)
  | 0, _, m, hm => by rw [if_neg oM]; exact Nat.le_refl _
  | k + 1, hk, m, hm => by
    have ih := tRow_le hi hb h k oM;have hl := tRow_length x y i h k;rw [tRow, tCell, getD_set' (by rw [hl]; exact Nat.mod_lt _ dE)];split
    · rename_i e
      have h1 := ih m hm;have h2 := hb k oM;rw [if_neg oM] at h1;rw [if_pos oM, ← e];omega
    · rename_i e
      have h1 := ih m hm;refine Nat.le_trans h1 (Nat.add_le_add_left ?_ _);split
      · rw [if_pos oM]; exact Nat.le_refl _
      · exact Nat.zero_le _
theorem tAll_le {x y : List Nat} {B : Nat} (hb : ∀ i k, i < 10 → k < 10 → coef i k * (x.getD i 0 * y.getD k 0) ≤ B) : ∀ i, i ≤ 10 → ∀ m, m < 10 → (tAll x y i).getD m 0 ≤ i * B
  | 0, _, m, hm => by
    show (List.replicate 10 0).getD m 0 ≤ _;rw [List.getD_eq_getElem?_getD, List.getElem?_replicate_of_lt hm, Nat.zero_mul]; exact Nat.le_refl _
  | i + 1, hi, m, hm => by
    have h1 := tRow_le oM (fun k hk => hb i k oM hk) (tAll_length x y i) 10 (Nat.le_refl _) m hm;have h2 := tAll_le hb i oM m hm;rw [if_pos (Nat.mod_lt _ dE)] at h1;rw [tAll, Nat.succ_mul];omega
theorem Fit10.all {w : List Nat} (h : Fit10 w) {m : Nat} (hm : m < 10) : w.getD m 0 < 2 ^ 27 := by
  by_cases h0 : m = 0
  · subst h0; have := h.lo; omega
  · have h1 := h.hi m oM hm
    refine Nat.lt_of_lt_of_le h1 ?_;unfold A3; split <;> decide
theorem term_le {x y : List Nat} (hx : Fit10 x) (hy : Fit10 y) (i k : Nat) (hi : i < 10) (hk : k < 10) : coef i k * (x.getD i 0 * y.getD k 0) ≤ 38 * (2 ^ 27 * 2 ^ 27) :=
  Nat.mul_le_mul (coef_le i k) (Nat.mul_le_mul (Nat.le_of_lt (hx.all hi)) (Nat.le_of_lt (hy.all hk)))
def mulT (x y : List Nat) : List Nat := Cj (Cj (tAll x y 10))
theorem mulT_v {x y : List Nat} (hx : x.length = 10) (hy : y.length = 10) : fe (v10 (mulT x y)) = fe (v10 x) * fe (v10 y) := by
  rw [mulT, car10_v, car10_v, tAll_v hy 10 (Nat.le_refl _), pv_all hx]
theorem mr_lt : ∀ bs w : List Nat, w.length = bs.length → (∀ m, m < w.length → w.getD m 0 < 2 ^ bs.getD m 0) → mr w bs + 1 ≤ 2 ^ bs.sum
  | [], [], _, _ => Nat.le_refl _
  | b :: bs, x :: w, h1, h2 => by
    have ih := mr_lt bs w (by simpa using h1) (fun m hm => h2 (m + 1) (by simpa using hm));have hx : x < 2 ^ b := h2 0 sP;have h3 : 2 ^ b * (mr w bs + 1) ≤ 2 ^ b * 2 ^ bs.sum := Nat.mul_le_mul_left _ ih;rw [mr, List.sum_cons, Nat.pow_add];rw [Nat.mul_add, Nat.mul_one] at h3;omega
theorem Fit10.v {w : List Nat} (h : Fit10 w) : v10 w < 2 ^ 255 + 128 := by
  have hl := h.len;have h0 := h.lo;have h1 := h.hi;cases w with
  | nil => simp at hl
  | cons a t =>
    have h2 := mr_lt [25, 26, 25, 26, 25, 26, 25, 26, 25] t (by simpa using hl) (fun m hm => by
      have h3 := h1 (m + 1) oM (by simp at hl; omega);have h4 := b10_at ⟨m + 1, by simp at hl; omega⟩;rw [← h4] at h3;exact h3)
    have h5 : [25, 26, 25, 26, 25, 26, 25, 26, 25].sum = 229 := rfl;rw [h5] at h2;have h6 : a < 2 ^ 26 + 128 := h0;show a + 2 ^ 26 * mr t _ < _;omega
theorem A9 {x y : List Nat} (hx : Fit10 x) (hy : Fit10 y) : Fit10 (mulT x y) := by
  have h1 := tAll_le (term_le hx hy) 10 (Nat.le_refl _);have h2 := v10_le (tAll_length x y 10) _ h1;refine car10_fit ?_;have h4 : v10 (tAll x y 10) / 2 ^ 255 < 2 ^ 40 := Nat.div_lt_of_lt_mul oM;have h5 := Nat.mod_lt (v10 (tAll x y 10)) (show 0 < 2 ^ 255 by decide);rw [car10_val];omega
theorem mulT_length (x y : List Nat) : (mulT x y).length = 10 := car10_length _
def addAt (x y : List Nat) : Nat → List Nat
  | 0 => x
  | i + 1 => (addAt x y i).set i ((addAt x y i).getD i 0 + y.getD i 0)
theorem addAt_length {x : List Nat} (y : List Nat) (h : x.length = 10) : ∀ i, (addAt x y i).length = 10
  | 0 => h
  | i + 1 => by rw [addAt, List.length_set, addAt_length y h i]
def npv (w : List Nat) : Nat → Nat
  | 0 => 0
  | k + 1 => npv w k + 2 ^ Bn k * w.getD k 0
theorem addAt_v {x y : List Nat} (h : x.length = 10) : ∀ i, i ≤ 10 → v10 (addAt x y i) = v10 x + npv y i
  | 0, _ => rfl
  | i + 1, hi => by rw [addAt, v10_set (addAt_length y h i) _ oM, addAt_v h i oM, npv, Nat.add_assoc]
theorem npv_all {w : List Nat} (h : w.length = 10) : npv w 10 = v10 w := by
  obtain ⟨a, b, c, d, e, f, g, i, j, k, rfl⟩ := len10 h;simp only [v10, mr, b10, Bn, Nat.mul_add, ← Nat.mul_assoc, ← Nat.pow_add, Nat.mul_zero, Nat.add_zero, ← Nat.add_assoc, npv, List.getD_cons_zero, List.getD_cons_succ];simp
def plusT (x y : List Nat) : List Nat := Cj (addAt x y 10)
theorem plusT_v {x y : List Nat} (hx : x.length = 10) (hy : y.length = 10) : fe (v10 (plusT x y)) = fe (v10 x) + fe (v10 y) := by
  rw [plusT, car10_v, addAt_v hx 10 (Nat.le_refl _), npv_all hy, fe_add]
theorem plusT_fit {x y : List Nat} (hx : Fit10 x) (hy : Fit10 y) : Fit10 (plusT x y) := by
  refine car10_fit ?_;rw [addAt_v hx.len 10 (Nat.le_refl _), npv_all hy.len];have := hx.v;have := hy.v;omega
def p4 (i : Nat) : Nat := 4 * (2 ^ A3 i - 1 - (if i = 0 then 18 else 0))
def subAt (x y : List Nat) : Nat → List Nat
  | 0 => x
  | i + 1 => (subAt x y i).set i ((subAt x y i).getD i 0 + (p4 i - y.getD i 0))
theorem subAt_length {x : List Nat} (y : List Nat) (h : x.length = 10) : ∀ i, (subAt x y i).length = 10
  | 0 => h
  | i + 1 => by rw [subAt, List.length_set, subAt_length y h i]
def p4v : Nat → Nat
  | 0 => 0
  | k + 1 => p4v k + 2 ^ Bn k * p4 k
theorem p4v_all : p4v 10 = 4 * PF := by kernel_rfl
theorem p4_ge {y : List Nat} (hy : Fit10 y) {i : Nat} (hi : i < 10) : y.getD i 0 ≤ p4 i := by
  unfold p4;by_cases h0 : i = 0
  · subst h0
    have := hy.lo;rw [if_pos rfl];show _ ≤ 4 * (2 ^ 26 - 1 - 18);omega
  · have h1 := hy.hi i oM hi
    rw [if_neg h0];have : 1 ≤ 2 ^ A3 i := Nat.pow_pos dE;omega
theorem subAt_v {x y : List Nat} (h : x.length = 10) (hy : Fit10 y) : ∀ i, i ≤ 10 → v10 (subAt x y i) + npv y i = v10 x + p4v i
  | 0, _ => rfl
  | i + 1, hi => by
    have ih := subAt_v h hy i oM;have h1 := p4_ge hy (show i < 10 by omega);have h2 : 2 ^ Bn i * (p4 i - y.getD i 0) + 2 ^ Bn i * y.getD i 0 = 2 ^ Bn i * p4 i := by
      rw [← Nat.mul_add, Nat.sub_add_cancel h1]
    rw [subAt, v10_set (subAt_length y h i) _ oM, npv, p4v];omega
def minusT (x y : List Nat) : List Nat := Cj (subAt x y 10)
theorem minusT_v {x y : List Nat} (hx : x.length = 10) (hy : Fit10 y) : fe (v10 (minusT x y)) = fe (v10 x) - fe (v10 y) := by
  have h := congrArg fe (subAt_v hx hy 10 (Nat.le_refl _));rw [npv_all hy.len, p4v_all, fe_add, fe_add, fe_four] at h;rw [minusT, car10_v];generalize fe (v10 (subAt x y 10)) = u at *;generalize fe (v10 x) = a at *;generalize fe (v10 y) = b at *;grind
theorem minusT_fit {x y : List Nat} (hx : Fit10 x) (hy : Fit10 y) : Fit10 (minusT x y) := by
  refine car10_fit ?_;have h := subAt_v hx.len hy 10 (Nat.le_refl _);rw [p4v_all] at h;have h1 := hx.v;have h2 : PF < 2 ^ 255 := by decide
  omega
theorem car10_low {w : List Nat} (h : v10 w < 2 ^ 255) : Cj w = dg (v10 w) b10 := by
  rw [Cj, Nat.div_eq_of_lt h, Nat.mul_zero, Nat.add_zero]; rfl
theorem v10_dg {n : Nat} (h : n < 2 ^ 255) : v10 (dg n b10) = n := by rw [v10, mr_dg, b10_sum, Nat.mod_eq_of_lt h]
def low10 (w : List Nat) : Nat := v10 w % 2 ^ 255 + 19 * (v10 w / 2 ^ 255)
theorem low10_fe (w : List Nat) : fe (low10 w) = fe (v10 w) := by rw [low10, ← car10_val, car10_v]
theorem low10_lt {w : List Nat} (h : Fit10 w) : low10 w < 2 ^ 255 := by
  have h1 := h.v;rw [low10];omega
theorem car10_four {w : List Nat} (h : Fit10 w) : Cj (Cj (Cj (Cj w))) = dg (low10 w) b10 := by
  have h1 := low10_lt h;have h2 : v10 (Cj w) = low10 w := car10_val w;have h3 : Cj (Cj w) = dg (low10 w) b10 := by rw [car10_low (by rw [h2]; exact h1), h2]
  have h4 : Cj (dg (low10 w) b10) = dg (low10 w) b10 := by rw [car10_low (by rw [v10_dg h1]; exact h1), v10_dg h1]
  rw [h3, h4, h4]
end Ed
end

section
namespace Ed
open Hw Go

structure Mid10 (w : List Nat) : Prop where
  len : w.length = 10
  le : ∀ m, m < 10 → w.getD m 0 ≤ 7205759403792793600
theorem bits_ge (i : Nat) : 33554432 ≤ 2 ^ A3 i := by unfold A3; split <;> decide
theorem bits_le (i : Nat) : 2 ^ A3 i ≤ 67108864 := by unfold A3; split <;> decide
theorem bits_26 (i : Nat) : A3 i ≤ 26 := by unfold A3; split <;> decide
theorem carAt_length {w : List Nat} (h : w.length = 10) : ∀ i, (Ci w i).length = 10
  | 0 => h
  | i + 1 => by rw [Ci, stepC]; split <;> simp [carAt_length h i]
theorem div_bits (x i : Nat) (h : x ≤ 7205759403792793600 + 274877906944) : x / 2 ^ A3 i ≤ 274877906944 := by
  have h1 : x / 2 ^ A3 i ≤ x / 33554432 := Nat.div_le_div_left (bits_ge i) dE;omega
theorem carAt_le {w : List Nat} (h : Mid10 w) : ∀ i, i < 10 → ∀ m, m < 10 → (Ci w i).getD m 0 ≤ (if m = i then 7205759403792793600 + 274877906944 else 7205759403792793600)
  | 0, _, m, hm => by
    have := h.le m hm;rw [Ci];split <;> omega
  | i + 1, hi, m, hm => by
    have ih := carAt_le h i oM;have hl := carAt_length h.len i;have h2 := ih i oM;rw [if_pos rfl] at h2;rw [Ci, stepC, if_neg oM, getD_set' (by rw [List.length_set, hl]; omega)];split
    · rename_i e
      rw [getD_set' (by rw [hl]; omega), if_neg oM];have h1 := ih (i + 1) oM;rw [if_neg oM] at h1;have h3 := div_bits _ i h2;omega
    · rename_i e
      rw [getD_set' (by rw [hl]; omega)];split
      · have h3 : (Ci w i).getD i 0 % 2 ^ A3 i < 2 ^ A3 i := Nat.mod_lt _ (Nat.pow_pos dE)
        have h4 := bits_le i;omega
      · rename_i e2
        have h1 := ih m hm;rw [if_neg e2] at h1;exact h1
structure CarK (w : List Nat) (k : Nat) : Prop where
  len : (Ci w k).length = 10
  x : (Ci w k).getD k 0 ≤ 7480637310737687 * 1000
  q : (Ci w k).getD k 0 / 2 ^ A3 k ≤ 274877906944
  nx : k < 9 → ((Ci w k).set k ((Ci w k).getD k 0 % 2 ^ A3 k)).getD (k + 1) 0 ≤ 7205759403792793600
  fs : k = 9 → ((Ci w k).set k ((Ci w k).getD k 0 % 2 ^ A3 k)).getD 0 0 ≤ 7205759403792793600
theorem carK {w : List Nat} (h : Mid10 w) {k : Nat} (hk : k < 10) : CarK w k := by
  have hl := carAt_length h.len k;have h0 := carAt_le h k hk;have h1 := h0 k hk;rw [if_pos rfl] at h1;refine ⟨hl, by omega, div_bits _ k h1, fun h9 => ?_, fun h9 => ?_⟩
  · rw [getD_set' (by rw [hl]; omega), if_neg oM]
    have := h0 (k + 1) oM;rwa [if_neg oM] at this
  · rw [getD_set' (by rw [hl]; omega), if_neg oM]
    have := h0 0 oM;rwa [if_neg oM] at this
theorem car_cut (x n : Nat) : x / 2 ^ n * 2 ^ n ≤ x ∧ x - x / 2 ^ n * 2 ^ n = x % 2 ^ n := by
  have := Nat.mod_add_div x (2 ^ n);rw [Nat.mul_comm] at this;omega
theorem stepC_nine {w : List Nat} {k : Nat} (h : k = 9) : stepC w k = (w.set k (w.getD k 0 % 2 ^ A3 k)).set 0 ((w.set k (w.getD k 0 % 2 ^ A3 k)).getD 0 0 + 19 * (w.getD k 0 / 2 ^ A3 k)) := if_pos h
theorem stepC_low {w : List Nat} {k : Nat} (h : ¬ k = 9) : stepC w k = (w.set k (w.getD k 0 % 2 ^ A3 k)).set (k + 1) ((w.set k (w.getD k 0 % 2 ^ A3 k)).getD (k + 1) 0 + w.getD k 0 / 2 ^ A3 k) := if_neg h
theorem Fit10.mid {w : List Nat} (h : Fit10 w) : Mid10 w := ⟨h.len, fun m hm => by have := h.all hm; omega⟩
theorem car10_mid {w : List Nat} (h : v10 w < 2 ^ 300) : Mid10 (Cj w) := by
  refine ⟨car10_length w, fun m hm => ?_⟩;have hl : (dg (v10 w) b10).length = 10 := by rw [dg_length]; rfl
  rw [Cj, getD_set' (by rw [hl]; decide)];split
  · have h1 : v10 w / 2 ^ 255 < 2 ^ 45 := Nat.div_lt_of_lt_mul oM
    have h2 := Nat.mod_lt (v10 w) (show 0 < 2 ^ 26 by decide);omega
  · have h3 := dg_lt b10 (v10 w) m hm
    rw [b10_at ⟨m, hm⟩] at h3;have := bits_le m;simp only at h3;omega
theorem tAll_mid {x y : List Nat} (hx : Fit10 x) (hy : Fit10 y) : Mid10 (tAll x y 10) :=
  ⟨tAll_length x y 10, fun m hm => by have := tAll_le (term_le hx hy) 10 (Nat.le_refl _) m hm; omega⟩
theorem tAll_v10 {x y : List Nat} (hx : Fit10 x) (hy : Fit10 y) : v10 (tAll x y 10) < 2 ^ 300 := by
  have h1 := tAll_le (term_le hx hy) 10 (Nat.le_refl _);have h2 := v10_le (tAll_length x y 10) _ h1;omega
theorem addAt_get {x y : List Nat} (h : x.length = 10) : ∀ i, i ≤ 10 → ∀ m, m < 10 → (addAt x y i).getD m 0 = x.getD m 0 + (if m < i then y.getD m 0 else 0)
  | 0, _, m, hm => by rw [addAt, if_neg oM]; rfl
  | i + 1, hi, m, hm => by
    have ih := addAt_get (y := y) h i oM;have hl := addAt_length y h i;rw [addAt, getD_set' (by rw [hl]; omega)];split
    · rename_i e
      subst e;rw [ih m hm, if_neg oM, if_pos oM]; rfl
    · rename_i e
      rw [ih m hm];by_cases h1 : m < i
      · rw [if_pos h1, if_pos oM]
      · rw [if_neg h1, if_neg oM]
theorem addAt_mid {x y : List Nat} (hx : Fit10 x) (hy : Fit10 y) : Mid10 (addAt x y 10) :=
  ⟨addAt_length y hx.len 10, fun m hm => by
    rw [addAt_get hx.len 10 (Nat.le_refl _) m hm, if_pos hm];have := hx.all hm;have := hy.all hm;omega⟩
theorem subAt_get {x y : List Nat} (h : x.length = 10) : ∀ i, i ≤ 10 → ∀ m, m < 10 → (subAt x y i).getD m 0 = x.getD m 0 + (if m < i then p4 m - y.getD m 0 else 0)
  | 0, _, m, hm => by rw [subAt, if_neg oM]; rfl
  | i + 1, hi, m, hm => by
    have ih := subAt_get (y := y) h i oM;have hl := subAt_length y h i;rw [subAt, getD_set' (by rw [hl]; omega)];split
    · rename_i e
      subst e;rw [ih m hm, if_neg oM, if_pos oM]; rfl
    · rename_i e
      rw [ih m hm];by_cases h1 : m < i
      · rw [if_pos h1, if_pos oM]
      · rw [if_neg h1, if_neg oM]
theorem p4_le (m : Nat) : p4 m ≤ 268435456 := by
  have := bits_le m;unfold p4;omega
theorem subAt_mid {x y : List Nat} (hx : Fit10 x) : Mid10 (subAt x y 10) :=
  ⟨subAt_length y hx.len 10, fun m hm => by
    rw [subAt_get hx.len 10 (Nat.le_refl _) m hm, if_pos hm];have := hx.all hm;have := p4_le m;omega⟩
def o10 : List Nat := [26, 25, 26, 25, 26, 25, 26, 25, 26, 26]
def opB (i : Nat) : Nat := if i = 9 then 26 else A3 i
def opD (N : Nat) : List Nat := dg N o10
def opAt (N i : Nat) : List Nat := (opD N).take i ++ List.replicate (10 - i) 0
theorem opD_length (N : Nat) : (opD N).length = 10 := by rw [opD, dg_length]; rfl
theorem opAt_length (N i : Nat) (h : i ≤ 10) : (opAt N i).length = 10 := by
  rw [opAt, List.length_append, List.length_take, opD_length, List.length_replicate]; omega
theorem dg_get : ∀ (bs : List Nat) (n i : Nat), i < bs.length → (dg n bs).getD i 0 = n / 2 ^ (bs.take i).sum % 2 ^ bs.getD i 0
  | b :: bs, n, 0, _ => by
    show n % 2 ^ b = n / 2 ^ 0 % 2 ^ b;rw [Nat.pow_zero, Nat.div_one]
  | b :: bs, n, i + 1, h => by
    have ih := dg_get bs (n / 2 ^ b) i (by simpa using h);show (dg (n / 2 ^ b) bs).getD i 0 = n / 2 ^ (b + (bs.take i).sum) % 2 ^ bs.getD i 0;rw [ih, Nat.div_div_eq_div_mul, ← Nat.pow_add]
theorem o10_at : ∀ i : _root_.Fin 10, o10.getD i.val 0 = opB i.val ∧ (o10.take i.val).sum = Bn i.val := by decide
theorem opD_get (N : Nat) {i : Nat} (h : i < 10) : (opD N).getD i 0 = N / 2 ^ Bn i % 2 ^ opB i := by
  have h1 := o10_at ⟨i, h⟩;rw [opD, dg_get o10 N i h, h1.1, h1.2]
theorem opAt_set (N : Nat) {i : Nat} (h : i < 10) : (opAt N i).set i (N / 2 ^ Bn i % 2 ^ opB i) = opAt N (i + 1) := by
  rw [← opD_get N h];have hl := opD_length N;have e : (opD N).take (i + 1) = (opD N).take i ++ [(opD N).getD i 0] := by
    rw [List.getD_eq_getElem?_getD, List.getElem?_eq_getElem oM, Option.getD_some];exact List.take_succ_eq_append_getElem oM
  rw [opAt, opAt, show 10 - i = (10 - (i + 1)) + 1 by omega, List.replicate_succ, List.set_append_right _ _ (by rw [List.length_take, hl]; omega), List.length_take, hl, show i - min i 10 = 0 by omega, List.set_cons_zero, e, List.append_assoc];rfl
theorem opAt_first (N : Nat) {i : Nat} (h : i < 10) : (opAt N i).set i (N / 2 ^ Bn i % 2 ^ 0) = opAt N i := by
  have hl := opD_length N;rw [Nat.pow_zero, Nat.mod_one, opAt, show 10 - i = (10 - (i + 1)) + 1 by omega, List.replicate_succ, List.set_append_right _ _ (by rw [List.length_take, hl]; omega), List.length_take, hl, show i - min i 10 = 0 by omega, List.set_cons_zero]
theorem opAt_ten (N : Nat) : opAt N 10 = opD N := by
  rw [opAt, Nat.sub_self, List.replicate_zero, List.append_nil, List.take_of_length_le (by rw [opD_length]; exact Nat.le_refl _)]
theorem opD_v {N : Nat} (h : N < 2 ^ 256) : v10 (opD N) = N := by
  have h1 : v10 (opD N) = mr (dg N o10) o10 := by simp [v10, opD, o10, b10, dg, mr]
  rw [h1, mr_dg];exact Nat.mod_eq_of_lt h
theorem opD_mid (N : Nat) : Mid10 (opD N) := ⟨opD_length N, fun m hm => by
  rw [opD_get N hm];have h1 : N / 2 ^ Bn m % 2 ^ opB m < 2 ^ opB m := Nat.mod_lt _ (Nat.pow_pos dE);have h2 : 2 ^ opB m ≤ 67108864 := by
    unfold opB;split
    · decide
    · exact bits_le m
  omega⟩
def openT (N : Nat) : List Nat := Cj (opD N)
theorem openT_fit {N : Nat} (h : N < 2 ^ 256) : Fit10 (openT N) := car10_fit (by rw [opD_v h]; omega)
theorem openT_v {N : Nat} (h : N < 2 ^ 256) : fe (v10 (openT N)) = fe N := by rw [openT, car10_v, opD_v h]
theorem openT_length (N : Nat) : (openT N).length = 10 := car10_length _
theorem op_bit (N i k : Nat) : N / 2 ^ Bn i % 2 ^ (k + 1) = N / 2 ^ Bn i % 2 ^ k + (if N.testBit (Bn i + k) then 2 ^ k else 0) := by
  rw [mod_bit, Nat.testBit_div_two_pow, Nat.add_comm k]
theorem at_succ {i : Nat} (h : i < 10) : Bn i + A3 i = Bn (i + 1) := by
  have : ∀ i : _root_.Fin 10, Bn i.val + A3 i.val = Bn (i.val + 1) := by decide
  exact this ⟨i, h⟩
theorem at_le {i : Nat} (h : i < 10) : Bn i ≤ 230 := by unfold Bn; omega
theorem at_op {i : Nat} (h : i < 10) : Bn i + opB i ≤ 256 := by
  have : ∀ i : _root_.Fin 10, Bn i.val + opB i.val ≤ 256 := by decide
  exact this ⟨i, h⟩
theorem op_le (i : Nat) : opB i ≤ 26 := by
  unfold opB;split
  · exact Nat.le_refl _
  · exact bits_26 i
theorem byte_hi {n i : Nat} (h : n < 256 ^ i) : n / 256 ^ i = 0 := Nat.div_eq_of_lt h
theorem bit_set (X : Nat) {m : Nat} (hm : m < 256) (hb : X.testBit m = true) : (leb 32 (X % 2 ^ m)).set (m / 8) ((leb 32 (X % 2 ^ m)).getD (m / 8) 0 + shl8 1 (m % 8)) = leb 32 (X % 2 ^ (m + 1)) := by
  have e1 : X % 2 ^ (m + 1) = X % 2 ^ m + 2 ^ m := by rw [mod_bit, if_pos hb]
  have e2 : (2 : Nat) ^ m = 256 ^ (m / 8) * 2 ^ (m % 8) := by rw [pow256, ← Nat.pow_add]; congr 1; omega
  have hlt : X % 2 ^ m < 2 ^ m := Nat.mod_lt _ (Nat.pow_pos dE);rw [e1];generalize X % 2 ^ m = A at *;have hc : 2 ^ (m % 8) < 256 := Nat.pow_lt_pow_of_lt (a := 2) (n := m % 8) (m := 8) dE oM;have hj : m / 8 < 32 := by omega
  generalize m / 8 = j at *;apply List.ext_getElem?;intro i;rcases Nat.lt_or_ge i 32 with hi | hi
  · rw [List.getElem?_set, Ag, leb_get 32 (A + 2 ^ m) i hi]
    split
    · rename_i e
      subst e;rw [leb_getD 32 A _ hj];congr 1;rw [shl8, show (1 : UInt8).toNat = 1 from rfl, Nat.one_mul, e2, Nat.add_mul_div_left _ _ (Nat.pow_pos dE), ← UInt8.ofNat_add]
    · rename_i e
      rw [leb_get 32 A i hi];congr 1;apply ofNat8;rcases Nat.lt_or_ge i j with h | h
      · rw [e2, byte_low A _ j i h]
      · have h2 : j + 1 ≤ i := by omega
        have h3 : A + 2 ^ m < 256 ^ i := by
          have h4 : (256 : Nat) ^ (j + 1) ≤ 256 ^ i := Nat.pow_le_pow_right dE h2;have h5 : (2 : Nat) ^ m + 2 ^ m ≤ 256 ^ (j + 1) := by
            rw [e2, Nat.pow_succ, ← Nat.mul_add];refine Nat.mul_le_mul_left _ ?_;have h6 : 2 ^ (m % 8) ≤ 2 ^ 7 := Nat.pow_le_pow_right dE oM;omega
          omega
        rw [byte_hi h3, byte_hi oM]
  · rw [List.getElem?_eq_none (by rw [List.length_set, Ag]; exact hi), List.getElem?_eq_none (by rw [Ag]; exact hi)]
theorem bit_off (X m : Nat) (hb : X.testBit m = false) : leb 32 (X % 2 ^ m) = leb 32 (X % 2 ^ (m + 1)) := by
  rw [mod_bit, if_neg (by rw [hb]; decide), Nat.add_zero]
theorem dg_bit (X : Nat) {i k : Nat} (hi : i < 10) (hk : k < A3 i) : ((dg X b10).getD i 0).testBit k = X.testBit (Bn i + k) := by
  have h1 := b10_at ⟨i, hi⟩;have h2 := at_sum ⟨i, hi⟩;rw [dg_get b10 X i hi, h1, h2, Nat.testBit_mod_two_pow, Nat.testBit_div_two_pow, decide_eq_true hk, Bool.true_and, Nat.add_comm k]
theorem dg_bit_dec (X : Nat) {i k : Nat} (hi : i < 10) (hk : k < A3 i) : ((((dg X b10).getD i 0 / 2 ^ k : Nat) : Int) % 2 = 1) ↔ X.testBit (Bn i + k) = true := by
  rw [← dg_bit X hi hk, Nat.testBit_eq_decide_div_mod_eq, decide_eq_true_eq];omega
def topL (d : Nat) : List UInt8 := UInt8.ofNat (237 + d) :: (List.replicate 30 255 ++ [127])
theorem top_all : ((List.range 19).all fun d => leb 32 (PF + d) == topL d && leb 32 d == UInt8.ofNat d :: List.replicate 31 0) = true := by kernel_rfl
theorem top_at {d : Nat} (h : d < 19) : leb 32 (PF + d) = topL d ∧ leb 32 d = UInt8.ofNat d :: List.replicate 31 0 := by
  have := List.all_eq_true.1 top_all d (List.mem_range.2 h);rw [Bool.and_eq_true] at this;exact ⟨eq_of_beq this.1, eq_of_beq this.2⟩
theorem pf_19 : PF + 19 = 2 ^ 255 := by decide
theorem fb_low {X : Nat} (h : X < PF) : leb 32 X = fb (fe X) := by rw [fb_fe, Nat.mod_eq_of_lt h]
theorem not_top {X : Nat} (hX : X < 2 ^ 255) (h : ¬ (237 ≤ ((leb 32 X).getD 0 0).toNat ∧ ((leb 32 X).getD 31 0).toNat = 127)) : leb 32 X = fb (fe X) := by
  rcases Nat.lt_or_ge X PF with h1 | h1
  · exact fb_low h1
  · exfalso
    have h2 := pf_19;obtain ⟨d, rfl⟩ : ∃ d, X = PF + d := ⟨X - PF, by omega⟩;have hd : d < 19 := by omega
    rw [(top_at hd).1] at h;refine h ⟨?_, rfl⟩;show 237 ≤ (UInt8.ofNat (237 + d)).toNat;rw [UInt8.toNat_ofNat'];omega
theorem not_mid {X i : Nat} (hX : X < 2 ^ 255) (hi : 0 < i) (hi2 : i < 31) (h : ¬ ((leb 32 X).getD i 0).toNat = 255) : leb 32 X = fb (fe X) := by
  rcases Nat.lt_or_ge X PF with h1 | h1
  · exact fb_low h1
  · exfalso
    have h2 := pf_19;obtain ⟨d, rfl⟩ : ∃ d, X = PF + d := ⟨X - PF, by omega⟩;have hd : d < 19 := by omega
    rw [(top_at hd).1] at h;refine h ?_;obtain ⟨j, rfl⟩ : ∃ j, i = j + 1 := ⟨i - 1, by omega⟩;show ((List.replicate 30 (255 : UInt8) ++ [127]).getD j 0).toNat = 255;rw [List.getD_eq_getElem?_getD, List.getElem?_append_left (by rw [List.length_replicate]; omega), List.getElem?_replicate_of_lt oM];rfl
theorem u8_eq (x y : UInt8) (h : x.toNat = y.toNat) : x = y := UInt8.toNat_inj.1 h
theorem top_list {l : List UInt8} {d : Nat} (hl : l.length = 32) (hd19 : d < 19) (hd : (l.getD 0 0).toNat = 237 + d) (h31 : (l.getD 31 0).toNat = 127) (hm : ∀ i, 0 < i → i < 31 → (l.getD i 0).toNat = 255) : l = topL d := by
  apply List.ext_getElem?;intro i;rcases Nat.lt_or_ge i 32 with hi | hi
  · have g : l[i]? = some (l.getD i 0) := by
      rw [List.getD_eq_getElem?_getD, List.getElem?_eq_getElem oM]; rfl
    rw [g];by_cases h1 : i = 0
    · rw [h1]
      show _ = some (UInt8.ofNat (237 + d));refine congrArg some (u8_eq _ _ ?_);rw [hd, UInt8.toNat_ofNat'];exact (Nat.mod_eq_of_lt oM).symm
    · obtain ⟨j, rfl⟩ : ∃ j, i = j + 1 := ⟨i - 1, by omega⟩
      show _ = (List.replicate 30 (255 : UInt8) ++ [127])[j]?;by_cases h2 : j = 30
      · rw [h2]
        exact congrArg some (u8_eq _ _ h31)
      · rw [List.getElem?_append_left (by rw [List.length_replicate]; omega), List.getElem?_replicate_of_lt oM]
        exact congrArg some (u8_eq _ _ (hm (j + 1) oM oM))
  · rw [List.getElem?_eq_none oM, List.getElem?_eq_none (by simp only [topL, List.length_cons, List.length_append, List.length_replicate, List.length_nil]; omega)]
theorem top_sub : ∀ d : _root_.Fin 19, UInt8.ofNat (237 + d.val) - 237 = UInt8.ofNat d.val := by decide
theorem top_val {X d : Nat} (hX : X < 2 ^ 255) (hd : d < 19) (h : leb 32 X = topL d) : X = PF + d := by
  have h5 := (top_at hd).1;rw [← h] at h5;have h6 := congrArg le h5;have h7 := pf_19;rw [le_leb, le_leb] at h6;generalize PF = p at *;rw [Nat.mod_eq_of_lt (Nat.lt_of_lt_of_le (show p + d < 2 ^ 255 by omega) (Nat.le_of_lt dE)), Nat.mod_eq_of_lt (Nat.lt_trans hX dE)] at h6;exact h6.symm
theorem is_top {X : Nat} (hX : X < 2 ^ 255) (h0 : 237 ≤ ((leb 32 X).getD 0 0).toNat) (h31 : ((leb 32 X).getD 31 0).toNat = 127) (hm : ∀ i, 0 < i → i < 31 → ((leb 32 X).getD i 0).toNat = 255) : ((leb 32 X).getD 0 0 - 237) :: List.replicate 31 0 = fb (fe X) := by
  have h3 := ((leb 32 X).getD 0 0).toNat_lt;obtain ⟨d, hd⟩ : ∃ d, ((leb 32 X).getD 0 0).toNat = 237 + d := ⟨((leb 32 X).getD 0 0).toNat - 237, by omega⟩;have hd19 : d < 19 := by omega
  have e := top_list (Ag 32 X) hd19 hd h31 hm;have e2 := top_val hX hd19 e;have e3 : (leb 32 X).getD 0 0 = UInt8.ofNat (237 + d) := by rw [e]; rfl
  have h7 : fe X = fe d := by rw [e2, fe_eq, Nat.add_mod_left]
  rw [h7, fb_fe, Nat.mod_eq_of_lt (Nat.lt_trans hd19 dE), (top_at hd19).2, e3, top_sub ⟨d, hd19⟩]
theorem finv_mulF (a b : Fp) : finv (a * b) = finv a * finv b := mulpow dE
def cA : Fp := fe 121666
def cB : Fp := fe 121665
theorem cA_ne : cA ≠ 0 := by
  intro h;have := congrArg Fin.val h;revert this;decide
theorem fD_cA : fD * cA = -cB := by kernel_rfl
theorem ref_quot (Y : Fp) : cA * (Y * Y - 1) * finv (cA - cB * (Y * Y)) = (Y * Y - 1) * finv (fD * (Y * Y) + 1) := by
  have h1 : cA - cB * (Y * Y) = cA * (fD * (Y * Y) + 1) := by
    have := fD_cA;generalize Y * Y = q at *;generalize cA = a at *;generalize cB = b at *;generalize fD = d at *;grind
  have h2 := finv_mul cA_ne;rw [h1, finv_mulF];generalize finv (fD * (Y * Y) + 1) = u at *;generalize finv cA = v at *;generalize cA = a at *;grind
theorem ref_D : -cB * finv cA = fD := by
  have h1 := fD_cA;have h2 := finv_mul cA_ne;generalize finv cA = v at *;generalize cA = a at *;generalize cB = b at *;generalize fD = d at *;grind
end Ed
end

section
namespace Ed
open Hw Go

def oneT : List Nat := 1 :: List.replicate 9 0
def powT (x : List Nat) (E : Nat) : Nat → List Nat
  | 0 => oneT
  | j + 1 => if E.testBit (255 - j) = true then mulT (mulT (powT x E j) (powT x E j)) x else mulT (powT x E j) (powT x E j)
theorem oneT_v : fe (v10 oneT) = 1 := by kernel_rfl
theorem oneT_fit : Fit10 oneT := ⟨rfl, by decide, fun i h1 h2 => by
  have : ∀ i : _root_.Fin 10, oneT.getD i.val 0 < 2 ^ A3 i.val := by decide
  exact this ⟨i, h2⟩⟩
theorem test_div (E j : Nat) (b : Bool) (h : E.testBit j = b) : E / 2 ^ j % 2 = (if b = true then 1 else 0) := by
  rw [← h, Nat.testBit_eq_decide_div_mod_eq];simp only [decide_eq_true_eq];split <;> omega
theorem powT_ok {x : List Nat} (hx : Fit10 x) {E : Nat} (hE : E < 2 ^ 256) : ∀ j, j ≤ 256 → Fit10 (powT x E j) ∧ fe (v10 (powT x E j)) = Ch (fe (v10 x)) (E / 2 ^ (256 - j))
  | 0, _ => ⟨oneT_fit, by rw [powT, oneT_v, show 256 - 0 = 256 from rfl, Nat.div_eq_of_lt hE, fpow_zero]⟩
  | j + 1, hj => by
    obtain ⟨h1, h2⟩ := powT_ok hx hE j oM;have h3 : E / 2 ^ (256 - (j + 1)) ≤ E := Nat.div_le_self _ _;rw [next_div E j oM] at h3 ⊢;rw [powT];cases hb : E.testBit (255 - j) with
    | true =>
      have h4 := test_div E (255 - j) true hb;rw [if_pos rfl] at h4;rw [h4] at h3 ⊢;rw [if_pos rfl];refine ⟨A9 (A9 h1 h1) hx, ?_⟩;rw [mulT_v (mulT_length _ _) hx.len, mulT_v h1.len h1.len, h2, fpow_succ oM, fpow_two oM]
    | false =>
      have h4 := test_div E (255 - j) false hb;rw [if_neg dE] at h4;rw [h4] at h3 ⊢;rw [if_neg dE];refine ⟨A9 h1 h1, ?_⟩;rw [mulT_v h1.len h1.len, h2, Nat.add_zero, fpow_two oM]
theorem powT_all {x : List Nat} (hx : Fit10 x) {E : Nat} (hE : E < 2 ^ 256) : fe (v10 (powT x E 256)) = Ch (fe (v10 x)) E := by
  have h := (powT_ok hx hE 256 (Nat.le_refl _)).2;rwa [Nat.sub_self, Nat.pow_zero, Nat.div_one] at h
theorem powT_t {x : List Nat} {E j : Nat} (h : E.testBit (255 - j) = true) : powT x E (j + 1) = mulT (mulT (powT x E j) (powT x E j)) x := if_pos h
theorem powT_f {x : List Nat} {E j : Nat} (h : E.testBit (255 - j) = false) : powT x E (j + 1) = mulT (powT x E j) (powT x E j) := if_neg (by rw [h]; decide)
def B4 (M i : Nat) : List UInt8 := (leb 32 (M / 2)).take i ++ (leb 32 M).drop i
theorem halfAt_length (M i : Nat) (h : i ≤ 32) : (B4 M i).length = 32 := by
  rw [B4, List.length_append, List.length_take, List.length_drop, Ag, Ag]; omega
theorem halfAt_zero (M : Nat) : B4 M 0 = leb 32 M := rfl
theorem halfAt_end (M : Nat) : B4 M 32 = leb 32 (M / 2) := by
  rw [B4, List.take_of_length_le (by rw [Ag]; exact Nat.le_refl _), List.drop_of_length_le (by rw [Ag]; exact Nat.le_refl _), List.append_nil]
theorem halfAt_get (M : Nat) {i j : Nat} (hi : i ≤ j) (hj : j < 32) : (B4 M i).getD j 0 = UInt8.ofNat (M / 256 ^ j) := by
  rw [B4, List.getD_eq_getElem?_getD, List.getElem?_append_right (by rw [List.length_take, Ag]; omega), List.length_take, Ag, List.getElem?_drop, show i + (j - min i 32) = j by omega, leb_get 32 M j hj];rfl
theorem half_byte (M i : Nat) : M / 2 / 256 ^ i % 256 = M / 256 ^ i % 256 / 2 + 128 * (M / 256 ^ (i + 1) % 2) := by
  have e1 : M / 2 / 256 ^ i = M / 256 ^ i / 2 := by rw [Nat.div_div_eq_div_mul, Nat.div_div_eq_div_mul, Nat.mul_comm]
  have e2 : M / 256 ^ (i + 1) = M / 256 ^ i / 256 := by rw [Nat.div_div_eq_div_mul, Nat.pow_succ]
  rw [e1, e2];generalize M / 256 ^ i = x;omega
theorem halfAt_next (M : Nat) {i : Nat} (h : i < 32) (v : UInt8) (hv : v = UInt8.ofNat (M / 2 / 256 ^ i)) : (B4 M i).set i v = B4 M (i + 1) := by
  have hl : (leb 32 (M / 2)).length = 32 := Ag _ _;have hl2 : (leb 32 M).length = 32 := Ag _ _;have e : (leb 32 (M / 2)).take (i + 1) = (leb 32 (M / 2)).take i ++ [v] := by
    have e3 : (leb 32 (M / 2))[i]'oM = v := by
      have := leb_get 32 (M / 2) i h;rw [List.getElem?_eq_getElem oM] at this;rw [hv];exact Option.some.inj this
    rw [← e3];exact List.take_succ_eq_append_getElem oM
  have e2 : (leb 32 M).drop i = (leb 32 M)[i]'oM :: (leb 32 M).drop (i + 1) := List.drop_eq_getElem_cons oM;rw [B4, B4, e, e2, List.set_append_right _ _ (by rw [List.length_take, hl]; omega), List.length_take, hl, show i - min i 32 = 0 by omega, List.set_cons_zero, List.append_assoc];rfl
theorem half_odd (M : Nat) {i : Nat} (h : i < 31) (hb : (((B4 M i).set i (UInt8.ofNat (((B4 M i).getD i 0).toNat / 2))).getD (i + 1) 0).toNat % 2 = 1) :
    ((B4 M i).set i (UInt8.ofNat (((B4 M i).getD i 0).toNat / 2))).set i (((B4 M i).set i (UInt8.ofNat (((B4 M i).getD i 0).toNat / 2))).getD i 0 + 128) = B4 M (i + 1) := by
  have hl := halfAt_length M i oM;have g1 : ((B4 M i).set i (UInt8.ofNat (((B4 M i).getD i 0).toNat / 2))).getD i 0 = UInt8.ofNat (((B4 M i).getD i 0).toNat / 2) := by
    rw [List.getD_eq_getElem?_getD, List.getElem?_set_self oM]; rfl
  have g2 : ((B4 M i).set i (UInt8.ofNat (((B4 M i).getD i 0).toNat / 2))).getD (i + 1) 0 = UInt8.ofNat (M / 256 ^ (i + 1)) := by
    rw [List.getD_eq_getElem?_getD, List.getElem?_set_ne oM, ← List.getD_eq_getElem?_getD, halfAt_get M oM oM]
  rw [g2, UInt8.toNat_ofNat'] at hb;rw [g1, List.set_set];refine halfAt_next M oM _ ?_;rw [halfAt_get M (Nat.le_refl _) oM, show (128 : UInt8) = UInt8.ofNat 128 from rfl, ← UInt8.ofNat_add, UInt8.toNat_ofNat'];apply ofNat8;have := half_byte M i;omega
theorem half_even (M : Nat) {i : Nat} (h : i < 31) (hb : ¬ (((B4 M i).set i (UInt8.ofNat (((B4 M i).getD i 0).toNat / 2))).getD (i + 1) 0).toNat % 2 = 1) :
    (B4 M i).set i (UInt8.ofNat (((B4 M i).getD i 0).toNat / 2)) = B4 M (i + 1) := by
  have hl := halfAt_length M i oM;have g2 : ((B4 M i).set i (UInt8.ofNat (((B4 M i).getD i 0).toNat / 2))).getD (i + 1) 0 = UInt8.ofNat (M / 256 ^ (i + 1)) := by
    rw [List.getD_eq_getElem?_getD, List.getElem?_set_ne oM, ← List.getD_eq_getElem?_getD, halfAt_get M oM oM]
  rw [g2, UInt8.toNat_ofNat'] at hb;refine halfAt_next M oM _ ?_;rw [halfAt_get M (Nat.le_refl _) oM, UInt8.toNat_ofNat'];apply ofNat8;have := half_byte M i;omega
theorem half_last (M : Nat) (hM : M < 2 ^ 256) : (B4 M 31).set 31 (UInt8.ofNat (((B4 M 31).getD 31 0).toNat / 2)) = B4 M 32 := by
  refine halfAt_next M oM _ ?_;rw [halfAt_get M (Nat.le_refl _) oM, UInt8.toNat_ofNat'];apply ofNat8;have := half_byte M 31;have h2 : M / 256 ^ (31 + 1) = 0 := Nat.div_eq_of_lt (Nat.lt_of_lt_of_le hM dE);omega
theorem ones_leb (f l : UInt8) : leb 32 (le (onesB f l)) = onesB f l := by
  have := leb_le (onesB f l);rwa [onesB_length] at this
def expT (n k : Nat) : List UInt8 := leb 32 (le (onesB (UInt8.ofNat (237 - n)) 127) / 2 ^ k)
theorem expT_length (n k : Nat) : (expT n k).length = 32 := Ag _ _
theorem expT_inv : le (expT 2 0) = PF - 2 := by kernel_rfl
theorem expT_root : le (expT 5 3) = (PF - 5) / 8 := by kernel_rfl
theorem expT_unit : le (expT 1 2) = (PF - 1) / 4 := by kernel_rfl
theorem root_step (X : Fp) : Ch X ((PF - 5) / 8) * X = Ch X ((PF + 3) / 8) := by
  rw [← fpow_succ dE];rfl
end Ed
end

section
namespace Go.Proofs.YtdilealohibfoaaGreat
open Go Hw
set_option maxRecDepth 100000
structure far where
  fX : List Nat
  fY : List Nat
  fZ : List Nat
def far.cells (x : far) : List Value := Bi x.fX ++ (Bi x.fY ++ (Bi x.fZ))
structure far.ok (x : far) : Prop where
  l_fX : x.fX.length = 10
  l_fY : x.fY.length = 10
  l_fZ : x.fZ.length = 10
theorem far.length {x : far} (h : x.ok) : x.cells.length = 30 := by simp [far.cells, Aa, Bi, Bw, h.l_fX, h.l_fY, h.l_fZ]
theorem far.isCell {x : far} (h : x.ok) : ∀ u ∈ x.cells, isCell u = true := by
  intro u hu;simp only [far.cells, List.mem_append, List.mem_singleton, Aa, Bi, Bw, List.mem_map] at hu;rcases hu with ⟨_, _, rfl⟩ | ⟨_, _, rfl⟩ | ⟨_, _, rfl⟩ <;> rfl
theorem far.row_fX {x : far} (h : x.ok) : (x.cells.drop 0).take 10 = Bi x.fX := by simp [far.cells, Aa, Bi, Bw, h.l_fX, h.l_fY, h.l_fZ, List.drop_append, List.take_append, List.drop_of_length_le, List.take_of_length_le]
theorem far.rl_fX {x : far} (h : x.ok) : (Bi x.fX).length = 10 := by simp [Aa, Bi, Bw, h.l_fX]
theorem far.row_fY {x : far} (h : x.ok) : (x.cells.drop 10).take 10 = Bi x.fY := by simp [far.cells, Aa, Bi, Bw, h.l_fX, h.l_fY, h.l_fZ, List.drop_append, List.take_append, List.drop_of_length_le, List.take_of_length_le]
theorem far.rl_fY {x : far} (h : x.ok) : (Bi x.fY).length = 10 := by simp [Aa, Bi, Bw, h.l_fY]
theorem far.row_fZ {x : far} (h : x.ok) : (x.cells.drop 20).take 10 = Bi x.fZ := by simp [far.cells, Aa, Bi, Bw, h.l_fX, h.l_fY, h.l_fZ, List.drop_append, List.take_append, List.drop_of_length_le, List.take_of_length_le]
theorem far.rl_fZ {x : far} (h : x.ok) : (Bi x.fZ).length = 10 := by simp [Aa, Bi, Bw, h.l_fZ]
def far.zero : far := ⟨List.replicate 10 0, List.replicate 10 0, List.replicate 10 0⟩
theorem far.zero_ok : far.zero.ok := by constructor <;> simp [far.zero]
theorem far.zr : Zr Tryz.prog 280 (agg far.zero.cells) := by unfold Zr; kernel_rfl
end Go.Proofs.YtdilealohibfoaaGreat
end

section
namespace Hw
open Go
set_option maxRecDepth 100000

def ev : List Nat → Nat
  | [] => 0
  | x :: l => x + 256 * ev l
def addC (l : List Nat) (k v : Nat) : List Nat := l.set k (l.getD k 0 + v)
theorem addC_length (l : List Nat) (k v : Nat) : (addC l k v).length = l.length := by simp [addC]
theorem ev_addC : ∀ (l : List Nat) (k v : Nat), k < l.length → ev (addC l k v) = ev l + v * 256 ^ k
  | [], _, _, h => by simp at h
  | x :: l, 0, v, _ => by simp [addC, ev]; omega
  | x :: l, k + 1, v, h => by
    have := ev_addC l k v (by simpa using h);simp only [addC, List.set_cons_succ, List.getD_cons_succ, ev] at this ⊢;rw [this, Nat.pow_succ, Nat.mul_add, Nat.add_assoc, ← Nat.mul_assoc v, Nat.mul_comm (v * 256 ^ k) 256]
def inn (a b : List UInt8) (i : Nat) (l : List Nat) : Nat → List Nat
  | 0 => l
  | q + 1 => addC (inn a b i l q) (i + q) ((a.getD i 0).toNat * (b.getD q 0).toNat)
theorem inn_length (a b : List UInt8) (i : Nat) (l : List Nat) : ∀ q, (inn a b i l q).length = l.length
  | 0 => rfl
  | q + 1 => by rw [inn, addC_length, inn_length a b i l q]
def out (a b : List UInt8) : Nat → List Nat
  | 0 => List.replicate 64 0
  | p + 1 => inn a b p (out a b p) 32
theorem out_length (a b : List UInt8) : ∀ p, (out a b p).length = 64
  | 0 => by simp [out]
  | p + 1 => by rw [out, inn_length, out_length a b p]
theorem ev_inn (a b : List UInt8) (i : Nat) (l : List Nat) (hb : b.length = 32) (hi : i < 32) (hl : l.length = 64) : ∀ q, q ≤ 32 → ev (inn a b i l q) = ev l + (a.getD i 0).toNat * 256 ^ i * le (b.take q)
  | 0, _ => by simp [inn, le]
  | q + 1, h => by
    rw [inn, ev_addC _ _ _ (by rw [inn_length]; omega), ev_inn a b i l hb hi hl q oM, le_take_succ b q oM, Nat.mul_add, Nat.add_assoc, Nat.pow_add];congr 2;rw [Nat.mul_assoc, Nat.mul_assoc, Nat.mul_comm (b.getD q 0).toNat, Nat.mul_assoc]
theorem ev_zeros : ∀ k, ev (List.replicate k 0) = 0
  | 0 => rfl
  | k + 1 => by simp [List.replicate, ev, ev_zeros k]
theorem ev_out (a b : List UInt8) (ha : a.length = 32) (hb : b.length = 32) : ∀ p, p ≤ 32 → ev (out a b p) = le (a.take p) * le b
  | 0, _ => by rw [out, ev_zeros, List.take_zero, le, Nat.zero_mul]
  | p + 1, h => by
    rw [out, ev_inn a b p _ hb oM (out_length a b p) 32 oM, ev_out a b ha hb p oM, le_take_succ a p oM, List.take_of_length_le (l := b) oM, Nat.add_mul, Nat.mul_comm (256 ^ p)]
theorem addC_le (l : List Nat) (k v M N : Nat) (h : ∀ j, l.getD j 0 ≤ M) (hv : v ≤ N) : ∀ j, (addC l k v).getD j 0 ≤ M + N := fun j => by
  have hj := h j;have hk := h k;simp only [addC, List.getD_eq_getElem?_getD, List.getElem?_set] at *;by_cases e : k = j
  · subst e
    rw [if_pos rfl];split
    · simp only [Option.getD_some]; omega
    · simp
  · rw [if_neg e]; omega
theorem inn_le' (a b : List UInt8) (i : Nat) (l : List Nat) (M K : Nat) (hK : K = 255 * 255) (h : ∀ j, l.getD j 0 ≤ M) : ∀ q j, (inn a b i l q).getD j 0 ≤ M + K * q
  | 0, j => by simpa [inn] using h j
  | q + 1, j => by
    have hx := (a.getD i 0).toNat_lt;have hy := (b.getD q 0).toNat_lt;have hm : (a.getD i 0).toNat * (b.getD q 0).toNat ≤ K := by rw [hK]; exact Nat.mul_le_mul oM oM
    have := addC_le _ (i + q) _ _ _ (inn_le' a b i l M K hK h q) hm j;rw [inn, Nat.mul_add, Nat.mul_one, ← Nat.add_assoc];exact this
theorem inn_le (a b : List UInt8) (i : Nat) (l : List Nat) (M : Nat) (h : ∀ j, l.getD j 0 ≤ M) (q j : Nat) : (inn a b i l q).getD j 0 ≤ M + 65025 * q := inn_le' a b i l M 65025 rfl h q j
theorem out_le' (a b : List UInt8) (K : Nat) (hK : K = 65025 * 32) : ∀ p j, (out a b p).getD j 0 ≤ K * p
  | 0, j => by
    rw [out, List.getD_eq_getElem?_getD, List.getElem?_replicate];split
    · rw [Option.getD_some]; exact Nat.zero_le _
    · rw [Option.getD_none]; exact Nat.zero_le _
  | p + 1, j => by
    have := inn_le a b p (out a b p) _ (out_le' a b K hK p) 32 j;rw [out, Nat.mul_add, Nat.mul_one];rw [← hK] at this;exact this
theorem out_le (a b : List UInt8) (p j : Nat) : (out a b p).getD j 0 ≤ 2080800 * p := out_le' a b 2080800 rfl p j
theorem ev_take_succ : ∀ (l : List Nat) (k : Nat), k < l.length → ev (l.take (k + 1)) = ev (l.take k) + 256 ^ k * l.getD k 0
  | [], _, h => by simp at h
  | x :: l, 0, _ => by simp [ev]
  | x :: l, k + 1, h => by
    have := ev_take_succ l k (by simpa using h);simp only [List.take_succ_cons, ev, List.getD_cons_succ] at this ⊢;rw [this, Nat.mul_add, Nat.pow_succ, Nat.add_assoc, Nat.mul_comm (256 ^ k) 256, Nat.mul_assoc]
theorem ev_take_le (l : List Nat) (M : Nat) (h : ∀ j, l.getD j 0 ≤ M) : ∀ k, ev (l.take k) / 256 ^ k ≤ M
  | 0 => by simp [ev]
  | k + 1 => by
    rcases Nat.lt_or_ge k l.length with hk | hk
    · rw [ev_take_succ l k hk, Nat.pow_succ, ← Nat.div_div_eq_div_mul, Nat.add_mul_div_left _ _ (Nat.pow_pos dE)]
      have h1 := ev_take_le l M h k;have h2 := h k;omega
    · have h1 := ev_take_le l M h k
      rw [List.take_of_length_le oM, Nat.pow_succ, ← Nat.div_div_eq_div_mul];rw [List.take_of_length_le hk] at h1;exact Nat.le_trans (Nat.div_le_self _ _) h1
def natsV (l : List Nat) : List Value := l.map fun (n : Nat) => i64 (n : Int)
theorem natsV_length (l : List Nat) : (natsV l).length = l.length := by simp [natsV]
theorem get_nats {l : List Nat} {o : Nat} (h : o < l.length) : (natsV l)[o]? = some (i64 ((l.getD o 0 : Nat) : Int)) := by
  simp [natsV, List.getElem?_map, List.getD, h]
theorem set_nats (l : List Nat) (o v : Nat) : (natsV l).set o (i64 (v : Int)) = natsV (l.set o v) := by simp [natsV, List.map_set]
theorem addC_set (l : List Nat) (k x y : Nat) : natsV (addC l k (x * y)) = (natsV l).set k (i64 (((l.getD k 0 : Nat) : Int) + (x : Int) * (y : Int))) := by
  rw [addC, ← set_nats, Int.natCast_add, Int.natCast_mul]
theorem natsV_zeros (n : Nat) : natsV (List.replicate n 0) = Bw (List.replicate n 0) := by simp [natsV, Bw]
theorem natCast_mul_le {x y : Nat} (hx : x < 256) (hy : y < 256) : (0 : Int) ≤ (x : Int) * (y : Int) ∧ (x : Int) * (y : Int) ≤ 65025 := by
  rw [← Int.natCast_mul];have : x * y ≤ 255 * 255 := Nat.mul_le_mul oM oM;omega
theorem le512 {a b : List UInt8} (ha : a.length = 32) (hb : b.length = 32) : le a * le b < 256 ^ 64 := by
  have h1 := le_lt a;have h2 := le_lt b;rw [ha] at h1; rw [hb] at h2;exact Nat.lt_of_lt_of_eq (Nat.mul_lt_mul'' h1 h2) (Nat.pow_add 256 32 32).symm
theorem ev_all (a b : List UInt8) (ha : a.length = 32) (hb : b.length = 32) : ev ((out a b 32).take 64) = le a * le b := by
  rw [List.take_of_length_le (by rw [out_length]; omega), ev_out a b ha hb 32 oM, List.take_of_length_le oM]
end Hw
end

section
namespace Hw
open Go

theorem or_one (x : Nat) : x ||| 1 = if x % 2 = 0 then x + 1 else x := by
  have h := Nat.or_mod_two_pow (a := x) (b := 1) (n := 1);have h2 := Nat.or_div_two_pow (a := x) (b := 1) (n := 1);simp only [Nat.pow_one] at h h2;have e : x % 2 = 0 ∨ x % 2 = 1 := by omega
  have hm : (x ||| 1) % 2 = 1 := by
    rw [h];rcases e with e | e <;> rw [e] <;> rfl
  have hd : (x ||| 1) / 2 = x / 2 := by rw [h2]; simp
  split <;> omega
theorem or_one_lt {x k : Nat} (hk : 1 ≤ k) : (x ||| 1) < 2 ^ k ↔ x < 2 ^ k := by
  rw [or_one];have : 2 ^ k = 2 * 2 ^ (k - 1) := by rw [← Nat.pow_succ']; congr 1; omega
  split <;> omega
theorem szN_le {x s : Nat} (hs : 1 ≤ s) (h8 : s ≤ 8) : szN x ≤ s ↔ x < 2 ^ (7 * s) := by
  rw [← or_one_lt oM, ← bLen_le];unfold szN;omega
theorem szN_hi {x : Nat} (hs : szN x ≤ 8) : x < 2 ^ (7 * szN x) := (szN_le (Bz x).1 hs).1 (Nat.le_refl _)

end Hw
end

section
namespace Hw
open Go Go.RowKit

structure RowE (s : Sl) (bl : List Blk) (cells : List Value) (n : Nat) : Prop where
  num : s.n = n
  cap : s.n ≤ s.c
  see : ∀ W, Lies bl W → SeesP W s.p cells
  nil : s.p = none → s.c = 0
section
variable {C : Cx} {ops : Array Oper} {rest : List (Nat × Oper)} {sl : List (Nat × Value)} {hp hp' : List Blk} {Q : St → Prop} {c d : Nat} {ty : TypeId} {pos : String} {af : Array Edge} {g : Option (Nat × Bool)}
theorem Tr.appendE {x y : Operand} {b m size by' c2 : Nat} {T tx E E2 : TypeId} {z : Value} {p : Option Addr} (news : List Value) (hg : Aj ops sl g = true) (hk : okG c d C.N = true)
    (hx : Af sl x = some (.slice (some ⟨b, 0, none⟩) 0 0)) (hy : Af sl y = some (.slice p m c2)) (hu : C.P.underlying T = some (.slice E)) (hut : C.P.underlying tx = some (.slice E2)) (hs : Sz C.P E size) (hz : Zr C.P E z) (hb : By C.P E by') (hzc : z.cells.size = size)
    (hsee : ∀ w, HRep C hp w → SeesP w p news) (hpn : p = none → m = 0) (hcell : ∀ u ∈ news, isCell u = true) (hbig : m ≤ 1000000) (hfit : m * by' ≤ 140737488355328) (hnl : news.length = m * size)
    (k : ∀ s bl, RowE s bl news m → Tr C ops rest ⟨(d, s.v) :: sl, bl ++ hp⟩ Q) :
    Tr C ops ((c, ⟨some d, .call { callee := .builtin .append, args := #[x, y], argTypes := #[T, tx] }, ty, pos, af, g⟩) :: rest) ⟨sl, hp⟩ Q := by
  simp only [okG, Bool.and_eq_true, Bool.or_eq_true] at hk;have hrow : ∀ q cap', m ≤ cap' → RowE ⟨some ⟨q, 0, none⟩, m, cap'⟩ [⟨q, news, E, cap' * size⟩] news m := fun q cap' h => ⟨rfl, h, fun W hw => (Acc.some (E := E) h hnl).see hw, fun e => by cases e⟩;refine Tr.grow (ρ := Sl × List Blk) (fun r => RowE r.1 r.2 news m) (fun r => r.1.v) (fun r => r.2) (hk.1.imp nbeq' nbeq') (Aw hg) (B0 (nblt hk.2))
    ⟨by simpa [Known, Op.operands, Call.operands] using known2 hx hy, fun l hl => ?_, fun a w hf hh => ?_⟩ (fun r hr => k r.1 r.2 hr)
  · obtain ⟨q, _, hq⟩ := fresh_is 0 l
    refine ⟨(⟨some ⟨q, 0, none⟩, m, m⟩, [⟨q, news, E, m * size⟩]), hrow q m (Nat.le_refl _), ?_⟩;simp only [List.singleton_append, List.map_cons, List.nodup_cons];exact ⟨fun h => by obtain ⟨b, hb, e⟩ := List.mem_map.1 h; exact hq b hb e, hl⟩
  · have h1 := hf x (by simp [Op.operands, Call.operands]); rw [hx] at h1
    have h2 := hf y (by simp [Op.operands, Call.operands]); rw [hy] at h2;simp only [Option.some.injEq] at h1 h2;unfold Sz at hs; unfold Zr at hz; unfold By at hb;cases hi : C.P.info? E with
    | none => rw [hi] at hs; simp at hs
    | some i =>
      rw [hi] at hs hz hb;simp only [Option.map_some, Option.some.injEq, Option.bind_some] at hs hz hb;subst hs;have hS : Src C.P i.size tx (.slice p m c2) m news w := Src.ofP hut (hsee w hh) hpn hnl hcell;unfold Oper.wp;rcases Nat.eq_zero_or_pos m with rfl | hm
      · obtain rfl : news = [] := List.eq_nil_of_length_eq_zero (by rw [hnl]; simp)
        have hrun : (Builtin.append_ #[T, tx] ty #[.slice (some ⟨b, 0, none⟩) 0 0, .slice p 0 c2]).run C.P w = .ok (.slice (some ⟨b, 0, none⟩) 0 0) w := by
          rcases hS.kind with ⟨e', hk⟩ | hk <;> simp [Builtin.append_, run_underlying hu, run_underlying hk, Go.sizeOf, typeInfo, hi, hS.len, hS.cells, storeCells]
        have hex : (execOp a.eval ⟨some d, .call { callee := .builtin .append, args := #[x, y], argTypes := #[T, tx] }, ty, pos, af, g⟩).run C.P w = .ok (.value (.slice (some ⟨b, 0, none⟩) 0 0)) w := by
          simp [execOp, resolve, invoke, builtin, ← h1, ← h2, hrun]
        rw [hex];exact ⟨(⟨some ⟨b, 0, none⟩, 0, 0⟩, []), ⟨rfl, Nat.le_refl _, fun W _ => SeesP.nil, fun e => by cases e⟩, rfl, ⟨Keeps.refl _ _, by simp, by simp, by simp⟩⟩
      · have hold : (Builtin.firstCells i.size 0 (.slice (some ⟨b, 0, none⟩) 0 0)).run C.P w.drew = .ok ([] : List Value).toArray w.drew :=
          run_firstCells_some w.drew i.size 0 ⟨b, 0, none⟩ 0 0 [] sP (fun j u hj => by simp at hj)
        have hrun := run_append_grow_src (P := C.P) w T tx ty E i z hu hi hz (some ⟨b, 0, none⟩) 0 0 [] hold _ m news hS oM oM (growslice_fits oM (by rw [hb]; simpa using hfit));simp only [Nat.zero_add, List.nil_append] at hrun;have hge := grownCap_ge w m 0 E;have hex : (execOp a.eval ⟨some d, .call { callee := .builtin .append, args := #[x, y], argTypes := #[T, tx] }, ty, pos, af, g⟩).run C.P w = .ok (.value (.slice (some ⟨w.heap.size, 0, none⟩) m (grownCap w m 0 E))) (w.drew.alloc (.cells (news.toArray ++ Builtin.zeroCells z.cells (grownCap w m 0 E - m)) E)) := by
          simp [execOp, resolve, invoke, builtin, ← h1, ← h2, hrun]
        rw [hex];refine ⟨(⟨some ⟨w.heap.size, 0, none⟩, m, grownCap w m 0 E⟩, [⟨w.heap.size, news, E, grownCap w m 0 E * i.size⟩]), hrow _ _ hge, rfl, Ret.pushD _ _ _ _ ?_ sP⟩;have e : grownCap w m 0 E * i.size = m * i.size + (grownCap w m 0 E - m) * i.size := by rw [← Nat.add_mul]; congr 1; omega
        simp [Builtin.zeroCells, hnl, hzc, e]
end
end Hw
end

section
namespace Go.Proofs.YtdilealohibfoaaGreat
open Go Go.Shelf Hw
def sortD_ren : Go.Shelf.Ren := ⟨fun | 6 => 147 | 15 => 186 | 14 => 185 | 28 => 227 | 29 => 194 | 20 => 219 | 21 => 220 | 22 => 221 | 23 => 222 | 24 => 223 | 25 => 224 | 26 => 225 | 27 => 226 | 46 => 282 | 47 => 283 | 48 => 284 | 49 => 285 | 50 => 286 | 57 => 315 | n => n, fun | 22 => 26 | 24 => 25 | 25 => 92 | 3 => 3 | 39 => 168 | 0 => 0 | 53 => 236 | 55 => 23 | 4 => 4 | 46 => 230 | 45 => 229 | 50 => 111 | 5 => 5 | 9 => 9 | 66 => 285 | 70 => 288 | 76 => 307 | 77 => 308 | n => n, fun | n => n⟩
theorem sortD : SlLaysF0.n6 Tryz.prog sortD_ren := {
  mixed := by kernel_rfl
  f6 := ⟨Tryz.f147.name, by decide, Tryz.func147.trans (congrArg some Hw.zK)⟩
  f14 := ⟨Tryz.f185.name, by decide, Tryz.func185.trans (congrArg some Hw.zK)⟩
  f15 := Tryz.func186.trans (congrArg some Hw.zK)
  f20 := ⟨Tryz.f219.name, by decide, Tryz.func219.trans (congrArg some Hw.zK)⟩
  f21 := ⟨Tryz.f220.name, by decide, Tryz.func220.trans (congrArg some Hw.zK)⟩
  f22 := ⟨Tryz.f221.name, by decide, Tryz.func221.trans (congrArg some Hw.zK)⟩
  f23 := ⟨Tryz.f222.name, by decide, Tryz.func222.trans (congrArg some Hw.zK)⟩
  f24 := ⟨Tryz.f223.name, by decide, Tryz.func223.trans (congrArg some Hw.zK)⟩
  f25 := ⟨Tryz.f224.name, by decide, Tryz.func224.trans (congrArg some Hw.zK)⟩
  f26 := ⟨Tryz.f225.name, by decide, Tryz.func225.trans (congrArg some Hw.zK)⟩
  f27 := ⟨Tryz.f226.name, by decide, Tryz.func226.trans (congrArg some Hw.zK)⟩
  f28 := Tryz.func227.trans (congrArg some Hw.zK)
  f29 := Tryz.func194.trans (congrArg some Hw.zK)
  f46 := ⟨Tryz.f282.name, by decide, Tryz.func282.trans (congrArg some Hw.zK)⟩
  f47 := Tryz.func283.trans (congrArg some Hw.zK)
  f48 := Tryz.func284.trans (congrArg some Hw.zK)
  f49 := ⟨Tryz.f285.name, by decide, Tryz.func285.trans (congrArg some Hw.zK)⟩
  f50 := ⟨Tryz.f286.name, by decide, Tryz.func286.trans (congrArg some Hw.zK)⟩
  f57 := ⟨Tryz.f315.name, by decide, Tryz.func315.trans (congrArg some Hw.zK)⟩
  t0 := Tryz.underlying0
  a0 := Tryz.isAgg0
  z0 := Tryz.sizeOf0
  v0 := Tryz.zeroValue0
  t3 := Y3.h
  a3 := Tryz.isAgg3
  z3 := Tryz.sizeOf3
  v3 := Tryz.zeroValue3
  t4 := Tryz.underlying4
  a4 := Tryz.isAgg4
  z4 := Tryz.sizeOf4
  v4 := Tryz.zeroValue4
  t5 := Y5.h
  a5 := Tryz.isAgg5
  z5 := Tryz.sizeOf5
  v5 := Tryz.zeroValue5
  t9 := Tryz.underlying9
  a9 := Tryz.isAgg9
  z9 := Tryz.sizeOf9
  v9 := Tryz.zeroValue9
  t22 := Y26.h
  a22 := Tryz.isAgg26
  z22 := Tryz.sizeOf26
  v22 := Tryz.zeroValue26
  t25 := Tryz.underlying92
  a25 := Tryz.isAgg92
  z25 := Tryz.sizeOf92
  v25 := Tryz.zeroValue92
  t39 := Y168.h
  a39 := Tryz.isAgg168
  z39 := Tryz.sizeOf168
  v39 := Tryz.zeroValue168
  t45 := Tryz.underlying229
  a45 := Tryz.isAgg229
  z45 := Tryz.sizeOf229
  v45 := Tryz.zeroValue229
  t46 := Tryz.underlying230
  a46 := Tryz.isAgg230
  z46 := Tryz.sizeOf230
  v46 := Tryz.zeroValue230
  t50 := Tryz.underlying111
  a50 := Tryz.isAgg111
  z50 := Tryz.sizeOf111
  v50 := Tryz.zeroValue111
  t53 := Tryz.underlying236
  a53 := Tryz.isAgg236
  z53 := Tryz.sizeOf236
  v53 := Tryz.zeroValue236
  t55 := Y23.h
  a55 := Tryz.isAgg23
  z55 := Tryz.sizeOf23
  v55 := Tryz.zeroValue23
  t66 := Tryz.underlying285
  a66 := Tryz.isAgg285
  z66 := Tryz.sizeOf285
  v66 := Tryz.zeroValue285
  t70 := Tryz.underlying288
  a70 := Tryz.isAgg288
  z70 := Tryz.sizeOf288
  v70 := Tryz.zeroValue288
  t76 := Tryz.underlying307
  a76 := Tryz.isAgg307
  z76 := Tryz.sizeOf307
  v76 := Tryz.zeroValue307
  t77 := Tryz.underlying308
  a77 := Tryz.isAgg308
  z77 := Tryz.sizeOf308
  v77 := Tryz.zeroValue308 }

end Go.Proofs.YtdilealohibfoaaGreat
end

section
namespace Hw
open Go Go.RowKit

def jumpQ (l : Nat) (N : St → Prop) (Q : Exit → St → Prop) : Exit → St → Prop
  | .goto l', s => l' = l ∧ N s
  | e, s => Q e s
theorem jm_r {l : Nat} {N : St → Prop} {Q : Exit → St → Prop} {s : St} (h : Q .ret s) : jumpQ l N Q .ret s := h
theorem jm_g {l : Nat} {N : St → Prop} {Q : Exit → St → Prop} {s : St} (h : N s) : jumpQ l N Q (.goto l) s := ⟨rfl, h⟩
theorem least (p : Nat → Prop) (h : ∃ n, p n) : ∃ n, p n ∧ ∀ m, p m → n ≤ m := by
  obtain ⟨n, hn⟩ := h
  induction n using Nat.strongRecOn with
  | _ n ih =>
    by_cases h2 : ∃ m, m < n ∧ p m
    · obtain ⟨m, h3, h4⟩ := h2
      exact ih m h3 h4
    · exact ⟨n, hn, fun m hm => by rcases Nat.lt_or_ge m n with h3 | h3; exact absurd ⟨m, h3, hm⟩ h2; exact h3⟩
theorem Sat.again {C : Cx} {x rest : Code} {l : Nat} {s : St} {Q : Exit → St → Prop} {ι : Type} (S : ι → St) (I : ι → Prop) (μ : ι → Nat) (hf : findLabel x l = none)
    (h1 : Sat C x s (thenQ (fun s' => ∃ i, I i ∧ Weak s' (S i)) (jumpQ l (fun _ => False) Q)))
    (pass : ∀ i, I i → Sat C rest (S i) (jumpQ l (fun s' => ∃ j, I j ∧ μ j < μ i ∧ Weak s' (S j)) Q)) : Sat C (.scope (.seq x (.seq (.label l) rest))) s Q := by
  intro a w r;have hfl : findLabel (.seq x (.seq (.label l) rest)) l = some (.seq .skip rest) := by simp [findLabel, hf]
  let J : Act → World → Prop := fun a w => ∃ i, I i ∧ Rep C (S i) a w
  let V : Act → World → Nat → Prop := fun a w n => ∃ i, I i ∧ Rep C (S i) a w ∧ μ i = n
  have hV : ∀ a w, ∃ n, (∃ n, V a w n) → V a w n ∧ ∀ m, V a w m → n ≤ m := fun a w => by
    by_cases h : ∃ n, V a w n
    · obtain ⟨n, h2, h3⟩ := least _ h
      exact ⟨n, fun _ => ⟨h2, h3⟩⟩
    · exact ⟨0, fun h2 => absurd h2 h⟩
  let M : Act → World → Nat := fun a w => Classical.choose (hV a w)
  have hM : ∀ a w, (∃ n, V a w n) → V a w (M a w) ∧ ∀ m, V a w m → M a w ≤ m := fun a w => Classical.choose_spec (hV a w);have hpass : ∀ i, I i → ∀ a w, Rep C (S i) a w → (Code.seq .skip rest).wp C.P (Exit.jump l (fun a' w' => ∃ j, I j ∧ μ j < μ i ∧ Rep C (S j) a' w') (fun e a' w' => ∃ s', Rep C s' a' w' ∧ Q e s')) a w := fun i hi a w r => by
    have h2 : Sat C (.seq .skip rest) (S i) (jumpQ l (fun s' => ∃ j, I j ∧ μ j < μ i ∧ Weak s' (S j)) Q) := Sat.seq (Sat.skip (pass i hi));refine wp_mono (h2 a w r) fun e a' w' ⟨s', r', q⟩ => ?_;cases e with
    | goto l' =>
      obtain ⟨e1, j, hj, hlt, hw⟩ := q;exact ⟨e1, j, hj, hlt, r'.weak hw⟩
    | _ => exact ⟨s', r', q⟩
  have up : ∀ {i : ι}, I i → ∀ {a w}, Rep C (S i) a w → M a w ≤ μ i := fun {i} hi {a w} r => (hM a w ⟨μ i, i, hi, r, rfl⟩).2 _ ⟨i, hi, r, rfl⟩;refine wp_scope_jumps l J M hfl ?_ ?_
  · have h2 : Sat C (.seq x (.seq (.label l) rest)) s (jumpQ l (fun s' => ∃ j, I j ∧ Weak s' (S j)) Q) := by
      refine Sat.seq (Sat.mono h1 fun e s1 h => ?_);cases e with
      | normal =>
        obtain ⟨i, hi, hw⟩ := h;refine Sat.weak hw (Sat.seq (Sat.label ?_));refine Sat.mono (pass i hi) fun e s2 h => ?_;cases e with
        | goto l' => obtain ⟨e1, j, hj, _, hw⟩ := h; exact ⟨e1, j, hj, hw⟩
        | _ => exact h
      | goto l' => exact h.2.elim
      | _ => exact h
    refine wp_mono (h2 a w r) fun e a' w' ⟨s', r', q⟩ => ?_;cases e with
    | goto l' =>
      obtain ⟨e1, j, hj, hw⟩ := q;exact ⟨e1, j, hj, r'.weak hw⟩
    | _ => exact ⟨s', r', q⟩
  · rintro a w ⟨i0, hi0, r0⟩
    obtain ⟨⟨i, hi, r, em⟩, _⟩ := hM a w ⟨μ i0, i0, hi0, r0, rfl⟩;refine wp_mono (hpass i hi a w r) fun e a' w' q => ?_;cases e with
    | goto l' =>
      obtain ⟨e1, j, hj, hlt, rj⟩ := q;exact ⟨e1, ⟨j, hj, rj⟩, by have := up hj rj; omega⟩
    | _ => exact q

def Lent (L : List Blk) (w : World) : Prop := Lies L w ∧ (L.map (·.n)).Nodup
theorem Lent.of {C : Cx} {hp L keep : List Blk} {w : World} (h : HRep C hp w) (hp1 : hp.Perm (L ++ keep)) : Lent L w := by
  refine ⟨fun b hb => h.cells b (hp1.symm.subset (List.mem_append_left _ hb)), ?_⟩;have := (hp1.map (·.n)).nodup_iff.1 h.nodup;rw [List.map_append, List.nodup_append] at this;exact this.1
theorem Lent.rep {P : Program} {W : World} {N : Nat} {L : List Blk} (h : Lent L W) : HRep ⟨P, W, N, L.map (·.n), [], []⟩ L W :=
  ⟨h.1, h.2, fun b hb => .inr (List.mem_map.2 ⟨b, hb, rfl⟩), Keeps.refl _ _, fun _ h => (by cases h), fun _ _ _ h => (by cases h)⟩
def placeT {ν : Type} (n : Nat) (ev : ν → Value) : MTy (List UInt8 × UInt64) ν := ⟨fun k => agg (Aa k.1 ++ [u64 k.2]), ev, fun k => k.1.length = n⟩
theorem place_inj {a b : List UInt8 × UInt64} (h : agg (Aa a.1 ++ [u64 a.2]) = agg (Aa b.1 ++ [u64 b.2])) : a = b := by
  simp only [agg, Value.agg.injEq] at h;have h1 : Aa a.1 ++ [u64 a.2] = Aa b.1 ++ [u64 b.2] := by simpa using congrArg Array.toList h
  have h2 := List.append_inj' h1 rfl;have e1 := bytesV_inj2 h2.1;have e2 : u64 a.2 = u64 b.2 := by simpa using h2.2
  simp only [u64, Value.int.injEq, true_and] at e2;exact Prod.ext e1 (UInt64.toNat_inj.1 oM)
theorem keyLits_u64 {P : Program} {e : TypeId} (he : P.underlying e = some (.int .u64)) (D : Nat) (x : UInt64) : ∃ ls, P.keyLits (D + 1) e [u64 x] = some ls := by
  refine ⟨[.int .u64 (x.toNat : Int)], ?_⟩;simp [Program.keyLits, he, u64, wf_u64]
theorem keyOf_place {P : Program} {k e : TypeId} {n : Nat} {fs : Array Field} {f1 f2 : Field} (hu : P.underlying k = some (.struct fs)) (hfs : fs.toList = [f1, f2]) (hb : fs.all (·.name != "_") = true) (o1 : f1.offset = 0) (o2 : f2.offset = n) (c1 : P.cellsOf f1.type = n) (c2 : P.cellsOf f2.type = 1) (ck : P.cellsOf k = n + 1)
    (A : WideMaps.ArrKey P f1.type e n) (he : P.underlying e = some (.int .u8)) (h2 : P.underlying f2.type = some (.int .u64)) (hkt : P.keyType k = true) (hsz : ∃ m, P.types.size = m + 2) {l : List UInt8} (hl : l.length = n) (x : UInt64) : ∃ r, keyOf P k (agg (Aa l ++ [u64 x])) = some r := by
  obtain ⟨m, hm⟩ := hsz;have hlen : (Aa l).length = n := by rw [Aa, List.length_map, hl]
  obtain ⟨la, ha⟩ := keyLits_arr A he m hl;obtain ⟨lb, hb2⟩ := keyLits_u64 h2 (m + 1) x;have hk : ∃ ls, P.keyLits (m + 3) k (Aa l ++ [u64 x]) = some ls := by
    refine ⟨[la, lb].flatten, ?_⟩;unfold Program.keyLits;simp only [hu];rw [if_pos ⟨by rw [List.length_append, hlen, ck]; rfl, hb⟩, hfs];have e1 : ((Aa l ++ [u64 x]).drop f1.offset).take (P.cellsOf f1.type) = Aa l := by rw [o1, c1, List.drop_zero, List.take_append_of_le_length oM, List.take_of_length_le oM]
    have e2 : ((Aa l ++ [u64 x]).drop f2.offset).take (P.cellsOf f2.type) = [u64 x] := by rw [o2, c2, List.drop_append_of_le_length oM, List.drop_of_length_le oM]; rfl
    simp only [List.mapM_cons, List.mapM_nil, e1, e2, ha, hb2];rfl
  obtain ⟨ls, h⟩ := hk;refine ⟨.string (keyBytes ls), ?_⟩;unfold keyOf;simp only [hu];rw [if_pos (by simp [hkt, Value.formed, hu, ck, hlen, agg]), hm];simp only [agg, Value.cells];exact congrArg (Option.map _) h
theorem placeT_ok {P : Program} {T k E : TypeId} {n : Nat} {ν : Type} (ev : ν → Value) {z : Value} (hu : P.underlying T = some (.map k E)) (hk : ∀ (l : List UInt8) (x : UInt64), l.length = n → ∃ r, keyOf P k (agg (Aa l ++ [u64 x])) = some r) (K : Maps.Keyed P k) (hz : ∀ w, (zeroValue E).run P w = .ok z w) :
    MOk P T k E (placeT n ev) z := ⟨hu, K, fun a ha => hk a.1 a.2 ha, fun a b _ _ h => place_inj h, hz⟩

theorem Tr.neqNil0 {C : Cx} {ops : Array Oper} {rest : List (Nat × Oper)} {sl : List (Nat × Value)} {hp : List Blk} {Q : St → Prop} {c d : Nat} {ty : TypeId} {pos : String} {af : Array Edge} {g : Option (Nat × Bool)} {x y : Operand} {xT yT E : TypeId} (hg : Aj ops sl g = true) (hk : okD c d C.N = true) (hx : Af sl x = some (.pointer none)) (hy : Af sl y = some (.pointer none)) (hu : C.P.underlying xT = some (.pointer E))
    (k : Tr C ops rest ⟨(d, .bool false) :: sl, hp⟩ Q) : Tr C ops ((c, ⟨some d, .binOp .neq xT x y yT, ty, pos, af, g⟩) :: rest) ⟨sl, hp⟩ Q :=
  .binAny hg hk hx hy (fun w => by simp [eqGuard]) (fun w => by rw [run_neq_pointer_nil w xT none (pointee_of hu)]; rfl) k
theorem putAll_app : ∀ (a b : List Value) (c : Array Value) (k : Nat), B3 c k (a ++ b) = B3 (B3 c k a) (k + a.length) b := by
  intro a
  induction a with
  | nil => intro b c k; rfl
  | cons x a ih => intro b c k; rw [List.cons_append, B3, B3, ih, List.length_cons]; congr 1; omega
theorem run_build2 {P : Program} {T : TypeId} {f1 f2 : Field} {n m : Nat} {z ca cb : List Value} {a b : Value} (hz : Zr P T (agg z)) (hu : P.underlying T = some (.struct #[f1, f2])) (o1 : f1.offset = 0) (o2 : f2.offset = n) (s1 : Sz P f1.type n) (s2 : Sz P f2.type m) (hzl : z.length = n + m)
    (ha : a.cells.toList = ca) (hb : b.cells.toList = cb) (la : ca.length = n) (lb : cb.length = m) (w : World) : (Instr.build T #[(0, a), (1, b)]).run P w = .ok (agg (ca ++ cb)) w := by
  have r1 := Cg s1 w;have r2 := Cg s2 w;have na : a.cells.size = n := by rw [← Array.length_toList, ha, la]
  have nb : b.cells.size = m := by rw [← Array.length_toList, hb, lb]
  have f1' : ∀ (off : Nat) (v : Value) (cells : Array Value), (v.cells.zipIdx.foldl (fun cs (x : Value × Nat) => match x with | (c, j) => cs.setIfInBounds (off + j) c) cells) = B3 cells off v.cells.toList := fun off v cells => by
    rw [← Array.foldl_toList, Array.toList_zipIdx];exact fold_put off v.cells.toList 0 cells
  have hfill : Instr.fill (fun i => ([(0, n), (n, m)] : List (Nat × Nat))[i]?) z.toArray [(0, a), (1, b)] = some (ca ++ cb).toArray := by
    have e0 : ([(0, n), (n, m)] : List (Nat × Nat))[0]? = some (0, n) := rfl;have e1 : ([(0, n), (n, m)] : List (Nat × Nat))[1]? = some (n, m) := rfl;rw [Instr.fill];simp only [e0, na];rw [if_neg (by simp [hzl])];rw [Instr.fill];simp only [e1, nb];have hs : (Array.foldl (fun cs (x : Value × Nat) => match x with | (c, j) => cs.setIfInBounds (0 + j) c) z.toArray a.cells.zipIdx) = B3 z.toArray 0 ca := by rw [← ha]; exact f1' 0 a z.toArray
    rw [hs, if_neg (by simp [putAll_size, hzl])];rw [f1' n b, hb, Instr.fill];congr 1;have h2 := putAll_app ca cb z.toArray 0;rw [Nat.zero_add, la] at h2;rw [← h2, putAll_all _ _ (by simp [la, lb, hzl])]
  unfold Zr at hz;cases hi : P.info? T with
  | none => rw [hi] at hz; cases hz
  | some i =>
    rw [hi] at hz;simp only [Option.bind_some] at hz;simp only [Instr.build, Sem.run_bind, zeroValue, typeInfo, hi, hz, run_underlying hu, Result.andThen_ok];simp [r1, r2, o1, o2, agg, zeroValue, typeInfo, hi, hz, run_underlying hu];have hf2 : Instr.fill (fun x => ([(0, n), (n, m)] : List (Nat × Nat))[x]?) (Value.agg z.toArray).cells [(0, a), (1, b)] = some (ca ++ cb).toArray := hfill;rw [hf2];simp [Sem.run]
section
variable {C : Cx} {ops : Array Oper} {rest : List (Nat × Oper)} {sl : List (Nat × Value)} {hp hp' : List Blk} {Q : St → Prop} {c d : Nat} {ty : TypeId} {pos : String} {af : Array Edge} {g : Option (Nat × Bool)} {x : Operand} {xT : TypeId}
theorem Tr.field1 {fs : Array Field} {f : Nat} {fd : Field} {td : TypeDesc} {cs : List Value} {v : Value} (hg : Aj ops sl g = true) (hk : okD c d C.N = true) (hx : Af sl x = some (agg cs)) (hu : C.P.underlying xT = some (.struct fs)) (hf : fs[f]? = some fd) (hft : C.P.underlying fd.type = some td) (hp' : Bv td = true) (hr : cs[fd.offset]? = some v)
    (k : Tr C ops rest ⟨(d, v) :: sl, hp⟩ Q) : Tr C ops ((c, ⟨some d, .field xT x f, ty, pos, af, g⟩) :: rest) ⟨sl, hp⟩ Q :=
  .pv hg hk ⟨known1 hx, fun ρ hfi w => by
    have h1 := hfi x (by simp [Op.operands]); rw [hx] at h1;simp only [Option.some.injEq] at h1;have h2 := run_part1 (w := w) hft hp' hr;simp [execOp, Instr.field, ← h1, run_underlying hu, hf, agg, asAgg, h2]⟩ k
end
theorem Sat.know {C : Cx} {code : Code} {s : St} {Q : Exit → St → Prop} {F : Prop} (hf : ∀ w, HRep C s.hp w → F) (k : F → Sat C code s Q) : Sat C code s Q := fun a w r => k (hf w r.rh) a w r
theorem wk_norm {sl : List (Nat × Value)} {hp hp2 : List Blk} {s' : St} (e : hp = hp2) (h : Weak ⟨sl, hp2⟩ s') : Weak ⟨sl, hp⟩ s' := by subst e; exact h
theorem sg_two {hp hp1 X Y R : List Blk} (h1 : hp.Perm (X ++ hp1)) (h2 : hp1.Perm (Y ++ R)) : hp.Perm ((X ++ Y) ++ R) := by
  rw [List.append_assoc]; exact h1.trans (List.Perm.append_left X h2)
theorem perm_open {hp X A R h1 : List Blk} (h : hp.Perm (X ++ h1)) (k : X.Perm (A ++ R)) : hp.Perm (A ++ (R ++ h1)) := by
  rw [← List.append_assoc]; exact h.trans (List.Perm.append_right h1 k)
theorem pm_join {hp X A B h1 h3 l R : List Blk} (h : hp.Perm (A ++ h1)) (h2 : h1.Perm (B ++ h3)) (e : X.Perm (A ++ B)) (k : h3.Perm (l ++ R)) : hp.Perm ((X ++ l) ++ R) := by
  refine h.trans ((List.Perm.append_left A (h2.trans (List.Perm.append_left B k))).trans ?_);rw [← List.append_assoc, ← List.append_assoc];exact List.Perm.append_right R (List.Perm.append_right l e.symm)

section
variable {κ ν : Type} [DecidableEq κ] {T K E : TypeId} {t : MTy κ ν} {z : Value} {fs : List (κ × ν)}
variable {C : Cx} {ops : Array Oper} {rest : List (Nat × Oper)} {sl : List (Nat × Value)} {hp hp' : List Blk} {Q : St → Prop} {c d b : Nat} {ty : TypeId} {pos : String} {af : Array Edge} {g : Option (Nat × Bool)} {x y : Operand} {k : κ}
theorem Tr.lookF (evf : ν → Value) (M : MOk C.P T K E t z) (hg : Aj ops sl g = true) (hd : okL c d C.N = true) (hx : Af sl x = some (.map (some b))) (hy : Af sl y = some (t.ek k)) (hk : t.ok k) (hb : A6 b t fs ∈ hp)
    (k0 : Au fs k = none → Tr C ops rest ⟨(d, .tuple #[z, .bool false]) :: sl, hp⟩ Q) (k1 : ∀ v, Au fs k = some v → Tr C ops rest ⟨(d, .tuple #[evf v, .bool true]) :: sl, hp⟩ Q) (hev : ∀ v, t.ev v = evf v := by intro _; rfl) :
    Tr C ops ((c, ⟨some d, .lookup T x y true, ty, pos, af, g⟩) :: rest) ⟨sl, hp⟩ Q := by
  refine Tr.lookOk M hg hd hx hy hk hb ?_;cases h : Au fs k with
  | none => exact k0 h
  | some v => have := k1 v h; rw [← hev v] at this; exact this
theorem Tr.lookG (evf : ν → Value) (M : MOk C.P T K E t z) (hg : Aj ops sl g = true) (hd : okL c d C.N = true) (hx : Af sl x = some (.map (some b))) (hy : Af sl y = some (t.ek k)) (hk : t.ok k) (hb : A6 b t fs ∈ hp)
    (k0 : Au fs k = none → Tr C ops rest ⟨(d, z) :: sl, hp⟩ Q) (k1 : ∀ v, Au fs k = some v → Tr C ops rest ⟨(d, evf v) :: sl, hp⟩ Q) (hev : ∀ v, t.ev v = evf v := by intro _; rfl) :
    Tr C ops ((c, ⟨some d, .lookup T x y false, ty, pos, af, g⟩) :: rest) ⟨sl, hp⟩ Q := by
  refine Tr.look1 M hg hd hx hy hk hb ?_;cases h : Au fs k with
  | none => exact k0 h
  | some v => have := k1 v h; rw [← hev v] at this; exact this
theorem Tr.lookS {v : ν} (evf : ν → Value) (M : MOk C.P T K E t z) (hv : Au fs k = some v) (hg : Aj ops sl g = true) (hd : okL c d C.N = true) (hx : Af sl x = some (.map (some b))) (hy : Af sl y = some (t.ek k)) (hk : t.ok k) (hb : A6 b t fs ∈ hp)
    (k1 : Tr C ops rest ⟨(d, evf v) :: sl, hp⟩ Q) (hev : ∀ v, t.ev v = evf v := by intro _; rfl) : Tr C ops ((c, ⟨some d, .lookup T x y false, ty, pos, af, g⟩) :: rest) ⟨sl, hp⟩ Q := by
  refine Tr.look1 M hg hd hx hy hk hb ?_;rw [hv];have := k1;rw [← hev v] at this; exact this
theorem Tr.lookFC (evf : ν → Value) (M : MOk C.P T K E t z) (hb : BlkOk C.W0 (A6 b t fs)) (hbl : b ∉ C.lent) (hg : Aj ops sl g = true) (hd : okL c d C.N = true) (hx : Af sl x = some (.map (some b))) (hy : Af sl y = some (t.ek k)) (hk : t.ok k)
    (k0 : Au fs k = none → Tr C ops rest ⟨(d, .tuple #[z, .bool false]) :: sl, hp⟩ Q) (k1 : ∀ v, Au fs k = some v → Tr C ops rest ⟨(d, .tuple #[evf v, .bool true]) :: sl, hp⟩ Q) (hev : ∀ v, t.ev v = evf v := by intro _; rfl) :
    Tr C ops ((c, ⟨some d, .lookup T x y true, ty, pos, af, g⟩) :: rest) ⟨sl, hp⟩ Q := by
  refine Tr.lookOkC M hb hbl hg hd hx hy hk ?_;cases h : Au fs k with
  | none => exact k0 h
  | some v => have := k1 v h; rw [← hev v] at this; exact this
end
end Hw
end

section
namespace Go.Proofs.YtdilealohibfoaaGreat
open Go Hw
set_option maxRecDepth 100000
structure DEnt where
  fBlock : Block
  fDepth : Int
def DEnt.cells (x : DEnt) : List Value := x.fBlock.cells ++ ([i64 x.fDepth])
structure DEnt.ok (x : DEnt) : Prop where
  o_fBlock : x.fBlock.ok
theorem DEnt.length {x : DEnt} (h : x.ok) : x.cells.length = 132 := by simp [DEnt.cells, Aa, Block.length h.o_fBlock]
theorem DEnt.isCell {x : DEnt} (h : x.ok) : ∀ u ∈ x.cells, isCell u = true := by
  intro u hu;simp only [DEnt.cells, List.mem_append, List.mem_singleton, Aa, List.mem_map] at hu;rcases hu with hu | rfl <;> first | rfl | exact Block.isCell h.o_fBlock u hu
theorem DEnt.row_fBlock {x : DEnt} (h : x.ok) : (x.cells.drop 0).take 131 = x.fBlock.cells := by simp [DEnt.cells, Aa, Block.length h.o_fBlock, List.drop_append, List.take_append, List.drop_of_length_le, List.take_of_length_le]
theorem DEnt.rl_fBlock {x : DEnt} (h : x.ok) : (x.fBlock.cells).length = 131 := by simp [Aa, Block.length h.o_fBlock]
theorem DEnt.see_fBlock {x : DEnt} (h : x.ok) : ∀ (j : Nat) (v : Value), (x.fBlock.cells)[j]? = some v → x.cells[0 + j]? = some v := fun j v hj => by
  rw [← DEnt.row_fBlock h, List.getElem?_take] at hj;split at hj
  · rwa [List.getElem?_drop] at hj
  · cases hj
theorem DEnt.get_fDepth {x : DEnt} (h : x.ok) : x.cells[131]? = some (i64 x.fDepth) := by simp [DEnt.cells, Aa, Block.length h.o_fBlock, List.getElem?_append]
def DEnt.zero : DEnt := ⟨Block.zero, 0⟩
theorem DEnt.zero_ok : DEnt.zero.ok := by constructor <;> first | exact Block.zero_ok | simp [DEnt.zero]
theorem DEnt.zr : Zr Tryz.prog 192 (agg DEnt.zero.cells) := by unfold Zr; kernel_rfl
structure DPl where
  fWriter : List UInt8
  fSeq : UInt64
def DPl.cells (x : DPl) : List Value := Aa x.fWriter ++ ([u64 x.fSeq])
structure DPl.ok (x : DPl) : Prop where
  l_fWriter : x.fWriter.length = 32
theorem DPl.length {x : DPl} (h : x.ok) : x.cells.length = 33 := by simp [DPl.cells, Aa, h.l_fWriter]
theorem DPl.isCell {x : DPl} (h : x.ok) : ∀ u ∈ x.cells, isCell u = true := by
  intro u hu;simp only [DPl.cells, List.mem_append, List.mem_singleton, Aa, List.mem_map] at hu;rcases hu with ⟨_, _, rfl⟩ | rfl <;> first | rfl
def DPl.zero : DPl := ⟨List.replicate 32 0, 0⟩
theorem DPl.zero_ok : DPl.zero.ok := by constructor <;> first | exact trivial | simp [DPl.zero]
theorem DPl.zr : Zr Tryz.prog 195 (agg DPl.zero.cells) := by unfold Zr; kernel_rfl
theorem DPl.eg : Tryz.prog.eqGuardType Tryz.prog.depth 195 = false := by kernel_rfl
end Go.Proofs.YtdilealohibfoaaGreat
end

section
namespace Hw
open Go
theorem HRep.trunc {C : Cx} {q m : Nat} {cs r : List Value} {E : TypeId} {hp : List Blk} {w : World} (h : HRep C (⟨q, cs ++ r, .ty E, m⟩ :: hp) w) : HRep C (⟨q, cs, .ty E, m⟩ :: hp) w := by
  refine h.swap rfl ?_;obtain ⟨full, fr, k⟩ := h.cells _ List.mem_cons_self;exact ⟨full, fr, k.heap, k.size, (List.prefix_append cs r).trans k.pre, k.free⟩
theorem Sat.trunc {C : Cx} {code : Code} {sl : List (Nat × Value)} {hp hp' : List Blk} {q m : Nat} {cs r : List Value} {E : TypeId} {Q : Exit → St → Prop} (hp1 : hp.Perm (⟨q, cs ++ r, .ty E, m⟩ :: hp')) (k : Sat C code ⟨sl, ⟨q, cs, .ty E, m⟩ :: hp'⟩ Q) : Sat C code ⟨sl, hp⟩ Q :=
  fun a w x => k a w ⟨x.rs, (x.rh.perm hp1).trunc⟩
theorem snoc_of {α : Type} {l : List α} (h : 0 < l.length) : ∃ a x, l = a ++ [x] := ⟨l.dropLast, l.getLast (List.length_pos_iff.1 h), (List.dropLast_concat_getLast _).symm⟩
section
variable {C : Cx} {ops : Array Oper} {rest : List (Nat × Oper)} {sl : List (Nat × Value)} {hp : List Blk} {Q : St → Prop} {c d : Nat} {ty : TypeId} {pos : String} {af : Array Edge} {g : Option (Nat × Bool)}
variable {x hi : Operand} {T E : TypeId} {kl : IntKind} {l : Int}
theorem Tr.sliceHiA {sz : Nat} (s : Sl) (j : Nat) (hg : Aj ops sl g = true) (hk : okD c d C.N = true) (hx : Af sl x = some s.v) (hl : Af sl hi = some (.int kl l)) (hj : l = j) (hjn : j ≤ s.c)
    (hu : C.P.underlying T = some (.slice E)) (hs : Sz C.P E sz)
    (k : Tr C ops rest ⟨(d, Sl.v ⟨s.p, j, s.c⟩) :: sl, hp⟩ Q) : Tr C ops ((c, ⟨some d, .slice T x none (some hi) none, ty, pos, af, g⟩) :: rest) ⟨sl, hp⟩ Q :=
  .pv hg hk ⟨by simpa [Known, Op.operands] using known2 hx hl, fun ρ hfi w => by
    have h1 := hfi x (by simp [Op.operands]); rw [hx] at h1;have h2 := hfi hi (by simp [Op.operands]); rw [hl] at h2;simp only [Option.some.injEq] at h1 h2;subst hj;obtain ⟨p, n, cap⟩ := s;simp only [Sl.v] at h1 hjn ⊢;by_cases e : cap = 0
    · subst e
      obtain rfl : j = 0 := by omega
      simp [execOp, Instr.sliceAt, Instr.slice, ← h1, ← h2, run_underlying hu, Instr.sliceBounds, Instr.sliceBound, asIntOf, Cg hs, Addr.add]
    · have e2 : (p.map fun a => a.add 0) = p := by cases p <;> simp [Addr.add]
      simp [execOp, Instr.sliceAt, Instr.slice, ← h1, ← h2, run_underlying hu, Instr.sliceBounds, Instr.sliceBound, asIntOf, Cg hs, e, hjn, e2]⟩ k
end
section
variable {κ ν : Type} [DecidableEq κ] {T K E : TypeId} {t : MTy κ ν} {fs : List (κ × ν)}
variable {C : Cx} {ops : Array Oper} {rest : List (Nat × Oper)} {sl : List (Nat × Value)} {hp hp' : List Blk} {Q : St → Prop} {c d b : Nat} {ty : TypeId} {pos : String} {af : Array Edge} {g : Option (Nat × Bool)} {x : Operand}
end
section
variable {C : Cx} {ops : Array Oper} {rest : List (Nat × Oper)} {sl : List (Nat × Value)} {hp : List Blk} {Q : St → Prop} {c d b o : Nat} {T ty : TypeId} {td : TypeDesc} {pos : String} {af : Array Edge} {g : Option (Nat × Bool)} {x : Operand}
theorem Tr.kloadSN {n : Nat} (r : List Value) (hg : Aj ops sl g = true) (hk : okD c d C.N = true) (hx : Af sl x = some (ptr b o)) (hu : C.P.underlying T = some td) (hp' : Bv td = false) (hs : Sz C.P T n) (hn : r.length = n)
    (hv : ∀ w, (∀ b ∈ C.kb, BlkOk w b) → Sees w b o r)
    (k : Tr C ops rest ⟨(d, agg r) :: sl, hp⟩ Q) : Tr C ops ((c, ⟨some d, .load T x, ty, pos, af, g⟩) :: rest) ⟨sl, hp⟩ Q :=
  .kloadAny hg hk hx (fun w hh _ => by
    have := run_row (P := C.P) (w := w) (b := b) (o := o) hn fun j v hj => hv w hh j v hj;simp [loadVar, run_isAgg_arr hu hp', Cg hs, this]) k
end
end Hw
end

section
namespace Hw
open Go Go.RowKit

def also (j : Nat) (l : Nat → Bool) : Nat → Bool := fun i => decide (j = i) || l i

theorem wpAny_inv {C : Cx} {ops : Array Oper} {perm : List (Nat × Nat)} (htopo : topoOk ops [] perm = true) (hall : (List.range ops.size).all (fun i => (perm.map (·.2)).contains i) = true) (Q : St → Prop) (J : (Nat → Bool) → St → Prop)
    (hstep : ∀ l s j o, ops[j]? = some o → l j = false → (∀ i, l i = true → ∀ k ∈ bindsIn ops i, l k = true) → (∀ k ∈ bindsIn ops j, l k = true) → J l s → Tr C ops [(4, o)] s (J (also j l)))
    (hend : ∀ l s, (s.hp.map (·.n)).Nodup → (∀ j, j < ops.size → l j = true) → J l s → Q s) :
    ∀ (fuel : Nat) (listed : Array Bool) (s : St) (a : Act) (w : World), listed.size = ops.size → Shut ops listed →
      (perm.filter (fun p => !listed.getD p.2 false)).length ≤ fuel → Rep C s a w → J (fun i => listed.getD i false) s → wpAny C.P .any ops (Fin C Q) fuel listed a w := by
  rw [List.all_eq_true] at hall;have hnd := topo_nodup perm [] htopo;have allOf : ∀ (listed : Array Bool), perm.filter (fun p => !listed.getD p.2 false) = [] → ∀ j, j < ops.size → listed.getD j false = true := by
    intro listed hf j hj;have := hall j (List.mem_range.2 hj);simp only [List.contains_eq_mem, decide_eq_true_eq] at this;obtain ⟨p, hp, he⟩ := List.mem_map.1 this;have := List.filter_eq_nil_iff.1 hf p hp;rw [he] at this;simpa using this
  intro fuel
  induction fuel with
  | zero =>
    intro listed s a w hsz hs hlen r h;have h0 := allOf listed (List.eq_nil_of_length_eq_zero oM);refine ⟨?_, rfl, s, r, hend _ s r.rh.nodup h0 h⟩;cases hr : Region.ready .any ops listed with
    | nil => rfl
    | cons j l =>
      obtain ⟨h1, h2, _⟩ := (mem_ready' hsz).1 (by rw [hr]; exact List.mem_cons_self);rw [h0 j h1] at h2;cases h2
  | succ fuel ih =>
    intro listed s a w hsz hs hlen r h;refine ⟨fun hr => ⟨rfl, s, r, hend _ s r.rh.nodup (allOf listed ?_) h⟩, fun j hj => ?_⟩
    · cases hf : perm.filter (fun p => !listed.getD p.2 false) with
      | nil => rfl
      | cons p l' =>
        have := topo_first hsz perm [] htopo sP p l' hf;rw [hr] at this;cases this
    · obtain ⟨hjlt, hjun, hjb⟩ := (mem_ready' hsz).1 hj
      have hjl : j < listed.size := by omega
      have hoj : ops[j]? = some ops[j] := Array.getElem?_eq_getElem hjlt;have hin := hall j (List.mem_range.2 hjlt);simp only [List.contains_eq_mem, decide_eq_true_eq] at hin;obtain ⟨q, hq0, hqj⟩ := List.mem_map.1 hin;obtain ⟨l1, l2, hf⟩ := List.append_of_mem (List.mem_filter.2 ⟨hq0, by rw [hqj, hjun]; rfl⟩ : q ∈ perm.filter (fun p => !listed.getD p.2 false));refine wpOp_mono (K := fun a' w' => ∃ s', Rep C s' a' w' ∧ J (also j fun i => listed.getD i false) s') ?_ (Tr.step (i := j) hoj (hstep _ s j _ hoj hjun hs hjb h) a w r _ (fun s' a' w' r' k => ⟨s', r', ?_⟩) _)
      · rintro a' w' ⟨s', r', k⟩
        have hfs := filter_set hjl perm l1 l2 q hqj hnd hf;have hlen2 := congrArg List.length hf;rw [List.length_append, List.length_cons] at hlen2;refine ih (listed.setIfInBounds j true) s' a' w' (by simp [hsz]) (fun i hi k hk => ?_) (by rw [hfs, List.length_append]; omega) r' ?_
        · rw [getD_set _ _ _ hjl] at hi ⊢
          by_cases hij : j = i
          · subst hij; rw [hjb k hk]; simp
          · simp only [hij, decide_false, Bool.false_or] at hi
            rw [hs i hi k hk]; simp
        · have e : (fun i => (listed.setIfInBounds j true).getD i false) = also j fun i => listed.getD i false := funext fun i => getD_set _ _ _ hjl
          rw [e]; exact k
      · cases k with
        | nil k => exact k
        | dup hn => exact absurd r'.rh.nodup hn

theorem Sat.any {C : Cx} {id : Nat} {ops : List Oper} {s : St} {Q : Exit → St → Prop} (perm : List (Nat × Nat)) (hm : C.P.follows .mixedOrders = true) (htopo : topoOk ops.toArray [] perm = true) (hall : (List.range ops.toArray.size).all (fun i => (perm.map (·.2)).contains i) = true)
    (hlen : Nat.ble perm.length ops.length = true) (J : (Nat → Bool) → St → Prop) (h0 : J (fun _ => false) s)
    (hstep : ∀ l s j o, ops.toArray[j]? = some o → l j = false → (∀ i, l i = true → ∀ k ∈ bindsIn ops.toArray i, l k = true) → (∀ k ∈ bindsIn ops.toArray j, l k = true) → J l s → Tr C ops.toArray [(4, o)] s (J (also j l)))
    (hend : ∀ l s, (s.hp.map (·.n)).Nodup → (∀ j, j < ops.toArray.size → l j = true) → J l s → Q .normal s) : Sat C (.region id ops.toArray true) s Q := by
  intro a w r;have e : ∀ i, (Array.replicate ops.toArray.size false).getD i false = false := fun i => by
    rw [Array.getD_eq_getD_getElem?, Array.getElem?_replicate];split <;> rfl
  have := wpAny_inv (C := C) htopo hall (Q .normal) J hstep hend ops.toArray.size (Array.replicate ops.toArray.size false) s a { w with drawn := w.drawn + 1 } sP
    (fun j hj => by rw [e] at hj; cases hj) (Nat.le_trans (List.length_filter_le _ _) (by simpa using Nat.le_of_ble_eq_true hlen)) ⟨r.rs, r.rh.drew _⟩ (by rw [show (fun i => (Array.replicate ops.toArray.size false).getD i false) = fun _ => false from funext e]; exact h0)
  refine wp_mono (wp_region_any hm this) fun e a' w' ⟨he, s', r', q⟩ => ?_;subst he;exact ⟨s', r', q⟩
end Hw
end

section
namespace Hw
open Go Go.RowKit

theorem Tr.inv0 {C : Cx} {ops : Array Oper} {y : Oper} {rest : List (Nat × Oper)} {s : St} {Q : St → Prop} (h : Tr C ops ((0, y) :: rest) s Q) (hn : (s.hp.map (·.n)).Nodup) :
    ∃ v, dstOk C.N y ∧ Tr C ops rest (s.put y.dst v) Q ∧ (wantS ops s.sl y = some false ∧ v = undef ∨ wantS ops s.sl y = some true ∧ KLoadV C s.sl y v) := by
  cases h with
  | dup h => exact absurd hn h
  | skip hc hw hd k => exact ⟨_, hd, k, .inl ⟨hw, rfl⟩⟩
  | pure v hc hw hd hv k => exact ⟨v, hd, k, .inr ⟨hw, hv.known, fun ρ hf w _ _ => hv.run ρ hf w⟩⟩
  | kload v hc hw hd hv k => exact ⟨v, hd, k, .inr ⟨hw, hv⟩⟩
  | load v hc hc0 hw hd hv k => exact absurd rfl hc0
  | new mk cs T hc hw hd hv k => rcases hc with hc | hc <;> simp at hc
  | grow R val nw hc hw hd hv k => rcases hc with hc | hc <;> simp at hc
  | lend R val nw lent L keep hc hw hd hsp hl hv k => rcases hc with hc | hc <;> simp at hc
  | act R val hp hc hw hd hv k => simp at hc
theorem Tr.re13 {C : Cx} {ops : Array Oper} {x : Oper} {rest : List (Nat × Oper)} {s : St} {Q : St → Prop} (h : Tr C ops ((1, x) :: rest) s Q) : Tr C ops ((3, x) :: rest) s Q := by
  cases h with
  | dup h => exact .dup h
  | skip hc hw hd k => exact .skip dE hw hd k
  | pure v hc hw hd hv k => exact .pure v dE hw hd hv k
  | kload v hc hw hd hv k => exact .kload v dE hw hd hv k
  | load v hc hc0 hw hd hv k => exact .load v dE dE hw hd hv k
  | new mk cs T hc hw hd hv k => rcases hc with hc | hc <;> simp at hc
  | grow R val nw hc hw hd hv k => rcases hc with hc | hc <;> simp at hc
  | lend R val nw lent L keep hc hw hd hsp hl hv k => rcases hc with hc | hc <;> simp at hc
  | act R val hp hc hw hd hv k => simp at hc
theorem Tr.swap30 {C : Cx} (hC : C.kb = []) {ops : Array Oper} {x y : Oper} {rest : List (Nat × Oper)} {s : St} {Q : St → Prop} (hap : x.apart ops y = true) (h : Tr C ops ((3, x) :: (0, y) :: rest) s Q) : Tr C ops ((0, y) :: (3, x) :: rest) s (clQ Q) := by
  by_cases hnd : (s.hp.map (·.n)).Nodup
  case neg => exact .dup hnd
  have soft : Tr C ops ((1, x) :: (0, y) :: rest) s Q → Tr C ops ((0, y) :: (3, x) :: rest) s (clQ Q) := fun h => (h.swap dE hap).tail fun _ k => k.re13;obtain ⟨h1, h2, h3⟩ := Oper.apart_spec hap;cases h with
  | dup h => exact absurd hnd h
  | skip hc hw hd k => exact soft (.skip dE hw hd k)
  | pure v hc hw hd hv k => exact soft (.pure v dE hw hd hv k)
  | kload v hc hw hd hv k => exact soft (.kload v dE hw hd hv k)
  | load v hc hc0 hw hd hv k => exact soft (.load v dE dE hw hd hv k)
  | new mk cs T hc hw hd hv k => rcases hc with hc | hc <;> simp at hc
  | lend R val nw lent L keep hc hw hd hsp hl hv k => rcases hc with hc | hc <;> simp at hc
  | act R val hp hc hw hd hv k => simp at hc
  | grow R val nw hc hwx hd hv k =>
    obtain ⟨r0, hr0, hn0⟩ := hv.some s.hp hnd;obtain ⟨u, hdy, _, hy⟩ := (k r0 hr0).inv0 hn0;have ex : ∀ (u : Value), ∀ z ∈ x.op.operands, Af (Bo s.sl y.dst u) z = Af s.sl z := fun u z hz => evIn_put ((not_look (ops := ops) h3).1 z hz);have back : ∀ u, (∀ r, R r → ((nw r ++ s.hp).map (·.n)).Nodup → Tr C ops rest (St.put ⟨Bo s.sl x.dst (val r), nw r ++ s.hp⟩ y.dst u) Q) → Tr C ops ((3, x) :: rest) (s.put y.dst u) (clQ Q) := fun u kk => by
      refine .grow R val nw (.inl rfl) (by show wantS ops (Bo s.sl y.dst _) x = _; rw [Cf h3]; exact hwx) hd ⟨fun z hz => by show (Af (Bo s.sl y.dst _) z).isSome; rw [ex _ z hz]; exact hv.known z hz, hv.some, fun a w hf hh => ?_⟩ fun r hr => ?_
      · refine hv.run a w (fun z hz => ?_) hh
        have := hf z hz;rw [← ex u z hz]; exact this
      · by_cases hdn : ((nw r ++ s.hp).map (·.n)).Nodup
        · exact (kk r hr hdn).eqv _ ⟨fun t => look_comm h2 _ _ t, .refl _⟩
        · exact .dup hdn
    rcases hy with ⟨hw, rfl⟩ | ⟨hw, hk⟩
    · refine .skip dE (by rw [← Cf (v := val r0) h1]; exact hw) hdy (back _ fun r hr hdn => ?_)
      obtain ⟨u2, _, k2, h5⟩ := (k r hr).inv0 hdn;rcases h5 with ⟨_, rfl⟩ | ⟨hw2, _⟩
      · exact k2
      · exfalso
        have e1 : wantS ops (Bo s.sl x.dst (val r)) y = _ := Cf h1;have e2 : wantS ops (Bo s.sl x.dst (val r0)) y = _ := Cf h1;simp only at hw hw2;rw [e1] at hw2; rw [e2, hw2] at hw; cases hw
    · refine .kload u dE (by rw [← Cf (v := val r0) h1]; exact hw) hdy ⟨(known_put h1).1 hk.known, fun ρ hf => hk.run ρ ((fits_put h1).2 hf)⟩ (back _ fun r hr hdn => ?_)
      obtain ⟨u2, _, k2, h5⟩ := (k r hr).inv0 hdn;rcases h5 with ⟨hw2, _⟩ | ⟨_, hk2⟩
      · exfalso
        have e1 : wantS ops (Bo s.sl x.dst (val r)) y = _ := Cf h1;have e2 : wantS ops (Bo s.sl x.dst (val r0)) y = _ := Cf h1;simp only at hw hw2;rw [e1] at hw2; rw [e2, hw2] at hw; cases hw
      · have kn : Known s.sl y := (known_put h1).1 hk.known
        let ρ : Operand → Value := fun z => (Af s.sl z).getD undef
        have f : Fits s.sl y ρ := fun z hz => by
          have := kn z hz;cases hv : Af s.sl z with
          | none => simp [hv] at this
          | some v => simp [ρ, hv]
        have r1 := hk.run ρ ((fits_put h1).2 f) C.W0 (by rw [hC]; intro _ h; cases h) (Keeps.refl _ _);rw [hk2.run ρ ((fits_put h1).2 f) C.W0 (by rw [hC]; intro _ h; cases h) (Keeps.refl _ _)] at r1;injection r1 with r1 _;injection r1 with r1;rw [← r1]; exact k2

def commZ (c e : Nat) : Bool := comm c e || (c == 3 && e == 0)
theorem Tr.frontZ {C : Cx} (hC : C.kb = []) {ops : Array Oper} {e : Nat} {y : Oper} {l1 l2 : List (Nat × Oper)} {s : St} {Q : St → Prop} (hc : ∀ p ∈ l1, commZ p.1 e = true ∧ p.2.apart ops y = true)
    (h : Tr C ops (l1 ++ (e, y) :: l2) s Q) : Tr C ops ((e, y) :: (l1 ++ l2)) s (clQ Q) := by
  induction l1 generalizing s with
  | nil => exact h.mono fun s q => ⟨s, .refl _, q⟩
  | cons p l1 ih =>
    obtain ⟨c, x⟩ := p;have h1 : Tr C ops ((c, x) :: (e, y) :: (l1 ++ l2)) s (clQ Q) := h.tail fun s k => ih (fun p hp => hc p (List.mem_cons_of_mem _ hp)) k;obtain ⟨h2, h3⟩ := hc (c, x) List.mem_cons_self;simp only [commZ, Bool.or_eq_true, Bool.and_eq_true, beq_iff_eq] at h2;rcases h2 with h2 | ⟨rfl, rfl⟩
    · exact (h1.swap h2 h3).mono fun s q => clQ_cl q
    · exact (h1.swap30 hC h3).mono fun s q => clQ_cl q
theorem Tr.head {C : Cx} {ops : Array Oper} {c : Nat} {o : Oper} {rest : List (Nat × Oper)} {s : St} {Q : St → Prop} (h : Tr C ops ((c, o) :: rest) s Q) : Tr C ops [(4, o)] s (fun s' => Tr C ops rest s' Q) := by
  cases h with
  | dup h => exact .dup h
  | skip hc hw hd k => exact .skip dE hw hd (.nil k)
  | pure v hc hw hd hv k => exact .pure v dE hw hd hv (.nil k)
  | kload v hc hw hd hv k => exact .kload v dE hw hd hv (.nil k)
  | load v hc hc0 hw hd hv k => exact .load v dE dE hw hd hv (.nil k)
  | new mk cs T hc hw hd hv k => exact .new mk cs T (.inr rfl) hw hd hv fun n a b => .nil (k n a b)
  | grow R val nw hc hw hd hv k => exact .grow R val nw (.inr rfl) hw hd hv fun r hr => .nil (k r hr)
  | lend R val nw lent L keep hc hw hd hsp hl hv k => exact .lend R val nw lent L keep (.inr rfl) hw hd hsp hl hv fun r hr => .nil (k r hr)
  | act R val hp hc hw hd hv k => exact .act R val hp rfl hw hd hv fun r hr => .nil (k r hr)
def pairZ (ops : Array Oper) (p q : Nat × Nat) : Bool :=
  (commZ p.1 q.1 && (match ops[p.2]?, ops[q.2]? with | some x, some y => x.apart ops y | _, _ => false)) || reach ops ops.size q.2 p.2
def pairsZ (ops : Array Oper) : List (Nat × Nat) → Bool
  | [] => true
  | p :: l => l.all (pairZ ops p) && pairsZ ops l
theorem pairsZ_pw {ops : Array Oper} : ∀ {l : List (Nat × Nat)}, pairsZ ops l = true → l.Pairwise fun p q => pairZ ops p q = true
  | [], _ => .nil
  | p :: l, h => by
    simp only [pairsZ, Bool.and_eq_true, List.all_eq_true] at h;exact .cons h.1 (pairsZ_pw h.2)
def allIn (ops : Array Oper) (perm : List (Nat × Nat)) : Bool := (List.range ops.size).all fun i => (perm.map (·.2)).contains i
theorem reach_l {ops : Array Oper} {l : Nat → Bool} (hs : ∀ j, l j = true → ∀ k ∈ bindsIn ops j, l k = true) : ∀ n j i, (∀ k ∈ bindsIn ops j, l k = true) → reach ops n j i = true → l i = true
  | 0, _, _, _, h => by simp [reach] at h
  | n + 1, j, i, hj, h => by
    simp only [reach, Bool.or_eq_true] at h;rcases h with h | h
    · exact hj i (by simpa using h)
    · obtain ⟨k, hk, hr⟩ := List.any_eq_true.1 h
      exact reach_l hs n k i (hs k (hj k hk)) hr
theorem filter_also {l : Nat → Bool} {j : Nat} (perm l1 l2 : List (Nat × Nat)) (q : Nat × Nat) (hq : q.2 = j) (hn : (perm.map (·.2)).Nodup)
    (hf : perm.filter (fun p => !l p.2) = l1 ++ q :: l2) : perm.filter (fun p => !also j l p.2) = l1 ++ l2 := by
  have e : perm.filter (fun p => !also j l p.2) = (perm.filter (fun p => !l p.2)).filter fun p => !decide (j = p.2) := by
    rw [List.filter_filter];congr 1;funext p;unfold also;cases decide (j = p.2) <;> simp
  have hnf : ((l1 ++ q :: l2).map (·.2)).Nodup := by
    rw [← hf];exact List.Sublist.nodup (List.Sublist.map _ List.filter_sublist) hn
  rw [List.map_append, List.map_cons, List.nodup_append] at hnf;rw [e, hf, List.filter_append, List.filter_cons];have h1 : l1.filter (fun p => !decide (j = p.2)) = l1 := List.filter_eq_self.2 fun p hp => by
    have := hnf.2.2 p.2 (List.mem_map.2 ⟨p, hp, rfl⟩) q.2 List.mem_cons_self;simp; omega
  have h2 : l2.filter (fun p => !decide (j = p.2)) = l2 := List.filter_eq_self.2 fun p hp => by
    have := (List.nodup_cons.1 hnf.2.1).1;simp only [decide_not, Bool.not_eq_true', decide_eq_false_iff_not, Bool.not_eq_eq_eq_not, Bool.not_true];exact fun he => this (by rw [hq, he]; exact List.mem_map.2 ⟨p, hp, rfl⟩)
  rw [h1, h2];simp [hq]
theorem Sat.drawZ {C : Cx} {id : Nat} {ops : List Oper} {s : St} {Q : Exit → St → Prop} (perm : List (Nat × Nat)) (hm : C.P.follows .mixedOrders = true) (hok : (topoOk ops.toArray [] perm && (allIn ops.toArray perm && (Nat.ble perm.length ops.length && pairsZ ops.toArray perm))) = true)
    (h : Tr C ops.toArray (items ops.toArray perm) s (Q .normal)) (hC : C.kb = [] := by rfl) : Sat C (.region id ops.toArray true) s Q := by
  simp only [Bool.and_eq_true] at hok;obtain ⟨ht, ha, hl, hp⟩ := hok;have hpw := pairsZ_pw hp;have hnd := topo_nodup perm [] ht;have hall : ∀ i, i < ops.toArray.size → ∃ q ∈ perm, q.2 = i := fun i hi => by
    have := List.all_eq_true.1 ha i (List.mem_range.2 hi);simp only [List.contains_eq_mem, decide_eq_true_eq] at this;obtain ⟨p, h1, h2⟩ := List.mem_map.1 this;exact ⟨p, h1, h2⟩
  have key : Sat C (.region id ops.toArray true) s (fun e s => clQ (Q e) s) := by
    refine Sat.any perm hm ht ha hl (fun l s => Tr C ops.toArray (items ops.toArray (perm.filter fun p => !l p.2)) s (clQ (Q .normal))) ?_ ?_ ?_
    · rw [show perm.filter (fun p => !(fun _ => false) p.2) = perm from List.filter_eq_self.2 fun _ _ => rfl]
      exact h.mono fun s q => ⟨s, .refl _, q⟩
    · intro l s j o hoj hlj hs hb hJ
      have hjs : j < ops.toArray.size := (Array.getElem?_eq_some_iff.1 hoj).1;obtain ⟨q, hq, hqj⟩ := hall j hjs;obtain ⟨l1, l2, hf⟩ := List.append_of_mem (List.mem_filter.2 ⟨hq, by rw [hqj, hlj]; rfl⟩ : q ∈ perm.filter fun p => !l p.2);have hpf := hpw.filter (fun p => !l p.2);have hJ2 : Tr C ops.toArray (items ops.toArray l1 ++ (q.1, o) :: items ops.toArray l2) s (clQ (Q .normal)) := by
        have hit : items ops.toArray (q :: l2) = (q.1, o) :: items ops.toArray l2 := by
          unfold items;rw [List.filterMap_cons, hqj, hoj]; rfl
        rw [← hit, ← items_append, ← hf]; exact hJ
      rw [hf, List.pairwise_append] at hpf;have h' := (Tr.frontZ hC (fun p hp => by
        obtain ⟨p0, hp0, he⟩ := List.mem_filterMap.1 hp;have hp1 := hpf.2.2 p0 hp0 q List.mem_cons_self;have hun : l p0.2 = false := by
          have : p0 ∈ perm.filter (fun p => !l p.2) := by rw [hf]; exact List.mem_append.2 (.inl hp0)
          simpa using (List.mem_filter.1 this).2
        cases hop : ops.toArray[p0.2]? with
        | none => rw [hop] at he; cases he
        | some o1 =>
          rw [hop] at he;simp only [Option.map_some, Option.some.injEq] at he;subst he;simp only [pairZ, Bool.or_eq_true, Bool.and_eq_true] at hp1;rcases hp1 with hp1 | hp1
          · rw [hop, hqj, hoj] at hp1
            exact hp1
          · have := reach_l hs ops.toArray.size q.2 p0.2 (by rw [hqj]; exact hb) hp1
            rw [hun] at this;cases this) hJ2).mono fun s q => clQ_cl q
      refine h'.head.mono fun s' k => ?_;rw [filter_also perm l1 l2 q hqj hnd hf, items_append];exact k
    · intro l s hn hdone hJ
      have h0 : perm.filter (fun p => !l p.2) = [] := List.filter_eq_nil_iff.2 fun p hp => by
        have := (topo_mem perm [] ht p hp).1;rw [hdone _ (by simpa using this)]; simp
      rw [h0] at hJ;cases hJ with
      | nil hJ => exact hJ
      | dup hd => exact absurd hn hd
  exact fun a w r => wp_mono (key a w r) fun e a' w' ⟨s', r', s0, he, q⟩ => ⟨s0, r'.eqv he.symm, q⟩
end Hw
end

section
namespace Go.Proofs.YtdilealohibfoaaGreat
open Go
set_option maxRecDepth 100000
set_option maxHeartbeats 8000000
theorem closedCNil : joinedFacts Tryz.pinned.checked.prog 3 Tryz.f3 Rows.cutNilSpec Rows.cutNilRow = true := by
  unfold joinedFacts;simp only [Bool.and_eq_true]
  repeat apply And.intro
  all_goals as_aux_lemma => kernel_rfl
end Go.Proofs.YtdilealohibfoaaGreat
end

section
namespace Hw
open Go Go.RowKit
class ST (P : Program) (T : TypeId) (n : outParam Nat) : Prop where h : Sz P T n
theorem sZ {P : Program} {T : TypeId} {n : Nat} [i : ST P T n] : Sz P T n := i.h
theorem oG {p : Prop} (h : p := by first | exact oK) : p := h
theorem gF {p : Prop} (h : p := by first | exact Block.get_fLinks oG | exact Block.get_fSeq oG | exact Cut.get_fHeads oG | exact Cut.get_fHeight oG | exact Block.get_fData oG | rfl | exact get_words (by first | omega | (simp; done) | (simp; omega)) | exact get_bytes (by first | omega | (simp; done) | (simp; omega)) | exact get_ints (by first | omega | (simp; done) | (simp; omega))) : p := h
theorem gL {p : Prop} (h : p := by first | exact Block.length oG | exact Cut.length oG | exact DEnt.length oG | exact Point.length oG | rfl | (simp; done) | assumption | (rw [Aa, List.length_map]; assumption)) : p := h
theorem gC {p : Prop} (h : p := by first | exact Block.isCell oG | exact Cut.isCell oG | exact DEnt.isCell oG | exact Point.isCell oG | exact Ax _ | (simp [isCell]; done)) : p := h
theorem gV {p : Prop} (h : p := by first | exact cv_u8_u64 _ | exact cv_u64_u8 _ | exact cv_u8_i64 _ | exact cv_i64_u64 _ | exact cv_i64_u8 _) : p := h
theorem sY {p : Prop} (h : p := by first | exact sZ | exact Go.Proofs.YtdilealohibfoaaGreat.Sz214 | exact Go.Proofs.YtdilealohibfoaaGreat.Sz26 | exact Go.Proofs.YtdilealohibfoaaGreat.Sz23 | exact Go.Proofs.YtdilealohibfoaaGreat.Sz5 | exact Go.Proofs.YtdilealohibfoaaGreat.Sz48 | exact Go.Proofs.YtdilealohibfoaaGreat.Sz25 | exact Go.Proofs.YtdilealohibfoaaGreat.Sz277 | exact Go.Proofs.YtdilealohibfoaaGreat.Sz44 | exact Go.Proofs.YtdilealohibfoaaGreat.Sz28 | exact Go.Proofs.YtdilealohibfoaaGreat.Sz43 | exact Go.Proofs.YtdilealohibfoaaGreat.Sz135 | exact Go.Proofs.YtdilealohibfoaaGreat.Sz137 | exact Go.Proofs.YtdilealohibfoaaGreat.Sz295 | exact Go.Proofs.YtdilealohibfoaaGreat.Sz192 | exact Go.Proofs.YtdilealohibfoaaGreat.Sz136 | exact Go.Proofs.YtdilealohibfoaaGreat.Sz46 | exact Go.Proofs.YtdilealohibfoaaGreat.Sz217 | exact Go.Proofs.YtdilealohibfoaaGreat.Sz40 | exact Go.Proofs.YtdilealohibfoaaGreat.Sz138 | exact Go.Proofs.YtdilealohibfoaaGreat.Sz139 | exact Go.Proofs.YtdilealohibfoaaGreat.Sz3) : p := h
structure Kp (p : Prop) : Prop where o : p
theorem G1 {p q : Prop} (k : q) (h : Kp q → p := by intro k; (first | refine Tr.nil ?_ | with_reducible refine Co ?_ | with_reducible refine at_x ?_ | with_reducible refine at_r ?_ | with_reducible refine bl_n ?_ | with_reducible refine bl_h ?_ | with_reducible refine bl_r ?_ | with_reducible refine en_n ?_ | with_reducible refine en_r ?_ | with_reducible refine Sat.seq ?_ | with_reducible refine Sat.region ?_ | with_reducible refine Sat.ret ?_ | with_reducible refine Sat.skip ?_ | with_reducible refine Sat.exit ?_ | with_reducible refine Sat.block ?_ | refine Tr.m rfl rfl rfl ?_ | refine Tr.a rfl rfl rfl ?_ | refine Tr.skp rfl rfl ?_ | refine Tr.fld rfl rfl rfl uY rfl sY dE _ rfl ?_ | refine Tr.load1 rfl rfl rfl uY rfl mM gF ?_ | refine Tr.pick rfl rfl rfl rfl rfl rfl ?_ | refine Tr.lenSl rfl rfl rfl uY ?_ | refine Tr.aI rfl rfl rfl rfl oM ?_ | refine Tr.sub_i64 rfl rfl rfl rfl oM ?_ | refine Tr.eX rfl rfl rfl rfl ?_ | refine Tr.nC rfl rfl rfl ?_ | refine Tr.conv rfl rfl rfl uY uY gV ?_ | refine Tr.lss rfl rfl rfl rfl rfl ?_ | refine Tr.gtr rfl rfl rfl rfl rfl ?_ | refine Tr.geq rfl rfl rfl rfl rfl ?_ | refine Tr.leq rfl rfl rfl rfl rfl ?_ | refine Tr.eqi rfl rfl rfl rfl rfl ?_ | refine Tr.nei rfl rfl rfl rfl rfl ?_ | refine Tr.not rfl rfl rfl ?_ | refine Tr.boxA rfl rfl ?_ | refine Tr.sliceArr rfl rfl rfl uY sZ ?_ | refine Tr.add_u64 rfl rfl rfl rfl ?_ | refine Tr.mul_u64 rfl rfl rfl rfl ?_ | refine Tr.and_u64 rfl rfl rfl rfl ?_ | refine Tr.or_u64 rfl rfl rfl rfl ?_ | refine Tr.xor_u64 rfl rfl rfl rfl ?_ | refine Tr.makeFunc rfl rfl rfl rfl ?_ | refine Tr.lA rfl rfl rfl uY rfl sZ mM gL ?_ | refine Tr.sA rfl rfl rfl rfl gC sZ gL mM gL uU ?_); exact k.o) : p := h ⟨k⟩
theorem G2 {p q : Prop} (k : q) (h : Kp q → p := by intro k; (iterate 2 (refine G1 ?_)); exact k.o) : p := h ⟨k⟩
theorem G3 {p q : Prop} (k : q) (h : Kp q → p := by intro k; (iterate 3 (refine G1 ?_)); exact k.o) : p := h ⟨k⟩
theorem G4 {p q : Prop} (k : q) (h : Kp q → p := by intro k; (iterate 4 (refine G1 ?_)); exact k.o) : p := h ⟨k⟩
theorem G5 {p q : Prop} (k : q) (h : Kp q → p := by intro k; (iterate 5 (refine G1 ?_)); exact k.o) : p := h ⟨k⟩
theorem G6 {p q : Prop} (k : q) (h : Kp q → p := by intro k; (iterate 6 (refine G1 ?_)); exact k.o) : p := h ⟨k⟩
theorem G7 {p q : Prop} (k : q) (h : Kp q → p := by intro k; (iterate 7 (refine G1 ?_)); exact k.o) : p := h ⟨k⟩
theorem G8 {p q : Prop} (k : q) (h : Kp q → p := by intro k; (iterate 8 (refine G1 ?_)); exact k.o) : p := h ⟨k⟩
theorem G9 {p q : Prop} (k : q) (h : Kp q → p := by intro k; (iterate 9 (refine G1 ?_)); exact k.o) : p := h ⟨k⟩
theorem G10 {p q : Prop} (k : q) (h : Kp q → p := by intro k; (iterate 10 (refine G1 ?_)); exact k.o) : p := h ⟨k⟩
theorem G11 {p q : Prop} (k : q) (h : Kp q → p := by intro k; (iterate 11 (refine G1 ?_)); exact k.o) : p := h ⟨k⟩
theorem G12 {p q : Prop} (k : q) (h : Kp q → p := by intro k; (iterate 12 (refine G1 ?_)); exact k.o) : p := h ⟨k⟩
theorem G13 {p q : Prop} (k : q) (h : Kp q → p := by intro k; (iterate 13 (refine G1 ?_)); exact k.o) : p := h ⟨k⟩
theorem G14 {p q : Prop} (k : q) (h : Kp q → p := by intro k; (iterate 14 (refine G1 ?_)); exact k.o) : p := h ⟨k⟩
theorem G15 {p q : Prop} (k : q) (h : Kp q → p := by intro k; (iterate 15 (refine G1 ?_)); exact k.o) : p := h ⟨k⟩
theorem G16 {p q : Prop} (k : q) (h : Kp q → p := by intro k; (iterate 16 (refine G1 ?_)); exact k.o) : p := h ⟨k⟩
theorem G17 {p q : Prop} (k : q) (h : Kp q → p := by intro k; (iterate 17 (refine G1 ?_)); exact k.o) : p := h ⟨k⟩
theorem G18 {p q : Prop} (k : q) (h : Kp q → p := by intro k; (iterate 18 (refine G1 ?_)); exact k.o) : p := h ⟨k⟩
theorem G19 {p q : Prop} (k : q) (h : Kp q → p := by intro k; (iterate 19 (refine G1 ?_)); exact k.o) : p := h ⟨k⟩
theorem G20 {p q : Prop} (k : q) (h : Kp q → p := by intro k; (iterate 20 (refine G1 ?_)); exact k.o) : p := h ⟨k⟩
theorem G21 {p q : Prop} (k : q) (h : Kp q → p := by intro k; (iterate 21 (refine G1 ?_)); exact k.o) : p := h ⟨k⟩
theorem G22 {p q : Prop} (k : q) (h : Kp q → p := by intro k; (iterate 22 (refine G1 ?_)); exact k.o) : p := h ⟨k⟩
theorem G23 {p q : Prop} (k : q) (h : Kp q → p := by intro k; (iterate 23 (refine G1 ?_)); exact k.o) : p := h ⟨k⟩
theorem G24 {p q : Prop} (k : q) (h : Kp q → p := by intro k; (iterate 24 (refine G1 ?_)); exact k.o) : p := h ⟨k⟩
theorem G25 {p q : Prop} (k : q) (h : Kp q → p := by intro k; (iterate 25 (refine G1 ?_)); exact k.o) : p := h ⟨k⟩
theorem G26 {p q : Prop} (k : q) (h : Kp q → p := by intro k; (iterate 26 (refine G1 ?_)); exact k.o) : p := h ⟨k⟩
theorem G29 {p q : Prop} (k : q) (h : Kp q → p := by intro k; (iterate 29 (refine G1 ?_)); exact k.o) : p := h ⟨k⟩
theorem G31 {p q : Prop} (k : q) (h : Kp q → p := by intro k; (iterate 31 (refine G1 ?_)); exact k.o) : p := h ⟨k⟩
theorem G51 {p q : Prop} (k : q) (h : Kp q → p := by intro k; (iterate 51 (refine G1 ?_)); exact k.o) : p := h ⟨k⟩
end Hw
namespace Go.Proofs.YtdilealohibfoaaGreat
open Go Hw
instance : ST Tryz.prog 214 32 := ⟨Sz214⟩
instance : ST Tryz.prog 26 1 := ⟨Sz26⟩
instance : ST Tryz.prog 23 1 := ⟨Sz23⟩
instance : ST Tryz.prog 5 1 := ⟨Sz5⟩
instance : ST Tryz.prog 48 131 := ⟨Sz48⟩
instance : ST Tryz.prog 25 32 := ⟨Sz25⟩
instance : ST Tryz.prog 277 10 := ⟨Sz277⟩
instance : ST Tryz.prog 44 1 := ⟨Sz44⟩
instance : ST Tryz.prog 28 34 := ⟨Sz28⟩
instance : ST Tryz.prog 43 32 := ⟨Sz43⟩
instance : ST Tryz.prog 135 1 := ⟨Sz135⟩
instance : ST Tryz.prog 137 1 := ⟨Sz137⟩
instance : ST Tryz.prog 295 5 := ⟨Sz295⟩
instance : ST Tryz.prog 192 132 := ⟨Sz192⟩
instance : ST Tryz.prog 136 1 := ⟨Sz136⟩
instance : ST Tryz.prog 46 64 := ⟨Sz46⟩
instance : ST Tryz.prog 217 64 := ⟨Sz217⟩
instance : ST Tryz.prog 40 1 := ⟨Sz40⟩
instance : ST Tryz.prog 138 1 := ⟨Sz138⟩
instance : ST Tryz.prog 139 1 := ⟨Sz139⟩
instance : ST Tryz.prog 3 1 := ⟨Sz3⟩
end Go.Proofs.YtdilealohibfoaaGreat
end

section
namespace Go.Proofs.YtdilealohibfoaaGreat
open Go Hw

def CapM (W : World) (c b : Nat) : Prop := W.cell? ⟨c, 0, none⟩ = some (.map (some b))
theorem CapM.keep {C : Cx} {hp : List Blk} {w : World} {c b : Nat} (h : CapM C.W0 c b) (hc : c < C.W0.heap.size) (hl : c ∉ C.lent) (hh : HRep C hp w) : w.cell? ⟨c, 0, none⟩ = some (.map (some b)) := by
  have e := hh.keeps.block c hc hl;unfold CapM at h;unfold World.cell? at h ⊢;rw [e]; exact h
def KeySeq (P : Program) (gf : Nat) (lb : Array Value) (keys : List (List UInt8)) (W : World) : Prop :=
  ∀ (σ : Type) (X : σ → List Blk) (vis : σ → List (List UInt8)) (s0 : σ) (names : List Nat) (l : Nat) (w1 : World), Keeps [] W w1 → (∀ n ∈ names, W.heap.size ≤ n) → vis s0 = [] → HRep ⟨P, w1, 0, names, [], []⟩ (X s0) w1 →
    (∀ s k, k.length = 32 → (vis s).length < keys.length → ∀ W2, HRep ⟨P, w1, 0, names, [], []⟩ (X s) W2 → YieldAt Fence.wide 0 P l #[agg (Aa k)] W2 fun e W3 => e = .returned (.bool true) ∧ ∃ s', vis s' = vis s ++ [k] ∧ Ret ((X s).map (·.n)) (X s') W2 W3) →
    CallsIn Fence.wide 0 P gf (#[.func (.yield l) #[] #[]] ++ lb) w1 fun e W' => (∃ v, e = .returned v) ∧ ∃ s, (vis s).Perm keys ∧ HRep ⟨P, w1, 0, names, [], []⟩ (X s) W'
theorem key_at {ν : Type} {ev : ν → Value} {fs todo : List (List UInt8 × ν)} {es : Array MapEntry} {clock : Nat} {seen seen2 : Array Nat} {j : Nat} {k : List UInt8} {v : ν} (F : MFit (As 32 ev) fs es clock) (hit : ItOk (As 32 ev) es seen2 (todo.eraseIdx j)) (hi : ItOk (As 32 ev) es seen todo) (hj : todo[j]? = some (k, v)) : k.length = 32 := by
  have h1 : ((agg (Aa k)), ev v) ∈ (leftOf es seen).toList.map (fun e => (e.key, e.val)) := by
    unfold ItOk at hi;rw [hi];exact List.mem_map.2 ⟨(k, v), List.mem_of_getElem? hj, rfl⟩
  obtain ⟨e, he, ee⟩ := List.mem_map.1 h1;simp only [Prod.mk.injEq] at ee;have he2 : e ∈ es.toList := by simp only [leftOf, Array.toList_filter] at he; exact (List.mem_filter.1 he).1
  obtain ⟨i, hi2⟩ := List.getElem?_of_mem he2;obtain ⟨p, hp, e1, _⟩ := F.at hi2;have : agg (Aa p.1) = agg (Aa k) := e1.trans ee.1;rw [← agg_bytes_inj this];exact F.ok p (List.mem_of_getElem? hp)
theorem vis_lt {ν : Type} {fs todo : List (List UInt8 × ν)} {vs : List (List UInt8)} {j : Nat} {x : List UInt8 × ν} (h : (vs ++ todo.map (·.1)).Perm (fs.map (·.1))) (hj : todo[j]? = some x) : vs.length < fs.length := by
  have h1 := h.length_eq;have h2 := (List.getElem?_eq_some_iff.1 hj).1;simp only [List.length_append, List.length_map] at h1;omega
theorem perm_step {α : Type} {keys a todo : List α} {j : Nat} {x : α} (h : (a ++ todo).Perm keys) (hj : todo[j]? = some x) : ((a ++ [x]) ++ todo.eraseIdx j).Perm keys := by
  refine List.Perm.trans ?_ h;rw [List.append_assoc];refine List.Perm.append_left a ?_;obtain ⟨hl, he⟩ := List.getElem?_eq_some_iff.1 hj;clear h hj
  induction todo generalizing j with
  | nil => cases hl
  | cons y todo ih =>
    cases j with
    | zero => simp only [List.getElem_cons_zero] at he; subst he; exact List.Perm.refl _
    | succ j =>
      simp only [List.getElem_cons_succ] at he;rw [List.eraseIdx_cons_succ];exact (List.Perm.swap y x _).trans (List.Perm.cons y (ih (by simpa using hl) he))

theorem mk_keysB (b : Nat) : Meets Tryz.prog 208 [.map (some b)] [] (fun _ => True) (fun v out => ∃ c, v = .func (.func 264) #[] #[ptr c 0] ∧ out = [⟨c, [.map (some b)], 137, 1⟩]) := by
 intro W hW;refine Ac Tryz.func208 J 4 Tryz.ntmps208 J (G2 ?_);refine .box1 J J J ?_;intro n1 hn1 hf1;refine G9 ?_;refine G2 ?_;refine A0 (out := (⟨n1, [.map (some b)], 137, 1⟩ :: [])) (Ai J J) (Ab rM Al) ?_;exact ⟨n1, rfl, rfl⟩

theorem keys_iterB {ν : Type} {ev : ν → Value} {z : Value} (M : MOk Tryz.prog 137 25 48 (As 32 ev) z) {σ : Type} (X : σ → List Blk) (vis : σ → List (List UInt8)) (s0 : σ) (names : List Nat) (l c b : Nat) (fs : List (List UInt8 × ν)) (es : Array MapEntry) (clock : Nat) (w1 : World) (F : MFit (As 32 ev) fs es clock) (hv0 : vis s0 = []) (hbn : b ∉ names) (hcn : c ∉ names) : Meets Tryz.prog 264 [.func (.yield l) #[] #[], ptr c 0] names (fun W => W = w1 ∧ HRep ⟨Tryz.prog, w1, 0, names, [], []⟩ (X s0) W ∧ W.heap[b]? = some (.map es clock) ∧ CapM W c b ∧ c < W.heap.size ∧ ∀ s k, k.length = 32 → (vis s).length < fs.length → ∀ W2, HRep ⟨Tryz.prog, w1, 0, names, [], []⟩ (X s) W2 → YieldAt Fence.wide 0 Tryz.prog l #[agg (Aa k)] W2 fun e W3 => e = .returned (.bool true) ∧ ∃ s', vis s' = vis s ++ [k] ∧ Ret ((X s).map (·.n)) (X s') W2 W3) (fun v out => v = .tuple #[] ∧ ∃ s, (vis s).Perm (fs.map (·.1)) ∧ out = X s) := by
  intro W hW;obtain ⟨rfl, hW⟩ := hW;obtain ⟨hH, hb, hcap, hclt, hY⟩ := hW;have hW := And.intro hH trivial;refine calls_of (hp0 := X s0) Tryz.func264 J 14 Tryz.ntmps264 J (HRep.reN hW.1) (G2 ?_);refine .loadAny J J J (v := .map (some b)) (fun w h => ?_) ?_
  · have hcc := hcap.keep (C := ⟨Tryz.prog, W, _, names, [], []⟩) hclt hcn h
    simp [loadVar, run_isAgg_plain Y137.h rfl, load, Sem.run, hcc]
  refine .rangeMapC Y137.h hb hbn J J J J ?_;intro q;refine G3 ?_;refine .loop (ι := Array Nat × List (List UInt8 × ν) × σ) (fun p => ⟨[(0, .func (.yield l) #[] #[]), (1, ptr c 0), (5, ptr q 0)], (iblk q b clock p.1 :: (X p.2.2 ++ []))⟩) (fun p => ItOk (As 32 ev) es p.1 p.2.1 ∧ ((vis p.2.2) ++ (p.2.1.map (·.1))).Perm (fs.map (·.1))) (fun p => p.2.1.length) ((#[], fs, s0)) ?_ ?_ ?_
  · exact ⟨ItOk.start F, by rw [hv0]; exact List.Perm.refl _⟩
  · exact Aq (wk1 rfl (wk1 rfl (wk1 rfl wk0))) (Ab rM (Ah (by repeat (exact sg_end)) Al))
  rintro p ⟨hi, hpm⟩;refine G2 ?_;refine .nextMapC F hi hb hbn J J J J rM ?_ ?_
  ·
    intro htd;refine G4 ?_;refine .cond_f J J (G5 ?_);refine A0 (out := (X p.2.2 ++ [])) (res_none J) (Ah sG Al) ?_;rw [htd] at hpm; exact ⟨rfl, p.2.2, by simpa using hpm, List.append_nil _⟩
  intro j k v seen2 hj hit hat;have hk32 : k.length = 32 := key_at F hit hi hj;have hvl : (vis p.2.2).length < fs.length := vis_lt hpm hj;refine G4 ?_;refine .cond_t J J (G5 ?_);refine .entryMapC F hat hb hbn J J J Z0 ?_;refine G1 ?_;refine .alloc (cs := (Aa (List.replicate 32 0))) J Cr J ?_;intro n3 hn3 hf3;refine .sA J J J J zB Sz25 (by (rw [Aa, List.length_map]; assumption)) Z0 sP zU ?_;refine G3 ?_;refine .regionY 2 J zK (G1 ?_);refine .lA J J J Y25.h J Sz25 Z0 (by (rw [Aa, List.length_map]; assumption)) ?_;refine .nil (yopR (S := fun s' => vis s' = vis p.2.2 ++ [k]) (hpF := X) J J J sG (fun w h => hY p.2.2 k hk32 hvl w h) ?_);intro s9 hs9;refine G3 ?_;refine .cond_f J J (G3 ?_);exact ⟨(seen2, p.2.1.eraseIdx j, s9), ⟨hit, by rw [hs9, ChangeMaps.map_eraseIdx]; exact perm_step hpm (by rw [List.getElem?_map, hj]; rfl)⟩, by have h8 := (List.getElem?_eq_some_iff.1 hj).1; simp only [List.length_eraseIdx, h8, if_true]; omega, Aq (wk1 rfl (wk1 rfl (wk1 rfl wk0))) (Ab rM (Ah sG Al))⟩
theorem mk_keysU (b : Nat) : Meets Tryz.prog 184 [.map (some b)] [] (fun _ => True) (fun v out => ∃ c, v = .func (.func 218) #[] #[ptr c 0] ∧ out = [⟨c, [.map (some b)], 136, 1⟩]) := by
 intro W hW;refine Ac Tryz.func184 J 4 Tryz.ntmps184 J (G2 ?_);refine .box1 J J J ?_;intro n1 hn1 hf1;refine G9 ?_;refine G2 ?_;refine A0 (out := (⟨n1, [.map (some b)], 136, 1⟩ :: [])) (Ai J J) (Ab rM Al) ?_;exact ⟨n1, rfl, rfl⟩

theorem keys_iterU {ν : Type} {ev : ν → Value} {z : Value} (M : MOk Tryz.prog 136 25 159 (As 32 ev) z) {σ : Type} (X : σ → List Blk) (vis : σ → List (List UInt8)) (s0 : σ) (names : List Nat) (l c b : Nat) (fs : List (List UInt8 × ν)) (es : Array MapEntry) (clock : Nat) (w1 : World) (F : MFit (As 32 ev) fs es clock) (hv0 : vis s0 = []) (hbn : b ∉ names) (hcn : c ∉ names) : Meets Tryz.prog 218 [.func (.yield l) #[] #[], ptr c 0] names (fun W => W = w1 ∧ HRep ⟨Tryz.prog, w1, 0, names, [], []⟩ (X s0) W ∧ W.heap[b]? = some (.map es clock) ∧ CapM W c b ∧ c < W.heap.size ∧ ∀ s k, k.length = 32 → (vis s).length < fs.length → ∀ W2, HRep ⟨Tryz.prog, w1, 0, names, [], []⟩ (X s) W2 → YieldAt Fence.wide 0 Tryz.prog l #[agg (Aa k)] W2 fun e W3 => e = .returned (.bool true) ∧ ∃ s', vis s' = vis s ++ [k] ∧ Ret ((X s).map (·.n)) (X s') W2 W3) (fun v out => v = .tuple #[] ∧ ∃ s, (vis s).Perm (fs.map (·.1)) ∧ out = X s) := by
  intro W hW;obtain ⟨rfl, hW⟩ := hW;obtain ⟨hH, hb, hcap, hclt, hY⟩ := hW;have hW := And.intro hH trivial;refine calls_of (hp0 := X s0) Tryz.func218 J 14 Tryz.ntmps218 J (HRep.reN hW.1) (G2 ?_);refine .loadAny J J J (v := .map (some b)) (fun w h => ?_) ?_
  · have hcc := hcap.keep (C := ⟨Tryz.prog, W, _, names, [], []⟩) hclt hcn h
    simp [loadVar, run_isAgg_plain Y136.h rfl, load, Sem.run, hcc]
  refine .rangeMapC Y136.h hb hbn J J J J ?_;intro q;refine G3 ?_;refine .loop (ι := Array Nat × List (List UInt8 × ν) × σ) (fun p => ⟨[(0, .func (.yield l) #[] #[]), (1, ptr c 0), (5, ptr q 0)], (iblk q b clock p.1 :: (X p.2.2 ++ []))⟩) (fun p => ItOk (As 32 ev) es p.1 p.2.1 ∧ ((vis p.2.2) ++ (p.2.1.map (·.1))).Perm (fs.map (·.1))) (fun p => p.2.1.length) ((#[], fs, s0)) ?_ ?_ ?_
  · exact ⟨ItOk.start F, by rw [hv0]; exact List.Perm.refl _⟩
  · exact Aq (wk1 rfl (wk1 rfl (wk1 rfl wk0))) (Ab rM (Ah (by repeat (exact sg_end)) Al))
  rintro p ⟨hi, hpm⟩;refine G2 ?_;refine .nextMapC F hi hb hbn J J J J rM ?_ ?_
  ·
    intro htd;refine G4 ?_;refine .cond_f J J (G5 ?_);refine A0 (out := (X p.2.2 ++ [])) (res_none J) (Ah sG Al) ?_;rw [htd] at hpm; exact ⟨rfl, p.2.2, by simpa using hpm, List.append_nil _⟩
  intro j k v seen2 hj hit hat;have hk32 : k.length = 32 := key_at F hit hi hj;have hvl : (vis p.2.2).length < fs.length := vis_lt hpm hj;refine G4 ?_;refine .cond_t J J (G5 ?_);refine .entryMapC F hat hb hbn J J J Z0 ?_;refine G1 ?_;refine .alloc (cs := (Aa (List.replicate 32 0))) J Cr J ?_;intro n3 hn3 hf3;refine .sA J J J J zB Sz25 (by (rw [Aa, List.length_map]; assumption)) Z0 sP zU ?_;refine G3 ?_;refine .regionY 2 J zK (G1 ?_);refine .lA J J J Y25.h J Sz25 Z0 (by (rw [Aa, List.length_map]; assumption)) ?_;refine .nil (yopR (S := fun s' => vis s' = vis p.2.2 ++ [k]) (hpF := X) J J J sG (fun w h => hY p.2.2 k hk32 hvl w h) ?_);intro s9 hs9;refine G3 ?_;refine .cond_f J J (G3 ?_);exact ⟨(seen2, p.2.1.eraseIdx j, s9), ⟨hit, by rw [hs9, ChangeMaps.map_eraseIdx]; exact perm_step hpm (by rw [List.getElem?_map, hj]; rfl)⟩, by have h8 := (List.getElem?_eq_some_iff.1 hj).1; simp only [List.length_eraseIdx, h8, if_true]; omega, Aq (wk1 rfl (wk1 rfl (wk1 rfl wk0))) (Ab rM (Ah sG Al))⟩

def cmpI (a b : Int) : Int := if a < b then -1 else if b < a then 1 else 0
theorem bytealg_run {w : World} {p q : Option Addr} {n m c1 c2 : Nat} {a b : List UInt8} (ha : a.length = n) (hb : b.length = m) (h1 : SeesP w p (Aa a)) (h2 : SeesP w q (Aa b)) :
    (callFunc 187 [.slice p n c1, .slice q m c2].toArray).run Tryz.prog w = .ok (.value (i64 (Cm a b))) w := by
  rw [run_callFunc_extern Tryz.func187 zK zK zK (e := Extern.BytealgCompare.compare) zK];rw [show [Value.slice p n c1, Value.slice q m c2].toArray = #[.slice p n c1, .slice q m c2] from rfl, run_compareB ha hb h1 h2];rfl

theorem bytes_cmp (p q : Option Addr) (c1 c2 n m : Nat) (a b : List UInt8) (ha : a.length = n) (hb : b.length = m) : Meets Tryz.prog 149 [.slice p n c1, .slice q m c2] [] (fun W => SeesP W p (Aa a) ∧ SeesP W q (Aa b)) (fun v out => v = i64 (Cm a b) ∧ out = []) := by
 intro W hW;refine Ac Tryz.func149 J 8 Tryz.ntmps149 J (G9 ?_);refine .extL J J J J (fun w h => bytealg_run ha hb (A2 h J hW.1) (A2 h J hW.2)) (G3 ?_);refine G2 ?_;refine ⟨_, [], Ai J J, sP, sP, ?_, rfl⟩;rfl


def badAt (prev : List UInt8) (ls : List (List UInt8)) (i : Nat) : Bool := decide (ls.getD i [] = List.replicate 32 0) || (decide (ls.getD i [] = prev) || (decide ((0 : Int) < (i : Int)) && decide ((0 : Int) ≤ Cm (ls.getD (i - 1) []) (ls.getD i []))))
def linksBad (prev : List UInt8) (ls : List (List UInt8)) : Bool := (List.range ls.length).any (badAt prev ls)
def bheadB (B : Block) : Bool := decide ((4294967295 : Int) < (B.fSeq.toNat : Int)) || (!decide (decide (B.fPrev = List.replicate 32 0) = decide ((B.fSeq.toNat : Int) = 0)) || (decide ((16 : Int) < (B.fLinks.n : Int)) || decide ((512 : Int) < (B.fData.n : Int))))
def bhead (B : Block) : Prop := bheadB B = true
theorem linksBad_at {prev : List UInt8} {ls : List (List UInt8)} {k : Nat} (hk : k < ls.length) (h : badAt prev ls k = true) : linksBad prev ls = true := by
  rw [linksBad, List.any_eq_true]; exact ⟨k, List.mem_range.2 hk, h⟩
theorem linksBad_not {prev : List UInt8} {ls : List (List UInt8)} (h : ∀ j, j < ls.length → badAt prev ls j = false) : linksBad prev ls = false := by
  rw [linksBad, List.any_eq_false]; intro x hx; rw [h x (List.mem_range.1 hx)]; simp
def bcheck (B : Block) (ls : List (List UInt8)) : Int := if bheadB B = true then 2 else (if linksBad B.fPrev ls = true then 2 else 0)
theorem bcheck_head {B : Block} {ls : List (List UInt8)} (h : bhead B) : bcheck B ls = 2 := by unfold bcheck; unfold bhead at h; rw [if_pos h]
theorem bcheck_bad {B : Block} {ls : List (List UInt8)} (h : ¬ bhead B) (hb : linksBad B.fPrev ls = true) : bcheck B ls = 2 := by unfold bcheck; unfold bhead at h; rw [if_neg h, if_pos hb]
theorem bcheck_ok {B : Block} {ls : List (List UInt8)} (h : ¬ bhead B) (hb : linksBad B.fPrev ls = false) : bcheck B ls = 0 := by unfold bcheck; unfold bhead at h; rw [if_neg h, if_neg (by rw [hb]; simp)]

theorem block_cmp (a b : List UInt8) (ha : a.length = 32) (hb : b.length = 32) : Meets Tryz.prog 83 [agg (Aa a), agg (Aa b)] [] (fun _ => True) (fun v out => v = i64 (Cm a b) ∧ out = []) := by
 intro W hW;refine Ac Tryz.func83 J 8 Tryz.ntmps83 J (G3 ?_);intro n2 hn2 hf2;refine G1 ?_;intro n3 hn3 hf3;refine G4 ?_;refine .draw (oP [0,1,302,3]) Ao zK (G2 ?_);refine .cV J J J J Body149 (bytes_cmp _ _ _ _ _ _ a b ha hb) (fun W2 h => ⟨SeesP.of (Ar h Z1), SeesP.of (Ar h Z0)⟩) ?_;refine G3 ?_;refine G2 ?_;refine ⟨_, [], Ai J J, sP, sP, ?_, rfl⟩;rfl

theorem block_check (B : Block) (hB : B.ok) (ls : List (List UInt8)) : Meets Tryz.prog 171 [agg B.cells] [] (fun W => RowsAt W B.fLinks 32 ls) (fun v out => v = i64 (bcheck B ls) ∧ out = []) := by
 intro W hW;have hcx : B.fLinks.n ≤ maxLen := hW.max;simp only [maxLen] at hcx;have hcn := hW.cap;refine Ac Tryz.func171 J 65 Tryz.ntmps171 J (G3 ?_);intro n1 hn1 hf1;refine G5 ?_;refine .build (cs := Aa (List.replicate 32 0)) J J J (fun w => by kernel_rfl) ?_;refine .alloc (cs := (Aa (List.replicate 32 0))) J Cr J ?_;intro n3 hn3 hf3;refine .sA J J J J zB Sz25 sP Z0 sP zU ?_;refine G4 ?_;refine .draw (oP [0,101,2,3,4,105,106,7,8,109,10,11,12,13,14,115,16,17,18,19,20,121,22,23,24]) Ao zK (G2 ?_);refine two (fun r hr k => Tr.gtr J J J J hr k) (fun hs2_20 => ?_) (fun hs2_20 => ?_)
 ·
  have hs2_2 := of_decide_eq_true hs2_20;refine G24 ?_;refine .cond_t J J (G5 ?_);refine G3 ?_;refine ⟨_, [], Ai J J, sP, sP, ?_, rfl⟩;exact congrArg i64 (bcheck_head (by unfold bhead bheadB; simp_all)).symm
 have hs2_2 := of_decide_eq_false hs2_20;refine G2 ?_;refine .lN (Aa _) J J J Y25.h J Sz25 Z1 (Block.row_fPrev zA) (Block.rl_fPrev zA) ?_;refine .lA J J J Y25.h J Sz25 Z0 sP ?_;refine .eql_bytes J J J J Tryz.eqGuardType25 Y25.h Y5.h Sz5 (by (simp [hB.l_fPrev]; done)) sP J ?_;refine G3 ?_;refine two (fun r hr k => Tr.neb J J J J Tryz.underlying4 hr k) (fun hs2_110 => ?_) (fun hs2_110 => ?_)
 ·
  have hs2_11 := nd_t hs2_110;refine G15 ?_;refine .cond_t J J (G5 ?_);refine G3 ?_;refine ⟨_, [], Ai J J, sP, sP, ?_, rfl⟩;exact congrArg i64 (bcheck_head (by unfold bhead bheadB; simp_all)).symm
 have hs2_11 := nd_f hs2_110;refine G5 ?_;refine two (fun r hr k => Tr.gtr J J J J hr k) (fun hs2_170 => ?_) (fun hs2_170 => ?_)
 ·
  have hs2_17 := of_decide_eq_true hs2_170;refine G9 ?_;refine .cond_t J J (G5 ?_);refine G3 ?_;refine ⟨_, [], Ai J J, sP, sP, ?_, rfl⟩;exact congrArg i64 (bcheck_head (by unfold bhead bheadB; simp_all)).symm
 have hs2_17 := of_decide_eq_false hs2_170;refine G9 ?_;refine .condP J (fun hc0 => ?_) (fun hc0 => ?_)
 ·
  refine G5 ?_;refine G3 ?_;refine ⟨_, [], Ai J J, sP, sP, ?_, rfl⟩;exact congrArg i64 (bcheck_head (by unfold bhead bheadB; simp_all)).symm
 have hnb : ¬ bhead B := by unfold bhead bheadB; simp_all
 refine G12 ?_;refine .loop (ι := Nat) (fun k => ⟨[(1, ptr n1 0), (3, ptr n3 0), (33, B.fLinks.v), (34, i64 (B.fLinks.n : Int)), (35, i64 (k : Int))], [⟨n3, Aa (List.replicate 32 0), 25, 32⟩, ⟨n1, B.cells, 48, B.cells.length⟩]⟩) (fun k => k ≤ B.fLinks.n ∧ ∀ j, j < k → badAt B.fPrev ls j = false) (fun k => B.fLinks.n - k) (0) ?_ ?_ ?_
 · exact ⟨by omega, fun j hj => by omega⟩
 · exact Ad (wk1 rfl (wk1 rfl (wk1 rfl (wk1 rfl (wk1 rfl wk0))))) (wh1 Z0 (wh1 Z1 wh0)) nD
 rintro k ⟨hk, hg⟩;refine G6 ?_;refine .condP J (fun hc1 => ?_) (fun hc1 => ?_)
 ·
  have hk2 : k < B.fLinks.n := by omega
  have hll := hW.len;obtain ⟨b, o, hbp, hbs⟩ := hW.see.at (by rw [Az hW.row]; omega);have hr0 : (ls.getD k []).length = 32 := Bs hW.row oM;have hr1 : (ls.getD (k - 1) []).length = 32 := Bs hW.row oM;refine G2 ?_;refine .join (ι := Unit) (fun _u => ⟨[(1, ptr n1 0), (3, ptr n3 0), (33, B.fLinks.v), (34, i64 (B.fLinks.n : Int)), (35, i64 (k : Int))], [⟨n3, Aa (List.replicate 32 0), 25, 32⟩, ⟨n1, B.cells, 48, B.cells.length⟩]⟩) (fun _u => badAt B.fPrev ls k = false) ?_ ?_
  ·
   refine G4 ?_;refine .idxSlP 32 J J J hbp J Y26.h Sz25 k J oM (.loadEN (Aa (ls.getD (k) [])) J J J Y25.h J Sz25 sP (by rw [Aa, List.length_map]; exact Bs hW.row (by rw [hW.len]; omega)) (Cc hW.row hbs (by rw [hW.len]; omega)) ?_);refine .alloc (cs := (Aa (List.replicate 32 0))) J Cr J ?_;intro n5 hn5 hf5;refine G1 ?_;refine .sA J J J J zB Sz25 (by (rw [Aa, List.length_map]; assumption)) Z0 sP zU ?_;refine G3 ?_;refine .draw (oP [100,101,2,3,104,5,106,7,8,9,10,11,12,13,114,15,16,17,118,119,320,21,22,23]) Ao zK (.lA J J J Y25.h J Sz25 Z0 (by (rw [Aa, List.length_map]; assumption)) ?_);refine .lA J J J Y25.h J Sz25 Z1 sP ?_;refine two (fun r hr k => Tr.eql_bytes J J J J Tryz.eqGuardType25 Y25.h Y5.h Sz5 zA sP hr k) (fun hs7_20 => ?_) (fun hs7_20 => ?_)
   ·
    have hs7_2 := of_decide_eq_true hs7_20;refine G23 ?_;refine .cond_t J J (G5 ?_);refine G7 ?_;refine ⟨_, [], Ai J J, sP, sP, ?_, rfl⟩;exact congrArg i64 (bcheck_bad hnb (linksBad_at (k := k) oM (by unfold badAt; simp_all))).symm
   have hs7_2 := of_decide_eq_false hs7_20;refine G1 ?_;refine .lA J J J Y25.h J Sz25 Z0 (by (rw [Aa, List.length_map]; assumption)) ?_;refine G1 ?_;refine .lN (Aa _) J J J Y25.h J Sz25 Z2 (Block.row_fPrev zA) (Block.rl_fPrev zA) ?_;refine two (fun r hr k => Tr.eql_bytes J J J J Tryz.eqGuardType25 Y25.h Y5.h Sz5 zA (by (simp [hB.l_fPrev]; done)) hr k) (fun hs7_70 => ?_) (fun hs7_70 => ?_)
   ·
    have hs7_7 := of_decide_eq_true hs7_70;refine G18 ?_;refine .cond_t J J (G5 ?_);refine G7 ?_;refine ⟨_, [], Ai J J, sP, sP, ?_, rfl⟩;exact congrArg i64 (bcheck_bad hnb (linksBad_at (k := k) oM (by unfold badAt; simp_all))).symm
   have hs7_7 := of_decide_eq_false hs7_70;refine G3 ?_;refine two (fun r hr k => Tr.gtr J J J J hr k) (fun hs7_110 => ?_) (fun hs7_110 => ?_)
   ·
    have hs7_11 := of_decide_eq_true hs7_110;refine G5 ?_;refine .idxSlP 32 J J J hbp J Y26.h Sz25 (k - 1) oM oM (.loadEN (Aa (ls.getD (k - 1) [])) J J J Y25.h J Sz25 sP (by rw [Aa, List.length_map]; exact Bs hW.row (by rw [hW.len]; omega)) (Cc hW.row hbs (by rw [hW.len]; omega)) ?_);refine .lA J J J Y25.h J Sz25 Z0 (by (rw [Aa, List.length_map]; assumption)) ?_;refine .cV J J J J Body83 (block_cmp _ _ hr1 hr0) tV (G5 ?_);refine .condP J (fun hc2 => ?_) (fun hc2 => ?_)
    ·
     refine G5 ?_;refine G7 ?_;refine ⟨_, [], Ai J J, sP, sP, ?_, rfl⟩;exact congrArg i64 (bcheck_bad hnb (linksBad_at (k := k) oM (by unfold badAt; simp_all))).symm
    refine G3 ?_;refine ⟨(), by unfold badAt; simp_all, Ad (wk1 J (wk1 J (wk1 J (wk1 J (wk1 J wk0))))) (wh1 Z1 (wh1 Z2 wh0)) nD⟩
   have hs7_11 := of_decide_eq_false hs7_110;refine G14 ?_;refine .cond_f J J (G3 ?_);refine ⟨(), by unfold badAt; simp_all, Ad (wk1 J (wk1 J (wk1 J (wk1 J (wk1 J wk0))))) (wh1 Z1 (wh1 Z2 wh0)) nD⟩
  intro _u hj;have hgk := hj;refine G5 ?_;exact ⟨k + 1, ⟨by omega, fun j hj => by rcases Nat.lt_succ_iff_lt_or_eq.1 hj with h | rfl; exact hg j h; exact hgk⟩, by omega, Ad (wk1 rfl (wk1 rfl (wk1 rfl (wk1 rfl (wk1 rfl wk0))))) (wh1 Z0 (wh1 Z1 wh0)) nD⟩
 obtain rfl : k = B.fLinks.n := by omega
 refine G10 ?_;refine G2 ?_;refine ⟨_, [], Ai J J, sP, sP, ?_, rfl⟩;exact congrArg i64 (bcheck_ok hnb (linksBad_not (by rw [hW.len]; exact hg))).symm
theorem kit_names (s : Sl) (ls : List (List UInt8)) (hn : s.n ≤ 500000) : Meets Tryz.prog 52 [s.v] [] (fun W => RowsAt W s 32 ls) (fun v out => FreshRow v out (A1 ls) 25 s.n 32) := by
 intro W hW;refine Ac Tryz.func52 J 6 Tryz.ntmps52 J (G7 ?_);refine .mkRow (z := agg (Aa (List.replicate 32 0))) [] ([]) J J J Y26.h Sz25 Cr J J (by intro v hv; cases hv) dE (rfl) ?_;intro q0;refine G1 ?_;refine .appendSl (z := agg (Aa (List.replicate 32 0))) (by' := 32) (A1 ls) J J J J J Y26.h Y26.h Sz25 Cr (by unfold By; kernel_rfl) J (fun w h => A2 h J hW.see) (fun e => by have := hW.nil e; have := hW.cap; omega) (flatB_cell ls) A7 J J oM oM oM (by rw [Az hW.row, hW.len]) ?_;intro q1 c1 hq1;refine G3 ?_;refine G2 ?_;refine ⟨_, [⟨q1, [] ++ A1 ls, 25, c1 * 32⟩], Ai J J, (by intro b hb; rw [List.mem_singleton.1 hb]; exact Bx), nodup1, ⟨q1, c1, by rw [Nat.zero_add], by omega, rfl⟩⟩

theorem kit_own (s : Sl) (l : List UInt8) (hn : s.n ≤ 500000) : Meets Tryz.prog 29 [s.v] [] (fun W => BytesAt W s l) (fun v out => FreshRow v out (Aa l) 5 s.n 1) := by
 intro W hW;refine Ac Tryz.func29 J 6 Tryz.ntmps29 J (G7 ?_);refine .mkRow (z := u8 0) [] ([]) J J J Y44.h Sz5 Zr5 J J (by intro v hv; cases hv) dE (rfl) ?_;intro q0;refine G1 ?_;refine .appendSl (z := u8 0) (by' := 1) (Aa l) J J J J J Y44.h Y44.h Sz5 Zr5 (by unfold By; kernel_rfl) J (fun w h => A2 h J hW.see) (fun e => by have := hW.nil e; have := hW.cap; omega) (by simp [Aa, isCell, u8]) A7 J J oM oM oM (by rw [Aa, List.length_map, hW.len, Nat.mul_one]) ?_;intro q1 c1 hq1;refine G3 ?_;refine G2 ?_;refine ⟨_, [⟨q1, [] ++ Aa l, 5, c1 * 1⟩], Ai J J, (by intro b hb; rw [List.mem_singleton.1 hb]; exact Bx), nodup1, ⟨q1, c1, by rw [Nat.zero_add], by omega, rfl⟩⟩

def ownB (B : Block) (q1 c1 q2 c2 : Nat) : Block := { B with fLinks := ⟨some ⟨q1, 0, none⟩, B.fLinks.n, c1⟩, fData := ⟨some ⟨q2, 0, none⟩, B.fData.n, c2⟩ }
theorem ownB_ok {B : Block} (h : B.ok) (q1 c1 q2 c2 : Nat) : (ownB B q1 c1 q2 c2).ok := ⟨h.l_fWriter, h.l_fPrev, h.l_fSig⟩
def OwnedBlock (B : Block) (ls : List (List UInt8)) (l : List UInt8) (v : Value) (out : List Blk) : Prop := ∃ q1 c1 q2 c2, v = agg (ownB B q1 c1 q2 c2).cells ∧ B.fLinks.n ≤ c1 ∧ B.fData.n ≤ c2 ∧ out = [⟨q2, Aa l, 5, c2 * 1⟩, ⟨q1, A1 ls, 25, c1 * 32⟩]
theorem rows_ext {C : Cx} {hp : List Blk} {w : World} {s : Sl} {m : Nat} {ls : List (List UInt8)} (h : HRep C hp w) (hl : C.lent = []) (hr : RowsAt C.W0 s m ls) : RowsAt w s m ls := ⟨hr.len, hr.row, hr.cap, A2 h hl hr.see, hr.max, hr.nil⟩
theorem bytes_ext {C : Cx} {hp : List Blk} {w : World} {s : Sl} {l : List UInt8} (h : HRep C hp w) (hl : C.lent = []) (hr : BytesAt C.W0 s l) : BytesAt w s l := ⟨hr.len, hr.cap, A2 h hl hr.see, hr.max, hr.nil⟩

theorem kit_own_block (B : Block) (hB : B.ok) (ls : List (List UInt8)) (l : List UInt8) (hn : B.fLinks.n ≤ 500000) (hd : B.fData.n ≤ 500000) : Meets Tryz.prog 47 [agg B.cells] [] (fun W => RowsAt W B.fLinks 32 ls ∧ BytesAt W B.fData l) (OwnedBlock B ls l) := by
 intro W hW;refine Ac Tryz.func47 J 12 Tryz.ntmps47 J (G3 ?_);intro n1 hn1 hf1;refine .alloc (cs := Block.zero.cells) J Block.zr J ?_;intro n2 hn2 hf2;refine G3 ?_;refine .draw (oP [0,101,3,104,302,6,305,407,8,409]) Ao zK (G4 ?_);refine .call J J J J Body52 (kit_names _ ls hn) (FreshRow.loose _ _ _ _) (fun w h => rows_ext h J hW.1) ?_;rintro v1 out1 ⟨q1, c1, rfl, hc1, rfl⟩;refine G1 ?_;refine .call J J J J Body29 (kit_own _ l hd) (FreshRow.loose _ _ _ _) (fun w h => bytes_ext h J hW.2) ?_;rintro v2 out2 ⟨q2, c2, rfl, hc2, rfl⟩;refine .s1 J J J J J Sz26 Z3 (by rw [Block.length zA]; decide) (by exact Block.setS_fLinks zA _ _ _) (by exact upd3) ?_;refine G1 ?_;refine .s1 J J J J J Sz44 Z3 (by rw [Block.length (by exact ⟨hB.l_fWriter, hB.l_fPrev, hB.l_fSig⟩)]; decide) (by exact Block.setS_fData (by exact ⟨hB.l_fWriter, hB.l_fPrev, hB.l_fSig⟩) _ _ _) (by exact upd3) ?_;refine G4 ?_;refine .lA J J J Y48.h J Sz48 Z3 (Block.length (by exact ⟨hB.l_fWriter, hB.l_fPrev, hB.l_fSig⟩)) ?_;refine .sA J J J J (Block.isCell (by exact ⟨hB.l_fWriter, hB.l_fPrev, hB.l_fSig⟩)) Sz48 (Block.length (by exact ⟨hB.l_fWriter, hB.l_fPrev, hB.l_fSig⟩)) Z2 (Block.length (by exact Block.zero_ok)) (by exact upd2) ?_;refine G2 ?_;refine G2 ?_;refine ⟨_, [⟨q2, Aa l, 5, c2 * 1⟩, ⟨q1, A1 ls, 25, c1 * 32⟩], An J J Y48.h J Sz48 Z2 (Block.length (ownB_ok hB q1 c1 q2 c2)), (by intro b hb; rcases List.mem_cons.1 hb with rfl | hb; exact Bx; rw [List.mem_singleton.1 hb]; exact mem1), (fun h => h.sublist sP), ⟨q1, c1, q2, c2, rfl, hc1, hc2, rfl⟩⟩

theorem parents_nil (B : Block) (hB : B.ok) (ls : List (List UInt8)) (hn : B.fLinks.n ≤ 500000) (hs : (B.fSeq.toNat : Int) = 0) (h0 : B.fLinks.n = 0) : Meets Tryz.prog 133 [agg B.cells] [] (fun W => RowsAt W B.fLinks 32 ls) (fun v out => v = .slice none 0 0 ∧ out = []) := by
 intro W hW;have hl0 : ∃ p c, B.fLinks.v = .slice p 0 c := ⟨_, _, by rw [Sl.v, h0]⟩;obtain ⟨p9, c9, hl9⟩ := hl0;have hg9 := Block.get_fLinks hB;rw [hl9] at hg9;refine Ac Tryz.func133 J 16 Tryz.ntmps133 J (G3 ?_);intro n1 hn1 hf1;refine G13 ?_;refine .nei J J J J (show (!decide _) = false from congrArg not (decide_eq_true (hs))) (G2 ?_);refine .cond_f J (rfl) (G6 ?_);refine .load1 J J J Y26.h J Z0 hg9 ?_;refine .appendNilNil J J J J Y26.h Y26.h Sz25 (G3 ?_);refine G2 ?_;refine ⟨_, [], Ai J J, sP, sP, ?_, rfl⟩;rfl

theorem parents_0 (B : Block) (hB : B.ok) (ls : List (List UInt8)) (hn : B.fLinks.n ≤ 500000) (hs : (B.fSeq.toNat : Int) = 0) (h0 : 0 < B.fLinks.n) : Meets Tryz.prog 133 [agg B.cells] [] (fun W => RowsAt W B.fLinks 32 ls) (fun v out => FreshRow v out (A1 ls) 25 B.fLinks.n 32) := by
 intro W hW;refine Ac Tryz.func133 J 16 Tryz.ntmps133 J (G3 ?_);intro n1 hn1 hf1;refine G13 ?_;refine .nei J J J J (show (!decide _) = false from congrArg not (decide_eq_true (hs))) (G2 ?_);refine .cond_f J (rfl) (G7 ?_);refine .appendToNil (z := agg (Aa (List.replicate 32 0))) (by' := 32) (A1 ls) J J J J Y26.h Y26.h Sz25 Cr (by unfold By; kernel_rfl) J (fun w h => A2 h J hW.see) h0 (fun e => by have := hW.nil e; have := hW.cap; omega) (flatB_cell ls) oM oM (by rw [Az hW.row, hW.len]) ?_;intro q1 c1 hq1;refine G3 ?_;refine G2 ?_;refine ⟨_, [⟨q1, A1 ls, 25, c1 * 32⟩], Ai J J, (by intro b hb; rw [List.mem_singleton.1 hb]; exact Bx), nodup1, ⟨q1, c1, rfl, hq1, rfl⟩⟩

theorem parents_s (B : Block) (hB : B.ok) (ls : List (List UInt8)) (hn : B.fLinks.n ≤ 500000) (hs : ¬ (B.fSeq.toNat : Int) = 0) : Meets Tryz.prog 133 [agg B.cells] [] (fun W => RowsAt W B.fLinks 32 ls) (fun v out => FreshRow v out (A1 (B.fPrev :: ls)) 25 (1 + B.fLinks.n) 32) := by
 intro W hW;refine Ac Tryz.func133 J 16 Tryz.ntmps133 J (G3 ?_);intro n1 hn1 hf1;refine G13 ?_;refine .nei J J J J (show (!decide _) = true from congrArg not (decide_eq_false (hs))) (G2 ?_);refine .cond_t J (rfl) (G3 ?_);refine .lN (Aa _) J J J Y25.h J Sz25 Z0 (Block.row_fPrev zA) (Block.rl_fPrev zA) ?_;refine .mkRow (z := agg (Aa (List.replicate 32 0))) [agg (Aa B.fPrev)] (Aa B.fPrev) J J J Y26.h Sz25 Cr J J (by intro v hv; rw [List.mem_singleton.1 hv]; simp [Value.cells, hB.l_fPrev]) dE (by simp [Value.cells]) ?_;intro q0;refine .appendToNil (z := agg (Aa (List.replicate 32 0))) (by' := 32) (Aa B.fPrev) J J J J Y26.h Y26.h Sz25 Cr (by unfold By; kernel_rfl) J (fun w h => SeesP.of (Ar h Bx)) dE (fun e => by cases e) (by simp [Aa, isCell, u8]) dE dE (by simp [hB.l_fPrev]) ?_;intro q1 c1 hq1;refine G8 ?_;refine .appendSl (z := agg (Aa (List.replicate 32 0))) (by' := 32) (A1 ls) J J J J J Y26.h Y26.h Sz25 Cr (by unfold By; kernel_rfl) J (fun w h => A2 h J hW.see) (fun e => by have := hW.nil e; have := hW.cap; omega) (flatB_cell ls) A7 J (by simp [hB.l_fPrev]) hq1 oM oM (by rw [Az hW.row, hW.len]) ?_;intro q2 c2 hq2;refine G3 ?_;refine G2 ?_;refine ⟨_, [⟨q2, Aa B.fPrev ++ A1 ls, 25, c2 * 32⟩], Ai J J, (by intro b hb; rw [List.mem_singleton.1 hb]; exact Bx), nodup1, ⟨q2, c2, rfl, hq2, rfl⟩⟩

theorem take_step {α : Type} {xs bs : List α} {k : Nat} (d : α) (ha : k < xs.length) (hb : k < bs.length) (h : xs.take k = bs.take k) (he : xs.getD k d = bs.getD k d) : xs.take (k + 1) = bs.take (k + 1) := by
  rw [List.take_succ_eq_append_getElem ha, List.take_succ_eq_append_getElem hb, h];have e1 : xs.getD k d = xs[k] := by simp [List.getD, ha]
  have e2 : bs.getD k d = bs[k] := by simp [List.getD, hb]
  rw [← e1, ← e2, he]

theorem digests_eq (p q : Option Addr) (n c1 c2 : Nat) (xs bs : List (List UInt8)) (hra : ∀ l ∈ xs, l.length = 32) (hrb : ∀ l ∈ bs, l.length = 32) (ha : xs.length = n) (hb : bs.length = n) (hn : n ≤ 1000000) : Meets Tryz.prog 36 [.slice p n c1, .slice q n c2] [] (fun W => SeesP W p (A1 xs) ∧ SeesP W q (A1 bs)) (fun v out => v = .bool (decide (xs = bs)) ∧ out = []) := by
 intro W hW;refine Ac Tryz.func36 J 26 Tryz.ntmps36 J (G12 ?_);refine .nei J J J J (show (!decide _) = false from congrArg not (decide_eq_true (rfl))) (G2 ?_);refine .cond_f J (rfl) (G9 ?_);refine .loop (ι := Nat) (fun k => ⟨[(0, .slice p n c1), (1, .slice q n c2), (5, i64 (k : Int))], []⟩) (fun k => k ≤ n ∧ xs.take k = bs.take k) (fun k => n - k) (0) ?_ ?_ ?_
 · exact ⟨by omega, rfl⟩
 · exact Ad (wk1 rfl (wk1 rfl (wk1 rfl wk0))) wh0 nD
 rintro k ⟨hk, hg⟩;refine G9 ?_;refine .condP J (fun hc1 => ?_) (fun hc1 => ?_)
 ·
  have hk2 : k < n := by omega
  obtain ⟨b1, o1, hp1, hs1⟩ := hW.1.at (by rw [Az hra]; omega);obtain ⟨b2, o2, hp2, hs2⟩ := hW.2.at (by rw [Az hrb]; omega);have r1 : (xs.getD k []).length = 32 := Bs hra oM;have r2 : (bs.getD k []).length = 32 := Bs hrb oM;refine G5 ?_;refine .draw (oP [0,1,2,103,4,5,6,107,8]) Ao zK (G2 ?_);refine .idxSlP 32 J J J hp1 J Y26.h Sz25 k J oM (.loadEN (Aa (xs.getD k [])) J J J Y25.h J Sz25 sP (by rw [Aa, List.length_map]; exact Bs hra oM) (Cc hra hs1 oM) ?_);refine G2 ?_;refine .idxSlP 32 J J J hp2 J Y26.h Sz25 k J oM (.loadEN (Aa (bs.getD k [])) J J J Y25.h J Sz25 sP (by rw [Aa, List.length_map]; exact Bs hrb oM) (Cc hrb hs2 oM) ?_);refine .neq_bytes J J J J Tryz.eqGuardType25 Y25.h Y5.h Sz5 zA zA J ?_;refine G2 ?_;refine .condNP J (fun hc2 => ?_) (fun hc2 => ?_)
  ·
   refine G5 ?_;refine G7 ?_;refine ⟨_, [], Ai J J, sP, sP, ?_, rfl⟩
   (rw [decide_eq_false (fun e => hc2 (by rw [e]))]; done)
  refine G9 ?_;exact ⟨k + 1, ⟨by omega, take_step [] oM oM hg hc2⟩, by omega, Ad (wk1 rfl (wk1 rfl (wk1 rfl wk0))) wh0 nD⟩
 obtain rfl : k = n := by omega
 refine G10 ?_;refine G2 ?_;refine ⟨_, [], Ai J J, sP, sP, ?_, rfl⟩
 (rw [List.take_of_length_le oM, List.take_of_length_le oM] at hg; rw [decide_eq_true hg]; done)
theorem digests_ne (p q : Option Addr) (n m c1 c2 : Nat) (xs bs : List (List UInt8)) (hra : ∀ l ∈ xs, l.length = 32) (hrb : ∀ l ∈ bs, l.length = 32) (ha : xs.length = n) (hb : bs.length = m) (hn : n ≤ 1000000) (hnm : n ≠ m) : Meets Tryz.prog 36 [.slice p n c1, .slice q m c2] [] (fun W => SeesP W p (A1 xs) ∧ SeesP W q (A1 bs)) (fun v out => v = .bool (decide (xs = bs)) ∧ out = []) := by
 intro W hW;refine Ac Tryz.func36 J 26 Tryz.ntmps36 J (G12 ?_);refine .nei J J J J (show (!decide _) = true from congrArg not (decide_eq_false oM)) (G2 ?_);refine .cond_t J (rfl) (G5 ?_);refine G3 ?_;refine ⟨_, [], Ai J J, sP, sP, ?_, rfl⟩;rw [decide_eq_false (fun e => hnm (by rw [← ha, ← hb, e]))]


def len8S : ByteArray := ⟨#[0, 1, 2, 2, 3, 3, 3, 3, 4, 4, 4, 4, 4, 4, 4, 4, 5, 5, 5, 5, 5, 5, 5, 5, 5, 5, 5, 5, 5, 5, 5, 5, 6, 6, 6, 6, 6, 6, 6, 6, 6, 6, 6, 6, 6, 6, 6, 6, 6, 6, 6, 6, 6, 6, 6, 6, 6, 6, 6, 6, 6, 6, 6, 6, 7, 7, 7, 7, 7, 7, 7, 7, 7, 7, 7, 7, 7, 7, 7, 7, 7, 7, 7, 7, 7, 7, 7, 7, 7, 7, 7, 7, 7, 7, 7, 7, 7, 7, 7, 7, 7, 7, 7, 7, 7, 7, 7, 7, 7, 7, 7, 7, 7, 7, 7, 7, 7, 7, 7, 7, 7, 7, 7, 7, 7, 7, 7, 7, 8, 8, 8, 8, 8, 8, 8, 8, 8, 8, 8, 8, 8, 8, 8, 8, 8, 8, 8, 8, 8, 8, 8, 8, 8, 8, 8, 8, 8, 8, 8, 8, 8, 8, 8, 8, 8, 8, 8, 8, 8, 8, 8, 8, 8, 8, 8, 8, 8, 8, 8, 8, 8, 8, 8, 8, 8, 8, 8, 8, 8, 8, 8, 8, 8, 8, 8, 8, 8, 8, 8, 8, 8, 8, 8, 8, 8, 8, 8, 8, 8, 8, 8, 8, 8, 8, 8, 8, 8, 8, 8, 8, 8, 8, 8, 8, 8, 8, 8, 8, 8, 8, 8, 8, 8, 8, 8, 8, 8, 8, 8, 8, 8, 8, 8, 8, 8, 8, 8, 8, 8, 8, 8, 8, 8, 8, 8, 8]⟩
theorem len8_all : ∀ n, n < 256 → len8S.data.toList[n]? = some (UInt8.ofNat (bLen n)) := by decide
theorem len8_get (x : UInt8) : len8S[x.toNat]? = some (UInt8.ofNat (bLen x.toNat)) := by
  have h := len8_all x.toNat x.toNat_lt;have h2 : x.toNat < len8S.size := x.toNat_lt;have e : len8S[x.toNat]? = len8S.data.toList[x.toNat]? := by
    rw [getElem?_pos len8S x.toNat h2, List.getElem?_eq_getElem (by exact x.toNat_lt)];rfl
  rw [e]; exact h
theorem len8_nat (x : UInt8) : (UInt8.ofNat (bLen x.toNat)).toNat = bLen x.toNat := by
  have : bLen x.toNat ≤ 8 := bLen_le.2 x.toNat_lt;rw [UInt8.toNat_ofNat', Nat.mod_eq_of_lt oM]

theorem shr64_nat (x : UInt64) (n : Nat) : (Ap x n).toNat = x.toNat / 2 ^ n := by
  have h : x.toNat / 2 ^ n ≤ x.toNat := Nat.div_le_self _ _;have := x.toNat_lt;rw [Ap, UInt64.toNat_ofNat', Nat.mod_eq_of_lt oM]

theorem bits_len64 (x : UInt64) : Meets Tryz.prog 194 [u64 x] [] (fun _ => True) (fun v out => v = i64 ((bLen x.toNat : Nat) : Int) ∧ out = []) := by
 intro W hW;have hx := x.toNat_lt;refine Ac Tryz.func194 J 25 Tryz.ntmps194 J (G5 ?_);refine .join (ι := UInt64 × Nat) (fun p => ⟨[(0, u64 p.1), (2, i64 (p.2 : Int))], []⟩) (fun p => bLen x.toNat = p.2 + bLen p.1.toNat ∧ p.1.toNat < 2 ^ 32 ∧ p.2 ≤ 32) ?_ ?_
 ·
  refine G6 ?_;refine .condP J (fun hc0 => ?_) (fun hc0 => ?_)
  ·
   refine G3 ?_;refine .shr_u64 J J J J 32 J dE (G7 ?_);exact ⟨(Ap x 32, 0 + 32), ⟨by simp only [shr64_nat]; have := bLen_shr (n := x.toNat) (k := 32) oM; omega, by simp only [shr64_nat]; omega, by simp only []; omega⟩, Ad (wk1 rfl (wk1 (by rfl) wk0)) wh0 nD⟩
  refine G2 ?_;exact ⟨(x, 0), ⟨by simp only []; omega, by simp only []; omega, by simp only []; omega⟩, Ad (wk1 rfl (wk1 (by rfl) wk0)) wh0 nD⟩
 intro p hj;obtain ⟨y, n⟩ := p;obtain ⟨hb, hy, hn⟩ := hj;simp only at hb hy hn ⊢;refine .join (ι := UInt64 × Nat) (fun p => ⟨[(0, u64 p.1), (2, i64 (p.2 : Int))], []⟩) (fun p => bLen x.toNat = p.2 + bLen p.1.toNat ∧ p.1.toNat < 2 ^ 16 ∧ p.2 ≤ 48) ?_ ?_
 ·
  refine G6 ?_;refine .condP J (fun hc1 => ?_) (fun hc1 => ?_)
  ·
   refine G3 ?_;refine .shr_u64 J J J J 16 J dE (G9 ?_);exact ⟨(Ap y 16, n + 16), ⟨by simp only [shr64_nat]; have := bLen_shr (n := y.toNat) (k := 16) oM; omega, by simp only [shr64_nat]; omega, by simp only []; omega⟩, Ad (wk1 rfl (wk1 (by rfl) wk0)) wh0 nD⟩
  refine G2 ?_;exact ⟨(y, n), ⟨by simp only []; omega, by simp only []; omega, by simp only []; omega⟩, Ad (wk1 rfl (wk1 (by rfl) wk0)) wh0 nD⟩
 intro p hj;obtain ⟨y, n⟩ := p;obtain ⟨hb, hy, hn⟩ := hj;simp only at hb hy hn ⊢;refine .join (ι := UInt64 × Nat) (fun p => ⟨[(0, u64 p.1), (2, i64 (p.2 : Int))], []⟩) (fun p => bLen x.toNat = p.2 + bLen p.1.toNat ∧ p.1.toNat < 2 ^ 8 ∧ p.2 ≤ 56) ?_ ?_
 ·
  refine G6 ?_;refine .condP J (fun hc2 => ?_) (fun hc2 => ?_)
  ·
   refine G3 ?_;refine .shr_u64 J J J J 8 J dE (G9 ?_);exact ⟨(Ap y 8, n + 8), ⟨by simp only [shr64_nat]; have := bLen_shr (n := y.toNat) (k := 8) oM; omega, by simp only [shr64_nat]; omega, by simp only []; omega⟩, Ad (wk1 rfl (wk1 (by rfl) wk0)) wh0 nD⟩
  refine G2 ?_;exact ⟨(y, n), ⟨by simp only []; omega, by simp only []; omega, by simp only []; omega⟩, Ad (wk1 rfl (wk1 (by rfl) wk0)) wh0 nD⟩
 intro p hj;obtain ⟨y, n⟩ := p;obtain ⟨hb, hy, hn⟩ := hj;simp only at hb hy hn ⊢;refine G5 ?_;refine .idxStr (s := len8S) J J J J Tryz.underlying9 _ J (len8_get y.toUInt8) ?_;have h8 : y.toUInt8.toNat = y.toNat := by simp; omega
 have h9 := len8_nat y.toUInt8;have h10 : bLen y.toUInt8.toNat ≤ 8 := bLen_le.2 (by rw [h8]; omega);refine G5 ?_;refine G2 ?_;refine ⟨_, [], Ai J J, sP, sP, ?_, rfl⟩;rw [h9, h8, hb, Int.natCast_add]
theorem oct_size (x : UInt64) : Meets Tryz.prog 159 [u64 x] [] (fun _ => True) (fun v out => v = i64 ((szN x.toNat : Nat) : Int) ∧ out = []) := by
 intro W hW;have hb : bLen (x ||| 1).toNat ≤ 64 := bLen_le.2 (x ||| 1).toNat_lt;have ho : (x ||| 1).toNat = x.toNat ||| 1 := by rw [UInt64.toNat_or]; rfl
 refine Ac Tryz.func159 J 9 Tryz.ntmps159 J (G8 ?_);refine .or_u64 J J J (show Af _ _ = some (u64 1) from rfl) (.cV J J J J Body194 (bits_len64 _) tV (G1 ?_));refine .quo_i64 J J J J oM (.min2 J J J J (rfl) (G3 ?_));refine G2 ?_;refine ⟨_, [], Ai J J, sP, sP, ?_, rfl⟩;rw [szN, ← ho]; congr 1; split <;> omega

theorem oct_grown (p : Option Addr) (n c m : Nat) (l : List UInt8) (hl : l.length = n) (hp : p = none → n = 0) (hn : n ≤ 100000) (hm : m ≤ 100000) : Meets Tryz.prog 158 [.slice p n c, i64 (m : Int)] [] (fun W => SeesP W p (Aa l)) (fun v out => FreshRow v out (Aa l) 5 n 1) := by
 intro W hW;refine Ac Tryz.func158 J 12 Tryz.ntmps158 J (G11 ?_);refine .mkRoom (z := u8 0) (by' := 1) (n + m) J J J J oM Y44.h Sz5 Zr5 (by unfold By; kernel_rfl) J oM oM ?_;intro n9;refine G1 ?_;refine .appendSl (z := u8 0) (by' := 1) (Aa l) J J J J J Y44.h Y44.h Sz5 Zr5 (by unfold By; kernel_rfl) J (fun w h => A2 h J hW) hp (by simp [Aa, isCell, u8]) A7 oM J oM oM oM (by simp [Aa, hl]) ?_;intro q1 c1 hq1;refine G3 ?_;refine G2 ?_;refine ⟨_, [⟨q1, [] ++ Aa l, 5, c1 * 1⟩], Ai J J, (by intro b hb; rw [List.mem_singleton.1 hb]; exact Bx), nodup1, ⟨q1, c1, by rw [Nat.zero_add], by omega, rfl⟩⟩

theorem oct_number (q n c : Nat) (l : List UInt8) (x : UInt64) (hl : l.length = n) (hnc : n ≤ c) (hn : n ≤ 200000) : Meets Tryz.prog 157 [.slice (some ⟨q, 0, none⟩) n c, u64 x] [q] (fun W => BlkOk W ⟨q, Aa (l), 5, c * 1⟩) (fun v out => FreshRow v out (Aa (l ++ numB x)) 5 (n + szN x.toNat) 1) := by
 intro W hW;have hz := Bz x.toNat;refine calls_of (hp0 := [⟨q, Aa (l), 5, c * 1⟩]) Tryz.func157 J 37 Tryz.ntmps157 J (HRep.one hW) (G8 ?_);refine .cV J J J J Body159 (oct_size _) tV (G4 ?_);refine .draw (oP [0,1,2,3,4,5,6,7,8,9,10,411,412,13]) Ao zK (G3 ?_);refine .shl_u8 J J (show Af _ _ = some (u8 255) from rfl) J (9 - szN x.toNat) oM oM (G3 ?_);refine .mul_i64 J J J J oM (.shr_u64 J J J J (8 * (szN x.toNat - 1)) oM oM (G1 ?_));refine .or_u8 J J J J (.mkRow (z := u8 0) [u8 (headB x)] (Aa [headB x]) J J J Y44.h Sz5 Zr5 J J (by intro v hv; rw [List.mem_singleton.1 hv]; rfl) dE J ?_);intro q20;refine .appendSl (z := u8 0) (by' := 1) (Aa [headB x]) J J J J J Y44.h Y44.h Sz5 Zr5 (by unfold By; kernel_rfl) J (fun w h => SeesP.of (Ar h Bx)) (fun e => by cases e) (by simp [Aa, isCell, u8]) (rem_there A7) J (by simp [Aa, hl]) oM oM oM (by rfl) ?_;intro q1 c1 hq1;refine G12 ?_;refine .loop (ι := Nat × Nat × Nat) (fun p => ⟨[(0, .slice (some ⟨p.2.1, 0, none⟩) (n + 1 + p.1) p.2.2), (1, u64 x), (5, i64 ((szN x.toNat : Nat) : Int)), (6, i64 (((szN x.toNat : Nat) : Int) - 2 - (p.1 : Int)))], [⟨p.2.1, Aa (l ++ numUp x p.1), 5, p.2.2 * 1⟩]⟩) (fun p => p.1 ≤ szN x.toNat - 1 ∧ n + 1 + p.1 ≤ p.2.2) (fun p => szN x.toNat - 1 - p.1) ((0, q1, c1)) ?_ ?_ ?_
 · exact ⟨Nat.zero_le _, hq1⟩
 · exact Ad (wk1 rfl (wk1 rfl (wk1 rfl (wk1 (by rw [show (((szN x.toNat : Nat) : Int) - 2 - ((0 : Nat) : Int)) = ((szN x.toNat : Nat) : Int) - 2 by omega]; rfl) wk0)))) (wh1 (by rw [numUp_zero]; simp only [Aa, List.map_append]; exact Bx) wh0) nD
 rintro p ⟨hp1, hp2⟩;refine G7 ?_;refine .condP J (fun hc0 => ?_) (fun hc0 => ?_)
 ·
  have hp3 : p.1 < szN x.toNat - 1 := by omega
  refine G8 ?_;refine .mul_i64 J J J J oM (.shr_u64 J J J J (8 * (szN x.toNat - 2 - p.1)) oM oM (G1 ?_));refine .mkRow (z := u8 0) [u8 ((Ap x (8 * (szN x.toNat - 2 - p.1))).toUInt8)] (Aa [(Ap x (8 * (szN x.toNat - 2 - p.1))).toUInt8]) J J J Y44.h Sz5 Zr5 J J (by intro v hv; rw [List.mem_singleton.1 hv]; rfl) dE J ?_;intro q34;refine .appendSl (z := u8 0) (by' := 1) (Aa [(Ap x (8 * (szN x.toNat - 2 - p.1))).toUInt8]) J J J J J Y44.h Y44.h Sz5 Zr5 (by unfold By; kernel_rfl) J (fun w h => SeesP.of (Ar h Bx)) (fun e => by cases e) (by simp [Aa, isCell, u8]) (rem_there A7) J (by rw [Aa, List.length_map, List.length_append, hl, numUp_length x p.1 oM]; omega) oM oM oM (by rfl) ?_;intro q2 c2 hq2;refine G10 ?_;exact ⟨(p.1 + 1, q2, c2), ⟨by simp only []; omega, by simp only []; omega⟩, by simp only []; omega, Ad (wk1 (by rw [show n + 1 + (p.1 + 1) = n + 1 + p.1 + 1 by omega]; rfl) (wk1 rfl (wk1 rfl (wk1 (by rw [show (((szN x.toNat : Nat) : Int) - 2 - ((p.1 + 1 : Nat) : Int)) = ((szN x.toNat : Nat) : Int) - 2 - (p.1 : Int) - 1 by omega]; rfl) wk0)))) (wh1 (by rw [numUp_step x p.1 oM, ← List.append_assoc]; simp only [Aa, List.map_append]; exact Bx) wh0) nD⟩
 have hp3 : p.1 = szN x.toNat - 1 := by omega
 refine G11 ?_;refine G2 ?_;refine ⟨_, [⟨p.2.1, Aa (l ++ numB x), 5, p.2.2 * 1⟩], Ai J J, (by intro b hb; rw [List.mem_singleton.1 hb, ← numUp_all, ← hp3]; exact Bx), nodup1, ⟨p.2.1, p.2.2, by rw [show n + 1 + p.1 = n + szN x.toNat by omega], by omega, rfl⟩⟩
theorem oct_Number (p : Option Addr) (n c : Nat) (l : List UInt8) (x : UInt64) (hl : l.length = n) (hp : p = none → n = 0) (hn : n ≤ 90000) : Meets Tryz.prog 88 [.slice p n c, u64 x] [] (fun W => SeesP W p (Aa l)) (fun v out => FreshRow v out (Aa (l ++ numB x)) 5 (n + szN x.toNat) 1) := by
 intro W hW;have hz := Bz x.toNat;refine Ac Tryz.func88 J 11 Tryz.ntmps88 J (G9 ?_);refine .cV J J J J Body159 (oct_size _) tV (.call J J J J Body158 (oct_grown p n c (szN x.toNat) l hl hp oM oM) (FreshRow.loose _ _ _ _) (fun w h => A2 h J hW) ?_);rintro v1 out1 ⟨q1, c1, rfl, hc1, rfl⟩;refine G1 ?_;refine .callL (L := [⟨q1, Aa (l), 5, c1 * 1⟩]) J J J J J Body157 (oct_number q1 (n) c1 (l) x (by simp [hl]) hc1 oM) A7 lO (fun w h => own_blk h Z0) ?_;rintro v2 out2 ⟨q2, c2, rfl, hc2, rfl⟩;refine G3 ?_;refine G2 ?_;refine ⟨_, [⟨q2, Aa (l ++ numB x), 5, c2 * 1⟩], Ai J J, (by intro b hb; rw [List.mem_singleton.1 hb]; exact Bx), nodup1, ⟨q2, c2, rfl, hc2, rfl⟩⟩

theorem oct_Block (p r : Option Addr) (n c m d : Nat) (l ys : List UInt8) (hl : l.length = n) (hy : ys.length = m) (hp : p = none → n = 0) (hr : r = none → m = 0) (hn : n ≤ 40000) (hm : m ≤ 40000) : Meets Tryz.prog 263 [.slice p n c, .slice r m d] [] (fun W => SeesP W p (Aa l) ∧ SeesP W r (Aa ys)) (fun v out => FreshRow v out (Aa (l ++ numB (UInt64.ofNat m) ++ ys)) 5 (n + szN m + m) 1) := by
 intro W hW;have hz := Bz m;have hw : wordOf (m : Int) = UInt64.ofNat m := by simp only [wordOf]; congr 1; omega
 have hmn : (UInt64.ofNat m).toNat = m := by rw [UInt64.toNat_ofNat', Nat.mod_eq_of_lt oM]
 refine Ac Tryz.func263 J 20 Tryz.ntmps263 J (G10 ?_);rw [hw];refine G7 ?_;refine .cV J J J J Body159 (oct_size _) tV ?_;rw [hmn];refine G3 ?_;refine .call J J J J Body158 (oct_grown p n c (szN m + m) l hl hp oM oM) (FreshRow.loose _ _ _ _) (fun w h => A2 h J hW.1) ?_;rintro v1 out1 ⟨q1, c1, rfl, hc1, rfl⟩;refine G1 ?_;refine .callL (L := [⟨q1, Aa (l), 5, c1 * 1⟩]) J J J J J Body157 (oct_number q1 n c1 l (UInt64.ofNat m) hl hc1 oM) A7 lO (fun w h => own_blk h Z0) ?_;rintro v2 out2 ⟨q2, c2, rfl, hc2, rfl⟩;rw [hmn] at hc2 ⊢;refine G1 ?_;refine .appendSl (z := u8 0) (by' := 1) (Aa ys) J J J J J Y44.h Y44.h Sz5 Zr5 (by unfold By; kernel_rfl) J (fun w h => A2 h J hW.2) hr (by simp [Aa, isCell, u8]) A7 J (by rw [Aa, List.length_map, List.length_append, Bf, hl, hmn, Nat.mul_one]) oM oM oM (by simp [Aa, hy]) ?_;intro q3 c3 hq3;refine G3 ?_;refine G2 ?_;refine ⟨_, [⟨q3, Aa (l ++ numB (UInt64.ofNat m) ++ ys), 5, c3 * 1⟩], Ai J J, (by intro b hb; rw [List.mem_singleton.1 hb]; simp only [Aa, List.map_append]; exact Bx), nodup1, ⟨q3, c3, rfl, hq3, rfl⟩⟩


theorem res_none {C : Cx} {fn : Func} {s : St} (hr : fn.results = #[]) : Res C fn s (.tuple #[]) := fun a w r => by
  simp [results, hr]

theorem BlkOk.keep {ex : List Nat} {w w' : World} {b : Blk} (h : Keeps ex w w') (hb : BlkOk w b) (hn : b.n ∉ ex) : BlkOk w' b := hb.of_heap (h.block b.n hb.lt hn)


theorem clone_bytes (a : Addr) (n c : Nat) (l : List UInt8) (hl : l.length = n) (hn : n ≤ 90000) : Meets Tryz.prog 175 [.slice (some a) n c] [] (fun W => SeesP W (some a) (Aa l)) (fun v out => FreshRow v out (Aa l) 5 n 1) := by
 intro W hW;refine Ac Tryz.func175 J 8 Tryz.ntmps175 J (G9 ?_);refine .eqNilS (r := false) J J J J Y44.h J (G2 ?_);refine .cond_f J (rfl) (G4 ?_);refine .mkRow (z := u8 0) [] [] rfl J J Y44.h Sz5 Zr5 J J (by intro v hv; cases hv) dE J ?_;intro q0;refine G1 ?_;refine .appendSl (z := u8 0) (by' := 1) (Aa l) J J J J J Y44.h Y44.h Sz5 Zr5 (by unfold By; kernel_rfl) J (fun w h => A2 h J hW) (fun e => by cases e) (by simp [Aa, isCell, u8]) A7 J J oM oM oM (by simp [Aa, hl]) ?_;intro q1 c1 hq1;refine G3 ?_;refine G2 ?_;refine ⟨_, [⟨q1, [] ++ Aa l, 5, c1 * 1⟩], Ai J J, (by intro b hb; rw [List.mem_singleton.1 hb]; exact Bx), nodup1, ⟨q1, c1, by rw [Nat.zero_add], by omega, rfl⟩⟩

def bodyB (B : Block) (ls : List (List UInt8)) (ds : List UInt8) : List UInt8 := B.fWriter ++ numB B.fSeq ++ B.fPrev ++ numB (UInt64.ofNat B.fLinks.n) ++ ls.flatten ++ (numB (UInt64.ofNat B.fData.n) ++ ds)
theorem word_nat {n : Nat} (h : n ≤ 1000000) : wordOf (n : Int) = UInt64.ofNat n := by simp only [wordOf]; congr 1; omega
theorem ofNat_nat {n : Nat} (h : n ≤ 1000000) : (UInt64.ofNat n).toNat = n := by rw [UInt64.toNat_ofNat', Nat.mod_eq_of_lt oM]
theorem flatten_take_step {ls : List (List UInt8)} {k : Nat} (hk : k < ls.length) : (ls.take (k + 1)).flatten = (ls.take k).flatten ++ ls.getD k [] := by
  rw [List.take_succ_eq_append_getElem hk, List.flatten_append];simp [List.getD, hk]
theorem B1 {ls : List (List UInt8)} (h : ∀ l ∈ ls, l.length = 32) {k : Nat} (hk : k ≤ ls.length) : (ls.take k).flatten.length = k * 32 := by
  rw [flatten_len 32 _ (fun l hl => h l (List.mem_of_mem_take hl)), List.length_take, Nat.min_eq_left hk]

theorem block_body (B : Block) (hB : B.ok) (ls : List (List UInt8)) (ds : List UInt8) (hn : B.fLinks.n ≤ 40) (hd : B.fData.n ≤ 2000) : Meets Tryz.prog 207 [agg B.cells] [] (fun W => RowsAt W B.fLinks 32 ls ∧ BytesAt W B.fData ds) (fun v out => ∃ N, N = (bodyB B ls ds).length ∧ N ≤ 4000 ∧ FreshRow v out (Aa (bodyB B ls ds)) 5 N 1) := by
 intro W hW;have hz1 := Bz B.fSeq.toNat;have hz2 := Bz (UInt64.ofNat B.fLinks.n).toNat;have hz3 := Bz B.fData.n;have hw2 := word_nat (n := B.fLinks.n) oM;have hll := hW.1.len;refine Ac Tryz.func207 J 41 Tryz.ntmps207 J (G3 ?_);intro n1 hn1 hf1;refine G7 ?_;refine .call J J J J Body175 (clone_bytes ⟨n1, 0, none⟩ 32 32 B.fWriter hB.l_fWriter oM) (FreshRow.loose _ _ _ _) (fun W2 W2h => (SeesP.of (sees_part W2h Z0 (Block.see_fWriter hB)))) ?_;rintro v1 out1 ⟨q1, c1, rfl, hc1, rfl⟩;refine G8 ?_;refine .call J J J J Body88 (oct_Number none 0 0 [] (B.fSeq) J (fun _ => rfl) oM) (FreshRow.loose _ _ _ _) (fun _ _ => SeesP.nil) ?_;rintro v2 out2 ⟨q2, c2, rfl, hc2, rfl⟩;refine .appendSl (z := u8 0) (by' := 1) (Aa ([] ++ numB B.fSeq)) J J J J J Y44.h Y44.h Sz5 Zr5 (by unfold By; kernel_rfl) J (fun w h => SeesP.of (Ar h Bx)) (fun e => by cases e) (Ax _) (rem_there A7) J (by simp only [Aa, List.length_map, List.length_append, Bf, hB.l_fWriter, hB.l_fPrev, List.length_nil]; try omega) hc1 oM oM (by simp [Bf]) ?_;intro q3 c3 hq3;refine G8 ?_;refine .appendSl (z := u8 0) (by' := 1) (Aa B.fPrev) J J J J J Y44.h Y44.h Sz5 Zr5 (by unfold By; kernel_rfl) J (fun W2 W2h => (SeesP.of (sees_part W2h Z2 (Block.see_fPrev hB)))) (fun e => by cases e) (Ax _) A7 J (by simp only [Aa, List.length_map, List.length_append, Bf, hB.l_fWriter, hB.l_fPrev, List.length_nil]; try omega) hq3 oM oM (by simp [hB.l_fPrev]) ?_;intro q5 c5 hq5;refine G10 ?_;rw [hw2];refine .call J J J J Body88 (oct_Number none 0 0 [] (UInt64.ofNat B.fLinks.n) J (fun _ => rfl) oM) (FreshRow.loose _ _ _ _) (fun _ _ => SeesP.nil) ?_;rintro v4 out4 ⟨q4, c4, rfl, hc4, rfl⟩;refine .appendSl (z := u8 0) (by' := 1) (Aa ([] ++ numB (UInt64.ofNat B.fLinks.n))) J J J J J Y44.h Y44.h Sz5 Zr5 (by unfold By; kernel_rfl) J (fun w h => SeesP.of (Ar h Bx)) (fun e => by cases e) (Ax _) (rem_there A7) J (by simp only [Aa, List.length_map, List.length_append, Bf, hB.l_fWriter, hB.l_fPrev, List.length_nil]; try omega) hq5 oM oM (by simp [Bf]) ?_;intro q6 c6 hq6;refine G13 ?_;refine .loop (ι := Nat × Nat × Nat) (fun p => ⟨[(1, ptr n1 0), (3, .slice (some ⟨p.2.1, 0, none⟩) (32 + (0 + szN B.fSeq.toNat) + 32 + (0 + szN (UInt64.ofNat B.fLinks.n).toNat) + 32 * p.1) p.2.2), (26, B.fLinks.v), (27, i64 (B.fLinks.n : Int)), (28, i64 (p.1 : Int))], [⟨p.2.1, Aa (B.fWriter ++ numB B.fSeq ++ B.fPrev ++ numB (UInt64.ofNat B.fLinks.n) ++ (ls.take p.1).flatten), 5, p.2.2 * 1⟩, ⟨n1, B.cells, 48, B.cells.length⟩]⟩) (fun p => p.1 ≤ B.fLinks.n ∧ 32 + (0 + szN B.fSeq.toNat) + 32 + (0 + szN (UInt64.ofNat B.fLinks.n).toNat) + 32 * p.1 ≤ p.2.2) (fun p => B.fLinks.n - p.1) ((0, q6, c6)) ?_ ?_ ?_
 · exact ⟨Nat.zero_le _, by simp only []; omega⟩
 · exact Ad (wk1 rfl (wk1 rfl (wk1 rfl (wk1 rfl (wk1 rfl wk0))))) (wh1 (by simp only [List.take_zero, List.flatten_nil, List.append_nil, Aa, List.map_append, List.nil_append]; exact Bx) (wh1 Z3 wh0)) nD
 rintro p ⟨hp1, hp2⟩;refine G6 ?_;refine .condP J (fun hc0 => ?_) (fun hc0 => ?_)
 ·
  have hp3 : p.1 < B.fLinks.n := by omega
  obtain ⟨b, o, hbp, hbs⟩ := hW.1.see.at (by rw [Az hW.1.row]; omega);have hrk : (ls.getD p.1 []).length = 32 := Bs hW.1.row oM;refine G6 ?_;refine .idxSlP 32 J J J hbp J Y26.h Sz25 p.1 J oM (.loadEN (Aa (ls.getD p.1 [])) J J J Y25.h J Sz25 sP (by rw [Aa, List.length_map]; exact hrk) (Cc hW.1.row hbs oM) ?_);refine .alloc (cs := (Aa (List.replicate 32 0))) J Cr J ?_;intro n5 hn5 hf5;refine .sA J J J J zE Sz25 (by (rw [Aa, List.length_map]; assumption)) Z0 sP zU ?_;refine G5 ?_;refine .appendSl (z := u8 0) (by' := 1) (Aa (ls.getD p.1 [])) J J J J J Y44.h Y44.h Sz5 Zr5 (by unfold By; kernel_rfl) J (fun w h => SeesP.of (Ar h Bx)) (fun e => by cases e) (Ax _) (rem_there A7) J (by simp only [Aa, List.length_map, List.length_append, Bf, hB.l_fWriter, hB.l_fPrev, B1 hW.1.row (show p.1 ≤ ls.length by omega)]; omega) hp2 oM oM (by rw [Aa, List.length_map, hrk]) ?_;intro q7 c7 hq7;refine G9 ?_;exact ⟨(p.1 + 1, q7, c7), ⟨by simp only []; omega, by simp only []; omega⟩, by simp only []; omega, Ad (wk1 rfl (wk1 (by rw [show 32 + (0 + szN B.fSeq.toNat) + 32 + (0 + szN (UInt64.ofNat B.fLinks.n).toNat) + 32 * (p.1 + 1) = 32 + (0 + szN B.fSeq.toNat) + 32 + (0 + szN (UInt64.ofNat B.fLinks.n).toNat) + 32 * p.1 + 32 by omega]; rfl) (wk1 rfl (wk1 rfl (wk1 rfl wk0))))) (wh1 (by rw [flatten_take_step oM, ← List.append_assoc]; simp only [Aa, List.map_append]; exact Bx) (wh1 Z2 wh0)) nD⟩
 have hp3 : p.1 = B.fLinks.n := by omega
 refine G10 ?_;refine .call J J J J Body263 (oct_Block none B.fData.p 0 0 B.fData.n B.fData.c [] ds J hW.2.len (fun _ => rfl) (fun e => by have := hW.2.nil e; have := hW.2.cap; omega) oM oM) (FreshRow.loose _ _ _ _) (fun w h => ⟨SeesP.nil, A2 h J hW.2.see⟩) ?_;rintro v9 out9 ⟨q9, c9, rfl, hc9, rfl⟩;refine .appendSl (z := u8 0) (by' := 1) (Aa ([] ++ numB (UInt64.ofNat B.fData.n) ++ ds)) J J J J J Y44.h Y44.h Sz5 Zr5 (by unfold By; kernel_rfl) J (fun w h => SeesP.of (Ar h Bx)) (fun e => by cases e) (Ax _) (rem_there A7) J (by simp only [Aa, List.length_map, List.length_append, Bf, hB.l_fWriter, hB.l_fPrev, B1 hW.1.row (show p.1 ≤ ls.length by omega)]; omega) hp2 oM oM (by simp [Bf, hW.2.len, ofNat_nat (show B.fData.n ≤ 1000000 by omega)]) ?_;intro q8 c8 hq8;refine G3 ?_;refine G2 ?_;have hN : 32 + (0 + szN B.fSeq.toNat) + 32 + (0 + szN (UInt64.ofNat B.fLinks.n).toNat) + 32 * p.1 + (0 + szN B.fData.n + B.fData.n) = (bodyB B ls ds).length := by
  have hfl := B1 hW.1.row (Nat.le_refl ls.length);rw [List.take_length] at hfl;simp only [bodyB, List.length_append, Bf, hB.l_fWriter, hB.l_fPrev, hfl, hW.2.len, ofNat_nat (show B.fData.n ≤ 1000000 by omega)];omega
 refine ⟨_, [⟨q8, Aa (bodyB B ls ds), 5, c8 * 1⟩], Ai J J, (by intro b hb; rw [List.mem_singleton.1 hb, show bodyB B ls ds = B.fWriter ++ numB B.fSeq ++ B.fPrev ++ numB (UInt64.ofNat B.fLinks.n) ++ (ls.take p.1).flatten ++ (numB (UInt64.ofNat B.fData.n) ++ ds) by rw [bodyB, List.take_of_length_le oM]]; simp only [Aa, List.map_append, List.append_assoc, List.nil_append]; exact Bx), nodup1, ⟨_, rfl, by omega, q8, c8, by rw [← hN], by omega, rfl⟩⟩
theorem check_small {B : Block} {ls : List (List UInt8)} (h : bcheck B ls = 0) : B.fLinks.n ≤ 16 ∧ B.fData.n ≤ 512 := by
  unfold bcheck at h;by_cases h1 : bheadB B = true
  · rw [if_pos h1] at h; cases h
  · unfold bheadB at h1
    simp at h1;omega
def bytesB (B : Block) (ls : List (List UInt8)) (ds : List UInt8) : List UInt8 := bodyB B ls ds ++ B.fSig

theorem body_small (B : Block) (hB : B.ok) (ls : List (List UInt8)) (ds : List UInt8) (hr : ∀ l ∈ ls, l.length = 32) (hl : ls.length = B.fLinks.n) (hd : ds.length = B.fData.n) (hn : B.fLinks.n ≤ 40) (hd2 : B.fData.n ≤ 2000) : (bodyB B ls ds).length ≤ 4000 := by
  have hz1 := Bz B.fSeq.toNat;have hz2 := Bz (UInt64.ofNat B.fLinks.n).toNat;have hz3 := Bz (UInt64.ofNat B.fData.n).toNat;have hfl := B1 hr (Nat.le_refl ls.length);rw [List.take_length] at hfl;simp only [bodyB, List.length_append, Bf, hB.l_fWriter, hB.l_fPrev, hfl, hd];omega

theorem bytes_bad (B : Block) (hB : B.ok) (ls : List (List UInt8)) (ds : List UInt8) (hc : ¬ bcheck B ls = 0) : Meets Tryz.prog 174 [agg B.cells] [] (fun W => RowsAt W B.fLinks 32 ls ∧ BytesAt W B.fData ds) (fun v out => v = .tuple #[.slice none 0 0, i64 (bcheck B ls)] ∧ out = []) := by
 intro W hW;refine Ac Tryz.func174 J 15 Tryz.ntmps174 J (G3 ?_);intro n1 hn1 hf1;refine G8 ?_;refine .cV J J J J Body171 (block_check B hB ls) (fun w h => rows_ext h J hW.1) (G6 ?_);refine .nei J J J J (show (!decide _) = true from congrArg not (decide_eq_false (hc))) (G2 ?_);refine .cond_t J (rfl) (G7 ?_);refine G3 ?_;refine ⟨_, [], Cq J J J, sP, sP, ?_, rfl⟩;rfl

theorem bytes_ok (B : Block) (hB : B.ok) (ls : List (List UInt8)) (ds : List UInt8) (hc : bcheck B ls = 0) : Meets Tryz.prog 174 [agg B.cells] [] (fun W => RowsAt W B.fLinks 32 ls ∧ BytesAt W B.fData ds) (fun v out => ∃ q c N, N = (bytesB B ls ds).length ∧ N ≤ 5000 ∧ v = .tuple #[.slice (some ⟨q, 0, none⟩) N c, i64 0] ∧ N ≤ c ∧ out = [⟨q, Aa (bytesB B ls ds), 5, c * 1⟩]) := by
 intro W hW;have hsm := check_small hc;refine Ac Tryz.func174 J 15 Tryz.ntmps174 J (G3 ?_);intro n1 hn1 hf1;refine G8 ?_;refine .cV J J J J Body171 (block_check B hB ls) (fun w h => rows_ext h J hW.1) (G6 ?_);refine .nei J J J J (show (!decide _) = false from congrArg not (decide_eq_true (hc))) (G2 ?_);refine .cond_f J (rfl) (G3 ?_);refine .draw (oP [100,2,3,301,404,5,6]) Ao zK (G3 ?_);refine .call J J J J Body207 (block_body B hB ls ds oM oM) (fun l hl => by obtain ⟨v, out, h1, h2⟩ := FreshRow.loose (Aa (bodyB B ls ds)) 5 (bodyB B ls ds).length 1 l hl; exact ⟨v, out, ⟨_, rfl, body_small B hB ls ds hW.1.row hW.1.len hW.2.len oM oM, h1⟩, h2⟩) (fun w h => ⟨rows_ext h J hW.1, bytes_ext h J hW.2⟩) ?_;rintro v1 out1 ⟨N1, hN1, hN2, q1, c1, rfl, hc1, rfl⟩;refine .appendSl (z := u8 0) (by' := 1) (Aa B.fSig) J J J J J Y44.h Y44.h Sz5 Zr5 (by unfold By; kernel_rfl) J (fun W2 W2h => (SeesP.of (sees_part W2h Z1 (Block.see_fSig hB)))) (fun e => by cases e) (Ax _) A7 J (by rw [Aa, List.length_map, hN1, Nat.mul_one]) hc1 oM oM (by simp [hB.l_fSig]) ?_;intro q2 c2 hq2;refine G4 ?_;refine G2 ?_;refine ⟨_, [⟨q2, Aa (bytesB B ls ds), 5, c2 * 1⟩], Cq J J J, (by intro b hb; rw [List.mem_singleton.1 hb, bytesB]; simp only [Aa, List.map_append]; exact Bx), nodup1, ⟨q2, c2, N1 + 64, by rw [hN1, bytesB, List.length_append, hB.l_fSig], by omega, rfl, hq2, rfl⟩⟩


theorem digests_any2 (p q : Option Addr) (n m c1 c2 : Nat) (xs ys : List (List UInt8)) (hx : ∀ l ∈ xs, l.length = 32) (hy : ∀ l ∈ ys, l.length = 32) (h1 : xs.length = n) (h2 : ys.length = m) (hn : n ≤ 1000000) :
    Meets Tryz.prog 36 [.slice p n c1, .slice q m c2] [] (fun W => SeesP W p (A1 xs) ∧ SeesP W q (A1 ys)) (fun v out => v = .bool (decide (xs = ys)) ∧ out = []) := by
  by_cases h : n = m
  · subst h; exact digests_eq p q n c1 c2 xs ys hx hy h1 h2 hn
  · exact digests_ne p q n m c1 c2 xs ys hx hy h1 h2 hn h


structure DB where
  w : List UInt8
  seq : UInt64
  prev : List UInt8
  ls : List (List UInt8)
  ds : List UInt8
  sg : List UInt8
deriving DecidableEq
def DB.zero : DB := ⟨List.replicate 32 0, 0, List.replicate 32 0, [], [], List.replicate 64 0⟩
def DB.head (D : DB) : Bool := decide ((4294967295 : Int) < (D.seq.toNat : Int)) || (!decide (decide (D.prev = List.replicate 32 0) = decide ((D.seq.toNat : Int) = 0)) || (decide ((16 : Int) < (D.ls.length : Int)) || decide ((512 : Int) < (D.ds.length : Int))))
def DB.check (D : DB) : Int := if D.head = true then 2 else (if linksBad D.prev D.ls = true then 2 else 0)
def DB.body (D : DB) : List UInt8 := D.w ++ numB D.seq ++ D.prev ++ numB (UInt64.ofNat D.ls.length) ++ D.ls.flatten ++ (numB (UInt64.ofNat D.ds.length) ++ D.ds)
def DB.bytes (D : DB) : List UInt8 := D.body ++ D.sg
structure DB.ok (D : DB) : Prop where
  w : D.w.length = 32
  prev : D.prev.length = 32
  sg : D.sg.length = 64
  ls : ∀ l ∈ D.ls, l.length = 32
structure BlockIs (W : World) (B : Block) (D : DB) : Prop where
  ok : B.ok
  w : B.fWriter = D.w
  seq : B.fSeq = D.seq
  prev : B.fPrev = D.prev
  ls : RowsAt W B.fLinks 32 D.ls
  ds : BytesAt W B.fData D.ds
  sg : B.fSig = D.sg
theorem BlockIs.dok {W : World} {B : Block} {D : DB} (h : BlockIs W B D) : D.ok := ⟨by rw [← h.w]; exact h.ok.l_fWriter, by rw [← h.prev]; exact h.ok.l_fPrev, by rw [← h.sg]; exact h.ok.l_fSig, h.ls.row⟩
theorem BlockIs.check {W : World} {B : Block} {D : DB} (h : BlockIs W B D) : bcheck B D.ls = D.check := by
  simp only [bcheck, bheadB, DB.check, DB.head, h.seq, h.prev, h.ls.len, h.ds.len]
theorem BlockIs.body {W : World} {B : Block} {D : DB} (h : BlockIs W B D) : bodyB B D.ls D.ds = D.body := by
  simp only [bodyB, DB.body, h.w, h.seq, h.prev, h.ls.len, h.ds.len]
theorem BlockIs.bytes {W : World} {B : Block} {D : DB} (h : BlockIs W B D) : bytesB B D.ls D.ds = D.bytes := by
  simp only [bytesB, DB.bytes, h.body, h.sg]
theorem acc_rows {s : Sl} {bl : List Blk} {ls : List (List UInt8)} {E : TypeId} {n : Nat} {w : World} (h : Acc s bl (A1 ls) E n 32) (hl : Lies bl w) (hr : ∀ l ∈ ls, l.length = 32) (hn : ls.length = n) (hm : n ≤ 1000000) : RowsAt w s 32 ls :=
  ⟨by rw [h.num, hn], hr, h.cap, h.see hl, by rw [h.num]; unfold maxLen; omega, h.nilc⟩
theorem acc_bytes {s : Sl} {bl : List Blk} {l : List UInt8} {E : TypeId} {n : Nat} {w : World} (h : Acc s bl (Aa l) E n 1) (hl : Lies bl w) (hn : l.length = n) (hm : n ≤ 1000000) : BytesAt w s l :=
  ⟨by rw [h.num, hn], h.cap, h.see hl, by rw [h.num]; unfold maxLen; omega, h.nilc⟩
theorem zero_is (W : World) : BlockIs W Block.zero DB.zero := ⟨Block.zero_ok, rfl, rfl, rfl, ⟨rfl, fun l hl => (by cases hl), Nat.le_refl _, SeesP.nil, Nat.zero_le _, fun _ => rfl⟩, ⟨rfl, Nat.le_refl _, SeesP.nil, Nat.zero_le _, fun _ => rfl⟩, rfl⟩

def kW : List UInt64 := [4794697086780616226, 8158064640168781261, 13096744586834688815, 16840607885511220156, 4131703408338449720, 6480981068601479193, 10538285296894168987, 12329834152419229976, 15566598209576043074, 1334009975649890238, 2608012711638119052, 6128411473006802146, 8268148722764581231, 9286055187155687089, 11230858885718282805, 13951009754708518548, 16472876342353939154, 17275323862435702243, 1135362057144423861, 2597628984639134821, 3308224258029322869, 5365058923640841347, 6679025012923562964, 8573033837759648693, 10970295158949994411, 12119686244451234320, 12683024718118986047, 13788192230050041572, 14330467153632333762, 15395433587784984357, 489312712824947311, 1452737877330783856, 2861767655752347644, 3322285676063803686, 5560940570517711597, 5996557281743188959, 7280758554555802590, 8532644243296465576, 9350256976987008742, 10552545826968843579, 11727347734174303076, 12113106623233404929, 14000437183269869457, 14369950271660146224, 15101387698204529176, 15463397548674623760, 17586052441742319658, 1182934255886127544, 1847814050463011016, 2177327727835720531, 2830643537854262169, 3796741975233480872, 4115178125766777443, 5681478168544905931, 6601373596472566643, 7507060721942968483, 8399075790359081724, 8693463985226723168, 9568029438360202098, 10144078919501101548, 10430055236837252648, 11840083180663258601, 13761210420658862357, 14299343276471374635, 14566680578165727644, 15097957966210449927, 16922976911328602910, 17689382322260857208, 500013540394364858, 748580250866718886, 1242879168328830382, 1977374033974150939, 2944078676154940804, 3659926193048069267, 4368137639120453308, 4836135668995329356, 5532061633213252278, 6448918945643986474, 6902733635092675308, 7801388544844847127]
def startW : List UInt64 := [7640891576956012808, 13503953896175478587, 4354685564936845355, 11912009170470909681, 5840696475078001361, 11170449401992604703, 2270897969802886507, 6620516959819538809]

theorem sha_K  : Meets Tryz.prog 240 [] [] (fun _ => True) (fun v out => v = agg (Ae kW) ∧ out = []) := by
 intro W hW;refine Ac Tryz.func240 J 2 Tryz.ntmps240 J (G2 ?_);refine .alloc (cs := (Ae (List.replicate 80 0))) J Zr247 J ?_;intro n0 hn0 hf0;refine G4 ?_;refine .build (cs := Ae kW) J J J (fun w => by kernel_rfl) ?_;refine .sA J J J J zB Sz247 (by (simp [kW]; done)) Z0 sP zU ?_;refine G2 ?_;refine G2 ?_;refine ⟨_, [], An J J Y247 J Sz247 Z0 (by simp [kW]), sP, sP, ?_, rfl⟩;rfl

theorem sha_Start  : Meets Tryz.prog 198 [] [] (fun _ => True) (fun v out => v = agg (Ae startW) ∧ out = []) := by
 intro W hW;refine Ac Tryz.func198 J 2 Tryz.ntmps198 J (G2 ?_);refine .alloc (cs := (Ae (List.replicate 8 0))) J Zr175 J ?_;intro n0 hn0 hf0;refine G4 ?_;refine .build (cs := Ae startW) J J J (fun w => by kernel_rfl) ?_;refine .sA J J J J zB Sz175 (by (simp [startW]; done)) Z0 sP zU ?_;refine G2 ?_;refine G2 ?_;refine ⟨_, [], An J J Y175.h J Sz175 Z0 (by simp [startW]), sP, sP, ?_, rfl⟩;rfl

theorem bits_rol (x : UInt64) (k : Int) (s : Nat) (hk : -64 ≤ k ∧ k ≤ 64) (hs : (wordOf k &&& 63).toNat = s) (hs2 : s ≤ 63) : Meets Tryz.prog 241 [u64 x, i64 k] [] (fun _ => True) (fun v out => v = u64 (rolW x s) ∧ out = []) := by
 intro W hW;have h64 : ((64 : UInt64) - (wordOf k &&& 63)).toNat = 64 - s := by rw [UInt64.toNat_sub_of_le _ _ (by rw [UInt64.le_iff_toNat_le, hs]; show s ≤ 64; omega), hs]; rfl
 refine Ac Tryz.func241 J 17 Tryz.ntmps241 J (G2 ?_);refine .a J J (show Af _ _ = some (u64 0) from rfl) (G6 ?_);refine .and_u64 J J J (show Af _ _ = some (u64 63) from rfl) (G7 ?_);refine .shl_u64 J J J J s oM oM (G2 ?_);refine .sub_u64 J J (show Af _ _ = some (u64 64) from rfl) J (.shr_u64 J J J J (64 - s) oM oM (G4 ?_));refine G2 ?_;refine ⟨_, [], Ai J J, sP, sP, ?_, rfl⟩;rfl

theorem sha_schedule (p : List UInt8) (hp : p.length = 128) (A w : List UInt64) (hA : Hid (schA p 128 = A)) (hwp : Hid (schB A 64 = w)) : Meets Tryz.prog 239 [agg (Aa p)] [] (fun _ => True) (fun v out => v = agg (Ae w) ∧ out = []) := by
 intro W hW;have hA80 : A.length = 80 := by rw [← hA.out]; exact schA_length p 128
 have hw80 : w.length = 80 := by rw [← hwp.out, schB_length]; exact hA80
 refine Ac Tryz.func239 J 72 Tryz.ntmps239 J (G3 ?_);intro n1 hn1 hf1;refine .alloc (cs := (Ae (List.replicate 80 0))) J Zr247 J ?_;intro n2 hn2 hf2;refine G4 ?_;refine .alloc (cs := (Ae (List.replicate 80 0))) J Zr247 J ?_;intro n3 hn3 hf3;refine G5 ?_;refine .lA J J J Tryz.underlying213 J Sz213 Z2 (by (simp [hp]; done)) ?_;refine G4 ?_;refine .loop (ι := Nat) (fun k => ⟨[(3, ptr n3 0), (2, ptr n2 0), (11, agg (Aa p)), (12, i64 (k : Int))], [⟨n3, Ae (schA p k), 247, 80⟩, ⟨n2, Ae (List.replicate 80 0), 247, 80⟩]⟩) (fun k => k ≤ 128) (fun k => 128 - k) (0) ?_ ?_ ?_
 · omega
 · exact Ad (wk1 rfl (wk1 rfl (wk1 rfl (wk1 rfl wk0)))) (wh1 Z0 (wh1 Z1 wh0)) nD
 rintro k hi;have hlk := schA_length p k;refine G6 ?_;refine .condP J (fun hc0 => ?_) (fun hc0 => ?_)
 ·
  refine G7 ?_;refine .idxA1 J J J J Tryz.underlying213 Sz5 Y5.h J _ J oM zG ?_;refine G6 ?_;refine .quo_i64 J J J J oM (G1 ?_);refine .quo_i64 J J J J oM (.i1 J J J J Y247 Sz23 (k / 8) oM oM (G1 ?_));refine .shl_u64 J J J J 8 J dE (G3 ?_);refine .i1 J J J J Y247 Sz23 (k / 8) oM oM (.s1 J J J J J Sz23 Z0 (by (simp [schA_length]; omega)) (by exact A8 _ _ _) zU ?_);refine G8 ?_;exact ⟨k + 1, by omega, by omega, Ad (wk1 rfl (wk1 rfl (wk1 rfl (wk1 rfl wk0)))) (wh1 Z0 (wh1 Z1 wh0)) nD⟩
 obtain rfl : k = 128 := by omega
 rw [hA.out];clear hlk;refine G12 ?_;refine .loop (ι := Nat) (fun j => ⟨[(3, ptr n3 0), (2, ptr n2 0), (6, i64 (16 + (j : Int)))], [⟨n3, Ae (schB A j), 247, 80⟩, ⟨n2, Ae (List.replicate 80 0), 247, 80⟩]⟩) (fun j => j ≤ 64) (fun j => 64 - j) (0) ?_ ?_ ?_
 · omega
 · exact Ad (wk1 rfl (wk1 rfl (wk1 rfl wk0))) (wh1 Z0 (wh1 Z1 wh0)) nD
 rintro j hi;have hlj := schB_length A j;refine G7 ?_;refine .condP J (fun hc1 => ?_) (fun hc1 => ?_)
 ·
  refine G5 ?_;refine .draw (oP [0,1,2,103,4,5,6,107,8,9]) Ao zK (G2 ?_);refine .i1 J J J J Y247 Sz23 (j + 1) oM oM (G3 ?_);refine .i1 J J J J Y247 Sz23 (j + 14) oM oM (G8 ?_);refine .cV J J J J Body241 (bits_rol _ (-1) 63 dE dE dE) tV (G1 ?_);refine .cV J J J J Body241 (bits_rol _ (-8) 56 dE dE dE) tV (G2 ?_);refine .shr_u64 J J J J 7 J dE (G7 ?_);refine .cV J J J J Body241 (bits_rol _ (-19) 45 dE dE dE) tV (G1 ?_);refine .cV J J J J Body241 (bits_rol _ (-61) 3 dE dE dE) tV (G2 ?_);refine .shr_u64 J J J J 6 J dE (G4 ?_);refine .draw (oP [0,1,2,3,104,5,6,7,8,9,110,11,12,13,14,415]) Ao zK (G3 ?_);refine .i1 J J J J Y247 Sz23 j oM oM (G5 ?_);refine .i1 J J J J Y247 Sz23 (j + 9) oM oM (G4 ?_);refine .i1 J J J J Y247 Sz23 (16 + j) oM oM (.s1 J J J J J Sz23 Z0 (by (simp [schB_length, hA80]; omega)) (by exact A8 _ _ _) zU ?_);refine G9 ?_;exact ⟨j + 1, by omega, by omega, Ad (wk1 rfl (wk1 rfl (wk1 (congrArg (fun z => some (i64 z)) oM) wk0))) (wh1 Z0 (wh1 Z1 wh0)) nD⟩
 obtain rfl : j = 64 := by omega
 rw [hwp.out];clear hlj;refine G7 ?_;refine .lA J J J Y247 J Sz247 Z0 (by (simp [hw80]; done)) ?_;refine .sA J J J J zB Sz247 (by (simp [hw80]; done)) Z1 sP zV ?_;refine G2 ?_;refine G2 ?_;refine ⟨_, [], An J J Y247 J Sz247 Z1 (by simp [hw80]), sP, sP, ?_, rfl⟩;rfl
theorem sha_Kk (k : List UInt64) (hk : Hid (kW = k)) : Meets Tryz.prog 240 [] [] (fun _ => True) (fun v out => v = agg (Ae k) ∧ out = []) := by
  rw [← hk.out]; exact sha_K
theorem W8.l_length (R : W8) : R.l.length = 8 := rfl

theorem sha_Piece (st : List UInt64) (hst : st.length = 8) (p : List UInt8) (hp : p.length = 128) (A w k : List UInt64) (R : W8) (hA : Hid (schA p 128 = A)) (hwp : Hid (schB A 64 = w)) (hw : w.length = 80) (hk : Hid (kW = k)) (hk80 : k.length = 80) (hR : Hid (rnds k w (W8.of st) 80 = R)) : Meets Tryz.prog 197 [agg (Ae st), agg (Aa p)] [] (fun _ => True) (fun v out => v = agg (Ae (addUp st R.l 8)) ∧ out = []) := by
 intro W hW;refine Ac Tryz.func197 J 127 Tryz.ntmps197 J (G3 ?_);intro n2 hn2 hf2;refine G1 ?_;intro n3 hn3 hf3;refine .alloc (cs := (Ae (List.replicate 8 0))) J Zr175 J ?_;intro n4 hn4 hf4;refine G4 ?_;refine .lA J J J Tryz.underlying213 J Sz213 Z1 (by (simp [hp]; done)) ?_;refine .cV J J J J Body239 (sha_schedule p hp A w hA hwp) tV (.cV J J J J Body240 (sha_Kk k hk) tV (.alloc (cs := (Ae (List.replicate 80 0))) J Zr247 J ?_));intro n5 hn5 hf5;refine .alloc (cs := (Ae (List.replicate 80 0))) J Zr247 J ?_;intro n6 hn6 hf6;refine .sA J J J J zB Sz247 (by (simp [hw]; done)) Z1 sP zV ?_;refine .sA J J J J zB Sz247 (by (simp [hk80]; done)) Z0 sP zU ?_;refine G3 ?_;refine .draw (oP [0,101,2,103,4,105,6,107,8,9,10,11]) Ao zK (.i1 J J J J Y175.h Sz23 0 J dE (G1 ?_));refine .i1 J J J J Y175.h Sz23 1 J dE (G1 ?_);refine .i1 J J J J Y175.h Sz23 2 J dE (G1 ?_);refine .i1 J J J J Y175.h Sz23 3 J dE (G8 ?_);refine .draw (oP [0,101,2,103,4,105,6,107,8,9,10,11]) Ao zK (.i1 J J J J Y175.h Sz23 4 J dE (G1 ?_));refine .i1 J J J J Y175.h Sz23 5 J dE (G1 ?_);refine .i1 J J J J Y175.h Sz23 6 J dE (G1 ?_);refine .i1 J J J J Y175.h Sz23 7 J dE (G14 ?_);refine .loop (ι := Nat) (fun t => ⟨[(2, ptr n2 0), (4, ptr n4 0), (5, ptr n5 0), (6, ptr n6 0), (7, u64 (rnds k w (W8.of st) t).a), (8, u64 (rnds k w (W8.of st) t).b), (9, u64 (rnds k w (W8.of st) t).c), (10, u64 (rnds k w (W8.of st) t).d), (11, u64 (rnds k w (W8.of st) t).e), (12, u64 (rnds k w (W8.of st) t).f), (13, u64 (rnds k w (W8.of st) t).g), (14, u64 (rnds k w (W8.of st) t).h), (41, i64 (t : Int))], [⟨n6, Ae k, 247, 80⟩, ⟨n5, Ae w, 247, 80⟩, ⟨n4, Ae (List.replicate 8 0), 175, 8⟩, ⟨n2, Ae st, 175, (Ae st).length⟩]⟩) (fun t => t ≤ 80) (fun t => 80 - t) (0) ?_ ?_ ?_
 · omega
 · exact Ad (wk1 rfl (wk1 rfl (wk1 rfl (wk1 rfl (wk1 rfl (wk1 rfl (wk1 rfl (wk1 rfl (wk1 rfl (wk1 rfl (wk1 rfl (wk1 rfl (wk1 rfl wk0))))))))))))) (wh1 Z0 (wh1 Z1 (wh1 Z2 (wh1 Z4 wh0)))) nD
 rintro t hi;refine G6 ?_;refine .condP J (fun hc0 => ?_) (fun hc0 => ?_)
 ·
  refine G13 ?_;refine .cV J J J J Body241 (bits_rol _ (-14) 50 dE dE dE) tV (G1 ?_);refine .cV J J J J Body241 (bits_rol _ (-18) 46 dE dE dE) tV (G2 ?_);refine .cV J J J J Body241 (bits_rol _ (-41) 23 dE dE dE) tV (G5 ?_);refine .draw (oP [0,1,2,3,4,5,6,7,8,9,10,11,12,13,114,15,16,17,118,19,20]) Ao zK (G7 ?_);refine .not_u64 J J J (G5 ?_);refine .i1 J J J J Y247 Sz23 _ J oM (G3 ?_);refine .i1 J J J J Y247 Sz23 _ J oM (G8 ?_);refine .cV J J J J Body241 (bits_rol _ (-28) 36 dE dE dE) tV (G1 ?_);refine .cV J J J J Body241 (bits_rol _ (-34) 30 dE dE dE) tV (G2 ?_);refine .cV J J J J Body241 (bits_rol _ (-39) 25 dE dE dE) tV (G51 ?_);exact ⟨t + 1, by omega, by omega, Ad (wk1 rfl (wk1 rfl (wk1 rfl (wk1 rfl (wk1 rfl (wk1 rfl (wk1 rfl (wk1 rfl (wk1 rfl (wk1 rfl (wk1 rfl (wk1 rfl (wk1 rfl wk0))))))))))))) (wh1 Z0 (wh1 Z1 (wh1 Z2 (wh1 Z3 wh0)))) nD⟩
 obtain rfl : t = 80 := by omega
 rw [hR.out];refine G16 ?_;refine .build (cs := Ae R.l) J J J (fun w => by kernel_rfl) ?_;refine G4 ?_;refine .loop (ι := Nat) (fun i => ⟨[(2, ptr n2 0), (4, ptr n4 0), (114, agg (Ae R.l)), (115, i64 (i : Int))], [⟨n4, Ae (List.replicate 8 0), 175, 8⟩, ⟨n2, Ae (addUp st R.l i), 175, (Ae st).length⟩]⟩) (fun i => i ≤ 8) (fun i => 8 - i) (0) ?_ ?_ ?_
 · omega
 · exact Ad (wk1 rfl (wk1 rfl (wk1 rfl (wk1 rfl wk0)))) (wh1 Z2 (wh1 Z3 wh0)) nD
 rintro i hi;have hli := Bu st R.l i;have hRl := W8.l_length R;refine G6 ?_;refine .condP J (fun hc1 => ?_) (fun hc1 => ?_)
 ·
  refine G7 ?_;refine .idxA1 J J J J Y175.h Sz23 Y23.h J _ J oM (by exact get_words oM) ?_;refine G6 ?_;refine .i1 J J J J Y175.h Sz23 _ J oM (G3 ?_);refine .i1 J J J J Y175.h Sz23 _ J oM (.s1 J J J J J Sz23 Z1 (by (simp [hst, Bu]; omega)) (by exact A8 _ _ _) zV ?_);refine G8 ?_;exact ⟨i + 1, by omega, by omega, Ad (wk1 rfl (wk1 rfl (wk1 rfl (wk1 rfl wk0)))) (wh1 Z0 (wh1 Z1 wh0)) nD⟩
 obtain rfl : i = 8 := by omega
 refine G7 ?_;refine .lA J J J Y175.h J Sz175 Z1 (by (simp [hst, Bu]; done)) ?_;refine .sA J J J J zB Sz175 (by (simp [hst, Bu]; done)) Z0 sP zU ?_;refine G2 ?_;refine G2 ?_;refine ⟨_, [], An J J Y175.h J Sz175 Z0 (by simp [hst, Bu]), sP, sP, ?_, rfl⟩;rfl
theorem sha_sum (st : List UInt64) (hst : st.length = 8) (s : List UInt8) (hs : Hid (sumUp st 64 = s)) : Meets Tryz.prog 160 [agg (Ae st)] [] (fun _ => True) (fun v out => v = agg (Aa s) ∧ out = []) := by
 intro W hW;have hs64 : s.length = 64 := by rw [← hs.out]; exact B5 st 64
 refine Ac Tryz.func160 J 22 Tryz.ntmps160 J (G3 ?_);intro n1 hn1 hf1;refine .alloc (cs := (Aa (List.replicate 64 0))) J Zr45 J ?_;intro n2 hn2 hf2;refine G4 ?_;refine .alloc (cs := (Aa (List.replicate 64 0))) J Zr45 J ?_;intro n3 hn3 hf3;refine G9 ?_;refine .loop (ι := Nat) (fun k => ⟨[(1, ptr n1 0), (2, ptr n2 0), (3, ptr n3 0), (5, i64 (k : Int))], [⟨n3, Aa (sumUp st k), 45, 64⟩, ⟨n2, Aa (List.replicate 64 0), 45, 64⟩, ⟨n1, Ae st, 175, (Ae st).length⟩]⟩) (fun k => k ≤ 64) (fun k => 64 - k) (0) ?_ ?_ ?_
 · omega
 · exact Ad (wk1 rfl (wk1 rfl (wk1 rfl (wk1 rfl wk0)))) (wh1 Z0 (wh1 Z1 (wh1 Z2 wh0))) nD
 rintro k hi;have hlk := B5 st k;refine G6 ?_;refine .condP J (fun hc0 => ?_) (fun hc0 => ?_)
 ·
  refine G13 ?_;refine .quo_i64 J J J J oM (.i1 J J J J Y175.h Sz23 (k / 8) oM oM (G2 ?_));refine .rem_i64 J J J J oM (.mul_i64 J J J J oM (G1 ?_));refine .shr_u64 J J J J (56 - 8 * (k % 8)) oM oM (G1 ?_);refine .i1 J J J J Y45.h Sz5 _ J oM (.s1 J J J J J Sz5 Z0 (by (simp [B5]; omega)) (by exact Bd _ _ _) zU ?_);refine G8 ?_;exact ⟨k + 1, by omega, by omega, Ad (wk1 rfl (wk1 rfl (wk1 rfl (wk1 rfl wk0)))) (wh1 Z0 (wh1 Z1 (wh1 Z2 wh0))) nD⟩
 obtain rfl : k = 64 := by omega
 rw [hs.out];clear hlk;refine G7 ?_;refine .lA J J J Y45.h J Sz45 Z0 (by (simp [hs64]; done)) ?_;refine .sA J J J J zE Sz45 (by (simp [hs64]; done)) Z1 sP zV ?_;refine G2 ?_;refine G2 ?_;refine ⟨_, [], An J J Y45.h J Sz45 Z1 (by simp [hs64]), sP, sP, ?_, rfl⟩;rfl

theorem and_low {x : UInt64} (h : x.toNat < 4294967296) : x &&& 4294967295 = x := by
  apply UInt64.toNat_inj.1;rw [UInt64.toNat_and];show x.toNat &&& (2 ^ 32 - 1) = x.toNat;rw [Nat.and_two_pow_sub_one_eq_mod, Nat.mod_eq_of_lt oM]
theorem shr_small {x : UInt64} {n : Nat} (h : x.toNat < 2 ^ n) : Ap x n = 0 := by
  apply UInt64.toNat_inj.1;rw [shr64_nat, Nat.div_eq_of_lt h]; rfl
theorem mul8_nat {x : UInt64} (h : x.toNat < 536870912) : (x * 8).toNat = x.toNat * 8 := by
  rw [UInt64.toNat_mul]; show x.toNat * 8 % 18446744073709551616 = _; omega

theorem bits_mul8 (x : UInt64) (hx : x.toNat < 536870912) : Meets Tryz.prog 238 [u64 x, u64 8] [] (fun _ => True) (fun v out => v = .tuple #[u64 0, u64 (x * 8)] ∧ out = []) := by
 intro W hW;have h1 := and_low (x := x) oM;have h2 := shr_small (x := x) (n := 32) oM;have h3 := mul8_nat hx;have h4 := shr_small (x := x * 8) (n := 32) oM;refine Ac Tryz.func238 J 51 Tryz.ntmps238 J (G2 ?_);refine .a J J (show Af _ _ = some (u64 0) from rfl) (.a J J (show Af _ _ = some (u64 0) from rfl) (G5 ?_));refine .and_u64 J J J (show Af _ _ = some (u64 4294967295) from rfl) (G6 ?_);refine .shr_u64 J J J J 32 oM oM (G6 ?_);refine .and_u64 J J J (show Af _ _ = some (u64 4294967295) from rfl) (G6 ?_);refine .shr_u64 J J (show Af _ _ = some (u64 8) from rfl) J 32 oM oM (G17 ?_);refine .shr_u64 J J J J 32 J dE (G7 ?_);refine .and_u64 J J J (show Af _ _ = some (u64 4294967295) from rfl) (G6 ?_);refine .shr_u64 J J J J 32 J dE (G21 ?_);refine .shr_u64 J J J J 32 J dE (G12 ?_);refine G2 ?_;refine ⟨_, [], Cq J J J, sP, sP, ?_, rfl⟩;simp only [h1, h2, show Ap 8 32 = 0 from rfl, show (8 : UInt64) &&& 4294967295 = 8 from rfl];rw [h4, UInt64.mul_zero (a := x)];rfl

theorem bytesV_app (a b : List UInt8) : Aa (a ++ b) = Aa a ++ Aa b := List.map_append
theorem sl_get {ss : List Sl} {j : Nat} (h : j < ss.length) : (ss.map Sl.v)[j]? = some (ss.getD j Sl.nil).v := by simp [List.getElem?_eq_getElem h, List.getD]
theorem take_flat {ls : List (List UInt8)} {j : Nat} (h : j < ls.length) : (ls.take (j + 1)).flatten = (ls.take j).flatten ++ ls.getD j [] := by
  rw [List.take_succ_eq_append_getElem h, List.flatten_append];simp [List.getD, h]
theorem take_flat_le (ls : List (List UInt8)) (j : Nat) : (ls.take j).flatten.length ≤ ls.flatten.length := by
  have : ls.flatten = (ls.take j).flatten ++ (ls.drop j).flatten := by rw [← List.flatten_append, List.take_append_drop]
  rw [this, List.length_append]; omega

theorem sha_padded (p : Option Addr) (n c : Nat) (ss : List Sl) (ls : List (List UInt8)) (hss : ss.length = n) (hls : ls.length = n) (hsl : ∀ j, j < n → (ss.getD j Sl.nil).n = (ls.getD j []).length ∧ ((ss.getD j Sl.nil).p = none → (ss.getD j Sl.nil).n = 0)) (F : List UInt8) (hF : ls.flatten = F) (htot : F.length ≤ 90000) (hn : n ≤ 1000000) : Meets Tryz.prog 196 [.slice p n c] [] (fun W => SeesP W p (ss.map Sl.v) ∧ ∀ j, j < n → SeesP W (ss.getD j Sl.nil).p (Aa (ls.getD j []))) (fun v out => ∃ s, v = s.v ∧ Acc s out (Aa (padB F)) 5 (padB F).length 1) := by
 intro W hW;have hz := padZ_lt F.length;have hle := take_flat_le ls;rw [hF] at hle;refine Ac Tryz.func196 J 76 Tryz.ntmps196 J (G19 ?_);refine .loop (ι := Nat) (fun k => ⟨[(0, .slice p n c), (3, i64 ((ls.take k).flatten.length : Int)), (14, .slice p n c), (15, i64 (n : Int)), (16, i64 (k : Int))], []⟩) (fun k => k ≤ n) (fun k => n - k) (0) ?_ ?_ ?_
 · omega
 · exact Aq (wk1 rfl (wk1 rfl (wk1 rfl (wk1 rfl (wk1 rfl wk0))))) Al
 rintro k hi;refine G6 ?_;refine .condP J (fun hc0 => ?_) (fun hc0 => ?_)
 ·
  have hk3 : k < n := by omega
  obtain ⟨b, o, hbp, hbs⟩ := hW.1.at (by rw [List.length_map]; omega);have hv : W.cell? ⟨b, o + k * 1, none⟩ = some (ss.getD k Sl.nil).v := by rw [Nat.mul_one]; exact hbs k _ (sl_get oM)
  have hstep := hle (k + 1);rw [take_flat oM, List.length_append, ← (hsl k oM).1] at hstep;refine G6 ?_;refine .idxSlP 1 J J J hbp J Y173.h Sz44 k J oM (.loadE J J J Y44.h J sP (hv) (G17 ?_));exact ⟨k + 1, by omega, by omega, Aq (wk1 rfl (wk1 (congrArg (fun z => some (i64 z)) (by rw [take_flat oM, List.length_append, (hsl k oM).1]; simp)) (wk1 rfl (wk1 rfl (wk1 rfl wk0))))) Al⟩
 have hk3 : k = n := by omega
 rw [hk3, List.take_of_length_le oM, hF];refine G9 ?_;refine .quo_i64 J J J J oM (.mul_i64 J J J J oM (G1 ?_));refine .mkRoom (z := u8 0) (by' := 1) ((F.length + 16) / 128 * 128 + 128) J J J J oM Y44.h Sz5 Zr5 (by unfold By; kernel_rfl) J oM oM ?_;intro q30;refine G12 ?_;refine .loop (ι := Nat × Sl × List Blk) (fun x => ⟨[(3, i64 (F.length : Int)), (6, x.2.1.v), (31, .slice p n c), (32, i64 (n : Int)), (33, i64 (x.1 : Int))], (x.2.2 ++ [])⟩) (fun x => x.1 ≤ n ∧ Acc x.2.1 x.2.2 (Aa (ls.take x.1).flatten) 5 (ls.take x.1).flatten.length 1) (fun x => n - x.1) ((0, ⟨some ⟨q30, 0, none⟩, 0, (F.length + 16) / 128 * 128 + 128⟩, [⟨q30, [], 5, ((F.length + 16) / 128 * 128 + 128) * 1⟩])) ?_ ?_ ?_
 · exact ⟨Nat.zero_le _, Acc.some (Nat.zero_le _) rfl⟩
 · exact Aq (wk1 rfl (wk1 rfl (wk1 rfl (wk1 rfl (wk1 rfl wk0))))) (pm_consE rM rfl (Nat.mul_one _).symm Al)
 rintro x ⟨hx, hax⟩;refine G6 ?_;refine .condP J (fun hc1 => ?_) (fun hc1 => ?_)
 ·
  have hx3 : x.1 < n := by omega
  obtain ⟨b, o, hbp, hbs⟩ := hW.1.at (by rw [List.length_map]; omega);have hv : W.cell? ⟨b, o + x.1 * 1, none⟩ = some (ss.getD x.1 Sl.nil).v := by rw [Nat.mul_one]; exact hbs x.1 _ (sl_get oM)
  have hstep := hle (x.1 + 1);rw [take_flat oM, List.length_append, ← (hsl x.1 oM).1] at hstep;refine G6 ?_;refine .idxSlP 1 J J J hbp J Y173.h Sz44 x.1 J oM (.loadE J J J Y44.h J sP (hv) (G6 ?_));refine .appendAcc (z := u8 0) (by' := 1) (Aa (ls.getD x.1 [])) J J J J J Y44.h Y44.h Sz5 Zr5 (by unfold By; kernel_rfl) J hax sG (fun w h => A2 h J (hW.2 x.1 oM)) (hsl x.1 oM).2 (Ax _) oM oM (by rw [Aa, List.length_map, Nat.mul_one]; exact (hsl x.1 oM).1.symm) ?_;intro s39 bl39 hac39;refine G9 ?_;refine ⟨(x.1 + 1, s39, bl39), ⟨by simp only []; omega, ?_⟩, by simp only []; omega, Aq (wk1 J (wk1 J (wk1 J (wk1 J (wk1 J wk0))))) (Ah sG Al)⟩;rw [take_flat oM, List.length_append, ← (hsl x.1 oM).1];simpa [Aa] using hac39
 have hx3 : x.1 = n := by omega
 rw [hx3, List.take_of_length_le oM, hF] at hax;refine G8 ?_;refine .mkRow (z := u8 0) [u8 (128)] (Aa [128]) J J J Y44.h Sz5 Zr5 J J (by intro v hv; rw [List.mem_singleton.1 hv]; rfl) dE J ?_;intro q42;refine .appendAcc (z := u8 0) (by' := 1) (Aa [128]) J J J J J Y44.h Y44.h Sz5 Zr5 (by unfold By; kernel_rfl) J hax sG (fun w h => SeesP.of (Ar h Z0)) (fun e => by cases e) (Ax _) oM oM (by rfl) ?_;intro s43 bl43 hac43;refine G5 ?_;refine .loop (ι := Nat × Sl × List Blk) (fun z => ⟨[(3, i64 (F.length : Int)), (6, z.2.1.v)], (z.2.2 ++ [])⟩) (fun z => z.1 ≤ padZ F.length ∧ Acc z.2.1 z.2.2 (Aa (F ++ [128] ++ List.replicate z.1 0)) 5 (F.length + 1 + z.1) 1) (fun z => padZ F.length - z.1) ((0, s43, bl43)) ?_ ?_ ?_
 · exact ⟨Nat.zero_le _, by simpa [Aa] using hac43⟩
 · exact Aq (wk1 rfl (wk1 rfl wk0)) (Ah sG Al)
 rintro z ⟨hz1, haz⟩;have hzn := haz.num;have hpz := padZ_at F.length z.1 hz1;refine G5 ?_;refine .rem_i64 J J J J oM (G3 ?_);refine .condNP J (fun hc2 => ?_) (fun hc2 => ?_)
 ·
  have hz3 : z.1 < padZ F.length := by omega
  refine G5 ?_;refine .mkRow (z := u8 0) [u8 (0)] (Aa [0]) J J J Y44.h Sz5 Zr5 J J (by intro v hv; rw [List.mem_singleton.1 hv]; rfl) dE J ?_;intro q49;refine .appendAcc (z := u8 0) (by' := 1) (Aa [0]) J J J J J Y44.h Y44.h Sz5 Zr5 (by unfold By; kernel_rfl) J haz sG (fun w h => SeesP.of (Ar h Z0)) (fun e => by cases e) (Ax _) oM oM (by rfl) ?_;intro s50 bl50 hac50;refine G4 ?_;refine ⟨(z.1 + 1, s50, bl50), ⟨by simp only []; omega, ?_⟩, by simp only []; omega, Aq (wk1 J (wk1 J wk0)) (Ah sG Al)⟩;rw [List.replicate_succ', ← List.append_assoc];simpa [Aa, Nat.add_assoc] using hac50
 have hz3 : z.1 = padZ F.length := by omega
 rw [hz3] at haz;refine G9 ?_;rw [word_nat (n := F.length) oM];refine .cV J J J J Body238 (bits_mul8 (UInt64.ofNat F.length) (by rw [ofNat_nat oM]; omega)) tV ?_;refine G12 ?_;refine .build (cs := [u64 0, u64 (UInt64.ofNat F.length * 8)]) J J J (fun w => by kernel_rfl) ?_;refine G4 ?_;refine .rounds 3 (SRounds.more (G6 ?_));refine .cond_t J (rfl) (G6 ?_);refine .idxA1 J J J J Tryz.underlying253 Sz23 Y23.h J 0 J oM J (G9 ?_);refine .loop (ι := Nat × Sl × List Blk) (fun y => ⟨[(3, i64 (F.length : Int)), (6, y.2.1.v), (12, u64 (0)), (13, i64 (56 - 8 * (y.1 : Int))), (59, agg [u64 0, u64 (UInt64.ofNat F.length * 8)]), (60, i64 0)], (y.2.2 ++ [])⟩) (fun y => y.1 ≤ 8 ∧ Acc y.2.1 y.2.2 (Aa (F ++ [128] ++ List.replicate (padZ F.length) 0 ++ beUp (0) y.1)) 5 ((F.length + 1 + padZ F.length) + y.1) 1) (fun y => 8 - y.1) ((0, z.2.1, z.2.2)) ?_ ?_ ?_
 · exact ⟨Nat.zero_le _, by simpa [beUp] using haz⟩
 · exact Aq (wk1 rfl (wk1 rfl (wk1 rfl (wk1 rfl (wk1 rfl (wk1 rfl wk0)))))) (Ah sG Al)
 rintro y ⟨hy, hay⟩;refine G7 ?_;refine .condP J (fun hc4 => ?_) (fun hc4 => ?_)
 ·
  have hy3 : y.1 ≤ 7 := by omega
  refine G8 ?_;refine .shr_u64 J J J J (56 - 8 * y.1) oM oM (G1 ?_);refine .mkRow (z := u8 0) [u8 ((Ap 0 (56 - 8 * y.1)).toUInt8)] (Aa [(Ap 0 (56 - 8 * y.1)).toUInt8]) J J J Y44.h Sz5 Zr5 J J (by intro v hv; rw [List.mem_singleton.1 hv]; rfl) dE J ?_;intro q72;refine .appendAcc (z := u8 0) (by' := 1) (Aa [(Ap 0 (56 - 8 * y.1)).toUInt8]) J J J J J Y44.h Y44.h Sz5 Zr5 (by unfold By; kernel_rfl) J hay sG (fun w h => SeesP.of (Ar h Z0)) (fun e => by cases e) (Ax _) oM oM (by rfl) ?_;intro s73 bl73 hac73;refine G10 ?_;refine ⟨(y.1 + 1, s73, bl73), ⟨by simp only []; omega, ?_⟩, by simp only []; omega, Aq (wk1 J (wk1 J (wk1 J (wk1 (congrArg (fun z => some (i64 z)) oM) (wk1 J (wk1 J wk0)))))) (Ah sG Al)⟩;rw [show beUp (0) (y.1 + 1) = beUp (0) y.1 ++ [(Ap (0) (56 - 8 * y.1)).toUInt8] from rfl, ← List.append_assoc, bytesV_app];exact hac73
 have hy3 : y.1 = 8 := by omega
 rw [hy3] at hay;refine G10 ?_;refine Co (SRounds.more (G6 ?_));refine .cond_t J (rfl) (G6 ?_);refine .idxA1 J J J J Tryz.underlying253 Sz23 Y23.h J 1 J oM J (G9 ?_);refine .loop (ι := Nat × Sl × List Blk) (fun y => ⟨[(3, i64 (F.length : Int)), (6, y.2.1.v), (12, u64 (UInt64.ofNat F.length * 8)), (13, i64 (56 - 8 * (y.1 : Int))), (59, agg [u64 0, u64 (UInt64.ofNat F.length * 8)]), (60, i64 (0 + 1))], (y.2.2 ++ [])⟩) (fun y => y.1 ≤ 8 ∧ Acc y.2.1 y.2.2 (Aa (F ++ [128] ++ List.replicate (padZ F.length) 0 ++ beUp 0 8 ++ beUp (UInt64.ofNat F.length * 8) y.1)) 5 ((F.length + 1 + padZ F.length + 8) + y.1) 1) (fun y => 8 - y.1) ((0, y.2.1, y.2.2)) ?_ ?_ ?_
 · exact ⟨Nat.zero_le _, by simpa [beUp] using hay⟩
 · exact Aq (wk1 rfl (wk1 rfl (wk1 rfl (wk1 rfl (wk1 rfl (wk1 rfl wk0)))))) (Ah sG Al)
 rintro y ⟨hy, hay⟩;refine G7 ?_;refine .condP J (fun hc4 => ?_) (fun hc4 => ?_)
 ·
  have hy3 : y.1 ≤ 7 := by omega
  refine G8 ?_;refine .shr_u64 J J J J (56 - 8 * y.1) oM oM (G1 ?_);refine .mkRow (z := u8 0) [u8 ((Ap (UInt64.ofNat F.length * 8) (56 - 8 * y.1)).toUInt8)] (Aa [(Ap (UInt64.ofNat F.length * 8) (56 - 8 * y.1)).toUInt8]) J J J Y44.h Sz5 Zr5 J J (by intro v hv; rw [List.mem_singleton.1 hv]; rfl) dE J ?_;intro q72;refine .appendAcc (z := u8 0) (by' := 1) (Aa [(Ap (UInt64.ofNat F.length * 8) (56 - 8 * y.1)).toUInt8]) J J J J J Y44.h Y44.h Sz5 Zr5 (by unfold By; kernel_rfl) J hay sG (fun w h => SeesP.of (Ar h Z0)) (fun e => by cases e) (Ax _) oM oM (by rfl) ?_;intro s73 bl73 hac73;refine G10 ?_;refine ⟨(y.1 + 1, s73, bl73), ⟨by simp only []; omega, ?_⟩, by simp only []; omega, Aq (wk1 J (wk1 J (wk1 J (wk1 (congrArg (fun z => some (i64 z)) oM) (wk1 J (wk1 J wk0)))))) (Ah sG Al)⟩;rw [show beUp (UInt64.ofNat F.length * 8) (y.1 + 1) = beUp (UInt64.ofNat F.length * 8) y.1 ++ [(Ap (UInt64.ofNat F.length * 8) (56 - 8 * y.1)).toUInt8] from rfl, ← List.append_assoc, bytesV_app];exact hac73
 have hy3 : y.1 = 8 := by omega
 rw [hy3] at hay;refine G10 ?_;refine Co (SRounds.more (G6 ?_));refine .cond_f J (rfl) (G11 ?_);refine G2 ?_;refine A0 (out := (y.2.2 ++ [])) (Ai J J) (Ah sG Al) ?_;refine ⟨y.2.1, rfl, ?_⟩;have e8 : UInt64.ofNat F.length * 8 = UInt64.ofNat (8 * F.length) := by
  apply UInt64.toNat_inj.1;rw [mul8_nat (by rw [ofNat_nat oM]; omega), ofNat_nat oM, ofNat_nat oM]; omega
 rw [e8] at hay;rw [padB_length, padB];simpa [Nat.add_assoc, Nat.add_comm, Nat.add_left_comm] using hay

theorem mk_chunk (p : Option Addr) (n c : Nat) : Meets Tryz.prog 195 [.slice p n c, i64 128] [] (fun _ => True) (fun v out => ∃ b1 b2, v = .func (.func 237) #[] #[ptr b1 0, ptr b2 0] ∧ out = [⟨b1, [.slice p n c], 44, 1⟩, ⟨b2, [i64 128], 3, 1⟩]) := by
 intro W hW;refine Ac Tryz.func195 J 9 Tryz.ntmps195 J (G2 ?_);refine .box1 J J J ?_;intro n2 hn2 hf2;refine .box1 J J J ?_;intro n3 hn3 hf3;refine G10 ?_;refine .cond_f J dE (G8 ?_);refine G2 ?_;refine A0 (out := (⟨n2, [.slice p n c], 44, 1⟩ :: (⟨n3, [i64 128], 3, 1⟩ :: []))) (Ai J J) (Ab rM (Ab rM Al)) ?_;exact ⟨n2, n3, rfl, by simp⟩

def encC (q i : Nat) : Value := .slice (some ⟨q, 128 * i, none⟩) 128 128
theorem encC_eq (q i : Nat) : (.slice (some ⟨q, if 128 * i + 128 = 128 * i then 0 else 0 + 128 * i * 1, none⟩) (128 * i + 128 - 128 * i) (128 * i + 128 - 128 * i) : Value) = encC q i := by
  have e1 : 128 * i + 128 - 128 * i = 128 := by omega
  have e2 : 0 + 128 * i * 1 = 128 * i := by omega
  rw [if_neg oM, e1, e2]; rfl

theorem chunk_iter (l b1 b2 q n c K : Nat) (X : Nat → List Blk) (names : List Nat) (hnk : n = 128 * K) (hnc : n ≤ c) (hbig : n ≤ 1000000) : Meets Tryz.prog 237 [.func (.yield l) #[] #[], ptr b1 0, ptr b2 0] names (fun W => HRep ⟨Tryz.prog, W, 0, names, [], []⟩ (⟨b1, [.slice (some ⟨q, 0, none⟩) n c], 44, 1⟩ :: ⟨b2, [i64 128], 3, 1⟩ :: X 0) W ∧ ∀ i, i < K → ∀ W2, HRep ⟨Tryz.prog, W, 0, names, [], []⟩ (⟨b1, [.slice (some ⟨q, 0, none⟩) n c], 44, 1⟩ :: ⟨b2, [i64 128], 3, 1⟩ :: X i) W2 → YieldAt Fence.wide 0 Tryz.prog l #[encC q i] W2 fun e W3 => e = .returned (.bool true) ∧ HRep ⟨Tryz.prog, W, 0, names, [], []⟩ (⟨b1, [.slice (some ⟨q, 0, none⟩) n c], 44, 1⟩ :: ⟨b2, [i64 128], 3, 1⟩ :: X (i + 1)) W3) (fun v out => v = .tuple #[] ∧ out = ⟨b1, [.slice (some ⟨q, 0, none⟩) n c], 44, 1⟩ :: ⟨b2, [i64 128], 3, 1⟩ :: X K) := by
 intro W hW;refine calls_of (hp0 := ⟨b1, [.slice (some ⟨q, 0, none⟩) n c], 44, 1⟩ :: ⟨b2, [i64 128], 3, 1⟩ :: X 0) Tryz.func237 J 31 Tryz.ntmps237 J (HRep.reN hW.1) (G6 ?_);refine .loop (ι := Nat) (fun i => ⟨[(0, .func (.yield l) #[] #[]), (1, ptr b1 0), (2, ptr b2 0), (4, i64 (128 * (i : Int)))], (⟨b1, [.slice (some ⟨q, 0, none⟩) n c], 44, 1⟩ :: (⟨b2, [i64 128], 3, 1⟩ :: (X i ++ [])))⟩) (fun i => i ≤ K) (fun i => K - i) (0) ?_ ?_ ?_
 · exact Nat.zero_le _
 · exact Aq (wk1 rfl (wk1 rfl (wk1 rfl (wk1 rfl wk0)))) (Ab rM (Ab rM (Ah (by repeat (exact sg_end)) Al)))
 rintro i hi;refine G9 ?_;refine .condP J (fun hc0 => ?_) (fun hc0 => ?_)
 ·
  have hi3 : i < K := by omega
  refine G5 ?_;refine .draw (oP [100,101,2,3,4,5,6]) Ao zK (G3 ?_);refine .sliceLoN (128*i) J J J J oM oM oM Y44.h Sz5 (G1 ?_);refine .min2 J J J J (show Value.int .i64 (if ((n - 128 * i : Nat) : Int) < (128 : Int) then ((n - 128 * i : Nat) : Int) else (128 : Int)) = i64 128 from by rw [if_neg oM]) ?_;refine G4 ?_;refine .regionY 10 J zK (G9 ?_);refine .slice3 (128*i) (128*i+128) (128*i+128) J J J J J J oM oM oM oM oM oM Y44.h Sz5 (.nil (yop J J (congrArg some (encC_eq q i)) (fun w h => hW.2 i hi3 w (by rw [List.append_nil] at h; exact h)) ?_));refine G3 ?_;refine .cond_f J (rfl) (G10 ?_);exact ⟨i + 1, by omega, by omega, Aq (wk1 rfl (wk1 rfl (wk1 rfl (wk1 (congrArg (fun z => some (i64 z)) oM) wk0)))) (Ab rM (Ab rM (Ah (by repeat (exact sg_end)) Al)))⟩
 have hi3 : i = K := by omega
 refine G5 ?_;refine A0 (out := (⟨b1, [.slice (some ⟨q, 0, none⟩) n c], 44, 1⟩ :: (⟨b2, [i64 128], 3, 1⟩ :: (X i ++ [])))) (res_none J) (Ab rM (Ab rM (Ah sG Al))) ?_;rw [hi3]; exact ⟨rfl, by simp⟩
theorem chunk_seq {l b1 b2 q n c K : Nat} {X : Nat → List Blk} {names : List Nat} (hnk : n = 128 * K) (hnc : n ≤ c) (hbig : n ≤ 1000000) (hnm : ∀ i, (⟨b1, [.slice (some ⟨q, 0, none⟩) n c], 44, 1⟩ :: ⟨b2, [i64 128], 3, 1⟩ :: X i).map (·.n) = names) (w1 : World) (hh : HRep ⟨Tryz.prog, w1, 0, names, [], []⟩ (⟨b1, [.slice (some ⟨q, 0, none⟩) n c], 44, 1⟩ :: ⟨b2, [i64 128], 3, 1⟩ :: X 0) w1)
    (hy : ∀ i, i < K → ∀ W2, HRep ⟨Tryz.prog, w1, 0, names, [], []⟩ (⟨b1, [.slice (some ⟨q, 0, none⟩) n c], 44, 1⟩ :: ⟨b2, [i64 128], 3, 1⟩ :: X i) W2 → YieldAt Fence.wide 0 Tryz.prog l #[encC q i] W2 fun e W3 => e = .returned (.bool true) ∧ HRep ⟨Tryz.prog, w1, 0, names, [], []⟩ (⟨b1, [.slice (some ⟨q, 0, none⟩) n c], 44, 1⟩ :: ⟨b2, [i64 128], 3, 1⟩ :: X (i + 1)) W3) :
    CallsIn Fence.wide 0 Tryz.prog 237 (#[.func (.yield l) #[] #[]] ++ #[ptr b1 0, ptr b2 0]) w1 fun e W' => (∃ v, e = .returned v) ∧ HRep ⟨Tryz.prog, w1, 0, names, [], []⟩ (⟨b1, [.slice (some ⟨q, 0, none⟩) n c], 44, 1⟩ :: ⟨b2, [i64 128], 3, 1⟩ :: X K) W' :=
  callsIn_wide.2 ((chunk_iter l b1 b2 q n c K X names hnk hnc hbig w1 ⟨hh, hy⟩).mono fun e W' ⟨v, out, he, ⟨_, ho⟩, hr⟩ => ⟨⟨v, he⟩, by subst ho; exact HRep.ofRet hr (hnm K)⟩)
theorem take_len {xs : List UInt8} {i K : Nat} (h : xs.length = 128 * K) (hi : i < K) : ((xs.drop (128 * i)).take 128).length = 128 := by simp; omega

theorem sha_whole (st : List UInt64) (hst : st.length = 8) (k : List UInt64) (hk : Hid (kW = k)) (hk80 : k.length = 80) (p : Option Addr) (n c : Nat) (ss : List Sl) (ls : List (List UInt8)) (hss : ss.length = n) (hls : ls.length = n) (hsl : ∀ j, j < n → (ss.getD j Sl.nil).n = (ls.getD j []).length ∧ ((ss.getD j Sl.nil).p = none → (ss.getD j Sl.nil).n = 0)) (F : List UInt8) (hF : ls.flatten = F) (htot : F.length ≤ 90000) (hn : n ≤ 1000000)  : Meets Tryz.prog 161 [agg (Ae st), .slice p n c] [] (fun W => SeesP W p (ss.map Sl.v) ∧ ∀ j, j < n → SeesP W (ss.getD j Sl.nil).p (Aa (ls.getD j []))) (fun v out => v = agg (Ae (allW k st F)) ∧ out = []) := by
  intro W hW;have hpl := padB_length F;have hpz := padZ_lt F.length;have hpm := padB_mod F;have hst2 : (runW k st (padB F) ((padB F).length / 128)).length = 8 := by rw [runW_length]; exact hst
  refine calls_range Tryz.func161 rfl 16 Tryz.ntmps161 rfl ?_;refine G2 ?_;intro n2 hn2 hf2;refine Tr.alloc (cs := (Ae (List.replicate 8 0))) rfl Zr175 rfl ?_;intro n4 hn4 hf4;refine G4 ?_;refine Tr.call4 rfl rfl rfl rfl rfl Body196 (sha_padded p n c ss ls hss hls hsl F hF htot hn) (fun w h => ⟨A2 h rfl hW.1, fun j hj => A2 h rfl (hW.2 j hj)⟩) ?_;rintro v7 out7 ⟨s7, rfl, hac7⟩;obtain ⟨q7, c7, rfl, hc7, rfl⟩ := acc_pos hac7 oM;refine Tr.call4 rfl rfl rfl rfl rfl Body195 (mk_chunk (some ⟨q7, 0, none⟩) (padB F).length c7) tV ?_;rintro v8 out8 ⟨b1, b2, rfl, rfl⟩;refine G2 ?_;refine ⟨_, _, fun i => ⟨b1, [.slice (some ⟨q7, 0, none⟩) (padB F).length c7], 44, 1⟩ :: ⟨b2, [i64 128], 3, 1⟩ :: [⟨q7, Aa (padB F), 5, c7 * 1⟩, ⟨n4, Ae (List.replicate 8 0), 175, (Ae (List.replicate 8 0)).length⟩, ⟨n2, Ae (runW k st (padB F) i), 175, (Ae st).length⟩], [b1, b2, q7, n4, n2], encC q7, ((padB F).length / 128), fun sl i => (5, encC q7 i) :: (9, encC q7 i) :: sl, rfl, rfl, Body237, dE, fun _ => rfl, ?_, ?_, ?_, ?_⟩
  ·
    intro l w1 hh hy;exact chunk_seq (X := fun i => [⟨q7, Aa (padB F), 5, c7 * 1⟩, ⟨n4, Ae (List.replicate 8 0), 175, (Ae (List.replicate 8 0)).length⟩, ⟨n2, Ae (runW k st (padB F) i), 175, (Ae st).length⟩]) hpm hc7 oM (fun _ => rfl) w1 hh hy
  ·
    intro i hi l W2 hh;refine SatI.region zK ?_;refine G2 ?_;exact ⟨rfl, rfl⟩
  ·
    intro i hi l W2 hh;obtain ⟨A, hA⟩ : ∃ A, Hid (schA ((padB F).drop (128 * i) |>.take 128) 128 = A) := ⟨_, ⟨rfl⟩⟩;obtain ⟨w, hwp⟩ : ∃ w, Hid (schB A 64 = w) := ⟨_, ⟨rfl⟩⟩;obtain ⟨R, hR⟩ : ∃ R, Hid (rnds k w (W8.of (runW k st (padB F) i)) 80 = R) := ⟨_, ⟨rfl⟩⟩;have hw : w.length = 80 := by rw [← hwp.out, schB_length, ← hA.out]; exact schA_length _ 128
    have e1 : addUp (runW k st (padB F) i) R.l 8 = runW k st (padB F) (i + 1) := by rw [runW, pieceW, schW, hA.out, hwp.out, hR.out]
    refine SatI.block ?_;refine SatI.draw (oP [100,1,2,103,304,405]) Ao zK zK ?_;refine Tr.lA rfl rfl rfl Y175.h rfl Sz175 Z4 (by rw [List.length_map, runW_length]; exact hst) ?_;refine G1 ?_;refine Tr.s2a rfl rfl rfl Tryz.underlying213 oM ?_;refine Tr.lN (Aa ((padB F).drop (128 * i) |>.take 128)) rfl rfl rfl Tryz.underlying213 rfl Sz213 Z2 (by rw [← List.map_drop, ← List.map_take]) (by rw [List.length_map]; exact take_len hpm hi) ?_;refine Tr.cV rfl rfl rfl rfl Body197 (sha_Piece (runW k st (padB F) i) (by rw [runW_length]; exact hst) ((padB F).drop (128 * i) |>.take 128) (take_len hpm hi) A w k R hA hwp hw hk hk80 hR) tV ?_;refine Tr.sA rfl rfl rfl rfl zB Sz175 (by (rw [List.length_map, Bu, runW_length]; exact hst)) Z4 (by (rw [List.length_map, runW_length]; exact hst)) (by exact upd4) ?_;refine Tr.nil ?_;rw [e1]; rfl
  intro D W2;refine G2 ?_;refine Tr.lA rfl rfl rfl Y175.h rfl Sz175 Z4 (by (simp [hst2]; done)) ?_;refine Tr.sA rfl rfl rfl rfl zB Sz175 (by (simp [hst2]; done)) Z3 sP (by exact upd3) ?_;refine G2 ?_;refine Sat.ret ?_;refine enA_r ?_;refine ⟨_, [], fun W names => An rfl rfl Y175.h rfl Sz175 Z3 (by simp [hst2]), sP, sP, ?_⟩;exact ⟨rfl, rfl⟩
theorem startW_length : startW.length = 8 := rfl
def xorUp : Nat → List UInt64
  | 0 => startW
  | i + 1 => (xorUp i).set i ((xorUp i).getD i 0 ^^^ 11936128518282651045)
theorem xorUp_length : ∀ i, (xorUp i).length = 8
  | 0 => rfl
  | i + 1 => by rw [xorUp, List.length_set, xorUp_length i]
def shaTag : List UInt8 := [83, 72, 65, 45, 53, 49, 50, 47, 50, 53, 54]
def shaI : List UInt64 := allW kW (xorUp 8) shaTag
theorem shaI_length : shaI.length = 8 := by rw [shaI, allW_length, xorUp_length]
def sha256 (l : List UInt8) : List UInt8 := (sumUp (allW kW shaI l) 64).take 32
theorem sha256_length (l : List UInt8) : (sha256 l).length = 32 := by rw [sha256, List.length_take, B5]; rfl

theorem sha_StartShort (k s0 i0 : List UInt64) (G : List UInt8) (hk : Hid (kW = k)) (hk80 : k.length = 80) (hs0 : Hid (xorUp 8 = s0)) (hs8 : s0.length = 8) (hG : Hid (shaTag = G)) (hGl : G.length = 11) (hi0 : Hid (allW k s0 G = i0)) (hi8 : i0.length = 8)  : Meets Tryz.prog 162 [] [] (fun _ => True) (fun v out => v = agg (Ae i0) ∧ out = []) := by
 intro W hW;refine Ac Tryz.func162 J 18 Tryz.ntmps162 J (G2 ?_);refine .alloc (cs := (Ae (List.replicate 8 0))) J Zr175 J ?_;intro n0 hn0 hf0;refine G4 ?_;refine .cV J J J J Body198 (sha_Start) tV (.alloc (cs := (Ae (List.replicate 8 0))) J Zr175 J ?_);intro n1 hn1 hf1;refine .sA J J J J zB Sz175 (by (simp [startW_length]; done)) Z0 sP zU ?_;refine G9 ?_;refine .loop (ι := Nat) (fun j => ⟨[(0, ptr n0 0), (1, ptr n1 0), (4, i64 (j : Int))], [⟨n1, Ae (xorUp j), 175, 8⟩, ⟨n0, Ae (List.replicate 8 0), 175, 8⟩]⟩) (fun j => j ≤ 8) (fun j => 8 - j) (0) ?_ ?_ ?_
 · omega
 · exact Aq (wk1 rfl (wk1 rfl (wk1 rfl wk0))) (Ab rM (Ab rM Al))
 rintro j hi;have hlj := xorUp_length j;refine G6 ?_;refine .condP J (fun hc0 => ?_) (fun hc0 => ?_)
 ·
  refine G12 ?_;refine .i1 J J J J Y175.h Sz23 _ J oM (G1 ?_);refine .xor_u64 J J J (show Af _ _ = some (u64 11936128518282651045) from rfl) (.i1 J J J J Y175.h Sz23 _ J oM (.s1 J J J J J Sz23 Z0 (by (simp [xorUp_length]; omega)) (by exact A8 _ _ _) zU ?_));refine G8 ?_;exact ⟨j + 1, by omega, by omega, Aq (wk1 rfl (wk1 rfl (wk1 rfl wk0))) (Ab rM (Ab rM Al))⟩
 obtain rfl : j = 8 := by omega
 rw [hs0.out];clear hlj;refine G7 ?_;refine .lA J J J Y175.h J Sz175 Z0 (by (simp [hs8]; done)) ?_;refine .mkRow (z := u8 0) [u8 83, u8 72, u8 65, u8 45, u8 53, u8 49, u8 50, u8 47, u8 50, u8 53, u8 54] (Aa shaTag) J J J Y44.h Sz5 Zr5 J J (by intro v hv; simp only [List.mem_cons, List.not_mem_nil, or_false] at hv; rcases hv with rfl | rfl | rfl | rfl | rfl | rfl | rfl | rfl | rfl | rfl | rfl <;> rfl) dE J ?_;intro q14;rw [hG.out];refine .constB J J J J Y44.h Y5.h Z0 ?_;refine .mkRow (z := .slice none 0 0) [.slice (some ⟨q14, 0, none⟩) 11 11] [.slice (some ⟨q14, 0, none⟩) 11 11] rfl J J Y173.h Sz44 Zr44 J J (by intro v hv; rw [List.mem_singleton.1 hv]; rfl) dE J ?_;intro q16;refine .cV J J J J Body161 (sha_whole s0 hs8 k hk hk80 (some ⟨q16, 0, none⟩) 1 1 [⟨some ⟨q14, 0, none⟩, 11, 11⟩] [G] rfl J (fun j hj => (by obtain rfl : j = 0 := oM; exact ⟨by simp [hGl], fun e => by cases e⟩)) G sP oM dE) (fun w h => ⟨SeesP.of (Ar h Z0), fun j hj => (by obtain rfl : j = 0 := oM; exact SeesP.of (Ar h Z1))⟩) ?_;rw [hi0.out];refine .sA J J J J zB Sz175 (by (simp [hi8]; done)) Z3 sP (by exact upd3) ?_;refine G2 ?_;refine G2 ?_;refine ⟨_, [], An J J Y175.h J Sz175 Z3 (by simp [hi8]), sP, sP, ?_, rfl⟩;rfl
theorem sha_Sum (k s0 i0 : List UInt64) (G : List UInt8) (hk : Hid (kW = k)) (hk80 : k.length = 80) (hs0 : Hid (xorUp 8 = s0)) (hs8 : s0.length = 8) (hG : Hid (shaTag = G)) (hGl : G.length = 11) (hi0 : Hid (allW k s0 G = i0)) (hi8 : i0.length = 8) (p : Option Addr) (n c : Nat) (ss : List Sl) (ls : List (List UInt8)) (hss : ss.length = n) (hls : ls.length = n) (hsl : ∀ j, j < n → (ss.getD j Sl.nil).n = (ls.getD j []).length ∧ ((ss.getD j Sl.nil).p = none → (ss.getD j Sl.nil).n = 0)) (F : List UInt8) (hF : ls.flatten = F) (htot : F.length ≤ 90000) (hn : n ≤ 1000000) (r : List UInt64) (hr : Hid (allW k i0 F = r)) (s : List UInt8) (hs : Hid (sumUp r 64 = s))  : Meets Tryz.prog 89 [.slice p n c] [] (fun W => SeesP W p (ss.map Sl.v) ∧ ∀ j, j < n → SeesP W (ss.getD j Sl.nil).p (Aa (ls.getD j []))) (fun v out => v = agg (Aa (s.take 32)) ∧ out = []) := by
 intro W hW;have hr8 : r.length = 8 := by rw [← hr.out, allW_length]; exact hi8
 have hs64 : s.length = 64 := by rw [← hs.out]; exact B5 r 64
 have hs32 : (s.take 32).length = 32 := by rw [List.length_take, hs64]; rfl
 refine Ac Tryz.func89 J 11 Tryz.ntmps89 J (G2 ?_);refine .alloc (cs := (Aa (List.replicate 32 0))) J Cr J ?_;intro n2 hn2 hf2;refine G4 ?_;refine .cV J J J J Body162 (sha_StartShort k s0 i0 G hk hk80 hs0 hs8 hG hGl hi0 hi8) tV (G1 ?_);refine .cV J J J J Body161 (sha_whole i0 hi8 k hk hk80 p n c ss ls hss hls hsl F hF htot hn) (fun w h => ⟨A2 h J hW.1, fun j hj => A2 h J (hW.2 j hj)⟩) ?_;rw [hr.out];refine .cV J J J J Body160 (sha_sum r hr8 s hs) tV (.alloc (cs := (Aa (List.replicate 64 0))) J Zr45 J ?_);intro n3 hn3 hf3;refine .sA J J J J zE Sz45 (by (simp [hs64]; done)) Z0 sP zU ?_;refine G4 ?_;refine .sliceArrHi 32 J J J J J dE dE Y45.h Sz5 (.s2a J J J Y25.h oM (.lN (Aa (s.take 32)) J J J Y25.h J Sz25 Z0 (by rw [List.drop_zero, ← List.map_take]) (by rw [List.length_map]; exact hs32) ?_));refine .sA J J J J zE Sz25 (by (simp [hs64]; done)) Z1 sP zV ?_;refine G2 ?_;refine G2 ?_;refine ⟨_, [], An J J Y25.h J Sz25 Z1 (by simp [hs64]), sP, sP, ?_, rfl⟩;rfl


theorem DB.head_small {D : DB} (h : D.check = 0) : D.ls.length ≤ 16 ∧ D.ds.length ≤ 512 := by
  unfold DB.check at h;by_cases h1 : D.head = true
  · rw [if_pos h1] at h; cases h
  · unfold DB.head at h1
    simp at h1;omega
theorem DB.bytes_small {D : DB} (h : D.check = 0) (hd : D.ok) : D.bytes.length ≤ 5000 := by
  have hs := D.head_small h;have hz1 := Bz D.seq.toNat;have hz2 := Bz (UInt64.ofNat D.ls.length).toNat;have hz3 := Bz (UInt64.ofNat D.ds.length).toNat;have hfl := B1 hd.ls (Nat.le_refl D.ls.length);rw [List.take_length] at hfl;simp only [DB.bytes, DB.body, List.length_append, Bf, hd.w, hd.prev, hd.sg, hfl];omega
def bytesR (D : DB) : List UInt8 := if D.check = 0 then D.bytes else []
theorem db_check (B : Block) (D : DB) : Meets Tryz.prog 171 [agg B.cells] [] (fun W => BlockIs W B D) (fun v out => v = i64 D.check ∧ out = []) :=
  fun W hW => by rw [← hW.check]; exact block_check B hW.ok D.ls W hW.ls
theorem db_bytes (B : Block) (D : DB) : Meets Tryz.prog 174 [agg B.cells] [] (fun W => BlockIs W B D) (fun v out => ∃ s, v = .tuple #[s.v, i64 D.check] ∧ Acc s out (Aa (bytesR D)) 5 (bytesR D).length 1) := fun W hW => by
  unfold bytesR;by_cases h : D.check = 0
  · rw [if_pos h]
    refine (bytes_ok B hW.ok D.ls D.ds (by rw [hW.check]; exact h) W ⟨hW.ls, hW.ds⟩).mono fun e W' ⟨v, out, h1, ⟨q, c, N, h2, h3, h4, h5, h6⟩, h7⟩ => ⟨v, out, h1, ⟨⟨some ⟨q, 0, none⟩, N, c⟩, ?_, ?_⟩, h7⟩
    · rw [h]; exact h4
    · rw [h6]
      rw [hW.bytes] at h2 ⊢;rw [← h2];exact Acc.some h5 (by rw [Aa, List.length_map, ← h2]; omega)
  · rw [if_neg h]
    refine (bytes_bad B hW.ok D.ls D.ds (by rw [hW.check]; exact h) W ⟨hW.ls, hW.ds⟩).mono fun e W' ⟨v, out, h1, ⟨h2, h3⟩, h7⟩ => ⟨v, out, h1, ⟨Sl.nil, ?_, ?_⟩, h7⟩
    · rw [h2, hW.check]; rfl
    · rw [h3]; exact Acc.none
def Bh (D : DB) : List UInt8 := if D.check = 0 then sha256 D.bytes else List.replicate 32 0
theorem nameD_length (D : DB) : (Bh D).length = 32 := by
  unfold Bh;split
  · exact sha256_length _
  · rfl
theorem BlockIs.ext {C : Cx} {hp : List Blk} {w : World} {B : Block} {D : DB} (hh : HRep C hp w) (hl : C.lent = []) (h : BlockIs C.W0 B D) : BlockIs w B D :=
  ⟨h.ok, h.w, h.seq, h.prev, rows_ext hh hl h.ls, bytes_ext hh hl h.ds, h.sg⟩

theorem db_name (B : Block) (D : DB) : Meets Tryz.prog 108 [agg B.cells] [] (fun W => BlockIs W B D) (fun v out => v = agg (Aa (Bh D)) ∧ out = []) := by
 intro W hW;have hok := hW.ok;obtain ⟨k, hk⟩ : ∃ k, Hid (kW = k) := ⟨_, ⟨rfl⟩⟩;obtain ⟨s0, hs0⟩ : ∃ s0, Hid (xorUp 8 = s0) := ⟨_, ⟨rfl⟩⟩;obtain ⟨G, hG⟩ : ∃ G, Hid (shaTag = G) := ⟨_, ⟨rfl⟩⟩;obtain ⟨i0, hi0⟩ : ∃ i0, Hid (allW k s0 G = i0) := ⟨_, ⟨rfl⟩⟩;have hk80 : k.length = 80 := by rw [← hk.out]; rfl
 have hs8 : s0.length = 8 := by rw [← hs0.out]; exact xorUp_length 8
 have hGl : G.length = 11 := by rw [← hG.out]; rfl
 have hi8 : i0.length = 8 := by rw [← hi0.out, allW_length]; exact hs8
 obtain ⟨r, hr⟩ : ∃ r, Hid (allW k i0 (D.bytes) = r) := ⟨_, ⟨rfl⟩⟩;obtain ⟨s, hs⟩ : ∃ s, Hid (sumUp r 64 = s) := ⟨_, ⟨rfl⟩⟩;have hsd : Hid (s.take 32 = sha256 (D.bytes)) := ⟨by rw [← hs.out, ← hr.out, ← hi0.out, ← hG.out, ← hs0.out, ← hk.out]; rfl⟩;have hs64 : s.length = 64 := by rw [← hs.out]; exact B5 r 64
 have hs32 : (s.take 32).length = 32 := by rw [List.length_take, hs64]; rfl
 refine Ac Tryz.func108 J 16 Tryz.ntmps108 J (G3 ?_);intro n1 hn1 hf1;refine .alloc (cs := (Aa (List.replicate 32 0))) J Cr J ?_;intro n2 hn2 hf2;refine G5 ?_;refine .call4 J J J J J Body174 (db_bytes B D) (fun w h => hW.ext h J) ?_;rintro v7 out7 ⟨s7, rfl, hac7⟩;refine G11 ?_;refine two (fun r hr k => Tr.nei J J J J hr k) (fun hs2_10 => ?_) (fun hs2_10 => ?_)
 ·
  have hs2_1 := nd_t hs2_10;skip;refine G2 ?_;refine .cond_t J J (G2 ?_);refine .build (cs := Aa (List.replicate 32 0)) J J J (fun w => by kernel_rfl) ?_;refine .sA J J J J zE Sz25 sP mR sP (by (repeat (first | exact upd0 | apply Upd.seg))) ?_;refine G2 ?_;refine G3 ?_;refine ⟨_, [], An J J Y25.h J Sz25 mR sP, sP, sP, ?_, rfl⟩
  (rw [Bh, if_neg hs2_1]; done)
 have hs2_1 := nd_f hs2_10;have h0 : D.check = 0 := by omega
 have hb7 : bytesR D = D.bytes := if_pos h0;refine G2 ?_;refine .cond_f J J (G5 ?_);refine .mkRow (z := .slice none 0 0) [s7.v] [s7.v] rfl J J Y173.h Sz44 Zr44 J J (by intro v hv; rw [List.mem_singleton.1 hv]; rfl) dE J ?_;intro q14;refine .cV J J J J Body89 (sha_Sum k s0 i0 G hk hk80 hs0 hs8 hG hGl hi0 hi8 (some ⟨q14, 0, none⟩) 1 1 [s7] [D.bytes] rfl J (fun j hj => (by obtain rfl : j = 0 := oM; exact ⟨by simp [hac7.num, hb7], fun e => hac7.nil e⟩)) D.bytes sP (by have := D.bytes_small h0 hW.dok; omega) dE r hr s hs) (fun w h => ⟨SeesP.of (Ar h Z0), fun j hj => (by obtain rfl : j = 0 := oM; exact (by have := hac7.see (Lies.of h (by repeat (first | exact Bg | refine Bm ?_))); rw [hb7] at this; exact this))⟩) ?_;refine .sA J J J J zE Sz25 (by (simp [hs64]; done)) mR sP uU ?_;refine G2 ?_;refine G2 ?_;refine ⟨_, [], An J J Y25.h J Sz25 mR (by simp [hs64]), sP, sP, ?_, rfl⟩
 (rw [Bh, if_pos h0, hsd.out]; done)
set_option maxRecDepth 100000
section
variable {H : Type} {enc : TypeId × Value → H} {P : Program} {W : World} {base : Nat} {sp : Nat → Bool} {held : Bool}
end
section
variable {H : Type} {enc : TypeId × Value → H} {W : World} {base : Nat} {sp : Nat → Bool} {held : Bool}
end
section
variable {H : Type} {enc : TypeId × Value → H} {W : World} {base : Nat} {sp : Nat → Bool} {held : Bool}
end
def BlocksAt (W : World) (s : Sl) (ds : List DB) : Prop := ∃ rs, SeqIs Block.cells 131 BlockIs W s rs ds
section
variable {H : Type} {enc : TypeId × Value → H} {W : World} {base : Nat} {sp : Nat → Bool} {held : Bool}
end
structure DCut where
  dHeight : UInt64
  dPrev : List UInt8
  dHeads : List (List UInt8)
structure CutIs (W : World) (x : Cut) (d : DCut) : Prop where
  ok : x.ok
  fHeight : x.fHeight = d.dHeight
  fPrev : x.fPrev = d.dPrev
  fHeads : RowsAt W x.fHeads 32 d.dHeads
theorem CutIs.ext {C : Cx} {hp : List Blk} {w : World} {x : Cut} {d : DCut} (h : CutIs C.W0 x d) (hh : HRep C hp w) (hl : C.lent = []) : CutIs w x d := ⟨h.ok, h.fHeight, h.fPrev, rows_ext hh hl h.fHeads⟩
section
variable {H : Type} {enc : TypeId × Value → H} {W : World} {base : Nat} {sp : Nat → Bool} {held : Bool}
theorem Cut.openD {fuel : Nat} {cs : List Value} {y : DataW H × List MemPlace} (h : DataW.trod enc Tryz.prog W base sp held fuel 28 cs = some y) : ∃ (x : Cut) (d : DCut), cs = x.cells ∧ CutIs W x d := by
  obtain ⟨xs, n, _, _, h4, h5, h6⟩ := DataW.trod_struct Y28.h h;rw [show Tryz.prog.cellsOf 28 = 34 by kernel_rfl] at h4;have c0 : Tryz.prog.cellsOf 23 = 1 := by kernel_rfl
  have c1 : Tryz.prog.cellsOf 25 = 32 := by kernel_rfl
  have c2 : Tryz.prog.cellsOf 26 = 1 := by kernel_rfl
  have g0 : DataW.trod enc Tryz.prog W base sp held n 23 ((cs.drop 0).take (Tryz.prog.cellsOf 23)) = some (xs[0]'(by rw [h5]; decide)) := by rw [← List.getElem?_eq_getElem]; exact h6 0 _ rfl
  rw [c0] at g0;obtain ⟨a0, e0, _, w0⟩ := DataW.trod_int Y23.h g0;obtain ⟨v0, rfl⟩ := Hw.u64_back w0;have g1 : DataW.trod enc Tryz.prog W base sp held n 25 ((cs.drop 1).take (Tryz.prog.cellsOf 25)) = some (xs[1]'(by rw [h5]; decide)) := by rw [← List.getElem?_eq_getElem]; exact h6 1 _ rfl
  rw [c1] at g1;obtain ⟨v1, e1, l1⟩ := Hw.open_bytesT Y25.h Y5.h zK zK g1;have g2 : DataW.trod enc Tryz.prog W base sp held n 26 ((cs.drop 33).take (Tryz.prog.cellsOf 26)) = some (xs[2]'(by rw [h5]; decide)) := by rw [← List.getElem?_eq_getElem]; exact h6 2 _ rfl
  rw [c2] at g2;obtain ⟨v2, b2, e2, q2⟩ := Hw.open_rowsS Y26.h Y25.h Y5.h zK zK dE g2;refine ⟨⟨v0, v1, v2⟩, ⟨v0, v1, b2⟩, ?_, ⟨⟨l1⟩, rfl, rfl, q2⟩⟩;rw [← List.drop_zero (l := cs)];exact (Hw.cat 1 e0 rfl (Hw.cat 33 e1 rfl (Hw.cat_last e2 h4)))
end
section
variable {H : Type} {enc : TypeId × Value → H} {W : World} {base : Nat} {sp : Nat → Bool} {held : Bool}
theorem Cut.openW {r : Reach} {b0 : Nat} {v : Value} {d : DataW H} {ps : List MemPlace} (hval : Value.okWide Tryz.prog W r b0 28 v) (hd : DataW.Trod enc Tryz.prog W base sp held 28 v d ps) : ∃ (x : Cut) (D : DCut), v = agg x.cells ∧ CutIs W x D := by
  simp only [Value.okWide, Y28.h] at hval;obtain ⟨cs, rfl, _⟩ := hval;obtain ⟨fuel, hf⟩ := hd;obtain ⟨x, D, h2, h3⟩ := Cut.openD hf;refine ⟨x, D, ?_, h3⟩;simp only [Value.cells] at h2;rw [agg, ← h2]
end
def CutsAt (W : World) (s : Sl) (ds : List DCut) : Prop := ∃ rs, SeqIs Cut.cells 34 CutIs W s rs ds
theorem Cuts_ext {C : Cx} {hp : List Blk} {w : World} {s : Sl} {ds : List DCut} (hh : HRep C hp w) (hl : C.lent = []) (h : CutsAt C.W0 s ds) : CutsAt w s ds := by
  obtain ⟨rs, h⟩ := h;exact ⟨rs, h.ext hh hl fun r d hd => hd.ext hh hl⟩
section
variable {H : Type} {enc : TypeId × Value → H} {W : World} {base : Nat} {sp : Nat → Bool} {held : Bool}
theorem Cut.openS {t : TypeId} (hu : Tryz.prog.underlying t = some (.slice 28)) (hc : Tryz.prog.cellsOf 28 = 34) {fuel : Nat} {cs : List Value} {y : DataW H × List MemPlace} (h : DataW.trod enc Tryz.prog W base sp held fuel t cs = some y) : ∃ s ds, cs = [Sl.v s] ∧ CutsAt W s ds := by
  obtain ⟨s, rs, ds, e, hs⟩ := open_seqS (cells := Cut.cells) (Is := CutIs) hu hc dE (fun ht => by
    obtain ⟨r, d, e, hi⟩ := Cut.openD ht;exact ⟨r, d, e, hi, Cut.length hi.ok⟩) h
  exact ⟨s, ds, e, rs, hs⟩
end
end Go.Proofs.YtdilealohibfoaaGreat
end

section
namespace Go.Proofs.YtdilealohibfoaaGreat
open Go Hw

def lastH (ls : List (List UInt8)) (k : Nat) : List UInt8 := if k = 0 then List.replicate 32 0 else ls.getD (k - 1) []
theorem lastH_succ (ls : List (List UInt8)) (k : Nat) : lastH ls (k + 1) = ls.getD k [] := by simp [lastH]
def headBad (ls : List (List UInt8)) (k : Nat) : Bool := decide ((0 : Int) ≤ Cm (lastH ls k) (ls.getD k []))
def headsBad (ls : List (List UInt8)) : Bool := (List.range ls.length).any (headBad ls)
theorem headsBad_at {ls : List (List UInt8)} {k : Nat} (hk : k < ls.length) (h : headBad ls k = true) : headsBad ls = true := by
  rw [headsBad, List.any_eq_true]; exact ⟨k, List.mem_range.2 hk, h⟩
theorem headsBad_not {ls : List (List UInt8)} (h : ∀ j, j < ls.length → headBad ls j = false) : headsBad ls = false := by
  rw [headsBad, List.any_eq_false]; intro x hx; rw [h x (List.mem_range.1 hx)]; simp
def cheadB (h : UInt64) (prev : List UInt8) (n : Nat) : Bool := decide ((h.toNat : Int) < 1) || (decide ((4294967295 : Int) < (h.toNat : Int)) || (!decide (decide (prev = List.replicate 32 0) = decide ((h.toNat : Int) = 1)) || (decide ((n : Int) < 1) || decide ((32 : Int) < (n : Int)))))
def DCut.check (D : DCut) : Int := if cheadB D.dHeight D.dPrev D.dHeads.length = true then 2 else if headsBad D.dHeads = true then 2 else 0
theorem cut_bad1 {D : DCut} (h : cheadB D.dHeight D.dPrev D.dHeads.length = true) : D.check = 2 := if_pos h
theorem cut_bad2 {D : DCut} (h : ¬ cheadB D.dHeight D.dPrev D.dHeads.length = true) (hb : headsBad D.dHeads = true) : D.check = 2 := by unfold DCut.check; rw [if_neg h, if_pos hb]
theorem cut_good {D : DCut} (h : ¬ cheadB D.dHeight D.dPrev D.dHeads.length = true) (hb : headsBad D.dHeads = false) : D.check = 0 := by unfold DCut.check; rw [if_neg h, if_neg (by rw [hb]; simp)]

theorem cut_check (C : Cut) (D : DCut) : Meets Tryz.prog 26 [agg C.cells] [] (fun W => CutIs W C D) (fun v out => v = i64 D.check ∧ out = []) := by
 intro W hW;have hB := hW.ok;have hcx : C.fHeads.n ≤ maxLen := hW.fHeads.max;simp only [maxLen] at hcx;have hcn := hW.fHeads.cap;have hll := hW.fHeads.len;have eH := hW.fHeight;have eP := hW.fPrev;have hlst : True := trivial;refine Ac Tryz.func26 J 52 Tryz.ntmps26 J (G3 ?_);intro n1 hn1 hf1;refine G5 ?_;refine .build (cs := Aa (List.replicate 32 0)) J J J (fun w => by kernel_rfl) ?_;refine .alloc (cs := (Aa (List.replicate 32 0))) J Cr J ?_;intro n3 hn3 hf3;refine .sA J J J J zE Sz25 sP Z0 sP zU ?_;refine G4 ?_;refine .draw (oP [0,101,2,3,4,105,6,7,8,9,110,111,12,13,114,15,16,17,18,19,120,21,22,23,24,25,126,27,28,29]) Ao zK (G2 ?_);refine two (fun r hr k => Tr.lss J J J J hr k) (fun hs2_20 => ?_) (fun hs2_20 => ?_)
 ·
  have hs2_2 := of_decide_eq_true hs2_20;refine G29 ?_;refine .cond_t J J (G5 ?_);refine G3 ?_;refine ⟨_, [], Ai J J, sP, sP, ?_, rfl⟩;exact congrArg i64 (cut_bad1 (by unfold cheadB; simp_all)).symm
 have hs2_2 := of_decide_eq_false hs2_20;refine G3 ?_;refine two (fun r hr k => Tr.gtr J J J J hr k) (fun hs2_60 => ?_) (fun hs2_60 => ?_)
 ·
  have hs2_6 := of_decide_eq_true hs2_60;refine G25 ?_;refine .cond_t J J (G5 ?_);refine G3 ?_;refine ⟨_, [], Ai J J, sP, sP, ?_, rfl⟩;exact congrArg i64 (cut_bad1 (by unfold cheadB; simp_all)).symm
 have hs2_6 := of_decide_eq_false hs2_60;refine G3 ?_;refine .lN (Aa _) J J J Y25.h J Sz25 Z1 (Cut.row_fPrev zA) (Cut.rl_fPrev zA) ?_;refine .lA J J J Y25.h J Sz25 Z0 sP ?_;refine .eql_bytes J J J J Tryz.eqGuardType25 Y25.h Y5.h Sz5 (by (simp [hB.l_fPrev]; done)) sP J ?_;refine G3 ?_;refine two (fun r hr k => Tr.neb J J J J Tryz.underlying4 hr k) (fun hs2_160 => ?_) (fun hs2_160 => ?_)
 ·
  have hs2_16 := nd_t hs2_160;refine G15 ?_;refine .cond_t J J (G5 ?_);refine G3 ?_;refine ⟨_, [], Ai J J, sP, sP, ?_, rfl⟩;exact congrArg i64 (cut_bad1 (by unfold cheadB; simp_all)).symm
 have hs2_16 := nd_f hs2_160;refine G5 ?_;refine two (fun r hr k => Tr.lss J J J J hr k) (fun hs2_220 => ?_) (fun hs2_220 => ?_)
 ·
  have hs2_22 := of_decide_eq_true hs2_220;refine G9 ?_;refine .cond_t J J (G5 ?_);refine G3 ?_;refine ⟨_, [], Ai J J, sP, sP, ?_, rfl⟩;exact congrArg i64 (cut_bad1 (by unfold cheadB; simp_all)).symm
 have hs2_22 := of_decide_eq_false hs2_220;refine G9 ?_;refine .condP J (fun hc0 => ?_) (fun hc0 => ?_)
 ·
  refine G5 ?_;refine G3 ?_;refine ⟨_, [], Ai J J, sP, sP, ?_, rfl⟩;exact congrArg i64 (cut_bad1 (by unfold cheadB; simp_all)).symm
 have hnb : ¬ cheadB D.dHeight D.dPrev D.dHeads.length = true := by unfold cheadB; simp_all
 refine G4 ?_;refine .lA J J J Y25.h J Sz25 Z0 sP ?_;refine .alloc (cs := (Aa (List.replicate 32 0))) J Cr J ?_;intro n4 hn4 hf4;refine .sA J J J J zE Sz25 sP Z0 sP zU ?_;refine G12 ?_;refine .loop (ι := Nat × List UInt8) (fun p => ⟨[(1, ptr n1 0), (4, ptr n4 0), (40, C.fHeads.v), (41, i64 (C.fHeads.n : Int)), (42, i64 (p.1 : Int))], [⟨n4, Aa p.2, 25, 32⟩, ⟨n1, C.cells, 28, C.cells.length⟩]⟩) (fun p => p.1 ≤ C.fHeads.n ∧ (∀ j, j < p.1 → headBad D.dHeads j = false) ∧ p.2 = lastH D.dHeads p.1 ∧ p.2.length = 32) (fun p => C.fHeads.n - p.1) ((0, List.replicate 32 0)) ?_ ?_ ?_
 · exact ⟨Nat.zero_le _, fun j hj => absurd hj (Nat.not_lt_zero _), rfl, by simp⟩
 · exact Ad (wk1 rfl (wk1 rfl (wk1 rfl (wk1 rfl (wk1 rfl wk0))))) (wh1 Z0 (wh1 Z2 wh0)) nD
 rintro p ⟨hk, hg, hle, hlst⟩;refine G6 ?_;refine .condP J (fun hc1 => ?_) (fun hc1 => ?_)
 ·
  have hk2 : p.1 < C.fHeads.n := by omega
  obtain ⟨b, o, hbp, hbs⟩ := hW.fHeads.see.at (by rw [Az hW.fHeads.row]; omega);have hr0 : (D.dHeads.getD p.1 []).length = 32 := Bs hW.fHeads.row oM;refine G6 ?_;refine .idxSlP 32 J J J hbp J Y26.h Sz25 p.1 J oM (.loadEN (Aa (D.dHeads.getD (p.1) [])) J J J Y25.h J Sz25 sP (by rw [Aa, List.length_map]; exact Bs hW.fHeads.row (by rw [hW.fHeads.len]; omega)) (Cc hW.fHeads.row hbs (by rw [hW.fHeads.len]; omega)) ?_);refine .alloc (cs := (Aa (List.replicate 32 0))) J Cr J ?_;intro n6 hn6 hf6;refine .sA J J J J zE Sz25 (by (rw [Aa, List.length_map]; assumption)) Z0 sP zU ?_;refine G5 ?_;refine .lA J J J Y25.h J Sz25 Z1 (by (simp [hlst]; done)) ?_;refine .lA J J J Y25.h J Sz25 Z0 (by (rw [Aa, List.length_map]; assumption)) ?_;refine .cV J J J J Body83 (block_cmp _ _ hlst hr0) tV (G3 ?_);refine .condP J (fun hc2 => ?_) (fun hc2 => ?_)
  ·
   refine G5 ?_;refine G8 ?_;refine ⟨_, [], Ai J J, sP, sP, ?_, rfl⟩;exact congrArg i64 (cut_bad2 hnb (headsBad_at (k := p.1) oM (by unfold headBad; rw [← hle]; exact decide_eq_true hc2))).symm
  have hgk : headBad D.dHeads p.1 = false := by unfold headBad; rw [← hle]; exact decide_eq_false hc2
  refine G3 ?_;refine .lA J J J Y25.h J Sz25 Z0 (by (rw [Aa, List.length_map]; assumption)) ?_;refine .sA J J J J zE Sz25 (by (rw [Aa, List.length_map]; assumption)) Z1 (by (simp [hlst]; done)) zV ?_;refine G8 ?_;exact ⟨(p.1 + 1, D.dHeads.getD p.1 []), ⟨by simp only []; omega, fun j hj => by rcases Nat.lt_succ_iff_lt_or_eq.1 hj with h | rfl; exact hg j h; exact hgk, (lastH_succ _ _).symm, hr0⟩, by simp only []; omega, Ad (wk1 rfl (wk1 rfl (wk1 rfl (wk1 rfl (wk1 rfl wk0))))) (wh1 Z1 (wh1 Z2 wh0)) nD⟩
 have hpe : p.1 = C.fHeads.n := by omega
 rw [hpe] at hg;refine G10 ?_;refine G2 ?_;refine ⟨_, [], Ai J J, sP, sP, ?_, rfl⟩;exact congrArg i64 (cut_good hnb (headsBad_not (by rw [hll]; exact hg))).symm

def fstBad {D : Type} (f : D → Bool) (ds : List D) : Int := if ds.any f = true then ((ds.findIdx f : Nat) : Int) else -1
theorem fstBad_none {D : Type} {f : D → Bool} {ds : List D} (h : ∀ j, j < ds.length → (ds.map f)[j]? = some false) : fstBad f ds = -1 := by
  refine if_neg fun e => ?_;obtain ⟨x, hx, hf⟩ := List.any_eq_true.1 e;obtain ⟨j, hj, rfl⟩ := List.getElem_of_mem hx;have := h j hj;rw [List.getElem?_map, List.getElem?_eq_getElem hj] at this;simp [hf] at this
theorem fstBad_at {D : Type} {f : D → Bool} {ds : List D} {k : Nat} (h : ∀ j, j < k → (ds.map f)[j]? = some false) (hk : (ds.map f)[k]? = some true) : fstBad f ds = (k : Int) := by
  rw [List.getElem?_map] at hk;obtain ⟨x, hx, hf⟩ := Option.map_eq_some_iff.1 hk;obtain ⟨hlt, rfl⟩ := List.getElem?_eq_some_iff.1 hx;unfold fstBad;rw [if_pos (List.any_eq_true.2 ⟨_, List.getElem_mem hlt, hf⟩)];congr 1;rw [List.findIdx_eq hlt];refine ⟨hf, fun j hj => ?_⟩;have := h j hj;rw [List.getElem?_map, List.getElem?_eq_getElem oM] at this;simpa using this
theorem fstBad_ge {D : Type} (f : D → Bool) (ds : List D) : decide ((0 : Int) ≤ fstBad f ds) = ds.any f := by
  unfold fstBad;split
  · rename_i h
    rw [h]; simp
  · rename_i h
    rw [Bool.not_eq_true] at h;rw [h]; simp

def DCut.body (D : DCut) (k : Nat) : List UInt8 := numB D.dHeight ++ D.dPrev ++ numB (UInt64.ofNat D.dHeads.length) ++ (D.dHeads.take k).flatten
def DCut.bytes (D : DCut) : List UInt8 := D.body D.dHeads.length
def cutR (D : DCut) : List UInt8 := if D.check = 0 then D.bytes else []
theorem DCut.small {D : DCut} (h : D.check = 0) : D.dHeads.length ≤ 32 := by
  unfold DCut.check at h;by_cases h1 : cheadB D.dHeight D.dPrev D.dHeads.length = true
  · rw [if_pos h1] at h; cases h
  · unfold cheadB at h1
    simp at h1;omega
theorem DCut.body_len {D : DCut} (hp : D.dPrev.length = 32) (hr : ∀ l ∈ D.dHeads, l.length = 32) {k : Nat} (hk : k ≤ D.dHeads.length) : (D.body k).length = szN D.dHeight.toNat + 32 + szN (UInt64.ofNat D.dHeads.length).toNat + k * 32 := by
  simp only [DCut.body, List.length_append, Bf, hp, B1 hr hk]
theorem DCut.body_step {D : DCut} {k : Nat} (hk : k < D.dHeads.length) : D.body (k + 1) = D.body k ++ D.dHeads.getD k [] := by
  rw [DCut.body, flatten_take_step hk, ← List.append_assoc]; rfl
theorem cutb_start {C : Cut} {D : DCut} {W : World} {s : Sl} {bl : List Blk} {E : TypeId} (hW : CutIs W C D) (h : Acc s bl (Aa ([] ++ numB C.fHeight) ++ Aa C.fPrev ++ Aa ([] ++ numB (UInt64.ofNat C.fHeads.n))) E (0 + szN C.fHeight.toNat + 32 + (0 + szN (UInt64.ofNat C.fHeads.n).toNat)) 1) : Acc s bl (Aa (D.body 0)) E (szN D.dHeight.toNat + 32 + szN (UInt64.ofNat D.dHeads.length).toNat + 0 * 32) 1 := by
  have e : Aa (D.body 0) = Aa ([] ++ numB C.fHeight) ++ Aa C.fPrev ++ Aa ([] ++ numB (UInt64.ofNat C.fHeads.n)) := by simp [DCut.body, hW.fHeight, hW.fPrev, hW.fHeads.len, Aa]
  rw [e, ← hW.fHeight, hW.fHeads.len, show szN C.fHeight.toNat + 32 + szN (UInt64.ofNat C.fHeads.n).toNat + 0 * 32 = 0 + szN C.fHeight.toNat + 32 + (0 + szN (UInt64.ofNat C.fHeads.n).toNat) by omega];exact h
theorem DCut.bytes_small {D : DCut} (h : D.check = 0) (hp : D.dPrev.length = 32) (hr : ∀ l ∈ D.dHeads, l.length = 32) : D.bytes.length ≤ 2000 := by
  have := D.small h;have hz1 := Bz D.dHeight.toNat;have hz2 := Bz (UInt64.ofNat D.dHeads.length).toNat;rw [DCut.bytes, DCut.body_len hp hr (Nat.le_refl _)];omega

theorem cut_bytes (C : Cut) (D : DCut) : Meets Tryz.prog 24 [agg C.cells] [] (fun W => CutIs W C D) (fun v out => ∃ s, v = .tuple #[s.v, i64 D.check] ∧ Acc s out (Aa (cutR D)) 5 (cutR D).length 1) := by
 intro W hW;have hB := hW.ok;have hll := hW.fHeads.len;have hz1 := Bz C.fHeight.toNat;have hz2 := Bz (UInt64.ofNat C.fHeads.n).toNat;have hz3 := Bz D.dHeight.toNat;have hz4 := Bz (UInt64.ofNat D.dHeads.length).toNat;refine Ac Tryz.func24 J 39 Tryz.ntmps24 J (G3 ?_);intro n1 hn1 hf1;refine G8 ?_;refine .cV J J J J Body26 (cut_check C D) (fun w h => hW.ext h J) (G9 ?_);refine .condNP J (fun hc0 => ?_) (fun hc0 => ?_)
 ·
  refine G7 ?_;refine G3 ?_;refine A0 (out := []) (Cq J J J) Al ?_;exact ⟨Sl.nil, rfl, by rw [show cutR D = [] from if_neg hc0]; exact Acc.none⟩
 have hc : D.check = 0 := by omega
 have hsm := D.small hc;refine G6 ?_;refine .call4 J J J J J Body88 (oct_Number none 0 0 [] (C.fHeight) J (fun _ => rfl) oM) (fun _ _ => SeesP.nil) ?_;rintro v15 out15 ⟨q15, c15, rfl, hc15, rfl⟩;refine G8 ?_;refine .appendAcc (z := u8 0) (by' := 1) (Aa C.fPrev) J J J J J Y44.h Y44.h Sz5 Zr5 (by unfold By; kernel_rfl) J (Acc.some (cells := Aa ([] ++ numB C.fHeight)) hc15 (by simp [Bf])) sG (fun W2 W2h => SeesP.of (sees_part W2h Z1 (Cut.see_fPrev hB))) (fun e => by cases e) (Ax _) oM oM (by simp [hB.l_fPrev]) ?_;intro s19 bl19 hac19;refine G10 ?_;rw [word_nat (n := C.fHeads.n) oM];refine .call4 J J J J J Body88 (oct_Number none 0 0 [] (UInt64.ofNat C.fHeads.n) J (fun _ => rfl) oM) (fun _ _ => SeesP.nil) ?_;rintro v25 out25 ⟨q25, c25, rfl, hc25, rfl⟩;refine .appendAcc (z := u8 0) (by' := 1) (Aa ([] ++ numB (UInt64.ofNat C.fHeads.n))) J J J J J Y44.h Y44.h Sz5 Zr5 (by unfold By; kernel_rfl) J hac19 sG (fun w h => SeesP.of (Ar h Z0)) (fun e => by cases e) (Ax _) oM oM (by simp [Bf]) ?_;intro s26 bl26 hac26;refine G13 ?_;refine .loop (ι := Nat × Sl × List Blk) (fun p => ⟨[(1, ptr n1 0), (5, p.2.1.v), (28, C.fHeads.v), (29, i64 (C.fHeads.n : Int)), (30, i64 (p.1 : Int))], (p.2.2 ++ (⟨n1, C.cells, 28, C.cells.length⟩ :: []))⟩) (fun p => p.1 ≤ C.fHeads.n ∧ Acc p.2.1 p.2.2 (Aa (D.body p.1)) 5 (szN D.dHeight.toNat + 32 + szN (UInt64.ofNat D.dHeads.length).toNat + p.1 * 32) 1) (fun p => C.fHeads.n - p.1) ((0, s26, bl26)) ?_ ?_ ?_
 · exact ⟨Nat.zero_le _, cutb_start hW hac26⟩
 · exact Aq (wk1 rfl (wk1 rfl (wk1 rfl (wk1 rfl (wk1 rfl wk0))))) (Ah sG (Ab rM Al))
 rintro p ⟨hp1, hap⟩;refine G6 ?_;refine .condP J (fun hc1 => ?_) (fun hc1 => ?_)
 ·
  have hk2 : p.1 < C.fHeads.n := by omega
  obtain ⟨b, o, hbp, hbs⟩ := hW.fHeads.see.at (by rw [Az hW.fHeads.row]; omega);have hr0 : (D.dHeads.getD p.1 []).length = 32 := Bs hW.fHeads.row oM;refine G6 ?_;refine .idxSlP 32 J J J hbp J Y26.h Sz25 p.1 J oM (.loadEN (Aa (D.dHeads.getD (p.1) [])) J J J Y25.h J Sz25 sP (by rw [Aa, List.length_map]; exact Bs hW.fHeads.row (by rw [hW.fHeads.len]; omega)) (Cc hW.fHeads.row hbs (by rw [hW.fHeads.len]; omega)) ?_);refine .alloc (cs := (Aa (List.replicate 32 0))) J Cr J ?_;intro n7 hn7 hf7;refine .sA J J J J zE Sz25 (by (rw [Aa, List.length_map]; assumption)) Z0 sP zU ?_;refine G5 ?_;refine .appendAcc (z := u8 0) (by' := 1) (Aa (D.dHeads.getD p.1 [])) J J J J J Y44.h Y44.h Sz5 Zr5 (by unfold By; kernel_rfl) J hap sG (fun w h => SeesP.of (Ar h Z0)) (fun e => by cases e) (Ax _) oM oM (by rw [Aa, List.length_map, hr0]) ?_;intro s36 bl36 hac36;refine G9 ?_;refine ⟨(p.1 + 1, s36, bl36), ⟨by simp only []; omega, ?_⟩, by simp only []; omega, Aq (wk1 J (wk1 J (wk1 J (wk1 J (wk1 J wk0))))) (Ah sG (Ab rM Al))⟩;rw [show (szN D.dHeight.toNat + 32 + szN (UInt64.ofNat D.dHeads.length).toNat + (p.1 + 1) * 32) = (szN D.dHeight.toNat + 32 + szN (UInt64.ofNat D.dHeads.length).toNat + p.1 * 32) + 32 by omega, DCut.body_step oM, bytesV_app];exact hac36
 have hpe : p.1 = C.fHeads.n := by omega
 refine G12 ?_;refine G2 ?_;refine A0 (out := (p.2.2 ++ [])) (Cq J J J) (Ah sG Al) ?_;refine ⟨p.2.1, by rw [hc], ?_⟩;rw [show cutR D = D.bytes from if_pos hc];rw [hpe, ← hll] at hap;rw [show D.bytes.length = szN D.dHeight.toNat + 32 + szN (UInt64.ofNat D.dHeads.length).toNat + D.dHeads.length * 32 from DCut.body_len (hW.fPrev ▸ hB.l_fPrev) hW.fHeads.row (Nat.le_refl _), List.append_nil];exact hap
def cnameD (D : DCut) : List UInt8 := if D.check = 0 then sha256 D.bytes else List.replicate 32 0
theorem cnameD_length (D : DCut) : (cnameD D).length = 32 := by
  unfold cnameD;split
  · exact sha256_length _
  · rfl

theorem cut_name (C : Cut) (D : DCut) : Meets Tryz.prog 25 [agg C.cells] [] (fun W => CutIs W C D) (fun v out => v = agg (Aa (cnameD D)) ∧ out = []) := by
 intro W hW;have hok := hW.ok;obtain ⟨k, hk⟩ : ∃ k, Hid (kW = k) := ⟨_, ⟨rfl⟩⟩;obtain ⟨s0, hs0⟩ : ∃ s0, Hid (xorUp 8 = s0) := ⟨_, ⟨rfl⟩⟩;obtain ⟨G, hG⟩ : ∃ G, Hid (shaTag = G) := ⟨_, ⟨rfl⟩⟩;obtain ⟨i0, hi0⟩ : ∃ i0, Hid (allW k s0 G = i0) := ⟨_, ⟨rfl⟩⟩;have hk80 : k.length = 80 := by rw [← hk.out]; rfl
 have hs8 : s0.length = 8 := by rw [← hs0.out]; exact xorUp_length 8
 have hGl : G.length = 11 := by rw [← hG.out]; rfl
 have hi8 : i0.length = 8 := by rw [← hi0.out, allW_length]; exact hs8
 obtain ⟨r, hr⟩ : ∃ r, Hid (allW k i0 (D.bytes) = r) := ⟨_, ⟨rfl⟩⟩;obtain ⟨s, hs⟩ : ∃ s, Hid (sumUp r 64 = s) := ⟨_, ⟨rfl⟩⟩;have hsd : Hid (s.take 32 = sha256 (D.bytes)) := ⟨by rw [← hs.out, ← hr.out, ← hi0.out, ← hG.out, ← hs0.out, ← hk.out]; rfl⟩;have hs64 : s.length = 64 := by rw [← hs.out]; exact B5 r 64
 have hs32 : (s.take 32).length = 32 := by rw [List.length_take, hs64]; rfl
 refine Ac Tryz.func25 J 16 Tryz.ntmps25 J (G3 ?_);intro n1 hn1 hf1;refine .alloc (cs := (Aa (List.replicate 32 0))) J Cr J ?_;intro n2 hn2 hf2;refine G5 ?_;refine .call4 J J J J J Body24 (cut_bytes C D) (fun w h => hW.ext h J) ?_;rintro v7 out7 ⟨s7, rfl, hac7⟩;refine G11 ?_;refine two (fun r hr k => Tr.nei J J J J hr k) (fun hs2_10 => ?_) (fun hs2_10 => ?_)
 ·
  have hs2_1 := nd_t hs2_10;skip;refine G2 ?_;refine .cond_t J J (G2 ?_);refine .build (cs := Aa (List.replicate 32 0)) J J J (fun w => by kernel_rfl) ?_;refine .sA J J J J zE Sz25 sP mR sP (by (repeat (first | exact upd0 | apply Upd.seg))) ?_;refine G2 ?_;refine G3 ?_;refine ⟨_, [], An J J Y25.h J Sz25 mR sP, sP, sP, ?_, rfl⟩
  (rw [cnameD, if_neg hs2_1]; done)
 have hs2_1 := nd_f hs2_10;have h0 : D.check = 0 := by omega
 have hb7 : cutR D = D.bytes := if_pos h0;refine G2 ?_;refine .cond_f J J (G5 ?_);refine .mkRow (z := .slice none 0 0) [s7.v] [s7.v] rfl J J Y173.h Sz44 Zr44 J J (by intro v hv; rw [List.mem_singleton.1 hv]; rfl) dE J ?_;intro q14;refine .cV J J J J Body89 (sha_Sum k s0 i0 G hk hk80 hs0 hs8 hG hGl hi0 hi8 (some ⟨q14, 0, none⟩) 1 1 [s7] [D.bytes] rfl J (fun j hj => (by obtain rfl : j = 0 := oM; exact ⟨by simp [hac7.num, hb7], fun e => hac7.nil e⟩)) D.bytes sP (by have := D.bytes_small h0 (hW.fPrev ▸ hW.ok.l_fPrev) hW.fHeads.row; omega) dE r hr s hs) (fun w h => ⟨SeesP.of (Ar h Z0), fun j hj => (by obtain rfl : j = 0 := oM; exact (by have := hac7.see (Lies.of h (by repeat (first | exact Bg | refine Bm ?_))); rw [hb7] at this; exact this))⟩) ?_;refine .sA J J J J zE Sz25 (by (simp [hs64]; done)) mR sP uU ?_;refine G2 ?_;refine G2 ?_;refine ⟨_, [], An J J Y25.h J Sz25 mR (by simp [hs64]), sP, sP, ?_, rfl⟩
 (rw [cnameD, if_pos h0, hsd.out]; done)

def lightOf {D : Type} (f : D → Bool) (ds : List D) (m : Int) : Bool := (!decide (m < (ds.length : Int))) && ds.all f
theorem light_all {D : Type} {f : D → Bool} {ds : List D} (h : ∀ j, j < ds.length → (ds.map f)[j]? = some true) : ds.all f = true := by
  rw [List.all_eq_true];intro x hx;obtain ⟨j, hj, rfl⟩ := List.getElem_of_mem hx;have := h j hj;rw [List.getElem?_map, List.getElem?_eq_getElem hj] at this;simpa using this
theorem light_not {D : Type} {f : D → Bool} {ds : List D} {k : Nat} (h : (ds.map f)[k]? = some false) : ds.all f = false := by
  rw [List.getElem?_map] at h;obtain ⟨x, hx, hf⟩ := Option.map_eq_some_iff.1 h;rw [List.all_eq_false];exact ⟨x, List.mem_of_getElem? hx, by rw [hf]; simp⟩
theorem light_over {D : Type} {f : D → Bool} {ds : List D} {m : Int} (h : m < (ds.length : Int)) : lightOf f ds m = false := by simp [lightOf, h]
theorem light_in {D : Type} {f : D → Bool} {ds : List D} {m : Int} (h : ¬ m < (ds.length : Int)) : lightOf f ds m = ds.all f := by simp [lightOf, h]
def lightCf (d : DCut) : Bool := decide ((d.dHeads.length : Int) ≤ 40)

theorem lightd_cuts (s : Sl) (ds : List DCut) (m : Int) : Meets Tryz.prog 16 [s.v, i64 m] [] (fun W => CutsAt W s ds) (fun v out => v = .bool (lightOf lightCf ds m) ∧ out = []) := by
 intro W hW;obtain ⟨rs, hs⟩ := hW;have hmax := hs.max;simp only [maxLen] at hmax;have hnd := hs.nd;refine Ac Tryz.func16 J 23 Tryz.ntmps16 J (G14 ?_);refine .condP J (fun hc0 => ?_) (fun hc0 => ?_)
 ·
  refine G5 ?_;refine G3 ?_;refine ⟨_, [], Ai J J, sP, sP, ?_, rfl⟩;exact congrArg Value.bool (light_over (by rw [hnd]; omega)).symm
 refine G9 ?_;refine .loop (ι := Nat) (fun k => ⟨[(0, s.v), (5, i64 (k : Int))], []⟩) (fun k => k ≤ s.n ∧ ∀ j, j < k → (ds.map lightCf)[j]? = some true) (fun k => s.n - k) (0) ?_ ?_ ?_
 · exact ⟨by omega, fun j hj => by omega⟩
 · exact Ad (wk1 rfl (wk1 rfl wk0)) wh0 nD
 rintro k ⟨hk, hg⟩;refine G9 ?_;refine .condP J (fun hc1 => ?_) (fun hc1 => ?_)
 ·
  have hk2 : k < s.n := by omega
  obtain ⟨b, o, r, d, hsp, hr, hd, his, hlen, hsee⟩ := hs.at dE hk2;have e1 := his.fHeads.len;refine G8 ?_;refine .idxSlP 34 J J J hsp J Y22.h Sz28 k J oM (G1 ?_);refine .loadE J J J Y26.h J sP (hsee 33 _ (Cut.get_fHeads his.ok)) (G4 ?_);refine .condP J (fun hc2 => ?_) (fun hc2 => ?_)
  ·
   refine G5 ?_;refine G7 ?_;refine ⟨_, [], Ai J J, sP, sP, ?_, rfl⟩;exact congrArg Value.bool ((light_in (by rw [hnd]; omega)).trans (light_not (k := k) (by rw [List.getElem?_map, hd]; simp [lightCf]; omega))).symm
  refine G9 ?_;exact ⟨k + 1, ⟨by omega, fun j hj => by rcases Nat.lt_succ_iff_lt_or_eq.1 hj with h | rfl; exact hg j h; exact (by rw [List.getElem?_map, hd]; simp [lightCf]; omega)⟩, by omega, Ad (wk1 rfl (wk1 rfl wk0)) wh0 nD⟩
 obtain rfl : k = s.n := by omega
 refine G10 ?_;refine G2 ?_;refine ⟨_, [], Ai J J, sP, sP, ?_, rfl⟩;exact congrArg Value.bool ((light_in (by rw [hnd]; omega)).trans (light_all (by rw [hnd]; exact hg))).symm

theorem take_snoc {D : Type} {ds : List D} {k : Nat} {d : D} (h : ds[k]? = some d) : ds.take (k + 1) = ds.take k ++ [d] := by
  obtain ⟨hk, rfl⟩ := List.getElem?_eq_some_iff.1 h;rw [List.take_succ_eq_append_getElem hk]

theorem rows_none {W : World} {m : Nat} : RowsAt W Sl.nil m [] := ⟨rfl, fun l h => (by cases h), Nat.le_refl _, SeesP.nil, by decide, fun _ => rfl⟩


def DCut.zero : DCut := ⟨0, List.replicate 32 0, []⟩
theorem cutz_is (W : World) : CutIs W Cut.zero DCut.zero := ⟨Cut.zero_ok, rfl, rfl, rows_none⟩
end Go.Proofs.YtdilealohibfoaaGreat
end
