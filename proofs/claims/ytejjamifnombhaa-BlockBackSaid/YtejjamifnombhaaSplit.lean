/- Splitting a walk at a truth value; strings of bytes; comparing rows of bytes; slices whose address may be nil; comparing structs field by field. It proves no statement by itself; it has no conditions. -/
import Derived.Test.YtejjamifnombhaaAppend2
import Derived.Lib.Bytealg
import Derived.Lib.BytesEntry
import Derived.Laws.IdiomStrings
import Derived.Laws.StructEq
namespace Hw
open Go Go.RowKit
set_option linter.unusedSimpArgs false
set_option linter.unusedVariables false

theorem two {c : Bool} {K : Bool → Prop} {G : Prop} (rule : ∀ r, c = r → K r → G) (t : c = true → K true) (f : c = false → K false) : G := by
  cases h : c
  · exact rule false h (f h)
  · exact rule true h (t h)
theorem nd_t {p : Prop} [Decidable p] (h : (!decide p) = true) : ¬ p := by simpa using h
theorem nd_f {p : Prop} [Decidable p] (h : (!decide p) = false) : p := by simpa using h

/-- a slice's header -/
structure Sl where
  p : Option Addr
  n : Nat
  c : Nat
def Sl.v (s : Sl) : Value := .slice s.p s.n s.c
def Sl.nil : Sl := ⟨none, 0, 0⟩
/-- the cells behind an address that may be nil -/
def SeesP (w : World) (p : Option Addr) (cs : List Value) : Prop := ∀ (j : Nat) (v : Value), cs[j]? = some v → ∃ b o, p = some ⟨b, o, none⟩ ∧ w.cell? ⟨b, o + j, none⟩ = some v
theorem SeesP.of {w : World} {b o : Nat} {cs : List Value} (h : Sees w b o cs) : SeesP w (some ⟨b, o, none⟩) cs := fun j v hj => ⟨b, o, rfl, h j v hj⟩
theorem SeesP.nil {w : World} {p : Option Addr} : SeesP w p [] := fun j v hj => by simp at hj
theorem SeesP.at {w : World} {p : Option Addr} {cs : List Value} (h : SeesP w p cs) (hl : 0 < cs.length) : ∃ b o, p = some ⟨b, o, none⟩ ∧ Sees w b o cs := by
  obtain ⟨b, o, rfl, _⟩ := h 0 _ (List.getElem?_eq_getElem hl)
  refine ⟨b, o, rfl, fun j v hj => ?_⟩
  obtain ⟨b', o', e, hc⟩ := h j v hj
  simp only [Option.some.injEq, Addr.mk.injEq] at e
  obtain ⟨rfl, rfl, _⟩ := e
  exact hc
theorem seesP_ext {C : Cx} {hp : List Blk} {w : World} {p : Option Addr} {cs : List Value} (h : HRep C hp w) (hl : C.lent = []) (hs : SeesP C.W0 p cs) : SeesP w p cs := fun j v hj => by
  obtain ⟨b, o, rfl, hc⟩ := hs j v hj
  exact ⟨b, o, rfl, h.keeps.cell (by rw [hl]; simp) hc⟩

def str (l : List UInt8) : Value := .string ⟨l.toArray⟩

section
variable {C : Cx} {ops : Array Oper} {rest : List (Nat × Oper)} {sl : List (Nat × Value)} {hp : List Blk} {Q : St → Prop} {c d : Nat} {ty : TypeId} {pos : String} {af : Array Edge} {g : Option (Nat × Bool)}

theorem Tr.callB {f : Operand} {fid : FuncId} {as : List Operand} {ats : Array TypeId} {vs : List Value} {Pre : World → Prop} {b : Bool} (hg : guardOk ops sl g = true) (hk : okG c d C.N = true) (hfn : evIn sl f = some (.func (.func fid) #[] #[])) (hargs : evs sl as = some vs) (hb : Body C.P fid)
    (hc : Meets C.P fid vs [] Pre fun v out => v = .bool b ∧ out = []) (hpre : ∀ w, HRep C hp w → Pre w)
    (kt : b = true → Tr C ops rest ⟨(d, .bool true) :: sl, hp⟩ Q) (kf : b = false → Tr C ops rest ⟨(d, .bool false) :: sl, hp⟩ Q) : Tr C ops ((c, ⟨some d, .call ⟨.value f, as.toArray, ats⟩, ty, pos, af, g⟩) :: rest) ⟨sl, hp⟩ Q := by
  cases b
  · exact .callV hg hk hfn hargs hb hc hpre (kf rfl)
  · exact .callV hg hk hfn hargs hb hc hpre (kt rfl)

theorem Tr.load1B {T : TypeId} {td : TypeDesc} {x : Operand} {b o : Nat} {cs : List Value} {BT : TypeId} {m : Nat} {v : Bool} (hg : guardOk ops sl g = true) (hk : okL c d C.N = true) (hx : evIn sl x = some (ptr b o)) (hu : C.P.underlying T = some td) (hp' : plainDesc td = true) (hb : (⟨b, cs, BT, m⟩ : Blk) ∈ hp) (hv : cs[o]? = some (.bool v))
    (kt : v = true → Tr C ops rest ⟨(d, .bool true) :: sl, hp⟩ Q) (kf : v = false → Tr C ops rest ⟨(d, .bool false) :: sl, hp⟩ Q) : Tr C ops ((c, ⟨some d, .load T x, ty, pos, af, g⟩) :: rest) ⟨sl, hp⟩ Q := by
  cases v
  · exact .load1 hg hk hx hu hp' hb hv (kf rfl)
  · exact .load1 hg hk hx hu hp' hb hv (kt rfl)

/-- an element's place, of a slice whose address is told apart -/
theorem Tr.idxSlP {xT E : TypeId} {x y : Operand} {ki : IntKind} {i : Int} {p : Option Addr} {b o n cap : Nat} (sz : Nat) (hg : guardOk ops sl g = true) (hk : okD c d C.N = true) (hx : evIn sl x = some (.slice p n cap)) (hp' : p = some ⟨b, o, none⟩) (hy : evIn sl y = some (.int ki i)) (hu : C.P.underlying xT = some (.slice E)) (hs : Sz C.P E sz) (j : Nat) (hj : i = j) (hlt : j < n)
    (k : Tr C ops rest ⟨(d, ptr b (o + j * sz)) :: sl, hp⟩ Q) : Tr C ops ((c, ⟨some d, .indexAddr xT x y, ty, pos, af, g⟩) :: rest) ⟨sl, hp⟩ Q := by
  subst hp'
  exact .idxSl sz hg hk hx hy hu hs j hj hlt k

/-! ### strings -/

theorem Tr.toStr {T D E : TypeId} {x : Operand} {p : Option Addr} {n cap : Nat} {l : List UInt8} (hg : guardOk ops sl g = true) (hk : okL c d C.N = true) (hx : evIn sl x = some (.slice p n cap)) (hu : C.P.underlying T = some (.slice E)) (he : C.P.underlying E = some (.int .u8)) (hd : C.P.underlying D = some .string)
    (hsee : ∀ w, HRep C hp w → SeesP w p (bytesV l)) (hl : l.length = n)
    (k : Tr C ops rest ⟨(d, str l) :: sl, hp⟩ Q) : Tr C ops ((c, ⟨some d, .convert T D x, ty, pos, af, g⟩) :: rest) ⟨sl, hp⟩ Q :=
  .ld hg hk ⟨known1 hx, fun ρ hf w hh => by
    have h1 := hf x (by simp [Op.operands]); rw [hx] at h1
    simp only [Option.some.injEq] at h1
    have hS := hsee w hh
    subst hl
    cases p with
    | none =>
      have : l = [] := by
        cases l with
        | nil => rfl
        | cons a l => obtain ⟨b, o, e, _⟩ := hS 0 (u8 a) (by simp [bytesV]); cases e
      subst this
      have this : (convert T D (.slice none 0 cap)).run C.P w = .ok (str []) w := by rw [run_convert_bytes_string w T D E none 0 cap hu he hd]; rfl
      simp only [execOp, ← h1, Sem.run_bind, List.length_nil, this, Result.andThen]
      rfl
    | some a =>
      have := run_convert_bytes_back (P := C.P) w T D E a cap l hu he hd (fun j hj => by
        obtain ⟨b, o, e, hc⟩ := hS j (u8 l[j]) (by simp [bytesV, hj])
        simp only [Option.some.injEq] at e
        subst e
        rw [add_addr]; exact hc)
      simp only [execOp, ← h1, Sem.run_bind, this, Result.andThen]
      rfl⟩ k

theorem run_str {P : Program} (op : BinOp) (T : TypeId) (a b : List UInt8) (w : World) : (binOp op T (str a) (str b)).run P w = (Op.stringOp op ⟨a.toArray⟩ ⟨b.toArray⟩).run P w := by
  cases op <;> first | rfl | simp [binOp, str, Op.stringOp, Op.equal, Op.equalIn]
theorem toList_mk (a : List UInt8) : (ByteArray.mk a.toArray).toList = a := by rw [ByteArray.toList_eq]

theorem Tr.lss_str {xT yT : TypeId} {x y : Operand} {a b : List UInt8} (hg : guardOk ops sl g = true) (hk : okD c d C.N = true) (hx : evIn sl x = some (str a)) (hy : evIn sl y = some (str b)) {r : Bool} (hr : Op.bytesLess a b = r)
    (k : Tr C ops rest ⟨(d, .bool r) :: sl, hp⟩ Q) : Tr C ops ((c, ⟨some d, .binOp .lss xT x y yT, ty, pos, af, g⟩) :: rest) ⟨sl, hp⟩ Q :=
  .binAny hg hk hx hy (fun w => by simp [eqGuard]) (fun w => by subst hr; rw [show (binOp .lss xT (str a) (str b)) = Op.stringOp .lss ⟨a.toArray⟩ ⟨b.toArray⟩ from rfl]; simp [Op.stringOp, toList_mk]) k
theorem Tr.gtr_str {xT yT : TypeId} {x y : Operand} {a b : List UInt8} (hg : guardOk ops sl g = true) (hk : okD c d C.N = true) (hx : evIn sl x = some (str a)) (hy : evIn sl y = some (str b)) {r : Bool} (hr : (!(Op.bytesLess a b || a == b)) = r)
    (k : Tr C ops rest ⟨(d, .bool r) :: sl, hp⟩ Q) : Tr C ops ((c, ⟨some d, .binOp .gtr xT x y yT, ty, pos, af, g⟩) :: rest) ⟨sl, hp⟩ Q :=
  .binAny hg hk hx hy (fun w => by simp [eqGuard]) (fun w => by subst hr; rw [show (binOp .gtr xT (str a) (str b)) = Op.stringOp .gtr ⟨a.toArray⟩ ⟨b.toArray⟩ from rfl]; simp [Op.stringOp, toList_mk]) k
end

/-! ### comparing rows of bytes -/

abbrev cmpB := Go.Lib.compareBytes
theorem cmpB_self : ∀ a, cmpB a a = 0
  | [] => rfl
  | x :: a => by simp [cmpB, Go.Lib.compareBytes]; exact cmpB_self a
theorem cmpB_cases : ∀ a b, cmpB a b = -1 ∨ cmpB a b = 0 ∨ cmpB a b = 1
  | [], [] => by simp [cmpB, Go.Lib.compareBytes]
  | [], _ :: _ => by simp [cmpB, Go.Lib.compareBytes]
  | _ :: _, [] => by simp [cmpB, Go.Lib.compareBytes]
  | x :: a, y :: b => by
    have := cmpB_cases a b
    simp only [cmpB, Go.Lib.compareBytes] at this ⊢
    split
    · exact .inl rfl
    · split
      · exact .inr (.inr rfl)
      · exact this
theorem cmpB_neg : ∀ a b, cmpB b a = - cmpB a b
  | [], [] => by simp [cmpB, Go.Lib.compareBytes]
  | [], _ :: _ => by simp [cmpB, Go.Lib.compareBytes]
  | _ :: _, [] => by simp [cmpB, Go.Lib.compareBytes]
  | x :: a, y :: b => by
    have := cmpB_neg a b
    simp only [cmpB, Go.Lib.compareBytes, UInt8.lt_iff_toNat_lt] at this ⊢
    by_cases h1 : x.toNat < y.toNat
    · rw [if_pos h1, if_neg (by omega), if_pos h1]; rfl
    · by_cases h2 : y.toNat < x.toNat
      · rw [if_pos h2, if_neg h1, if_pos h2]
      · rw [if_neg h2, if_neg h1, if_neg h1, if_neg h2]; exact this
theorem cmpB_zero : ∀ a b, cmpB a b = 0 ↔ a = b
  | [], [] => by simp [cmpB, Go.Lib.compareBytes]
  | [], _ :: _ => by simp [cmpB, Go.Lib.compareBytes]
  | _ :: _, [] => by simp [cmpB, Go.Lib.compareBytes]
  | x :: a, y :: b => by
    have := cmpB_zero a b
    simp only [cmpB, Go.Lib.compareBytes, UInt8.lt_iff_toNat_lt, List.cons.injEq] at this ⊢
    by_cases h1 : x.toNat < y.toNat
    · rw [if_pos h1]
      refine ⟨fun h => by simp at h, fun h => ?_⟩
      rw [h.1] at h1; omega
    · by_cases h2 : y.toNat < x.toNat
      · rw [if_neg h1, if_pos h2]
        refine ⟨fun h => by simp at h, fun h => ?_⟩
        rw [h.1] at h2; omega
      · rw [if_neg h1, if_neg h2, this]
        exact ⟨fun h => ⟨UInt8.toNat_inj.1 (by omega), h⟩, fun h => h.2⟩
theorem cmpB_less : ∀ a b, Op.bytesLess a b = true ↔ cmpB a b = -1
  | [], [] => by simp [cmpB, Go.Lib.compareBytes, Op.bytesLess]
  | [], _ :: _ => by simp [cmpB, Go.Lib.compareBytes, Op.bytesLess]
  | _ :: _, [] => by simp [cmpB, Go.Lib.compareBytes, Op.bytesLess]
  | x :: a, y :: b => by
    have ih := cmpB_less a b
    simp only [cmpB, Go.Lib.compareBytes, Op.bytesLess, UInt8.lt_iff_toNat_lt, Bool.or_eq_true, Bool.and_eq_true, decide_eq_true_eq, beq_iff_eq] at ih ⊢
    by_cases h1 : x.toNat < y.toNat
    · simp [h1]
    · by_cases h2 : y.toNat < x.toNat
      · have : x ≠ y := fun e => by rw [e] at h2; omega
        simp [h1, h2, this]
      · have : x = y := UInt8.toNat_inj.1 (by omega)
        subst this
        simpa [h1] using ih
theorem cmpB_trans : ∀ a b c, cmpB a b ≤ 0 → cmpB b c ≤ 0 → cmpB a c ≤ 0 ∧ (cmpB a b < 0 ∨ cmpB b c < 0 → cmpB a c < 0)
  | [], [], [], _, _ => by simp [cmpB, Go.Lib.compareBytes]
  | [], [], _ :: _, _, _ => by simp [cmpB, Go.Lib.compareBytes]
  | [], _ :: _, [], _, h => by simp [cmpB, Go.Lib.compareBytes] at h
  | [], _ :: _, _ :: _, _, _ => by simp [cmpB, Go.Lib.compareBytes]
  | _ :: _, [], _, h, _ => by simp [cmpB, Go.Lib.compareBytes] at h
  | _ :: _, _ :: _, [], _, h => by simp [cmpB, Go.Lib.compareBytes] at h
  | x :: a, y :: b, z :: c, h1, h2 => by
    have ih := cmpB_trans a b c
    simp only [cmpB, Go.Lib.compareBytes, UInt8.lt_iff_toNat_lt] at ih h1 h2 ⊢
    by_cases a1 : x.toNat < y.toNat
    · by_cases b1 : y.toNat < z.toNat
      · rw [if_pos (show x.toNat < z.toNat by omega)]; simp
      · by_cases b2 : z.toNat < y.toNat
        · rw [if_neg b1, if_pos b2] at h2; omega
        · rw [if_pos (show x.toNat < z.toNat by omega)]; simp
    · by_cases a2 : y.toNat < x.toNat
      · rw [if_neg a1, if_pos a2] at h1; omega
      · rw [if_neg a1, if_neg a2] at h1 ⊢
        by_cases b1 : y.toNat < z.toNat
        · rw [if_pos (show x.toNat < z.toNat by omega)]; simp
        · by_cases b2 : z.toNat < y.toNat
          · rw [if_neg b1, if_pos b2] at h2; omega
          · rw [if_neg b1, if_neg b2] at h2 ⊢
            rw [if_neg (show ¬ x.toNat < z.toNat by omega), if_neg (show ¬ z.toNat < x.toNat by omega)]
            exact ih h1 h2

theorem run_bytesOf {P : Program} {w : World} {p : Option Addr} {n cap : Nat} {l : List UInt8} (hl : l.length = n) (hs : SeesP w p (bytesV l)) : (Extern.Bytes.bytesOf (.slice p n cap)).run P w = .ok ⟨l.toArray⟩ w := by
  subst hl
  cases p with
  | none =>
    have : l = [] := by
      cases l with
      | nil => rfl
      | cons a l => obtain ⟨b, o, e, _⟩ := hs 0 (u8 a) (by simp [bytesV]); cases e
    subst this
    rfl
  | some a =>
    have := Go.Lib.run_loadBytesX (P := P) w (l.map fun b => (b.toNat : Int)) a .empty (fun j x hj => by
      obtain ⟨b, o, e, hc⟩ := hs j (.int .u8 x) (by
        simp only [bytesV, List.getElem?_map] at hj ⊢
        cases h : l[j]? with
        | none => rw [h] at hj; simp at hj
        | some y => rw [h] at hj; simp at hj; simp [u8, hj])
      simp only [Option.some.injEq] at e
      subst e
      rw [add_addr]; exact hc)
    simp only [List.length_map] at this
    simp only [Extern.Bytes.bytesOf, this]
    congr 1
    apply ByteArray.ext
    simp [Go.Lib.bytesOf]
    apply List.ext_getElem <;> simp

theorem run_compareB {P : Program} {w : World} {p q : Option Addr} {n m c1 c2 : Nat} {a b : List UInt8} (ha : a.length = n) (hb : b.length = m) (h1 : SeesP w p (bytesV a)) (h2 : SeesP w q (bytesV b)) :
    (Extern.BytealgCompare.compare #[.slice p n c1, .slice q m c2]).run P w = .ok (i64 (cmpB a b)) w := by
  change Sem.run P (do pure (goInt (Extern.BytealgCompare.cmp (← Extern.Bytes.bytesOf (.slice p n c1)) (← Extern.Bytes.bytesOf (.slice q m c2))))) w = _
  simp only [Sem.run_bind, run_bytesOf (P := P) (cap := c1) ha h1, run_bytesOf (P := P) (cap := c2) hb h2, Result.andThen, Sem.run_pure, Go.Lib.cmp_eq]
  rfl

/-! ### comparing structs -/

theorem run_part1 {P : Program} {w : World} {T : TypeId} {td : TypeDesc} {xs : List Value} {o : Nat} {v : Value} (hu : P.underlying T = some td) (hp : plainDesc td = true) (hx : xs[o]? = some v) : (part T xs.toArray o).run P w = .ok v w := by
  simp [part, run_isAgg_plain hu hp, hx]
theorem run_partN {P : Program} {w : World} {T : TypeId} {td : TypeDesc} {xs row : List Value} {o n : Nat} (hu : P.underlying T = some td) (hp : plainDesc td = false) (hs : Sz P T n) (hr : (xs.drop o).take n = row) : (part T xs.toArray o).run P w = .ok (agg row) w := by
  subst hr
  simp [part, run_isAgg_arr hu hp, run_sz hs]
theorem eqFields_step {P : Program} {w : World} {d : Nat} {xs ys : Array Value} {f : Field} {fs : List Field} {u v : Value} {r s : Bool} (hn : f.name ≠ "_") (hu : (part f.type xs f.offset).run P w = .ok u w) (hv : (part f.type ys f.offset).run P w = .ok v w)
    (he : (Op.equalIn d f.type u v).run P w = .ok r w) (hs : (Op.eqFields d xs ys fs).run P w = .ok s w) : (Op.eqFields d xs ys (f :: fs)).run P w = .ok (r && s) w := by
  unfold Op.eqFields
  rw [if_pos hn]
  simp only [Sem.run_bind, hu, hv, he, Result.andThen_ok]
  cases r
  · simp
  · simpa using hs
theorem eqFields_nil {P : Program} {w : World} {d : Nat} {xs ys : Array Value} : (Op.eqFields d xs ys []).run P w = .ok true w := by simp [Op.eqFields]
theorem eq_int {P : Program} {w : World} {d : Nat} {T : TypeId} {k : IntKind} {a b : Int} (h : P.underlying T = some (.int k)) : (Op.equalIn (d + 1) T (.int k a) (.int k b)).run P w = .ok (decide (a = b)) w := by
  rw [run_equalIn_int w d T k k a b h]
  rfl
theorem eq_bytesA {P : Program} {w : World} {d n : Nat} {T E : TypeId} {a b : List UInt8} (ht : P.underlying T = some (.array n E)) (he : P.underlying E = some (.int .u8)) (hs : Sz P E 1) (ha : a.length = n) (hb : b.length = n) : (Op.equalIn (d + 2) T (agg (bytesV a)) (agg (bytesV b))).run P w = .ok (decide (a = b)) w := by
  have := run_equalIn_ints (P := P) (k := .u8) w d ht he hs (a.map fun b => (b.toNat : Int)) (b.map fun b => (b.toNat : Int)) (by simp [ha]) (by simp [hb])
  rw [← bytes_ints, ← bytes_ints] at this
  rw [this]
  simp only [bytes_inj]
section
variable {C : Cx} {ops : Array Oper} {rest : List (Nat × Oper)} {sl : List (Nat × Value)} {hp : List Blk} {Q : St → Prop} {c d : Nat} {ty : TypeId} {pos : String} {af : Array Edge} {g : Option (Nat × Bool)} {xT yT : TypeId} {x y : Operand} {xs ys : List Value} {q : Bool}
theorem Tr.eql_rec (hg : guardOk ops sl g = true) (hk : okD c d C.N = true) (hx : evIn sl x = some (agg xs)) (hy : evIn sl y = some (agg ys)) (hm : C.P.eqGuardType C.P.depth xT = false)
    (he : ∀ w, (Op.equalIn 10000 xT (agg xs) (agg ys)).run C.P w = .ok q w) {r : Bool} (hr : q = r)
    (k : Tr C ops rest ⟨(d, .bool r) :: sl, hp⟩ Q) : Tr C ops ((c, ⟨some d, .binOp .eql xT x y yT, ty, pos, af, g⟩) :: rest) ⟨sl, hp⟩ Q :=
  .binAny hg hk hx hy (fun w => run_eqGuard_agg w .eql xT x y _ _ hm) (fun w => by subst hr; rw [run_eql_struct, he]; rfl) k
theorem Tr.neq_rec (hg : guardOk ops sl g = true) (hk : okD c d C.N = true) (hx : evIn sl x = some (agg xs)) (hy : evIn sl y = some (agg ys)) (hm : C.P.eqGuardType C.P.depth xT = false)
    (he : ∀ w, (Op.equalIn 10000 xT (agg xs) (agg ys)).run C.P w = .ok q w) {r : Bool} (hr : (!q) = r)
    (k : Tr C ops rest ⟨(d, .bool r) :: sl, hp⟩ Q) : Tr C ops ((c, ⟨some d, .binOp .neq xT x y yT, ty, pos, af, g⟩) :: rest) ⟨sl, hp⟩ Q :=
  .binAny hg hk hx hy (fun w => run_eqGuard_agg w .neq xT x y _ _ hm) (fun w => by subst hr; rw [run_neq_struct, he]; rfl) k
end
end Hw
