/- Contracts of functions of the loaded program, and the lemmas that they need (part 2). It proves no statement by itself; it has no conditions. -/
import Derived.WalkKit
import Derived.Orders
import Derived.Deep.LoopGhost
import Derived.IntWalk
import Derived.Laws.StructEq
import Derived.ArgAppend
import Derived.Deep.AppendSrc
import Derived.Lib.Bytealg
import Derived.Lib.BytesEntry
import Derived.Laws.IdiomStrings
import Derived.WideKeyArr2
import Derived.ProofKit
import Derived.OpenShut
import Derived.Deep.Slices
import Derived.Laws.Pointers
import Derived.Laws.Cover3
import Derived.LaidEqlPtr
import Derived.LoopN
import Derived.RangeFuncLeaves
import Derived.RangeFuncSeq
import Derived.OrdersIn
import Derived.Test.YtpacobmjjjillaaGreatRows
import Derived.KernelRfl
import Derived.Laws.Externs
import Derived.Defers
import Derived.Laws.MathBits
import Derived.ChangeOld
import Derived.Below
import Derived.Test.YtpacobmjjjillaaGreatVNmC1
section
namespace Hw
open Go Go.RowKit
set_option linter.unusedSimpArgs false
set_option linter.unusedVariables false

theorem flat_get {m : Nat} : ∀ {cs : List (List Value)} {i j : Nat} {l : List Value}, (∀ l ∈ cs, l.length = m) → cs[i]? = some l → j < l.length → cs.flatten[i * m + j]? = l[j]?
  | [], i, j, l, _, h, _ => by simp at h
  | x :: cs, 0, j, l, hl, h, hj => by
    simp only [List.getElem?_cons_zero, Option.some.injEq] at h
    subst h
    rw [Nat.zero_mul, Nat.zero_add, List.flatten_cons, List.getElem?_append_left hj]
  | x :: cs, i + 1, j, l, hl, h, hj => by
    rw [List.getElem?_cons_succ] at h
    have hx := hl x sP
    rw [List.flatten_cons, List.getElem?_append_right (by rw [hx, Nat.add_mul]; omega), hx, show (i + 1) * m + j - m = i * m + j by rw [Nat.add_mul]; omega]
    exact flat_get (fun y hy => hl y (by simp [hy])) h hj
theorem sees_elem {w : World} {b o m i : Nat} {cs : List (List Value)} {l : List Value} (hl : ∀ l ∈ cs, l.length = m) (hs : Sees w b o cs.flatten) (hi : cs[i]? = some l) : Sees w b (o + i * m) l := fun j v hj => by
  have hlt : j < l.length := (List.getElem?_eq_some_iff.1 hj).1
  have := hs (i * m + j) v (by rw [flat_get hl hi hlt]; exact hj)
  rwa [Nat.add_assoc]

/-- a slice of records, and the data that they are -/
structure SeqIs {R D : Type} (cells : R → List Value) (k : Nat) (Is : World → R → D → Prop) (W : World) (s : Sl) (rs : List R) (ds : List D) : Prop where
  nr : rs.length = s.n
  nd : ds.length = s.n
  is : ∀ (i : Nat) (r : R) (d : D), rs[i]? = some r → ds[i]? = some d → Is W r d
  len : ∀ r ∈ rs, (cells r).length = k
  cap : s.n ≤ s.c
  see : SeesP W s.p (rs.map cells).flatten
  max : s.n ≤ maxLen
  nil : s.p = none → s.c = 0
section
variable {R D : Type} {cells : R → List Value} {k : Nat} {Is : World → R → D → Prop} {W w : World} {s : Sl} {rs : List R} {ds : List D}
theorem SeqIs.flat (h : SeqIs cells k Is W s rs ds) : (rs.map cells).flatten.length = s.n * k := by
  rw [← h.nr]
  have hl := h.len
  clear h
  induction rs with
  | nil => simp
  | cons r rs ih => rw [List.map_cons, List.flatten_cons, List.length_append, ih (fun x hx => hl x (by simp [hx])), hl r sP, List.length_cons, Nat.add_mul]; omega
theorem SeqIs.at (h : SeqIs cells k Is W s rs ds) (hk : 0 < k) {i : Nat} (hi : i < s.n) : ∃ b o r d, s.p = some ⟨b, o, none⟩ ∧ rs[i]? = some r ∧ ds[i]? = some d ∧ Is W r d ∧ (cells r).length = k ∧ Sees W b (o + i * k) (cells r) := by
  have h1 : i < rs.length := by rw [h.nr]; exact hi
  have h2 : i < ds.length := by rw [h.nd]; exact hi
  have h3 : 0 < s.n * k := Nat.mul_pos oM hk
  obtain ⟨b, o, hp, hs⟩ := h.see.at (by rw [h.flat]; exact h3)
  have e1 := List.getElem?_eq_getElem h1
  have e2 := List.getElem?_eq_getElem h2
  refine ⟨b, o, rs[i], ds[i], hp, e1, e2, h.is i _ _ e1 e2, h.len _ (List.getElem_mem h1), ?_⟩
  exact sees_elem (cs := rs.map cells) (fun l hl => by obtain ⟨r, hr, rfl⟩ := List.mem_map.1 hl; exact h.len r hr) hs (by rw [List.getElem?_map, e1]; rfl)
theorem SeqIs.ext {C : Cx} {hp : List Blk} (hh : HRep C hp w) (hl : C.lent = []) (hIs : ∀ r d, Is C.W0 r d → Is w r d) (h : SeqIs cells k Is C.W0 s rs ds) : SeqIs cells k Is w s rs ds :=
  ⟨h.nr, h.nd, fun i r d h1 h2 => hIs r d (h.is i r d h1 h2), h.len, h.cap, seesP_ext hh hl h.see, h.max, h.nil⟩
theorem SeqIs.none : SeqIs cells k Is W Sl.nil [] [] :=
  ⟨rfl, rfl, fun i r d h => (by simp at h), fun r h => (by cases h), Nat.le_refl _, SeesP.nil, Nat.zero_le _, fun _ => rfl⟩
theorem acc_seq {bl : List Blk} {E : TypeId} {n : Nat} (h : Acc s bl (rs.map cells).flatten E n k) (hl : Lies bl w) (hr : rs.length = n) (hd : ds.length = n) (hlen : ∀ r ∈ rs, (cells r).length = k) (hm : n ≤ 1000000) (his : ∀ (i : Nat) (r : R) (d : D), rs[i]? = some r → ds[i]? = some d → Is w r d) : SeqIs cells k Is w s rs ds :=
  ⟨by rw [h.num, hr], by rw [h.num, hd], his, hlen, h.cap, h.see hl, by rw [h.num]; unfold maxLen; omega, h.nilc⟩
end

/-- a list of one's own, with what its elements hold -/
structure OwnSeq {R D : Type} (cells : R → List Value) (k : Nat) (Is : World → R → D → Prop) (E : TypeId) (s : Sl) (bl bl2 : List Blk) (rs : List R) (ds : List D) (n : Nat) : Prop where
  acc : Acc s bl (rs.map cells).flatten E n k
  nr : rs.length = n
  nd : ds.length = n
  len : ∀ r ∈ rs, (cells r).length = k
  is : ∀ W2, Lies bl2 W2 → ∀ (i : Nat) (r : R) (d : D), rs[i]? = some r → ds[i]? = some d → Is W2 r d
section
variable {R D : Type} {cells : R → List Value} {k : Nat} {Is : World → R → D → Prop} {w : World} {E : TypeId} {s s' : Sl} {bl bl' bl2 bl3 : List Blk} {rs : List R} {ds : List D} {n : Nat}
theorem OwnSeq.none : OwnSeq cells k Is E Sl.nil [] [] [] [] 0 := ⟨Acc.none, rfl, rfl, fun r h => (by cases h), fun W2 _ i r d h => (by simp at h)⟩
theorem OwnSeq.seq (h : OwnSeq cells k Is E s bl bl2 rs ds n) (h1 : Lies bl w) (h2 : Lies bl2 w) (hm : n ≤ 1000000) : SeqIs cells k Is w s rs ds := acc_seq h.acc h1 h.nr h.nd h.len hm (h.is w h2)
end

section
variable {C : Cx} {ops : Array Oper} {rest : List (Nat × Oper)} {sl : List (Nat × Value)} {hp : List Blk} {Q : St → Prop} {c d : Nat} {ty : TypeId} {pos : String} {af : Array Edge} {g : Option (Nat × Bool)}
variable {f : Operand} {fid : FuncId} {ars : List Operand} {ats : Array TypeId} {vs us : List Value} {fst cap : Array Value}
end

section
variable {H : Type} {enc : TypeId × Value → H} {P : Program} {W : World} {base : Nat} {sp : Nat → Bool} {held : Bool}
end
end Hw
end

section
namespace Go.Proofs.YtpacobmjjjillaaGreat
open Go Hw
theorem Sz2 : Sz Tryz.prog 2 1 := by unfold Sz; kernel_rfl
theorem Sz3 : Sz Tryz.prog 3 1 := by unfold Sz; kernel_rfl
theorem Sz5 : Sz Tryz.prog 5 1 := by unfold Sz; kernel_rfl
theorem Zr5 : Zr Tryz.prog 5 (u8 0) := by unfold Zr; kernel_rfl
theorem Sz22 : Sz Tryz.prog 22 1 := by unfold Sz; kernel_rfl
theorem Sz23 : Sz Tryz.prog 23 32 := by unfold Sz; kernel_rfl
theorem Zr23 : Zr Tryz.prog 23 (agg (bytesV (List.replicate 32 0))) := by unfold Zr; kernel_rfl
theorem Sz24 : Sz Tryz.prog 24 32 := by unfold Sz; kernel_rfl
theorem Zr24 : Zr Tryz.prog 24 (agg (bytesV (List.replicate 32 0))) := by unfold Zr; kernel_rfl
theorem Sz25 : Sz Tryz.prog 25 32 := by unfold Sz; kernel_rfl
theorem Zr25 : Zr Tryz.prog 25 (agg (bytesV (List.replicate 32 0))) := by unfold Zr; kernel_rfl
theorem Sz26 : Sz Tryz.prog 26 64 := by unfold Sz; kernel_rfl
theorem Zr26 : Zr Tryz.prog 26 (agg (bytesV (List.replicate 64 0))) := by unfold Zr; kernel_rfl
theorem Sz27 : Sz Tryz.prog 27 64 := by unfold Sz; kernel_rfl
theorem Zr27 : Zr Tryz.prog 27 (agg (bytesV (List.replicate 64 0))) := by unfold Zr; kernel_rfl
theorem Sz29 : Sz Tryz.prog 29 132 := by unfold Sz; kernel_rfl
theorem Sz39 : Sz Tryz.prog 39 1 := by unfold Sz; kernel_rfl
theorem Zr39 : Zr Tryz.prog 39 (.slice none 0 0) := by unfold Zr; kernel_rfl
theorem Sz77 : Sz Tryz.prog 77 32 := by unfold Sz; kernel_rfl
theorem Zr77 : Zr Tryz.prog 77 (agg (bytesV (List.replicate 32 0))) := by unfold Zr; kernel_rfl
theorem Sz79 : Sz Tryz.prog 79 64 := by unfold Sz; kernel_rfl
theorem Sz94 : Sz Tryz.prog 94 6 := by unfold Sz; kernel_rfl
theorem Zr94 : Zr Tryz.prog 94 (agg (intsV (List.replicate 6 0))) := by unfold Zr; kernel_rfl
theorem Sz114 : Sz Tryz.prog 114 64 := by unfold Sz; kernel_rfl
theorem Sz135 : Sz Tryz.prog 135 8 := by unfold Sz; kernel_rfl
theorem Zr135 : Zr Tryz.prog 135 (agg (wordsV (List.replicate 8 0))) := by unfold Zr; kernel_rfl
theorem Sz156 : Sz Tryz.prog 156 4 := by unfold Sz; kernel_rfl
theorem Zr156 : Zr Tryz.prog 156 (agg (wordsV (List.replicate 4 0))) := by unfold Zr; kernel_rfl
theorem Sz157 : Sz Tryz.prog 157 4 := by unfold Sz; kernel_rfl
theorem Zr157 : Zr Tryz.prog 157 (agg (wordsV (List.replicate 4 0))) := by unfold Zr; kernel_rfl
theorem Sz168 : Sz Tryz.prog 168 128 := by unfold Sz; kernel_rfl
theorem Sz177 : Sz Tryz.prog 177 10 := by unfold Sz; kernel_rfl
theorem Zr177 : Zr Tryz.prog 177 (agg (intsV (List.replicate 10 0))) := by unfold Zr; kernel_rfl
theorem Sz180 : Sz Tryz.prog 180 30 := by unfold Sz; kernel_rfl
theorem Sz191 : Sz Tryz.prog 191 128 := by unfold Sz; kernel_rfl
theorem Sz197 : Sz Tryz.prog 197 5 := by unfold Sz; kernel_rfl
theorem Zr197 : Zr Tryz.prog 197 (agg (wordsV (List.replicate 5 0))) := by unfold Zr; kernel_rfl
theorem Sz209 : Sz Tryz.prog 209 80 := by unfold Sz; kernel_rfl
theorem Zr209 : Zr Tryz.prog 209 (agg (wordsV (List.replicate 80 0))) := by unfold Zr; kernel_rfl
theorem Sz216 : Sz Tryz.prog 216 2 := by unfold Sz; kernel_rfl
theorem Zr216 : Zr Tryz.prog 216 (agg ([u64 0] ++ [u64 0])) := by unfold Zr; kernel_rfl
theorem Body10 : Body Tryz.prog 10 := fun _ _ => (by kernel_rfl)
theorem Body11 : Body Tryz.prog 11 := fun _ _ => (by kernel_rfl)
theorem Body13 : Body Tryz.prog 13 := fun _ _ => (by kernel_rfl)
theorem Body14 : Body Tryz.prog 14 := fun _ _ => (by kernel_rfl)
theorem Body16 : Body Tryz.prog 16 := fun _ _ => (by kernel_rfl)
theorem Body17 : Body Tryz.prog 17 := fun _ _ => (by kernel_rfl)
theorem Body18 : Body Tryz.prog 18 := fun _ _ => (by kernel_rfl)
theorem Body19 : Body Tryz.prog 19 := fun _ _ => (by kernel_rfl)
theorem Body20 : Body Tryz.prog 20 := fun _ _ => (by kernel_rfl)
theorem Body21 : Body Tryz.prog 21 := fun _ _ => (by kernel_rfl)
theorem Body22 : Body Tryz.prog 22 := fun _ _ => (by kernel_rfl)
theorem Body32 : Body Tryz.prog 32 := fun _ _ => (by kernel_rfl)
theorem Body58 : Body Tryz.prog 58 := fun _ _ => (by kernel_rfl)
theorem Body59 : Body Tryz.prog 59 := fun _ _ => (by kernel_rfl)
theorem Body60 : Body Tryz.prog 60 := fun _ _ => (by kernel_rfl)
theorem Body62 : Body Tryz.prog 62 := fun _ _ => (by kernel_rfl)
theorem Body63 : Body Tryz.prog 63 := fun _ _ => (by kernel_rfl)
theorem Body64 : Body Tryz.prog 64 := fun _ _ => (by kernel_rfl)
theorem Body65 : Body Tryz.prog 65 := fun _ _ => (by kernel_rfl)
theorem Body66 : Body Tryz.prog 66 := fun _ _ => (by kernel_rfl)
theorem Body67 : Body Tryz.prog 67 := fun _ _ => (by kernel_rfl)
theorem Body68 : Body Tryz.prog 68 := fun _ _ => (by kernel_rfl)
theorem Body82 : Body Tryz.prog 82 := fun _ _ => (by kernel_rfl)
theorem Body83 : Body Tryz.prog 83 := fun _ _ => (by kernel_rfl)
theorem Body84 : Body Tryz.prog 84 := fun _ _ => (by kernel_rfl)
theorem Body85 : Body Tryz.prog 85 := fun _ _ => (by kernel_rfl)
theorem Body103 : Body Tryz.prog 103 := fun _ _ => (by kernel_rfl)
theorem Body104 : Body Tryz.prog 104 := fun _ _ => (by kernel_rfl)
theorem Body105 : Body Tryz.prog 105 := fun _ _ => (by kernel_rfl)
theorem Body106 : Body Tryz.prog 106 := fun _ _ => (by kernel_rfl)
theorem Body107 : Body Tryz.prog 107 := fun _ _ => (by kernel_rfl)
theorem Body108 : Body Tryz.prog 108 := fun _ _ => (by kernel_rfl)
theorem Body109 : Body Tryz.prog 109 := fun _ _ => (by kernel_rfl)
theorem Body110 : Body Tryz.prog 110 := fun _ _ => (by kernel_rfl)
theorem Body111 : Body Tryz.prog 111 := fun _ _ => (by kernel_rfl)
theorem Body114 : Body Tryz.prog 114 := fun _ _ => (by kernel_rfl)
theorem Body117 : Body Tryz.prog 117 := fun _ _ => (by kernel_rfl)
theorem Body118 : Body Tryz.prog 118 := fun _ _ => (by kernel_rfl)
theorem Body119 : Body Tryz.prog 119 := fun _ _ => (by kernel_rfl)
theorem Body120 : Body Tryz.prog 120 := fun _ _ => (by kernel_rfl)
theorem Body121 : Body Tryz.prog 121 := fun _ _ => (by kernel_rfl)
theorem Body122 : Body Tryz.prog 122 := fun _ _ => (by kernel_rfl)
theorem Body123 : Body Tryz.prog 123 := fun _ _ => (by kernel_rfl)
theorem Body124 : Body Tryz.prog 124 := fun _ _ => (by kernel_rfl)
theorem Body125 : Body Tryz.prog 125 := fun _ _ => (by kernel_rfl)
theorem Body126 : Body Tryz.prog 126 := fun _ _ => (by kernel_rfl)
theorem Body127 : Body Tryz.prog 127 := fun _ _ => (by kernel_rfl)
theorem Body128 : Body Tryz.prog 128 := fun _ _ => (by kernel_rfl)
theorem Body129 : Body Tryz.prog 129 := fun _ _ => (by kernel_rfl)
theorem Body133 : Body Tryz.prog 133 := fun _ _ => (by kernel_rfl)
theorem Body136 : Body Tryz.prog 136 := fun _ _ => (by kernel_rfl)
theorem Body140 : Body Tryz.prog 140 := fun _ _ => (by kernel_rfl)
theorem Body141 : Body Tryz.prog 141 := fun _ _ => (by kernel_rfl)
theorem Body143 : Body Tryz.prog 143 := fun _ _ => (by kernel_rfl)
theorem Body144 : Body Tryz.prog 144 := fun _ _ => (by kernel_rfl)
theorem Body145 : Body Tryz.prog 145 := fun _ _ => (by kernel_rfl)
theorem Body152 : Body Tryz.prog 152 := fun _ _ => (by kernel_rfl)
theorem Body158 : Body Tryz.prog 158 := fun _ _ => (by kernel_rfl)
theorem Body159 : Body Tryz.prog 159 := fun _ _ => (by kernel_rfl)
theorem Body160 : Body Tryz.prog 160 := fun _ _ => (by kernel_rfl)
theorem Body161 : Body Tryz.prog 161 := fun _ _ => (by kernel_rfl)
theorem Body162 : Body Tryz.prog 162 := fun _ _ => (by kernel_rfl)
theorem Body163 : Body Tryz.prog 163 := fun _ _ => (by kernel_rfl)
theorem Body165 : Body Tryz.prog 165 := fun _ _ => (by kernel_rfl)
theorem Body166 : Body Tryz.prog 166 := fun _ _ => (by kernel_rfl)
theorem Body167 : Body Tryz.prog 167 := fun _ _ => (by kernel_rfl)
theorem Body168 : Body Tryz.prog 168 := fun _ _ => (by kernel_rfl)
theorem Body169 : Body Tryz.prog 169 := fun _ _ => (by kernel_rfl)
theorem Body170 : Body Tryz.prog 170 := fun _ _ => (by kernel_rfl)
theorem Body171 : Body Tryz.prog 171 := fun _ _ => (by kernel_rfl)
theorem Body172 : Body Tryz.prog 172 := fun _ _ => (by kernel_rfl)
theorem Body173 : Body Tryz.prog 173 := fun _ _ => (by kernel_rfl)
theorem Body174 : Body Tryz.prog 174 := fun _ _ => (by kernel_rfl)
theorem Body175 : Body Tryz.prog 175 := fun _ _ => (by kernel_rfl)
theorem Body176 : Body Tryz.prog 176 := fun _ _ => (by kernel_rfl)
theorem Body177 : Body Tryz.prog 177 := fun _ _ => (by kernel_rfl)
theorem Body178 : Body Tryz.prog 178 := fun _ _ => (by kernel_rfl)
theorem Body179 : Body Tryz.prog 179 := fun _ _ => (by kernel_rfl)
theorem Body180 : Body Tryz.prog 180 := fun _ _ => (by kernel_rfl)
theorem Body181 : Body Tryz.prog 181 := fun _ _ => (by kernel_rfl)
theorem Body182 : Body Tryz.prog 182 := fun _ _ => (by kernel_rfl)
theorem Body183 : Body Tryz.prog 183 := fun _ _ => (by kernel_rfl)
theorem Body184 : Body Tryz.prog 184 := fun _ _ => (by kernel_rfl)
theorem Body185 : Body Tryz.prog 185 := fun _ _ => (by kernel_rfl)
theorem Body188 : Body Tryz.prog 188 := fun _ _ => (by kernel_rfl)
theorem Body189 : Body Tryz.prog 189 := fun _ _ => (by kernel_rfl)
theorem Body190 : Body Tryz.prog 190 := fun _ _ => (by kernel_rfl)
theorem Body191 : Body Tryz.prog 191 := fun _ _ => (by kernel_rfl)
theorem Body192 : Body Tryz.prog 192 := fun _ _ => (by kernel_rfl)
theorem Body193 : Body Tryz.prog 193 := fun _ _ => (by kernel_rfl)
theorem Body194 : Body Tryz.prog 194 := fun _ _ => (by kernel_rfl)
theorem Body195 : Body Tryz.prog 195 := fun _ _ => (by kernel_rfl)
theorem Body196 : Body Tryz.prog 196 := fun _ _ => (by kernel_rfl)
theorem Body197 : Body Tryz.prog 197 := fun _ _ => (by kernel_rfl)
theorem Body198 : Body Tryz.prog 198 := fun _ _ => (by kernel_rfl)
theorem Body199 : Body Tryz.prog 199 := fun _ _ => (by kernel_rfl)
theorem Body200 : Body Tryz.prog 200 := fun _ _ => (by kernel_rfl)
theorem Body201 : Body Tryz.prog 201 := fun _ _ => (by kernel_rfl)
theorem Body202 : Body Tryz.prog 202 := fun _ _ => (by kernel_rfl)
theorem Body203 : Body Tryz.prog 203 := fun _ _ => (by kernel_rfl)
theorem Body204 : Body Tryz.prog 204 := fun _ _ => (by kernel_rfl)
theorem Body207 : Body Tryz.prog 207 := fun _ _ => (by kernel_rfl)
theorem Body208 : Body Tryz.prog 208 := fun _ _ => (by kernel_rfl)
theorem Body212 : Body Tryz.prog 212 := fun _ _ => (by kernel_rfl)
theorem Body213 : Body Tryz.prog 213 := fun _ _ => (by kernel_rfl)
theorem Body214 : Body Tryz.prog 214 := fun _ _ => (by kernel_rfl)
theorem Body215 : Body Tryz.prog 215 := fun _ _ => (by kernel_rfl)
theorem Body216 : Body Tryz.prog 216 := fun _ _ => (by kernel_rfl)
theorem Body217 : Body Tryz.prog 217 := fun _ _ => (by kernel_rfl)
theorem Body218 : Body Tryz.prog 218 := fun _ _ => (by kernel_rfl)
theorem Body219 : Body Tryz.prog 219 := fun _ _ => (by kernel_rfl)
theorem Body220 : Body Tryz.prog 220 := fun _ _ => (by kernel_rfl)
theorem Body221 : Body Tryz.prog 221 := fun _ _ => (by kernel_rfl)
theorem Body222 : Body Tryz.prog 222 := fun _ _ => (by kernel_rfl)
theorem Body223 : Body Tryz.prog 223 := fun _ _ => (by kernel_rfl)
theorem Body224 : Body Tryz.prog 224 := fun _ _ => (by kernel_rfl)
theorem Body225 : Body Tryz.prog 225 := fun _ _ => (by kernel_rfl)
theorem Body226 : Body Tryz.prog 226 := fun _ _ => (by kernel_rfl)
theorem Body227 : Body Tryz.prog 227 := fun _ _ => (by kernel_rfl)
theorem Body228 : Body Tryz.prog 228 := fun _ _ => (by kernel_rfl)
theorem Body229 : Body Tryz.prog 229 := fun _ _ => (by kernel_rfl)
theorem Body230 : Body Tryz.prog 230 := fun _ _ => (by kernel_rfl)
theorem Body231 : Body Tryz.prog 231 := fun _ _ => (by kernel_rfl)
theorem Body232 : Body Tryz.prog 232 := fun _ _ => (by kernel_rfl)
theorem Body233 : Body Tryz.prog 233 := fun _ _ => (by kernel_rfl)
theorem Body234 : Body Tryz.prog 234 := fun _ _ => (by kernel_rfl)
theorem Body235 : Body Tryz.prog 235 := fun _ _ => (by kernel_rfl)
theorem Body236 : Body Tryz.prog 236 := fun _ _ => (by kernel_rfl)
theorem Body237 : Body Tryz.prog 237 := fun _ _ => (by kernel_rfl)
theorem Body238 : Body Tryz.prog 238 := fun _ _ => (by kernel_rfl)
theorem Body239 : Body Tryz.prog 239 := fun _ _ => (by kernel_rfl)
theorem Body240 : Body Tryz.prog 240 := fun _ _ => (by kernel_rfl)
theorem Body242 : Body Tryz.prog 242 := fun _ _ => (by kernel_rfl)
theorem Body243 : Body Tryz.prog 243 := fun _ _ => (by kernel_rfl)
theorem Body244 : Body Tryz.prog 244 := fun _ _ => (by kernel_rfl)
theorem Body245 : Body Tryz.prog 245 := fun _ _ => (by kernel_rfl)
theorem Body246 : Body Tryz.prog 246 := fun _ _ => (by kernel_rfl)
theorem Mixed : Tryz.prog.follows .mixedOrders = true := by kernel_rfl
end Go.Proofs.YtpacobmjjjillaaGreat
end

section
namespace Go.Proofs.YtpacobmjjjillaaGreat
open Go Hw
set_option linter.unusedSimpArgs false
set_option linter.unusedVariables false
set_option maxRecDepth 100000
structure Vote where
  fHeight : UInt64
  fRound : UInt64
  fPhase : Int
  fValue : List UInt8
  fProof : UInt64
  fVoter : List UInt8
  fSig : List UInt8
def Vote.cells (x : Vote) : List Value := [u64 x.fHeight] ++ ([u64 x.fRound] ++ ([i64 x.fPhase] ++ (bytesV x.fValue ++ ([u64 x.fProof] ++ (bytesV x.fVoter ++ (bytesV x.fSig))))))
structure Vote.ok (x : Vote) : Prop where
  l_fValue : x.fValue.length = 32
  l_fVoter : x.fVoter.length = 32
  l_fSig : x.fSig.length = 64
theorem Vote.length {x : Vote} (h : x.ok) : x.cells.length = 132 := by simp [Vote.cells, bytesV, h.l_fValue, h.l_fVoter, h.l_fSig]
theorem Vote.isCell {x : Vote} (h : x.ok) : ∀ u ∈ x.cells, isCell u = true := by
  intro u hu
  simp only [Vote.cells, List.mem_append, List.mem_singleton, bytesV, List.mem_map] at hu
  rcases hu with rfl | rfl | rfl | ⟨_, _, rfl⟩ | rfl | ⟨_, _, rfl⟩ | ⟨_, _, rfl⟩ <;> first | rfl
theorem Vote.get_fHeight {x : Vote} (h : x.ok) : x.cells[0]? = some (u64 x.fHeight) := by simp [Vote.cells, bytesV, h.l_fValue, h.l_fVoter, h.l_fSig, List.getElem?_append]
theorem Vote.get_fRound {x : Vote} (h : x.ok) : x.cells[1]? = some (u64 x.fRound) := by simp [Vote.cells, bytesV, h.l_fValue, h.l_fVoter, h.l_fSig, List.getElem?_append]
theorem Vote.get_fPhase {x : Vote} (h : x.ok) : x.cells[2]? = some (i64 x.fPhase) := by simp [Vote.cells, bytesV, h.l_fValue, h.l_fVoter, h.l_fSig, List.getElem?_append]
theorem Vote.row_fValue {x : Vote} (h : x.ok) : (x.cells.drop 3).take 32 = bytesV x.fValue := by simp [Vote.cells, bytesV, h.l_fValue, h.l_fVoter, h.l_fSig, List.drop_append, List.take_append, List.drop_of_length_le, List.take_of_length_le]
theorem Vote.rl_fValue {x : Vote} (h : x.ok) : (bytesV x.fValue).length = 32 := by simp [bytesV, h.l_fValue]
theorem Vote.upd_fValue {x : Vote} (h : x.ok) (l : List UInt8) (hl : l.length = 32) : upd x.cells 3 (bytesV l) = ({ x with fValue := l }).cells := by
  simp [upd, Vote.cells, bytesV, h.l_fValue, h.l_fVoter, h.l_fSig, hl, List.drop_append, List.take_append, List.drop_of_length_le, List.take_of_length_le]
theorem Vote.see_fValue {x : Vote} (h : x.ok) : ∀ (j : Nat) (v : Value), (bytesV x.fValue)[j]? = some v → x.cells[3 + j]? = some v := fun j v hj => by
  rw [← Vote.row_fValue h, List.getElem?_take] at hj
  split at hj
  · rwa [List.getElem?_drop] at hj
  · cases hj
theorem Vote.get_fProof {x : Vote} (h : x.ok) : x.cells[35]? = some (u64 x.fProof) := by simp [Vote.cells, bytesV, h.l_fValue, h.l_fVoter, h.l_fSig, List.getElem?_append]
theorem Vote.row_fVoter {x : Vote} (h : x.ok) : (x.cells.drop 36).take 32 = bytesV x.fVoter := by simp [Vote.cells, bytesV, h.l_fValue, h.l_fVoter, h.l_fSig, List.drop_append, List.take_append, List.drop_of_length_le, List.take_of_length_le]
theorem Vote.rl_fVoter {x : Vote} (h : x.ok) : (bytesV x.fVoter).length = 32 := by simp [bytesV, h.l_fVoter]
theorem Vote.upd_fVoter {x : Vote} (h : x.ok) (l : List UInt8) (hl : l.length = 32) : upd x.cells 36 (bytesV l) = ({ x with fVoter := l }).cells := by
  simp [upd, Vote.cells, bytesV, h.l_fValue, h.l_fVoter, h.l_fSig, hl, List.drop_append, List.take_append, List.drop_of_length_le, List.take_of_length_le]
theorem Vote.see_fVoter {x : Vote} (h : x.ok) : ∀ (j : Nat) (v : Value), (bytesV x.fVoter)[j]? = some v → x.cells[36 + j]? = some v := fun j v hj => by
  rw [← Vote.row_fVoter h, List.getElem?_take] at hj
  split at hj
  · rwa [List.getElem?_drop] at hj
  · cases hj
theorem Vote.row_fSig {x : Vote} (h : x.ok) : (x.cells.drop 68).take 64 = bytesV x.fSig := by simp [Vote.cells, bytesV, h.l_fValue, h.l_fVoter, h.l_fSig, List.drop_append, List.take_append, List.drop_of_length_le, List.take_of_length_le]
theorem Vote.rl_fSig {x : Vote} (h : x.ok) : (bytesV x.fSig).length = 64 := by simp [bytesV, h.l_fSig]
theorem Vote.upd_fSig {x : Vote} (h : x.ok) (l : List UInt8) (hl : l.length = 64) : upd x.cells 68 (bytesV l) = ({ x with fSig := l }).cells := by
  simp [upd, Vote.cells, bytesV, h.l_fValue, h.l_fVoter, h.l_fSig, hl, List.drop_append, List.take_append, List.drop_of_length_le, List.take_of_length_le]
theorem Vote.see_fSig {x : Vote} (h : x.ok) : ∀ (j : Nat) (v : Value), (bytesV x.fSig)[j]? = some v → x.cells[68 + j]? = some v := fun j v hj => by
  rw [← Vote.row_fSig h, List.getElem?_take] at hj
  split at hj
  · rwa [List.getElem?_drop] at hj
  · cases hj
def Vote.zero : Vote := ⟨0, 0, 0, List.replicate 32 0, 0, List.replicate 32 0, List.replicate 64 0⟩
theorem Vote.zero_ok : Vote.zero.ok := by constructor <;> first | exact trivial | simp [Vote.zero]
theorem Vote.zr : Zr Tryz.prog 29 (agg Vote.zero.cells) := by unfold Zr; kernel_rfl
theorem Vote.eqq {x y : Vote} (hx : x.ok) (hy : y.ok) (w : World) : (Op.equalIn 10000 29 (agg x.cells) (agg y.cells)).run Tryz.prog w = .ok (decide ((x.fHeight.toNat : Int) = (y.fHeight.toNat : Int)) && (decide ((x.fRound.toNat : Int) = (y.fRound.toNat : Int)) && (decide (x.fPhase = y.fPhase) && (decide (x.fValue = y.fValue) && (decide ((x.fProof.toNat : Int) = (y.fProof.toNat : Int)) && (decide (x.fVoter = y.fVoter) && (decide (x.fSig = y.fSig) && (true)))))))) w := by
  rw [show (10000 : Nat) = 9999 + 1 from rfl, run_equalIn_struct w 9999 29 x.cells.toArray y.cells.toArray (by kernel_rfl) (by kernel_rfl)]
  exact (eqFields_step dE (run_part1 Tryz.underlying22 rfl (Vote.get_fHeight hx)) (run_part1 Tryz.underlying22 rfl (Vote.get_fHeight hy)) (eq_int Tryz.underlying22) (eqFields_step dE (run_part1 Tryz.underlying22 rfl (Vote.get_fRound hx)) (run_part1 Tryz.underlying22 rfl (Vote.get_fRound hy)) (eq_int Tryz.underlying22) (eqFields_step dE (run_part1 Tryz.underlying3 rfl (Vote.get_fPhase hx)) (run_part1 Tryz.underlying3 rfl (Vote.get_fPhase hy)) (eq_int Tryz.underlying3) (eqFields_step dE (run_partN Tryz.underlying24 rfl Sz24 (Vote.row_fValue hx)) (run_partN Tryz.underlying24 rfl Sz24 (Vote.row_fValue hy)) (eq_bytesA Tryz.underlying24 Tryz.underlying5 Sz5 hx.l_fValue hy.l_fValue) (eqFields_step dE (run_part1 Tryz.underlying22 rfl (Vote.get_fProof hx)) (run_part1 Tryz.underlying22 rfl (Vote.get_fProof hy)) (eq_int Tryz.underlying22) (eqFields_step dE (run_partN Tryz.underlying25 rfl Sz25 (Vote.row_fVoter hx)) (run_partN Tryz.underlying25 rfl Sz25 (Vote.row_fVoter hy)) (eq_bytesA Tryz.underlying25 Tryz.underlying5 Sz5 hx.l_fVoter hy.l_fVoter) (eqFields_step dE (run_partN Tryz.underlying27 rfl Sz27 (Vote.row_fSig hx)) (run_partN Tryz.underlying27 rfl Sz27 (Vote.row_fSig hy)) (eq_bytesA Tryz.underlying27 Tryz.underlying5 Sz5 hx.l_fSig hy.l_fSig) eqFields_nil)))))))
theorem Vote.eq_run {x y : Vote} (hx : x.ok) (hy : y.ok) (w : World) [Decidable (x = y)] : (Op.equalIn 10000 29 (agg x.cells) (agg y.cells)).run Tryz.prog w = .ok (decide (x = y)) w := by
  rw [Vote.eqq hx hy]
  congr 1
  obtain ⟨x0, x1, x2, x3, x4, x5, x6⟩ := x
  obtain ⟨y0, y1, y2, y3, y4, y5, y6⟩ := y
  rw [Bool.eq_iff_iff]
  simp only [Bool.and_eq_true, decide_eq_true_eq, Vote.mk.injEq, and_true]
  have eu : ∀ a b : UInt64, ((a.toNat : Int) = (b.toNat : Int)) ↔ a = b := fun a b => ⟨fun h => UInt64.toNat_inj.1 oM, fun h => by rw [h]⟩
  simp only [eu]
theorem Vote.eq_runC {x y : Vote} (hx : x.ok) (hy : y.ok) (w : World) : (Op.equalIn 10000 29 (agg x.cells) (agg y.cells)).run Tryz.prog w = .ok (@decide (x = y) (Classical.propDecidable (x = y))) w := @Vote.eq_run x y hx hy w (Classical.propDecidable (x = y))
theorem Vote.eg : Tryz.prog.eqGuardType Tryz.prog.depth 29 = false := by kernel_rfl
structure Block where
  fWriter : List UInt8
  fSeq : UInt64
  fPrev : List UInt8
  fLinks : Sl
  fData : Sl
  fSig : List UInt8
def Block.cells (x : Block) : List Value := bytesV x.fWriter ++ ([u64 x.fSeq] ++ (bytesV x.fPrev ++ ([x.fLinks.v] ++ ([x.fData.v] ++ (bytesV x.fSig)))))
structure Block.ok (x : Block) : Prop where
  l_fWriter : x.fWriter.length = 32
  l_fPrev : x.fPrev.length = 32
  l_fSig : x.fSig.length = 64
theorem Block.length {x : Block} (h : x.ok) : x.cells.length = 131 := by simp [Block.cells, bytesV, h.l_fWriter, h.l_fPrev, h.l_fSig]
theorem Block.isCell {x : Block} (h : x.ok) : ∀ u ∈ x.cells, isCell u = true := by
  intro u hu
  simp only [Block.cells, List.mem_append, List.mem_singleton, bytesV, List.mem_map] at hu
  rcases hu with ⟨_, _, rfl⟩ | rfl | ⟨_, _, rfl⟩ | rfl | rfl | ⟨_, _, rfl⟩ <;> first | rfl
theorem Block.row_fSig {x : Block} (h : x.ok) : (x.cells.drop 67).take 64 = bytesV x.fSig := by simp [Block.cells, bytesV, h.l_fWriter, h.l_fPrev, h.l_fSig, List.drop_append, List.take_append, List.drop_of_length_le, List.take_of_length_le]
theorem Block.rl_fSig {x : Block} (h : x.ok) : (bytesV x.fSig).length = 64 := by simp [bytesV, h.l_fSig]
theorem Block.upd_fSig {x : Block} (h : x.ok) (l : List UInt8) (hl : l.length = 64) : upd x.cells 67 (bytesV l) = ({ x with fSig := l }).cells := by
  simp [upd, Block.cells, bytesV, h.l_fWriter, h.l_fPrev, h.l_fSig, hl, List.drop_append, List.take_append, List.drop_of_length_le, List.take_of_length_le]
theorem Block.see_fSig {x : Block} (h : x.ok) : ∀ (j : Nat) (v : Value), (bytesV x.fSig)[j]? = some v → x.cells[67 + j]? = some v := fun j v hj => by
  rw [← Block.row_fSig h, List.getElem?_take] at hj
  split at hj
  · rwa [List.getElem?_drop] at hj
  · cases hj
def Block.zero : Block := ⟨List.replicate 32 0, 0, List.replicate 32 0, Sl.nil, Sl.nil, List.replicate 64 0⟩
theorem Block.zero_ok : Block.zero.ok := by constructor <;> first | exact trivial | simp [Block.zero]
theorem Block.zr : Zr Tryz.prog 53 (agg Block.zero.cells) := by unfold Zr; kernel_rfl
structure Reader where
  fSelf : Value
  fB : Sl
  fAt : Int
  fErr : Int
def Reader.cells (x : Reader) : List Value := [x.fSelf] ++ ([x.fB.v] ++ ([i64 x.fAt] ++ ([i64 x.fErr])))
structure Reader.ok (x : Reader) : Prop where
  c_fSelf : isCell x.fSelf = true
theorem Reader.length {x : Reader} (h : x.ok) : x.cells.length = 4 := by simp [Reader.cells, bytesV]
theorem Reader.isCell {x : Reader} (h : x.ok) : ∀ u ∈ x.cells, isCell u = true := by
  intro u hu
  simp only [Reader.cells, List.mem_append, List.mem_singleton, bytesV, List.mem_map] at hu
  rcases hu with rfl | rfl | rfl | rfl <;> first | rfl | exact h.c_fSelf
def Reader.zero : Reader := ⟨(.pointer none), Sl.nil, 0, 0⟩
theorem Reader.zero_ok : Reader.zero.ok := by constructor <;> first | exact trivial | simp [Reader.zero, Hw.isCell]
theorem Reader.zr : Zr Tryz.prog 140 (agg Reader.zero.cells) := by unfold Zr; kernel_rfl
structure Point where
  fX : List UInt8
  fY : List UInt8
def Point.cells (x : Point) : List Value := bytesV x.fX ++ (bytesV x.fY)
structure Point.ok (x : Point) : Prop where
  l_fX : x.fX.length = 32
  l_fY : x.fY.length = 32
theorem Point.length {x : Point} (h : x.ok) : x.cells.length = 64 := by simp [Point.cells, bytesV, h.l_fX, h.l_fY]
theorem Point.isCell {x : Point} (h : x.ok) : ∀ u ∈ x.cells, isCell u = true := by
  intro u hu
  simp only [Point.cells, List.mem_append, List.mem_singleton, bytesV, List.mem_map] at hu
  rcases hu with ⟨_, _, rfl⟩ | ⟨_, _, rfl⟩ <;> rfl
theorem Point.row_fX {x : Point} (h : x.ok) : (x.cells.drop 0).take 32 = bytesV x.fX := by simp [Point.cells, bytesV, h.l_fX, h.l_fY, List.drop_append, List.take_append, List.drop_of_length_le, List.take_of_length_le]
theorem Point.rl_fX {x : Point} (h : x.ok) : (bytesV x.fX).length = 32 := by simp [bytesV, h.l_fX]
theorem Point.upd_fX {x : Point} (h : x.ok) (l : List UInt8) (hl : l.length = 32) : upd x.cells 0 (bytesV l) = ({ x with fX := l }).cells := by
  simp [upd, Point.cells, bytesV, h.l_fX, h.l_fY, hl, List.drop_append, List.take_append, List.drop_of_length_le, List.take_of_length_le]
theorem Point.see_fX {x : Point} (h : x.ok) : ∀ (j : Nat) (v : Value), (bytesV x.fX)[j]? = some v → x.cells[0 + j]? = some v := fun j v hj => by
  rw [← Point.row_fX h, List.getElem?_take] at hj
  split at hj
  · rwa [List.getElem?_drop] at hj
  · cases hj
theorem Point.row_fY {x : Point} (h : x.ok) : (x.cells.drop 32).take 32 = bytesV x.fY := by simp [Point.cells, bytesV, h.l_fX, h.l_fY, List.drop_append, List.take_append, List.drop_of_length_le, List.take_of_length_le]
theorem Point.rl_fY {x : Point} (h : x.ok) : (bytesV x.fY).length = 32 := by simp [bytesV, h.l_fY]
theorem Point.upd_fY {x : Point} (h : x.ok) (l : List UInt8) (hl : l.length = 32) : upd x.cells 32 (bytesV l) = ({ x with fY := l }).cells := by
  simp [upd, Point.cells, bytesV, h.l_fX, h.l_fY, hl, List.drop_append, List.take_append, List.drop_of_length_le, List.take_of_length_le]
theorem Point.see_fY {x : Point} (h : x.ok) : ∀ (j : Nat) (v : Value), (bytesV x.fY)[j]? = some v → x.cells[32 + j]? = some v := fun j v hj => by
  rw [← Point.row_fY h, List.getElem?_take] at hj
  split at hj
  · rwa [List.getElem?_drop] at hj
  · cases hj
def Point.zero : Point := ⟨List.replicate 32 0, List.replicate 32 0⟩
theorem Point.zero_ok : Point.zero.ok := by constructor <;> simp [Point.zero]
theorem Point.zr : Zr Tryz.prog 79 (agg Point.zero.cells) := by unfold Zr; kernel_rfl
theorem Point.eqq {x y : Point} (hx : x.ok) (hy : y.ok) (w : World) : (Op.equalIn 10000 79 (agg x.cells) (agg y.cells)).run Tryz.prog w = .ok (decide (x.fX = y.fX) && (decide (x.fY = y.fY) && (true))) w := by
  rw [show (10000 : Nat) = 9999 + 1 from rfl, run_equalIn_struct w 9999 79 x.cells.toArray y.cells.toArray (by kernel_rfl) (by kernel_rfl)]
  exact (eqFields_step dE (run_partN Tryz.underlying77 rfl Sz77 (Point.row_fX hx)) (run_partN Tryz.underlying77 rfl Sz77 (Point.row_fX hy)) (eq_bytesA Tryz.underlying77 Tryz.underlying5 Sz5 hx.l_fX hy.l_fX) (eqFields_step dE (run_partN Tryz.underlying77 rfl Sz77 (Point.row_fY hx)) (run_partN Tryz.underlying77 rfl Sz77 (Point.row_fY hy)) (eq_bytesA Tryz.underlying77 Tryz.underlying5 Sz5 hx.l_fY hy.l_fY) eqFields_nil))
theorem Point.eq_run {x y : Point} (hx : x.ok) (hy : y.ok) (w : World) [Decidable (x = y)] : (Op.equalIn 10000 79 (agg x.cells) (agg y.cells)).run Tryz.prog w = .ok (decide (x = y)) w := by
  rw [Point.eqq hx hy]
  congr 1
  obtain ⟨x0, x1⟩ := x
  obtain ⟨y0, y1⟩ := y
  rw [Bool.eq_iff_iff]
  simp only [Bool.and_eq_true, decide_eq_true_eq, Point.mk.injEq, and_true]
theorem Point.eq_runC {x y : Point} (hx : x.ok) (hy : y.ok) (w : World) : (Op.equalIn 10000 79 (agg x.cells) (agg y.cells)).run Tryz.prog w = .ok (@decide (x = y) (Classical.propDecidable (x = y))) w := @Point.eq_run x y hx hy w (Classical.propDecidable (x = y))
theorem Point.eg : Tryz.prog.eqGuardType Tryz.prog.depth 79 = false := by kernel_rfl
structure wide where
  fX : List UInt8
  fY : List UInt8
  fZ : List UInt8
  fT : List UInt8
def wide.cells (x : wide) : List Value := bytesV x.fX ++ (bytesV x.fY ++ (bytesV x.fZ ++ (bytesV x.fT)))
structure wide.ok (x : wide) : Prop where
  l_fX : x.fX.length = 32
  l_fY : x.fY.length = 32
  l_fZ : x.fZ.length = 32
  l_fT : x.fT.length = 32
theorem wide.length {x : wide} (h : x.ok) : x.cells.length = 128 := by simp [wide.cells, bytesV, h.l_fX, h.l_fY, h.l_fZ, h.l_fT]
theorem wide.isCell {x : wide} (h : x.ok) : ∀ u ∈ x.cells, isCell u = true := by
  intro u hu
  simp only [wide.cells, List.mem_append, List.mem_singleton, bytesV, List.mem_map] at hu
  rcases hu with ⟨_, _, rfl⟩ | ⟨_, _, rfl⟩ | ⟨_, _, rfl⟩ | ⟨_, _, rfl⟩ <;> rfl
theorem wide.row_fX {x : wide} (h : x.ok) : (x.cells.drop 0).take 32 = bytesV x.fX := by simp [wide.cells, bytesV, h.l_fX, h.l_fY, h.l_fZ, h.l_fT, List.drop_append, List.take_append, List.drop_of_length_le, List.take_of_length_le]
theorem wide.rl_fX {x : wide} (h : x.ok) : (bytesV x.fX).length = 32 := by simp [bytesV, h.l_fX]
theorem wide.upd_fX {x : wide} (h : x.ok) (l : List UInt8) (hl : l.length = 32) : upd x.cells 0 (bytesV l) = ({ x with fX := l }).cells := by
  simp [upd, wide.cells, bytesV, h.l_fX, h.l_fY, h.l_fZ, h.l_fT, hl, List.drop_append, List.take_append, List.drop_of_length_le, List.take_of_length_le]
theorem wide.see_fX {x : wide} (h : x.ok) : ∀ (j : Nat) (v : Value), (bytesV x.fX)[j]? = some v → x.cells[0 + j]? = some v := fun j v hj => by
  rw [← wide.row_fX h, List.getElem?_take] at hj
  split at hj
  · rwa [List.getElem?_drop] at hj
  · cases hj
theorem wide.row_fY {x : wide} (h : x.ok) : (x.cells.drop 32).take 32 = bytesV x.fY := by simp [wide.cells, bytesV, h.l_fX, h.l_fY, h.l_fZ, h.l_fT, List.drop_append, List.take_append, List.drop_of_length_le, List.take_of_length_le]
theorem wide.rl_fY {x : wide} (h : x.ok) : (bytesV x.fY).length = 32 := by simp [bytesV, h.l_fY]
theorem wide.upd_fY {x : wide} (h : x.ok) (l : List UInt8) (hl : l.length = 32) : upd x.cells 32 (bytesV l) = ({ x with fY := l }).cells := by
  simp [upd, wide.cells, bytesV, h.l_fX, h.l_fY, h.l_fZ, h.l_fT, hl, List.drop_append, List.take_append, List.drop_of_length_le, List.take_of_length_le]
theorem wide.see_fY {x : wide} (h : x.ok) : ∀ (j : Nat) (v : Value), (bytesV x.fY)[j]? = some v → x.cells[32 + j]? = some v := fun j v hj => by
  rw [← wide.row_fY h, List.getElem?_take] at hj
  split at hj
  · rwa [List.getElem?_drop] at hj
  · cases hj
theorem wide.row_fZ {x : wide} (h : x.ok) : (x.cells.drop 64).take 32 = bytesV x.fZ := by simp [wide.cells, bytesV, h.l_fX, h.l_fY, h.l_fZ, h.l_fT, List.drop_append, List.take_append, List.drop_of_length_le, List.take_of_length_le]
theorem wide.rl_fZ {x : wide} (h : x.ok) : (bytesV x.fZ).length = 32 := by simp [bytesV, h.l_fZ]
theorem wide.upd_fZ {x : wide} (h : x.ok) (l : List UInt8) (hl : l.length = 32) : upd x.cells 64 (bytesV l) = ({ x with fZ := l }).cells := by
  simp [upd, wide.cells, bytesV, h.l_fX, h.l_fY, h.l_fZ, h.l_fT, hl, List.drop_append, List.take_append, List.drop_of_length_le, List.take_of_length_le]
theorem wide.see_fZ {x : wide} (h : x.ok) : ∀ (j : Nat) (v : Value), (bytesV x.fZ)[j]? = some v → x.cells[64 + j]? = some v := fun j v hj => by
  rw [← wide.row_fZ h, List.getElem?_take] at hj
  split at hj
  · rwa [List.getElem?_drop] at hj
  · cases hj
theorem wide.row_fT {x : wide} (h : x.ok) : (x.cells.drop 96).take 32 = bytesV x.fT := by simp [wide.cells, bytesV, h.l_fX, h.l_fY, h.l_fZ, h.l_fT, List.drop_append, List.take_append, List.drop_of_length_le, List.take_of_length_le]
theorem wide.rl_fT {x : wide} (h : x.ok) : (bytesV x.fT).length = 32 := by simp [bytesV, h.l_fT]
theorem wide.upd_fT {x : wide} (h : x.ok) (l : List UInt8) (hl : l.length = 32) : upd x.cells 96 (bytesV l) = ({ x with fT := l }).cells := by
  simp [upd, wide.cells, bytesV, h.l_fX, h.l_fY, h.l_fZ, h.l_fT, hl, List.drop_append, List.take_append, List.drop_of_length_le, List.take_of_length_le]
theorem wide.see_fT {x : wide} (h : x.ok) : ∀ (j : Nat) (v : Value), (bytesV x.fT)[j]? = some v → x.cells[96 + j]? = some v := fun j v hj => by
  rw [← wide.row_fT h, List.getElem?_take] at hj
  split at hj
  · rwa [List.getElem?_drop] at hj
  · cases hj
def wide.zero : wide := ⟨List.replicate 32 0, List.replicate 32 0, List.replicate 32 0, List.replicate 32 0⟩
theorem wide.zero_ok : wide.zero.ok := by constructor <;> simp [wide.zero]
theorem wide.zr : Zr Tryz.prog 168 (agg wide.zero.cells) := by unfold Zr; kernel_rfl
theorem wide.eqq {x y : wide} (hx : x.ok) (hy : y.ok) (w : World) : (Op.equalIn 10000 168 (agg x.cells) (agg y.cells)).run Tryz.prog w = .ok (decide (x.fX = y.fX) && (decide (x.fY = y.fY) && (decide (x.fZ = y.fZ) && (decide (x.fT = y.fT) && (true))))) w := by
  rw [show (10000 : Nat) = 9999 + 1 from rfl, run_equalIn_struct w 9999 168 x.cells.toArray y.cells.toArray (by kernel_rfl) (by kernel_rfl)]
  exact (eqFields_step dE (run_partN Tryz.underlying77 rfl Sz77 (wide.row_fX hx)) (run_partN Tryz.underlying77 rfl Sz77 (wide.row_fX hy)) (eq_bytesA Tryz.underlying77 Tryz.underlying5 Sz5 hx.l_fX hy.l_fX) (eqFields_step dE (run_partN Tryz.underlying77 rfl Sz77 (wide.row_fY hx)) (run_partN Tryz.underlying77 rfl Sz77 (wide.row_fY hy)) (eq_bytesA Tryz.underlying77 Tryz.underlying5 Sz5 hx.l_fY hy.l_fY) (eqFields_step dE (run_partN Tryz.underlying77 rfl Sz77 (wide.row_fZ hx)) (run_partN Tryz.underlying77 rfl Sz77 (wide.row_fZ hy)) (eq_bytesA Tryz.underlying77 Tryz.underlying5 Sz5 hx.l_fZ hy.l_fZ) (eqFields_step dE (run_partN Tryz.underlying77 rfl Sz77 (wide.row_fT hx)) (run_partN Tryz.underlying77 rfl Sz77 (wide.row_fT hy)) (eq_bytesA Tryz.underlying77 Tryz.underlying5 Sz5 hx.l_fT hy.l_fT) eqFields_nil))))
theorem wide.eq_run {x y : wide} (hx : x.ok) (hy : y.ok) (w : World) [Decidable (x = y)] : (Op.equalIn 10000 168 (agg x.cells) (agg y.cells)).run Tryz.prog w = .ok (decide (x = y)) w := by
  rw [wide.eqq hx hy]
  congr 1
  obtain ⟨x0, x1, x2, x3⟩ := x
  obtain ⟨y0, y1, y2, y3⟩ := y
  rw [Bool.eq_iff_iff]
  simp only [Bool.and_eq_true, decide_eq_true_eq, wide.mk.injEq, and_true]
theorem wide.eq_runC {x y : wide} (hx : x.ok) (hy : y.ok) (w : World) : (Op.equalIn 10000 168 (agg x.cells) (agg y.cells)).run Tryz.prog w = .ok (@decide (x = y) (Classical.propDecidable (x = y))) w := @wide.eq_run x y hx hy w (Classical.propDecidable (x = y))
theorem wide.eg : Tryz.prog.eqGuardType Tryz.prog.depth 168 = false := by kernel_rfl
structure secrets where
  fNumber : List UInt8
  fRest : List UInt8
def secrets.cells (x : secrets) : List Value := bytesV x.fNumber ++ (bytesV x.fRest)
structure secrets.ok (x : secrets) : Prop where
  l_fNumber : x.fNumber.length = 32
  l_fRest : x.fRest.length = 32
theorem secrets.length {x : secrets} (h : x.ok) : x.cells.length = 64 := by simp [secrets.cells, bytesV, h.l_fNumber, h.l_fRest]
theorem secrets.isCell {x : secrets} (h : x.ok) : ∀ u ∈ x.cells, isCell u = true := by
  intro u hu
  simp only [secrets.cells, List.mem_append, List.mem_singleton, bytesV, List.mem_map] at hu
  rcases hu with ⟨_, _, rfl⟩ | ⟨_, _, rfl⟩ <;> rfl
theorem secrets.row_fNumber {x : secrets} (h : x.ok) : (x.cells.drop 0).take 32 = bytesV x.fNumber := by simp [secrets.cells, bytesV, h.l_fNumber, h.l_fRest, List.drop_append, List.take_append, List.drop_of_length_le, List.take_of_length_le]
theorem secrets.rl_fNumber {x : secrets} (h : x.ok) : (bytesV x.fNumber).length = 32 := by simp [bytesV, h.l_fNumber]
theorem secrets.upd_fNumber {x : secrets} (h : x.ok) (l : List UInt8) (hl : l.length = 32) : upd x.cells 0 (bytesV l) = ({ x with fNumber := l }).cells := by
  simp [upd, secrets.cells, bytesV, h.l_fNumber, h.l_fRest, hl, List.drop_append, List.take_append, List.drop_of_length_le, List.take_of_length_le]
theorem secrets.row_fRest {x : secrets} (h : x.ok) : (x.cells.drop 32).take 32 = bytesV x.fRest := by simp [secrets.cells, bytesV, h.l_fNumber, h.l_fRest, List.drop_append, List.take_append, List.drop_of_length_le, List.take_of_length_le]
theorem secrets.upd_fRest {x : secrets} (h : x.ok) (l : List UInt8) (hl : l.length = 32) : upd x.cells 32 (bytesV l) = ({ x with fRest := l }).cells := by
  simp [upd, secrets.cells, bytesV, h.l_fNumber, h.l_fRest, hl, List.drop_append, List.take_append, List.drop_of_length_le, List.take_of_length_le]
theorem secrets.see_fRest {x : secrets} (h : x.ok) : ∀ (j : Nat) (v : Value), (bytesV x.fRest)[j]? = some v → x.cells[32 + j]? = some v := fun j v hj => by
  rw [← secrets.row_fRest h, List.getElem?_take] at hj
  split at hj
  · rwa [List.getElem?_drop] at hj
  · cases hj
def secrets.zero : secrets := ⟨List.replicate 32 0, List.replicate 32 0⟩
theorem secrets.zero_ok : secrets.zero.ok := by constructor <;> simp [secrets.zero]
theorem secrets.zr : Zr Tryz.prog 114 (agg secrets.zero.cells) := by unfold Zr; kernel_rfl
theorem secrets.eqq {x y : secrets} (hx : x.ok) (hy : y.ok) (w : World) : (Op.equalIn 10000 114 (agg x.cells) (agg y.cells)).run Tryz.prog w = .ok (decide (x.fNumber = y.fNumber) && (decide (x.fRest = y.fRest) && (true))) w := by
  rw [show (10000 : Nat) = 9999 + 1 from rfl, run_equalIn_struct w 9999 114 x.cells.toArray y.cells.toArray (by kernel_rfl) (by kernel_rfl)]
  exact (eqFields_step dE (run_partN Tryz.underlying77 rfl Sz77 (secrets.row_fNumber hx)) (run_partN Tryz.underlying77 rfl Sz77 (secrets.row_fNumber hy)) (eq_bytesA Tryz.underlying77 Tryz.underlying5 Sz5 hx.l_fNumber hy.l_fNumber) (eqFields_step dE (run_partN Tryz.underlying23 rfl Sz23 (secrets.row_fRest hx)) (run_partN Tryz.underlying23 rfl Sz23 (secrets.row_fRest hy)) (eq_bytesA Tryz.underlying23 Tryz.underlying5 Sz5 hx.l_fRest hy.l_fRest) eqFields_nil))
theorem secrets.eq_run {x y : secrets} (hx : x.ok) (hy : y.ok) (w : World) [Decidable (x = y)] : (Op.equalIn 10000 114 (agg x.cells) (agg y.cells)).run Tryz.prog w = .ok (decide (x = y)) w := by
  rw [secrets.eqq hx hy]
  congr 1
  obtain ⟨x0, x1⟩ := x
  obtain ⟨y0, y1⟩ := y
  rw [Bool.eq_iff_iff]
  simp only [Bool.and_eq_true, decide_eq_true_eq, secrets.mk.injEq, and_true]
theorem secrets.eq_runC {x y : secrets} (hx : x.ok) (hy : y.ok) (w : World) : (Op.equalIn 10000 114 (agg x.cells) (agg y.cells)).run Tryz.prog w = .ok (@decide (x = y) (Classical.propDecidable (x = y))) w := @secrets.eq_run x y hx hy w (Classical.propDecidable (x = y))
theorem secrets.eg : Tryz.prog.eqGuardType Tryz.prog.depth 114 = false := by kernel_rfl
end Go.Proofs.YtpacobmjjjillaaGreat
end

section
namespace Go.Proofs.YtpacobmjjjillaaGreat
open Go Hw
set_option linter.unusedVariables false
set_option linter.unusedSimpArgs false

def cmpI (a b : Int) : Int := if a < b then -1 else if b < a then 1 else 0
def orI : List Int → Int
  | [] => 0
  | x :: l => if x = 0 then orI l else x
theorem orI_drop (xs : List Int) (k : Nat) (hk : k < xs.length) : orI (xs.drop k) = if xs.getD k 0 = 0 then orI (xs.drop (k + 1)) else xs.getD k 0 := by
  rw [List.drop_eq_getElem_cons hk, orI]
  simp [List.getD, hk]

set_option maxRecDepth 100000 in
set_option maxHeartbeats 1000000 in
theorem nan_uint64 (x : UInt64) : Meets Tryz.prog 144 [u64 x] [] (fun _ => True) (fun v out => v = .bool false ∧ out = []) := by
 intro W hW
 refine calls_of (hp0 := []) Tryz.func144 rfl 6 Tryz.ntmps144 rfl (HRep.nil _) ?_
 refine Sat.seq (Sat.region ?_)
 refine Tr.assign rfl rfl rfl ?_
 refine Tr.nil (at_n (Sat.seq (Sat.region ?_)))
 refine Tr.move rfl rfl rfl ?_
 refine Tr.move rfl rfl rfl ?_
 refine Tr.nei rfl rfl rfl rfl (show (!decide _) = false from congrArg not (decide_eq_true (rfl))) ?_
 refine Tr.assign rfl rfl rfl ?_
 refine Tr.nil (at_n (Sat.ret (en_r ?_)))
 refine ⟨_, [], res_tmp rfl rfl, sP, sP, ?_, rfl⟩
 rfl

set_option maxRecDepth 100000 in
set_option maxHeartbeats 1000000 in
theorem cmp_uint64 (x y : UInt64) : Meets Tryz.prog 82 [u64 x, u64 y] [] (fun _ => True) (fun v out => v = i64 (cmpI (x.toNat : Int) (y.toNat : Int)) ∧ out = []) := by
 intro W hW
 refine calls_of (hp0 := []) Tryz.func82 rfl 20 Tryz.ntmps82 rfl (HRep.nil _) ?_
 refine Sat.seq (Sat.region ?_)
 refine Tr.assign rfl rfl rfl ?_
 refine Tr.nil (at_n (Sat.seq (Sat.region ?_)))
 refine Tr.move rfl rfl rfl ?_
 refine Tr.callV rfl rfl rfl rfl Body144 (nan_uint64 _) (fun _ _ => trivial) ?_
 refine Tr.assign rfl rfl rfl ?_
 refine Tr.nil (at_n (Sat.seq (Sat.region ?_)))
 refine Tr.move rfl rfl rfl ?_
 refine Tr.callV rfl rfl rfl rfl Body144 (nan_uint64 _) (fun _ _ => trivial) ?_
 refine Tr.assign rfl rfl rfl ?_
 refine Tr.nil (at_n (Sat.seq (Sat.seq (Sat.region ?_))))
 refine Tr.move rfl rfl rfl ?_
 refine Tr.nil (at_n ?_)
 refine Sat.cond_f rfl (rfl) ?_
 refine Sat.skip (at_n (Sat.seq (Sat.seq (Sat.region ?_))))
 refine Tr.move rfl rfl rfl ?_
 refine Tr.nil (at_n ?_)
 refine Sat.cond_f rfl (rfl) ?_
 refine Sat.skip (at_n (Sat.seq (Sat.seq (Sat.region ?_))))
 refine Tr.move rfl rfl rfl ?_
 refine Tr.move rfl rfl rfl ?_
 refine Tr.lss rfl rfl rfl rfl rfl ?_
 refine Tr.nil (at_n ?_)
 refine Sat.condP rfl (fun hc3 => ?_) (fun hc3 => ?_)
 ·
  refine Sat.seq (Sat.region ?_)
  refine Tr.assign rfl rfl rfl ?_
  refine Tr.nil (at_n (Sat.ret (at_r (en_r ?_))))
  refine ⟨_, [], res_tmp rfl rfl, sP, sP, ?_, rfl⟩
  simp [cmpI, *]
 ·
  refine Sat.skip (at_n (Sat.seq (Sat.seq (Sat.region ?_))))
  refine Tr.move rfl rfl rfl ?_
  refine Tr.move rfl rfl rfl ?_
  refine Tr.gtr rfl rfl rfl rfl rfl ?_
  refine Tr.nil (at_n ?_)
  refine Sat.condP rfl (fun hc4 => ?_) (fun hc4 => ?_)
  ·
   refine Sat.seq (Sat.region ?_)
   refine Tr.assign rfl rfl rfl ?_
   refine Tr.nil (at_n (Sat.ret (at_r (en_r ?_))))
   refine ⟨_, [], res_tmp rfl rfl, sP, sP, ?_, rfl⟩
   simp [cmpI, *]
  ·
   refine Sat.skip (at_n (Sat.seq (Sat.region ?_)))
   refine Tr.assign rfl rfl rfl ?_
   refine Tr.nil (at_n (Sat.ret (en_r ?_)))
   refine ⟨_, [], res_tmp rfl rfl, sP, sP, ?_, rfl⟩
   simp [cmpI, *]

set_option maxRecDepth 100000 in
set_option maxHeartbeats 1000000 in
theorem nan_int (x : Int) : Meets Tryz.prog 145 [i64 x] [] (fun _ => True) (fun v out => v = .bool false ∧ out = []) := by
 intro W hW
 refine calls_of (hp0 := []) Tryz.func145 rfl 6 Tryz.ntmps145 rfl (HRep.nil _) ?_
 refine Sat.seq (Sat.region ?_)
 refine Tr.assign rfl rfl rfl ?_
 refine Tr.nil (at_n (Sat.seq (Sat.region ?_)))
 refine Tr.move rfl rfl rfl ?_
 refine Tr.move rfl rfl rfl ?_
 refine Tr.nei rfl rfl rfl rfl (show (!decide _) = false from congrArg not (decide_eq_true (rfl))) ?_
 refine Tr.assign rfl rfl rfl ?_
 refine Tr.nil (at_n (Sat.ret (en_r ?_)))
 refine ⟨_, [], res_tmp rfl rfl, sP, sP, ?_, rfl⟩
 rfl

set_option maxRecDepth 100000 in
set_option maxHeartbeats 1000000 in
theorem cmp_int (x y : Int) : Meets Tryz.prog 83 [i64 x, i64 y] [] (fun _ => True) (fun v out => v = i64 (cmpI x y) ∧ out = []) := by
 intro W hW
 refine calls_of (hp0 := []) Tryz.func83 rfl 20 Tryz.ntmps83 rfl (HRep.nil _) ?_
 refine Sat.seq (Sat.region ?_)
 refine Tr.assign rfl rfl rfl ?_
 refine Tr.nil (at_n (Sat.seq (Sat.region ?_)))
 refine Tr.move rfl rfl rfl ?_
 refine Tr.callV rfl rfl rfl rfl Body145 (nan_int _) (fun _ _ => trivial) ?_
 refine Tr.assign rfl rfl rfl ?_
 refine Tr.nil (at_n (Sat.seq (Sat.region ?_)))
 refine Tr.move rfl rfl rfl ?_
 refine Tr.callV rfl rfl rfl rfl Body145 (nan_int _) (fun _ _ => trivial) ?_
 refine Tr.assign rfl rfl rfl ?_
 refine Tr.nil (at_n (Sat.seq (Sat.seq (Sat.region ?_))))
 refine Tr.move rfl rfl rfl ?_
 refine Tr.nil (at_n ?_)
 refine Sat.cond_f rfl (rfl) ?_
 refine Sat.skip (at_n (Sat.seq (Sat.seq (Sat.region ?_))))
 refine Tr.move rfl rfl rfl ?_
 refine Tr.nil (at_n ?_)
 refine Sat.cond_f rfl (rfl) ?_
 refine Sat.skip (at_n (Sat.seq (Sat.seq (Sat.region ?_))))
 refine Tr.move rfl rfl rfl ?_
 refine Tr.move rfl rfl rfl ?_
 refine Tr.lss rfl rfl rfl rfl rfl ?_
 refine Tr.nil (at_n ?_)
 first
  | refine Sat.condP rfl (fun hc3 => ?_) (fun hc3 => ?_)
  | refine Sat.condNP rfl (fun hc3 => ?_) (fun hc3 => ?_)
  | refine Sat.cond rfl (fun hc3 => ?_) (fun hc3 => ?_)
 ·
  refine Sat.seq (Sat.region ?_)
  refine Tr.assign rfl rfl rfl ?_
  refine Tr.nil (at_n (Sat.ret (at_r (en_r ?_))))
  refine ⟨_, [], res_tmp rfl rfl, sP, sP, ?_, rfl⟩
  simp [cmpI, *]
 ·
  refine Sat.skip (at_n (Sat.seq (Sat.seq (Sat.region ?_))))
  refine Tr.move rfl rfl rfl ?_
  refine Tr.move rfl rfl rfl ?_
  refine Tr.gtr rfl rfl rfl rfl rfl ?_
  refine Tr.nil (at_n ?_)
  first
   | refine Sat.condP rfl (fun hc4 => ?_) (fun hc4 => ?_)
   | refine Sat.condNP rfl (fun hc4 => ?_) (fun hc4 => ?_)
   | refine Sat.cond rfl (fun hc4 => ?_) (fun hc4 => ?_)
  ·
   refine Sat.seq (Sat.region ?_)
   refine Tr.assign rfl rfl rfl ?_
   refine Tr.nil (at_n (Sat.ret (at_r (en_r ?_))))
   refine ⟨_, [], res_tmp rfl rfl, sP, sP, ?_, rfl⟩
   simp [cmpI, *]
  ·
   refine Sat.skip (at_n (Sat.seq (Sat.region ?_)))
   refine Tr.assign rfl rfl rfl ?_
   refine Tr.nil (at_n (Sat.ret (en_r ?_)))
   refine ⟨_, [], res_tmp rfl rfl, sP, sP, ?_, rfl⟩
   simp [cmpI, *]

set_option maxRecDepth 100000 in
set_option maxHeartbeats 1000000 in
theorem cmp_or (b o c n : Nat) (xs : List Int) (hx : xs.length = n) (hn : n ≤ 1000000) : Meets Tryz.prog 85 [.slice (some ⟨b, o, none⟩) n c] [] (fun W => Sees W b o (intsV xs)) (fun v out => v = i64 (orI xs) ∧ out = []) := by
 intro W hW
 refine calls_of (hp0 := []) Tryz.func85 rfl 18 Tryz.ntmps85 rfl (HRep.nil _) ?_
 refine Sat.seq (Sat.region ?_)
 refine Tr.assign rfl rfl rfl ?_
 refine Tr.nil (at_n (Sat.seq (Sat.region ?_)))
 refine Tr.assign rfl rfl rfl ?_
 refine Tr.nil (at_n (Sat.seq (Sat.seq (Sat.region ?_))))
 refine Tr.move rfl rfl rfl ?_
 refine Tr.lenSl rfl rfl rfl Tryz.underlying96 ?_
 refine Tr.move rfl rfl rfl ?_
 refine Tr.nil (at_n (Sat.block ?_))
 refine Sat.loop (ι := Nat) (fun k => ⟨[(3, i64 0), (6, .slice (some ⟨b, o, none⟩) n c), (7, i64 (n : Int)), (8, i64 (k : Int))], []⟩) (fun k => k ≤ n ∧ orI xs = orI (xs.drop k)) (fun k => n - k) (0) ?_ ?_ ?_
 · exact ⟨by omega, by rw [List.drop_zero]⟩
 · exact weak_of (wk1 rfl (wk1 rfl (wk1 rfl (wk1 rfl wk0)))) wh0 nD
 ·
  rintro k ⟨hk, ho⟩
  refine Sat.seq (Sat.region ?_)
  refine Tr.lss rfl rfl rfl rfl rfl ?_
  refine Tr.nil (at_n (Sat.seq ?_))
  first
   | refine Sat.condP rfl (fun hc0 => ?_) (fun hc0 => ?_)
   | refine Sat.condNP rfl (fun hc0 => ?_) (fun hc0 => ?_)
   | refine Sat.cond rfl (fun hc0 => ?_) (fun hc0 => ?_)
  ·
   have hk2 : k < n := by omega
   have hd := orI_drop xs k oM
   refine Sat.skip (at_n (Sat.seq (Sat.block (Sat.seq (Sat.region ?_)))))
   first
    | refine Tr.idxSl1 rfl rfl rfl rfl Tryz.underlying96 Sz3 _ rfl oM ?_
    | refine Tr.idxSlO rfl rfl rfl rfl Tryz.underlying96 Sz3 _ rfl oM ?_
    | refine Tr.idxSl1 rfl rfl rfl rfl Tryz.underlying96 Sz3 _ (toNat_back oM) oM ?_
    | refine Tr.idxSlO rfl rfl rfl rfl Tryz.underlying96 Sz3 _ (toNat_back oM) oM ?_
   refine Tr.loadE rfl rfl rfl Tryz.underlying3 rfl (by first | (simp; done) | (simp; exact hW.2.2) | (simp [Cx.with]; done) | (simp [Cx.with]; omega)) (hW _ _ (get_ints oM)) ?_
   refine Tr.assign rfl rfl rfl ?_
   refine Tr.nil (at_n (Sat.seq (Sat.region ?_)))
   refine Tr.move rfl rfl rfl ?_
   refine Tr.move rfl rfl rfl ?_
   refine Tr.nei rfl rfl rfl rfl rfl ?_
   refine Tr.nil (at_n ?_)
   first
    | refine Sat.condP rfl (fun hc1 => ?_) (fun hc1 => ?_)
    | refine Sat.condNP rfl (fun hc1 => ?_) (fun hc1 => ?_)
    | refine Sat.cond rfl (fun hc1 => ?_) (fun hc1 => ?_)
   ·
    refine Sat.seq (Sat.region ?_)
    refine Tr.move rfl rfl rfl ?_
    refine Tr.assign rfl rfl rfl ?_
    refine Tr.nil (at_n (Sat.ret (bl_r (at_r (at_r (bl_r (at_r (en_r ?_))))))))
    refine ⟨_, [], res_tmp rfl rfl, sP, sP, ?_, rfl⟩
    first
     | (rw [ho, hd, if_neg hc1])
     | (rw [ho, List.drop_of_length_le oM]; rfl)
   ·
    refine Sat.skip (bl_n (at_n (Sat.region ?_)))
    refine Tr.add_i64 rfl rfl rfl rfl oM ?_
    refine Tr.move rfl rfl rfl ?_
    refine Tr.nil (at_n ?_)
    exact ⟨k + 1, ⟨by omega, by rw [ho, hd, if_pos hc1]⟩, by omega, weak_of (wk1 rfl (wk1 rfl (wk1 rfl (wk1 rfl wk0)))) wh0 nD⟩
  ·
   obtain rfl : k = n := by omega
   refine Sat.exit (at_x (at_x (bl_h (at_n (Sat.seq (Sat.region ?_))))))
   refine Tr.move rfl rfl rfl ?_
   refine Tr.assign rfl rfl rfl ?_
   refine Tr.nil (at_n (Sat.ret (en_r ?_)))
   refine ⟨_, [], res_tmp rfl rfl, sP, sP, ?_, rfl⟩
   first
    | (rw [ho, hd, if_neg hc1])
    | (rw [ho, List.drop_of_length_le oM]; rfl)

theorem bytealg_run {w : World} {p q : Option Addr} {n m c1 c2 : Nat} {a b : List UInt8} (ha : a.length = n) (hb : b.length = m) (h1 : SeesP w p (bytesV a)) (h2 : SeesP w q (bytesV b)) :
    (callFunc 146 [.slice p n c1, .slice q m c2].toArray).run Tryz.prog w = .ok (.value (i64 (cmpB a b))) w := by
  rw [run_callFunc_extern Tryz.func146 (by kernel_rfl) (by kernel_rfl) (by kernel_rfl) (e := Extern.BytealgCompare.compare) (by kernel_rfl)]
  rw [show [Value.slice p n c1, Value.slice q m c2].toArray = #[.slice p n c1, .slice q m c2] from rfl, run_compareB ha hb h1 h2]
  rfl

set_option maxRecDepth 100000 in
set_option maxHeartbeats 1000000 in
theorem bytes_cmp (p q : Option Addr) (c1 c2 n m : Nat) (a b : List UInt8) (ha : a.length = n) (hb : b.length = m) : Meets Tryz.prog 84 [.slice p n c1, .slice q m c2] [] (fun W => SeesP W p (bytesV a) ∧ SeesP W q (bytesV b)) (fun v out => v = i64 (cmpB a b) ∧ out = []) := by
 intro W hW
 refine calls_of (hp0 := []) Tryz.func84 rfl 8 Tryz.ntmps84 rfl (HRep.nil _) ?_
 refine Sat.seq (Sat.region ?_)
 refine Tr.assign rfl rfl rfl ?_
 refine Tr.nil (at_n (Sat.seq (Sat.region ?_)))
 refine Tr.move rfl rfl rfl ?_
 refine Tr.move rfl rfl rfl ?_
 refine Tr.extL rfl rfl rfl rfl (fun w h => bytealg_run ha hb (seesP_ext h rfl hW.1) (seesP_ext h rfl hW.2)) ?_
 refine Tr.assign rfl rfl rfl ?_
 refine Tr.nil (at_n (Sat.ret (en_r ?_)))
 refine ⟨_, [], res_tmp rfl rfl, sP, sP, ?_, rfl⟩
 rfl

end Go.Proofs.YtpacobmjjjillaaGreat
end

section
namespace Go.Proofs.YtpacobmjjjillaaGreat
open Go Hw
set_option linter.unusedSimpArgs false
set_option linter.unusedVariables false
set_option maxRecDepth 100000
section
variable {H : Type} {enc : TypeId × Value → H} {W : World} {base : Nat} {sp : Nat → Bool} {held : Bool}
theorem Vote.openT {fuel : Nat} {cs : List Value} {y : DataW H × List MemPlace} (h : DataW.trod enc Tryz.prog W base sp held fuel 29 cs = some y) : ∃ x : Vote, x.ok ∧ cs = x.cells ∧ ((Lit.int .i64 x.fPhase).wf = true) := by
  obtain ⟨xs, n, _, _, h4, h5, h6⟩ := DataW.trod_struct Tryz.underlying29 h
  rw [show Tryz.prog.cellsOf 29 = 132 by kernel_rfl] at h4
  have c0 : Tryz.prog.cellsOf 22 = 1 := by kernel_rfl
  have c1 : Tryz.prog.cellsOf 22 = 1 := by kernel_rfl
  have c2 : Tryz.prog.cellsOf 3 = 1 := by kernel_rfl
  have c3 : Tryz.prog.cellsOf 24 = 32 := by kernel_rfl
  have c4 : Tryz.prog.cellsOf 22 = 1 := by kernel_rfl
  have c5 : Tryz.prog.cellsOf 25 = 32 := by kernel_rfl
  have c6 : Tryz.prog.cellsOf 27 = 64 := by kernel_rfl
  have g0 : DataW.trod enc Tryz.prog W base sp held n 22 ((cs.drop 0).take (Tryz.prog.cellsOf 22)) = some (xs[0]'(by rw [h5]; decide)) := by rw [← List.getElem?_eq_getElem]; exact h6 0 _ rfl
  rw [c0] at g0
  obtain ⟨a0, e0, _, w0⟩ := DataW.trod_int Tryz.underlying22 g0
  obtain ⟨v0, rfl⟩ := Hw.u64_back w0
  have g1 : DataW.trod enc Tryz.prog W base sp held n 22 ((cs.drop 1).take (Tryz.prog.cellsOf 22)) = some (xs[1]'(by rw [h5]; decide)) := by rw [← List.getElem?_eq_getElem]; exact h6 1 _ rfl
  rw [c1] at g1
  obtain ⟨a1, e1, _, w1⟩ := DataW.trod_int Tryz.underlying22 g1
  obtain ⟨v1, rfl⟩ := Hw.u64_back w1
  have g2 : DataW.trod enc Tryz.prog W base sp held n 3 ((cs.drop 2).take (Tryz.prog.cellsOf 3)) = some (xs[2]'(by rw [h5]; decide)) := by rw [← List.getElem?_eq_getElem]; exact h6 2 _ rfl
  rw [c2] at g2
  obtain ⟨v2, e2, _, w2⟩ := DataW.trod_int Tryz.underlying3 g2
  have g3 : DataW.trod enc Tryz.prog W base sp held n 24 ((cs.drop 3).take (Tryz.prog.cellsOf 24)) = some (xs[3]'(by rw [h5]; decide)) := by rw [← List.getElem?_eq_getElem]; exact h6 3 _ rfl
  rw [c3] at g3
  obtain ⟨v3, e3, l3⟩ := Hw.open_bytesT Tryz.underlying24 Tryz.underlying5 (by kernel_rfl) (by kernel_rfl) g3
  have g4 : DataW.trod enc Tryz.prog W base sp held n 22 ((cs.drop 35).take (Tryz.prog.cellsOf 22)) = some (xs[4]'(by rw [h5]; decide)) := by rw [← List.getElem?_eq_getElem]; exact h6 4 _ rfl
  rw [c4] at g4
  obtain ⟨a4, e4, _, w4⟩ := DataW.trod_int Tryz.underlying22 g4
  obtain ⟨v4, rfl⟩ := Hw.u64_back w4
  have g5 : DataW.trod enc Tryz.prog W base sp held n 25 ((cs.drop 36).take (Tryz.prog.cellsOf 25)) = some (xs[5]'(by rw [h5]; decide)) := by rw [← List.getElem?_eq_getElem]; exact h6 5 _ rfl
  rw [c5] at g5
  obtain ⟨v5, e5, l5⟩ := Hw.open_bytesT Tryz.underlying25 Tryz.underlying5 (by kernel_rfl) (by kernel_rfl) g5
  have g6 : DataW.trod enc Tryz.prog W base sp held n 27 ((cs.drop 68).take (Tryz.prog.cellsOf 27)) = some (xs[6]'(by rw [h5]; decide)) := by rw [← List.getElem?_eq_getElem]; exact h6 6 _ rfl
  rw [c6] at g6
  obtain ⟨v6, e6, l6⟩ := Hw.open_bytesT Tryz.underlying27 Tryz.underlying5 (by kernel_rfl) (by kernel_rfl) g6
  refine ⟨⟨v0, v1, v2, v3, v4, v5, v6⟩, ⟨l3, l5, l6⟩, ?_, w2⟩
  rw [← List.drop_zero (l := cs)]
  exact (Hw.cat 1 e0 rfl (Hw.cat 2 e1 rfl (Hw.cat 3 e2 rfl (Hw.cat 35 e3 rfl (Hw.cat 36 e4 rfl (Hw.cat 68 e5 rfl (Hw.cat_last e6 h4)))))))
end
section
variable {H : Type} {enc : TypeId × Value → H} {W : World} {base : Nat} {sp : Nat → Bool} {held : Bool}
theorem Block.openT {fuel : Nat} {cs : List Value} {y : DataW H × List MemPlace} (h : DataW.trod enc Tryz.prog W base sp held fuel 53 cs = some y) : ∃ x : Block, x.ok ∧ cs = x.cells ∧ (∃ ls, Hw.RowsAt W x.fLinks 32 ls) ∧ (∃ l, Hw.BytesAt W x.fData l) := by
  obtain ⟨xs, n, _, _, h4, h5, h6⟩ := DataW.trod_struct Tryz.underlying53 h
  rw [show Tryz.prog.cellsOf 53 = 131 by kernel_rfl] at h4
  have c0 : Tryz.prog.cellsOf 25 = 32 := by kernel_rfl
  have c1 : Tryz.prog.cellsOf 22 = 1 := by kernel_rfl
  have c2 : Tryz.prog.cellsOf 24 = 32 := by kernel_rfl
  have c3 : Tryz.prog.cellsOf 51 = 1 := by kernel_rfl
  have c4 : Tryz.prog.cellsOf 39 = 1 := by kernel_rfl
  have c5 : Tryz.prog.cellsOf 27 = 64 := by kernel_rfl
  have g0 : DataW.trod enc Tryz.prog W base sp held n 25 ((cs.drop 0).take (Tryz.prog.cellsOf 25)) = some (xs[0]'(by rw [h5]; decide)) := by rw [← List.getElem?_eq_getElem]; exact h6 0 _ rfl
  rw [c0] at g0
  obtain ⟨v0, e0, l0⟩ := Hw.open_bytesT Tryz.underlying25 Tryz.underlying5 (by kernel_rfl) (by kernel_rfl) g0
  have g1 : DataW.trod enc Tryz.prog W base sp held n 22 ((cs.drop 32).take (Tryz.prog.cellsOf 22)) = some (xs[1]'(by rw [h5]; decide)) := by rw [← List.getElem?_eq_getElem]; exact h6 1 _ rfl
  rw [c1] at g1
  obtain ⟨a1, e1, _, w1⟩ := DataW.trod_int Tryz.underlying22 g1
  obtain ⟨v1, rfl⟩ := Hw.u64_back w1
  have g2 : DataW.trod enc Tryz.prog W base sp held n 24 ((cs.drop 33).take (Tryz.prog.cellsOf 24)) = some (xs[2]'(by rw [h5]; decide)) := by rw [← List.getElem?_eq_getElem]; exact h6 2 _ rfl
  rw [c2] at g2
  obtain ⟨v2, e2, l2⟩ := Hw.open_bytesT Tryz.underlying24 Tryz.underlying5 (by kernel_rfl) (by kernel_rfl) g2
  have g3 : DataW.trod enc Tryz.prog W base sp held n 51 ((cs.drop 65).take (Tryz.prog.cellsOf 51)) = some (xs[3]'(by rw [h5]; decide)) := by rw [← List.getElem?_eq_getElem]; exact h6 3 _ rfl
  rw [c3] at g3
  obtain ⟨v3, b3, e3, q3⟩ := Hw.open_rowsS Tryz.underlying51 Tryz.underlying24 Tryz.underlying5 (by kernel_rfl) (by kernel_rfl) dE g3
  have g4 : DataW.trod enc Tryz.prog W base sp held n 39 ((cs.drop 66).take (Tryz.prog.cellsOf 39)) = some (xs[4]'(by rw [h5]; decide)) := by rw [← List.getElem?_eq_getElem]; exact h6 4 _ rfl
  rw [c4] at g4
  obtain ⟨v4, b4, e4, q4⟩ := Hw.open_bytesS Tryz.underlying39 Tryz.underlying5 (by kernel_rfl) g4
  have g5 : DataW.trod enc Tryz.prog W base sp held n 27 ((cs.drop 67).take (Tryz.prog.cellsOf 27)) = some (xs[5]'(by rw [h5]; decide)) := by rw [← List.getElem?_eq_getElem]; exact h6 5 _ rfl
  rw [c5] at g5
  obtain ⟨v5, e5, l5⟩ := Hw.open_bytesT Tryz.underlying27 Tryz.underlying5 (by kernel_rfl) (by kernel_rfl) g5
  refine ⟨⟨v0, v1, v2, v3, v4, v5⟩, ⟨l0, l2, l5⟩, ?_, ⟨b3, q3⟩, ⟨b4, q4⟩⟩
  rw [← List.drop_zero (l := cs)]
  exact (Hw.cat 32 e0 rfl (Hw.cat 33 e1 rfl (Hw.cat 65 e2 rfl (Hw.cat 66 e3 rfl (Hw.cat 67 e4 rfl (Hw.cat_last e5 h4))))))
end
-- no opening of Reader (field fSelf)
section
variable {H : Type} {enc : TypeId × Value → H} {W : World} {base : Nat} {sp : Nat → Bool} {held : Bool}
theorem Point.openT {fuel : Nat} {cs : List Value} {y : DataW H × List MemPlace} (h : DataW.trod enc Tryz.prog W base sp held fuel 79 cs = some y) : ∃ x : Point, x.ok ∧ cs = x.cells ∧ True := by
  obtain ⟨xs, n, _, _, h4, h5, h6⟩ := DataW.trod_struct Tryz.underlying79 h
  rw [show Tryz.prog.cellsOf 79 = 64 by kernel_rfl] at h4
  have c0 : Tryz.prog.cellsOf 77 = 32 := by kernel_rfl
  have c1 : Tryz.prog.cellsOf 77 = 32 := by kernel_rfl
  have g0 : DataW.trod enc Tryz.prog W base sp held n 77 ((cs.drop 0).take (Tryz.prog.cellsOf 77)) = some (xs[0]'(by rw [h5]; decide)) := by rw [← List.getElem?_eq_getElem]; exact h6 0 _ rfl
  rw [c0] at g0
  obtain ⟨v0, e0, l0⟩ := Hw.open_bytesT Tryz.underlying77 Tryz.underlying5 (by kernel_rfl) (by kernel_rfl) g0
  have g1 : DataW.trod enc Tryz.prog W base sp held n 77 ((cs.drop 32).take (Tryz.prog.cellsOf 77)) = some (xs[1]'(by rw [h5]; decide)) := by rw [← List.getElem?_eq_getElem]; exact h6 1 _ rfl
  rw [c1] at g1
  obtain ⟨v1, e1, l1⟩ := Hw.open_bytesT Tryz.underlying77 Tryz.underlying5 (by kernel_rfl) (by kernel_rfl) g1
  refine ⟨⟨v0, v1⟩, ⟨l0, l1⟩, ?_, trivial⟩
  rw [← List.drop_zero (l := cs)]
  exact (Hw.cat 32 e0 rfl (Hw.cat_last e1 h4))
end
section
variable {H : Type} {enc : TypeId × Value → H} {W : World} {base : Nat} {sp : Nat → Bool} {held : Bool}
theorem wide.openT {fuel : Nat} {cs : List Value} {y : DataW H × List MemPlace} (h : DataW.trod enc Tryz.prog W base sp held fuel 168 cs = some y) : ∃ x : wide, x.ok ∧ cs = x.cells ∧ True := by
  obtain ⟨xs, n, _, _, h4, h5, h6⟩ := DataW.trod_struct Tryz.underlying168 h
  rw [show Tryz.prog.cellsOf 168 = 128 by kernel_rfl] at h4
  have c0 : Tryz.prog.cellsOf 77 = 32 := by kernel_rfl
  have c1 : Tryz.prog.cellsOf 77 = 32 := by kernel_rfl
  have c2 : Tryz.prog.cellsOf 77 = 32 := by kernel_rfl
  have c3 : Tryz.prog.cellsOf 77 = 32 := by kernel_rfl
  have g0 : DataW.trod enc Tryz.prog W base sp held n 77 ((cs.drop 0).take (Tryz.prog.cellsOf 77)) = some (xs[0]'(by rw [h5]; decide)) := by rw [← List.getElem?_eq_getElem]; exact h6 0 _ rfl
  rw [c0] at g0
  obtain ⟨v0, e0, l0⟩ := Hw.open_bytesT Tryz.underlying77 Tryz.underlying5 (by kernel_rfl) (by kernel_rfl) g0
  have g1 : DataW.trod enc Tryz.prog W base sp held n 77 ((cs.drop 32).take (Tryz.prog.cellsOf 77)) = some (xs[1]'(by rw [h5]; decide)) := by rw [← List.getElem?_eq_getElem]; exact h6 1 _ rfl
  rw [c1] at g1
  obtain ⟨v1, e1, l1⟩ := Hw.open_bytesT Tryz.underlying77 Tryz.underlying5 (by kernel_rfl) (by kernel_rfl) g1
  have g2 : DataW.trod enc Tryz.prog W base sp held n 77 ((cs.drop 64).take (Tryz.prog.cellsOf 77)) = some (xs[2]'(by rw [h5]; decide)) := by rw [← List.getElem?_eq_getElem]; exact h6 2 _ rfl
  rw [c2] at g2
  obtain ⟨v2, e2, l2⟩ := Hw.open_bytesT Tryz.underlying77 Tryz.underlying5 (by kernel_rfl) (by kernel_rfl) g2
  have g3 : DataW.trod enc Tryz.prog W base sp held n 77 ((cs.drop 96).take (Tryz.prog.cellsOf 77)) = some (xs[3]'(by rw [h5]; decide)) := by rw [← List.getElem?_eq_getElem]; exact h6 3 _ rfl
  rw [c3] at g3
  obtain ⟨v3, e3, l3⟩ := Hw.open_bytesT Tryz.underlying77 Tryz.underlying5 (by kernel_rfl) (by kernel_rfl) g3
  refine ⟨⟨v0, v1, v2, v3⟩, ⟨l0, l1, l2, l3⟩, ?_, trivial⟩
  rw [← List.drop_zero (l := cs)]
  exact (Hw.cat 32 e0 rfl (Hw.cat 64 e1 rfl (Hw.cat 96 e2 rfl (Hw.cat_last e3 h4))))
end
section
variable {H : Type} {enc : TypeId × Value → H} {W : World} {base : Nat} {sp : Nat → Bool} {held : Bool}
theorem secrets.openT {fuel : Nat} {cs : List Value} {y : DataW H × List MemPlace} (h : DataW.trod enc Tryz.prog W base sp held fuel 114 cs = some y) : ∃ x : secrets, x.ok ∧ cs = x.cells ∧ True := by
  obtain ⟨xs, n, _, _, h4, h5, h6⟩ := DataW.trod_struct Tryz.underlying114 h
  rw [show Tryz.prog.cellsOf 114 = 64 by kernel_rfl] at h4
  have c0 : Tryz.prog.cellsOf 77 = 32 := by kernel_rfl
  have c1 : Tryz.prog.cellsOf 23 = 32 := by kernel_rfl
  have g0 : DataW.trod enc Tryz.prog W base sp held n 77 ((cs.drop 0).take (Tryz.prog.cellsOf 77)) = some (xs[0]'(by rw [h5]; decide)) := by rw [← List.getElem?_eq_getElem]; exact h6 0 _ rfl
  rw [c0] at g0
  obtain ⟨v0, e0, l0⟩ := Hw.open_bytesT Tryz.underlying77 Tryz.underlying5 (by kernel_rfl) (by kernel_rfl) g0
  have g1 : DataW.trod enc Tryz.prog W base sp held n 23 ((cs.drop 32).take (Tryz.prog.cellsOf 23)) = some (xs[1]'(by rw [h5]; decide)) := by rw [← List.getElem?_eq_getElem]; exact h6 1 _ rfl
  rw [c1] at g1
  obtain ⟨v1, e1, l1⟩ := Hw.open_bytesT Tryz.underlying23 Tryz.underlying5 (by kernel_rfl) (by kernel_rfl) g1
  refine ⟨⟨v0, v1⟩, ⟨l0, l1⟩, ?_, trivial⟩
  rw [← List.drop_zero (l := cs)]
  exact (Hw.cat 32 e0 rfl (Hw.cat_last e1 h4))
end
end Go.Proofs.YtpacobmjjjillaaGreat
end

section
namespace Go.Proofs.YtpacobmjjjillaaGreat
open Go Hw
set_option linter.unusedVariables false
set_option linter.unusedSimpArgs false

def badAt (prev : List UInt8) (ls : List (List UInt8)) (i : Nat) : Bool := decide (ls.getD i [] = List.replicate 32 0) || (decide (ls.getD i [] = prev) || (decide ((0 : Int) < (i : Int)) && decide ((0 : Int) ≤ cmpB (ls.getD (i - 1) []) (ls.getD i []))))
def linksBad (prev : List UInt8) (ls : List (List UInt8)) : Bool := (List.range ls.length).any (badAt prev ls)
def bheadB (B : Block) : Bool := decide ((4294967295 : Int) < (B.fSeq.toNat : Int)) || (!decide (decide (B.fPrev = List.replicate 32 0) = decide ((B.fSeq.toNat : Int) = 0)) || (decide ((16 : Int) < (B.fLinks.n : Int)) || decide ((512 : Int) < (B.fData.n : Int))))
def bcheck (B : Block) (ls : List (List UInt8)) : Int := if bheadB B = true then 2 else (if linksBad B.fPrev ls = true then 2 else 0)
def ownB (B : Block) (q1 c1 q2 c2 : Nat) : Block := { B with fLinks := ⟨some ⟨q1, 0, none⟩, B.fLinks.n, c1⟩, fData := ⟨some ⟨q2, 0, none⟩, B.fData.n, c2⟩ }
def OwnedBlock (B : Block) (ls : List (List UInt8)) (l : List UInt8) (v : Value) (out : List Blk) : Prop := ∃ q1 c1 q2 c2, v = agg (ownB B q1 c1 q2 c2).cells ∧ B.fLinks.n ≤ c1 ∧ B.fData.n ≤ c2 ∧ out = [⟨q2, bytesV l, 5, c2 * 1⟩, ⟨q1, flatB ls, 24, c1 * 32⟩]
theorem OwnedBlock.loose (B : Block) (ls : List (List UInt8)) (l : List UInt8) : Loose (OwnedBlock B ls l) := fun k hk => by
  obtain ⟨q1, _, h1⟩ := fresh_is 0 k
  obtain ⟨q2, h2', h2⟩ := fresh_is (q1 + 1) k
  refine ⟨_, _, ⟨q1, B.fLinks.n, q2, B.fData.n, rfl, Nat.le_refl _, Nat.le_refl _, rfl⟩, ?_⟩
  simp only [List.cons_append, List.nil_append, List.map_cons, List.nodup_cons, List.mem_cons]
  refine ⟨?_, fun h => ?_, hk⟩
  · rintro (h | h)
    · omega
    · obtain ⟨b, hb, e⟩ := List.mem_map.1 h; exact h2 b hb e
  · obtain ⟨b, hb, e⟩ := List.mem_map.1 h; exact h1 b hb e
theorem rows_ext {C : Cx} {hp : List Blk} {w : World} {s : Sl} {m : Nat} {ls : List (List UInt8)} (h : HRep C hp w) (hl : C.lent = []) (hr : RowsAt C.W0 s m ls) : RowsAt w s m ls := ⟨hr.len, hr.row, hr.cap, seesP_ext h hl hr.see, hr.max, hr.nil⟩
theorem bytes_ext {C : Cx} {hp : List Blk} {w : World} {s : Sl} {l : List UInt8} (h : HRep C hp w) (hl : C.lent = []) (hr : BytesAt C.W0 s l) : BytesAt w s l := ⟨hr.len, hr.cap, seesP_ext h hl hr.see, hr.max, hr.nil⟩

end Go.Proofs.YtpacobmjjjillaaGreat
end

section
namespace Hw
open Go
set_option linter.unusedSimpArgs false
set_option linter.unusedVariables false

theorem bytesV_cell (l : List UInt8) : ∀ u ∈ bytesV l, isCell u = true := fun u hu => by
  simp only [bytesV, List.mem_map] at hu
  obtain ⟨_, _, rfl⟩ := hu
  rfl
def bLen (n : Nat) : Nat := if n = 0 then 0 else Nat.log2 n + 1
theorem bLen_le {n k : Nat} : bLen n ≤ k ↔ n < 2 ^ k := by
  unfold bLen
  by_cases h : n = 0
  · subst h; simp; exact Nat.pow_pos dE
  · rw [if_neg h, Nat.succ_le_iff, Nat.log2_lt h]
theorem bLen_shr {n k : Nat} (h : 2 ^ k ≤ n) : bLen n = k + bLen (n / 2 ^ k) := by
  have key : ∀ j, bLen n ≤ k + j ↔ bLen (n / 2 ^ k) ≤ j := fun j => by
    rw [bLen_le, bLen_le, Nat.pow_add, Nat.div_lt_iff_lt_mul (Nat.pow_pos dE), Nat.mul_comm]
  have h1 := (key (bLen (n / 2 ^ k))).2 (Nat.le_refl _)
  have h2 : k < bLen n := by
    rcases Nat.lt_or_ge k (bLen n) with h | h
    · exact h
    · rw [ge_iff_le, bLen_le] at h; omega
  have h3 := (key (bLen n - k)).1 oM
  omega
def szN (n : Nat) : Nat := min ((bLen (n ||| 1) + 6) / 7) 9
theorem szN_pos (n : Nat) : 1 ≤ szN n ∧ szN n ≤ 9 := by
  have : 1 ≤ bLen (n ||| 1) := by
    rcases Nat.lt_or_ge 0 (bLen (n ||| 1)) with h | h
    · exact h
    · rw [ge_iff_le, bLen_le] at h
      have h1 : 1 ≤ n ||| 1 := Nat.right_le_or
      simp at h
  unfold szN
  omega
def tailB (x : UInt64) : Nat → List UInt8
  | 0 => []
  | k + 1 => (shr64 x (8 * k)).toUInt8 :: tailB x k
theorem tailB_length (x : UInt64) : ∀ k, (tailB x k).length = k
  | 0 => rfl
  | k + 1 => by simp [tailB, tailB_length x k]
theorem tailB_get (x : UInt64) : ∀ k j, j < k → (tailB x k)[j]? = some (shr64 x (8 * (k - 1 - j))).toUInt8
  | 0, j, h => by omega
  | k + 1, 0, h => by simp [tailB]
  | k + 1, j + 1, h => by
    rw [tailB, List.getElem?_cons_succ, tailB_get x k j oM]
    congr 4
    omega
def headB (x : UInt64) : UInt8 := shl8 255 (9 - szN x.toNat) ||| (shr64 x (8 * (szN x.toNat - 1))).toUInt8
/-- the bytes of a number -/
def numB (x : UInt64) : List UInt8 := headB x :: tailB x (szN x.toNat - 1)
theorem numB_length (x : UInt64) : (numB x).length = szN x.toNat := by
  have := szN_pos x.toNat
  simp [numB, tailB_length]; omega
/-- the first j bytes behind the first one -/
def numUp (x : UInt64) (j : Nat) : List UInt8 := headB x :: (tailB x (szN x.toNat - 1)).take j
theorem numUp_length (x : UInt64) (j : Nat) (h : j ≤ szN x.toNat - 1) : (numUp x j).length = 1 + j := by
  simp [numUp, tailB_length]; omega
theorem numUp_step (x : UInt64) (j : Nat) (h : j < szN x.toNat - 1) : numUp x (j + 1) = numUp x j ++ [(shr64 x (8 * (szN x.toNat - 2 - j))).toUInt8] := by
  have hl : j < (tailB x (szN x.toNat - 1)).length := by rw [tailB_length]; exact h
  have hg := tailB_get x (szN x.toNat - 1) j h
  rw [List.getElem?_eq_getElem hl, Option.some.injEq] at hg
  rw [numUp, numUp, List.take_succ_eq_append_getElem hl, hg, show szN x.toNat - 1 - 1 - j = szN x.toNat - 2 - j by omega]
  rfl
theorem numUp_all (x : UInt64) : numUp x (szN x.toNat - 1) = numB x := by
  rw [numUp, List.take_of_length_le (by rw [tailB_length]; omega), numB]
theorem numUp_zero (x : UInt64) : numUp x 0 = [headB x] := by simp [numUp]
def cntB (f : UInt8) : Nat := 9 - bLen (255 ^^^ f).toNat
def foldB (a : UInt64) : List UInt8 → UInt64
  | [] => a
  | b :: l => foldB (shl64 a 8 ||| b.toUInt64) l
def headV (f : UInt8) : UInt64 := (f &&& shr8 255 (cntB f)).toUInt64
def numV (xs : List UInt8) (a : Nat) : UInt64 := foldB (headV (xs.getD a 0)) ((xs.drop (a + 1)).take (cntB (xs.getD a 0) - 1))
end Hw
end

section
namespace Go.Proofs.YtpacobmjjjillaaGreat
open Go Hw
set_option linter.unusedVariables false
set_option linter.unusedSimpArgs false

def len8S : ByteArray := ⟨#[0, 1, 2, 2, 3, 3, 3, 3, 4, 4, 4, 4, 4, 4, 4, 4, 5, 5, 5, 5, 5, 5, 5, 5, 5, 5, 5, 5, 5, 5, 5, 5, 6, 6, 6, 6, 6, 6, 6, 6, 6, 6, 6, 6, 6, 6, 6, 6, 6, 6, 6, 6, 6, 6, 6, 6, 6, 6, 6, 6, 6, 6, 6, 6, 7, 7, 7, 7, 7, 7, 7, 7, 7, 7, 7, 7, 7, 7, 7, 7, 7, 7, 7, 7, 7, 7, 7, 7, 7, 7, 7, 7, 7, 7, 7, 7, 7, 7, 7, 7, 7, 7, 7, 7, 7, 7, 7, 7, 7, 7, 7, 7, 7, 7, 7, 7, 7, 7, 7, 7, 7, 7, 7, 7, 7, 7, 7, 7, 8, 8, 8, 8, 8, 8, 8, 8, 8, 8, 8, 8, 8, 8, 8, 8, 8, 8, 8, 8, 8, 8, 8, 8, 8, 8, 8, 8, 8, 8, 8, 8, 8, 8, 8, 8, 8, 8, 8, 8, 8, 8, 8, 8, 8, 8, 8, 8, 8, 8, 8, 8, 8, 8, 8, 8, 8, 8, 8, 8, 8, 8, 8, 8, 8, 8, 8, 8, 8, 8, 8, 8, 8, 8, 8, 8, 8, 8, 8, 8, 8, 8, 8, 8, 8, 8, 8, 8, 8, 8, 8, 8, 8, 8, 8, 8, 8, 8, 8, 8, 8, 8, 8, 8, 8, 8, 8, 8, 8, 8, 8, 8, 8, 8, 8, 8, 8, 8, 8, 8, 8, 8, 8, 8, 8, 8, 8, 8]⟩
set_option maxRecDepth 100000 in
theorem len8_all : ∀ n, n < 256 → len8S.data.toList[n]? = some (UInt8.ofNat (bLen n)) := by decide
set_option maxRecDepth 100000 in
theorem len8_get (x : UInt8) : len8S[x.toNat]? = some (UInt8.ofNat (bLen x.toNat)) := by
  have h := len8_all x.toNat x.toNat_lt
  have h2 : x.toNat < len8S.size := x.toNat_lt
  have e : len8S[x.toNat]? = len8S.data.toList[x.toNat]? := by
    rw [getElem?_pos len8S x.toNat h2, List.getElem?_eq_getElem (by exact x.toNat_lt)]
    rfl
  rw [e]; exact h
theorem len8_nat (x : UInt8) : (UInt8.ofNat (bLen x.toNat)).toNat = bLen x.toNat := by
  have : bLen x.toNat ≤ 8 := bLen_le.2 x.toNat_lt
  rw [UInt8.toNat_ofNat', Nat.mod_eq_of_lt oM]

theorem shr64_nat (x : UInt64) (n : Nat) : (shr64 x n).toNat = x.toNat / 2 ^ n := by
  have h : x.toNat / 2 ^ n ≤ x.toNat := Nat.div_le_self _ _
  have := x.toNat_lt
  rw [shr64, UInt64.toNat_ofNat', Nat.mod_eq_of_lt oM]

set_option maxRecDepth 100000 in
set_option maxHeartbeats 1000000 in
theorem bits_len64 (x : UInt64) : Meets Tryz.prog 207 [u64 x] [] (fun _ => True) (fun v out => v = i64 ((bLen x.toNat : Nat) : Int) ∧ out = []) := by
 intro W hW
 have hx := x.toNat_lt
 refine calls_of (hp0 := []) Tryz.func207 rfl 25 Tryz.ntmps207 rfl (HRep.nil _) ?_
 refine Sat.seq (Sat.region ?_)
 refine Tr.assign rfl rfl rfl ?_
 refine Tr.nil (at_n ?_)
 refine Sat.join (ι := UInt64 × Nat) (fun p => ⟨[(0, u64 p.1), (2, i64 (p.2 : Int))], []⟩) (fun p => bLen x.toNat = p.2 + bLen p.1.toNat ∧ p.1.toNat < 2 ^ 32 ∧ p.2 ≤ 32) ?_ ?_
 ·
  refine Sat.seq (Sat.region ?_)
  refine Tr.move rfl rfl rfl ?_
  refine Tr.geq rfl rfl rfl rfl rfl ?_
  refine Tr.nil (at_n ?_)
  refine Sat.condP rfl (fun hc0 => ?_) (fun hc0 => ?_)
  ·
   refine Sat.seq (Sat.region ?_)
   refine Tr.move rfl rfl rfl ?_
   refine Tr.shr_u64 rfl rfl rfl rfl 32 rfl dE ?_
   refine Tr.assign rfl rfl rfl ?_
   refine Tr.nil (at_n (Sat.region ?_))
   refine Tr.assign rfl rfl rfl ?_
   refine Tr.nil (at_n ?_)
   exact ⟨(shr64 x 32, 0 + 32), ⟨by simp only [shr64_nat]; have := bLen_shr (n := x.toNat) (k := 32) oM; omega, by simp only [shr64_nat]; omega, by simp only []; omega⟩, weak_of (wk1 rfl (wk1 (by rfl) wk0)) wh0 (by repeat (exact ns_nil))⟩
  ·
   refine Sat.skip (at_n ?_)
   exact ⟨(x, 0), ⟨by simp only []; omega, by simp only []; omega, by simp only []; omega⟩, weak_of (wk1 rfl (wk1 (by rfl) wk0)) wh0 (by repeat (exact ns_nil))⟩
 ·
  intro p hj
  obtain ⟨y, n⟩ := p
  obtain ⟨hb, hy, hn⟩ := hj
  simp only at hb hy hn ⊢
  refine Sat.join (ι := UInt64 × Nat) (fun p => ⟨[(0, u64 p.1), (2, i64 (p.2 : Int))], []⟩) (fun p => bLen x.toNat = p.2 + bLen p.1.toNat ∧ p.1.toNat < 2 ^ 16 ∧ p.2 ≤ 48) ?_ ?_
  ·
   refine Sat.seq (Sat.region ?_)
   refine Tr.move rfl rfl rfl ?_
   refine Tr.geq rfl rfl rfl rfl rfl ?_
   refine Tr.nil (at_n ?_)
   refine Sat.condP rfl (fun hc1 => ?_) (fun hc1 => ?_)
   ·
    refine Sat.seq (Sat.region ?_)
    refine Tr.move rfl rfl rfl ?_
    refine Tr.shr_u64 rfl rfl rfl rfl 16 rfl dE ?_
    refine Tr.assign rfl rfl rfl ?_
    refine Tr.nil (at_n (Sat.region ?_))
    refine Tr.move rfl rfl rfl ?_
    refine Tr.add_i64 rfl rfl rfl rfl oM ?_
    refine Tr.assign rfl rfl rfl ?_
    refine Tr.nil (at_n ?_)
    exact ⟨(shr64 y 16, n + 16), ⟨by simp only [shr64_nat]; have := bLen_shr (n := y.toNat) (k := 16) oM; omega, by simp only [shr64_nat]; omega, by simp only []; omega⟩, weak_of (wk1 rfl (wk1 (by rfl) wk0)) wh0 (by repeat (exact ns_nil))⟩
   ·
    refine Sat.skip (at_n ?_)
    exact ⟨(y, n), ⟨by simp only []; omega, by simp only []; omega, by simp only []; omega⟩, weak_of (wk1 rfl (wk1 (by rfl) wk0)) wh0 (by repeat (exact ns_nil))⟩
  ·
   intro p hj
   obtain ⟨y, n⟩ := p
   obtain ⟨hb, hy, hn⟩ := hj
   simp only at hb hy hn ⊢
   refine Sat.join (ι := UInt64 × Nat) (fun p => ⟨[(0, u64 p.1), (2, i64 (p.2 : Int))], []⟩) (fun p => bLen x.toNat = p.2 + bLen p.1.toNat ∧ p.1.toNat < 2 ^ 8 ∧ p.2 ≤ 56) ?_ ?_
   ·
    refine Sat.seq (Sat.region ?_)
    refine Tr.move rfl rfl rfl ?_
    refine Tr.geq rfl rfl rfl rfl rfl ?_
    refine Tr.nil (at_n ?_)
    refine Sat.condP rfl (fun hc2 => ?_) (fun hc2 => ?_)
    ·
     refine Sat.seq (Sat.region ?_)
     refine Tr.move rfl rfl rfl ?_
     refine Tr.shr_u64 rfl rfl rfl rfl 8 rfl dE ?_
     refine Tr.assign rfl rfl rfl ?_
     refine Tr.nil (at_n (Sat.region ?_))
     refine Tr.move rfl rfl rfl ?_
     refine Tr.add_i64 rfl rfl rfl rfl oM ?_
     refine Tr.assign rfl rfl rfl ?_
     refine Tr.nil (at_n ?_)
     exact ⟨(shr64 y 8, n + 8), ⟨by simp only [shr64_nat]; have := bLen_shr (n := y.toNat) (k := 8) oM; omega, by simp only [shr64_nat]; omega, by simp only []; omega⟩, weak_of (wk1 rfl (wk1 (by rfl) wk0)) wh0 (by repeat (exact ns_nil))⟩
    ·
     refine Sat.skip (at_n ?_)
     exact ⟨(y, n), ⟨by simp only []; omega, by simp only []; omega, by simp only []; omega⟩, weak_of (wk1 rfl (wk1 (by rfl) wk0)) wh0 (by repeat (exact ns_nil))⟩
   ·
    intro p hj
    obtain ⟨y, n⟩ := p
    obtain ⟨hb, hy, hn⟩ := hj
    simp only at hb hy hn ⊢
    refine Sat.seq (Sat.region ?_)
    refine Tr.move rfl rfl rfl ?_
    refine Tr.move rfl rfl rfl ?_
    refine Tr.conv rfl rfl rfl Tryz.underlying22 Tryz.underlying5 (cv_u64_u8 _) ?_
    refine Tr.idxStr (s := len8S) rfl rfl rfl rfl Tryz.underlying9 _ rfl (len8_get y.toUInt8) ?_
    have h8 : y.toUInt8.toNat = y.toNat := by simp; omega
    have h9 := len8_nat y.toUInt8
    have h10 : bLen y.toUInt8.toNat ≤ 8 := bLen_le.2 (by rw [h8]; omega)
    refine Tr.conv rfl rfl rfl Tryz.underlying5 Tryz.underlying3 (cv_u8_i64 _) ?_
    refine Tr.add_i64 rfl rfl rfl rfl oM ?_
    refine Tr.assign rfl rfl rfl ?_
    refine Tr.nil (at_n (Sat.ret (en_r ?_)))
    refine ⟨_, [], res_tmp rfl rfl, sP, sP, ?_, rfl⟩
    rw [h9, h8, hb, Int.natCast_add]

set_option maxRecDepth 100000 in
set_option maxHeartbeats 1000000 in
theorem oct_size (x : UInt64) : Meets Tryz.prog 133 [u64 x] [] (fun _ => True) (fun v out => v = i64 ((szN x.toNat : Nat) : Int) ∧ out = []) := by
 intro W hW
 have hb : bLen (x ||| 1).toNat ≤ 64 := bLen_le.2 (x ||| 1).toNat_lt
 have ho : (x ||| 1).toNat = x.toNat ||| 1 := by rw [UInt64.toNat_or]; rfl
 refine calls_of (hp0 := []) Tryz.func133 rfl 9 Tryz.ntmps133 rfl (HRep.nil _) ?_
 refine Sat.seq (Sat.region ?_)
 refine Tr.assign rfl rfl rfl ?_
 refine Tr.nil (at_n (Sat.seq (Sat.region ?_)))
 refine Tr.move rfl rfl rfl ?_
 refine Tr.or_u64 rfl rfl rfl (show evIn _ _ = some (u64 1) from rfl) ?_
 refine Tr.callV rfl rfl rfl rfl Body207 (bits_len64 _) (fun _ _ => trivial) ?_
 refine Tr.add_i64 rfl rfl rfl rfl oM ?_
 refine Tr.quo_i64 rfl rfl rfl rfl oM ?_
 refine Tr.min2 rfl rfl rfl rfl (rfl) ?_
 refine Tr.assign rfl rfl rfl ?_
 refine Tr.nil (at_n (Sat.ret (en_r ?_)))
 refine ⟨_, [], res_tmp rfl rfl, sP, sP, ?_, rfl⟩
 rw [szN, ← ho]; congr 1; split <;> omega

set_option maxRecDepth 100000 in
set_option maxHeartbeats 1000000 in
theorem oct_grown (p : Option Addr) (n c m : Nat) (l : List UInt8) (hl : l.length = n) (hp : p = none → n = 0) (hn : n ≤ 100000) (hm : m ≤ 100000) : Meets Tryz.prog 129 [.slice p n c, i64 (m : Int)] [] (fun W => SeesP W p (bytesV l)) (fun v out => FreshRow v out (bytesV l) 5 n 1) := by
 intro W hW
 refine calls_of (hp0 := []) Tryz.func129 rfl 12 Tryz.ntmps129 rfl (HRep.nil _) ?_
 refine Sat.seq (Sat.region ?_)
 refine Tr.assign rfl rfl rfl ?_
 refine Tr.nil (at_n (Sat.seq (Sat.region ?_)))
 refine Tr.move rfl rfl rfl ?_
 refine Tr.lenSl rfl rfl rfl Tryz.underlying39 ?_
 refine Tr.move rfl rfl rfl ?_
 refine Tr.add_i64 rfl rfl rfl rfl oM ?_
 refine Tr.mkRoom (z := u8 0) (by' := 1) (n + m) rfl rfl rfl rfl oM Tryz.underlying39 Sz5 Zr5 (by unfold By; kernel_rfl) rfl oM oM ?_
 intro n9
 refine Tr.move rfl rfl rfl ?_
 refine Tr.appendSl (z := u8 0) (by' := 1) (bytesV l) rfl rfl rfl rfl rfl Tryz.underlying39 Tryz.underlying39 Sz5 Zr5 (by unfold By; kernel_rfl) rfl (fun w h => seesP_ext h rfl hW) hp (by simp [bytesV, isCell, u8]) rem_here oM rfl oM oM oM (by simp [bytesV, hl]) ?_
 intro q1 c1 hq1
 refine Tr.assign rfl rfl rfl ?_
 refine Tr.nil (at_n (Sat.ret (en_r ?_)))
 refine ⟨_, [⟨q1, [] ++ bytesV l, 5, c1 * 1⟩], res_tmp rfl rfl, (by intro b hb; rw [List.mem_singleton.1 hb]; exact mem0), nodup1, ⟨q1, c1, by rw [Nat.zero_add], by omega, rfl⟩⟩

set_option maxRecDepth 100000 in
set_option maxHeartbeats 1000000 in
theorem oct_number (q n c : Nat) (l : List UInt8) (x : UInt64) (hl : l.length = n) (hnc : n ≤ c) (hn : n ≤ 200000) : Meets Tryz.prog 214 [.slice (some ⟨q, 0, none⟩) n c, u64 x] [q] (fun W => BlkOk W ⟨q, bytesV (l), 5, c * 1⟩) (fun v out => FreshRow v out (bytesV (l ++ numB x)) 5 (n + szN x.toNat) 1) := by
 intro W hW
 have hz := szN_pos x.toNat
 refine calls_of (hp0 := [⟨q, bytesV (l), 5, c * 1⟩]) Tryz.func214 rfl 37 Tryz.ntmps214 rfl (HRep.one hW) ?_
 refine Sat.seq (Sat.region ?_)
 refine Tr.assign rfl rfl rfl ?_
 refine Tr.nil (at_n (Sat.seq (Sat.region ?_)))
 refine Tr.move rfl rfl rfl ?_
 refine Tr.callV rfl rfl rfl rfl Body133 (oct_size _) (fun _ _ => trivial) ?_
 refine Tr.assign rfl rfl rfl ?_
 refine Tr.nil (at_n (Sat.seq ?_))
 refine Sat.draw [(0, 0), (0, 1), (0, 2), (0, 3), (0, 4), (0, 5), (0, 6), (0, 7), (0, 8), (0, 9), (0, 10), (4, 11), (4, 12), (0, 13)] Mixed (by kernel_rfl) ?_
 refine Tr.move rfl rfl rfl ?_
 refine Tr.move rfl rfl rfl ?_
 refine Tr.sub_i64 rfl rfl rfl rfl oM ?_
 refine Tr.shl_u8 rfl rfl (show evIn _ _ = some (u8 255) from rfl) rfl (9 - szN x.toNat) oM oM ?_
 refine Tr.move rfl rfl rfl ?_
 refine Tr.move rfl rfl rfl ?_
 refine Tr.sub_i64 rfl rfl rfl rfl oM ?_
 refine Tr.mul_i64 rfl rfl rfl rfl oM ?_
 refine Tr.shr_u64 rfl rfl rfl rfl (8 * (szN x.toNat - 1)) oM oM ?_
 refine Tr.conv rfl rfl rfl Tryz.underlying22 Tryz.underlying5 (cv_u64_u8 _) ?_
 refine Tr.or_u8 rfl rfl rfl rfl ?_
 refine Tr.mkRow (z := u8 0) [u8 (headB x)] (bytesV [headB x]) rfl rfl rfl Tryz.underlying39 Sz5 Zr5 rfl rfl (by intro v hv; rw [List.mem_singleton.1 hv]; rfl) dE rfl ?_
 intro q20
 refine Tr.appendSl (z := u8 0) (by' := 1) (bytesV [headB x]) rfl rfl rfl rfl rfl Tryz.underlying39 Tryz.underlying39 Sz5 Zr5 (by unfold By; kernel_rfl) rfl (fun w h => SeesP.of (sees_own h mem0)) (fun e => by cases e) (by simp [bytesV, isCell, u8]) (rem_there rem_here) rfl (by simp [bytesV, hl]) oM oM oM (by rfl) ?_
 intro q1 c1 hq1
 refine Tr.assign rfl rfl rfl ?_
 refine Tr.nil (at_n (Sat.seq (Sat.seq (Sat.region ?_))))
 refine Tr.move rfl rfl rfl ?_
 refine Tr.sub_i64 rfl rfl rfl rfl oM ?_
 refine Tr.assign rfl rfl rfl ?_
 refine Tr.nil (at_n (Sat.block ?_))
 refine Sat.loop (ι := Nat × Nat × Nat) (fun p => ⟨[(0, .slice (some ⟨p.2.1, 0, none⟩) (n + 1 + p.1) p.2.2), (1, u64 x), (5, i64 ((szN x.toNat : Nat) : Int)), (6, i64 (((szN x.toNat : Nat) : Int) - 2 - (p.1 : Int)))], [⟨p.2.1, bytesV (l ++ numUp x p.1), 5, p.2.2 * 1⟩]⟩) (fun p => p.1 ≤ szN x.toNat - 1 ∧ n + 1 + p.1 ≤ p.2.2) (fun p => szN x.toNat - 1 - p.1) ((0, q1, c1)) ?_ ?_ ?_
 · exact ⟨Nat.zero_le _, hq1⟩
 · exact weak_of (wk1 rfl (wk1 rfl (wk1 rfl (wk1 (by rw [show (((szN x.toNat : Nat) : Int) - 2 - ((0 : Nat) : Int)) = ((szN x.toNat : Nat) : Int) - 2 by omega]; rfl) wk0)))) (wh1 (by rw [numUp_zero]; simp only [bytesV, List.map_append]; exact mem0) wh0) (by repeat (first | exact ns_nil | refine ns_keep rfl ?_))
 ·
  rintro p ⟨hp1, hp2⟩
  refine Sat.seq (Sat.seq (Sat.region ?_))
  refine Tr.move rfl rfl rfl ?_
  refine Tr.geq rfl rfl rfl rfl rfl ?_
  refine Tr.nil (at_n ?_)
  refine Sat.condP rfl (fun hc0 => ?_) (fun hc0 => ?_)
  ·
   have hp3 : p.1 < szN x.toNat - 1 := by omega
   refine Sat.skip (at_n (Sat.seq (Sat.block (Sat.region ?_))))
   refine Tr.move rfl rfl rfl ?_
   refine Tr.move rfl rfl rfl ?_
   refine Tr.move rfl rfl rfl ?_
   refine Tr.mul_i64 rfl rfl rfl rfl oM ?_
   refine Tr.shr_u64 rfl rfl rfl rfl (8 * (szN x.toNat - 2 - p.1)) oM oM ?_
   refine Tr.conv rfl rfl rfl Tryz.underlying22 Tryz.underlying5 (cv_u64_u8 _) ?_
   refine Tr.mkRow (z := u8 0) [u8 ((shr64 x (8 * (szN x.toNat - 2 - p.1))).toUInt8)] (bytesV [(shr64 x (8 * (szN x.toNat - 2 - p.1))).toUInt8]) rfl rfl rfl Tryz.underlying39 Sz5 Zr5 rfl rfl (by intro v hv; rw [List.mem_singleton.1 hv]; rfl) dE rfl ?_
   intro q34
   refine Tr.appendSl (z := u8 0) (by' := 1) (bytesV [(shr64 x (8 * (szN x.toNat - 2 - p.1))).toUInt8]) rfl rfl rfl rfl rfl Tryz.underlying39 Tryz.underlying39 Sz5 Zr5 (by unfold By; kernel_rfl) rfl (fun w h => SeesP.of (sees_own h mem0)) (fun e => by cases e) (by simp [bytesV, isCell, u8]) (rem_there rem_here) rfl (by rw [bytesV, List.length_map, List.length_append, hl, numUp_length x p.1 oM]; omega) oM oM oM (by rfl) ?_
   intro q2 c2 hq2
   refine Tr.assign rfl rfl rfl ?_
   refine Tr.nil (bl_n (at_n (Sat.region ?_)))
   refine Tr.move rfl rfl rfl ?_
   refine Tr.sub_i64 rfl rfl rfl rfl oM ?_
   refine Tr.assign rfl rfl rfl ?_
   refine Tr.nil (at_n ?_)
   exact ⟨(p.1 + 1, q2, c2), ⟨by simp only []; omega, by simp only []; omega⟩, by simp only []; omega, weak_of (wk1 (by rw [show n + 1 + (p.1 + 1) = n + 1 + p.1 + 1 by omega]; rfl) (wk1 rfl (wk1 rfl (wk1 (by rw [show (((szN x.toNat : Nat) : Int) - 2 - ((p.1 + 1 : Nat) : Int)) = ((szN x.toNat : Nat) : Int) - 2 - (p.1 : Int) - 1 by omega]; rfl) wk0)))) (wh1 (by rw [numUp_step x p.1 oM, ← List.append_assoc]; simp only [bytesV, List.map_append]; exact mem0) wh0) (by repeat (first | exact ns_nil | refine ns_keep rfl ?_))⟩
  ·
   have hp3 : p.1 = szN x.toNat - 1 := by omega
   refine Sat.exit (at_x (at_x (bl_h (at_n (Sat.seq (Sat.region ?_))))))
   refine Tr.move rfl rfl rfl ?_
   refine Tr.assign rfl rfl rfl ?_
   refine Tr.nil (at_n (Sat.ret (en_r ?_)))
   refine ⟨_, [⟨p.2.1, bytesV (l ++ numB x), 5, p.2.2 * 1⟩], res_tmp rfl rfl, (by intro b hb; rw [List.mem_singleton.1 hb, ← numUp_all, ← hp3]; exact mem0), nodup1, ⟨p.2.1, p.2.2, by rw [show n + 1 + p.1 = n + szN x.toNat by omega], by omega, rfl⟩⟩

set_option maxRecDepth 100000 in
set_option maxHeartbeats 1000000 in
theorem oct_Number (p : Option Addr) (n c : Nat) (l : List UInt8) (x : UInt64) (hl : l.length = n) (hp : p = none → n = 0) (hn : n ≤ 90000) : Meets Tryz.prog 152 [.slice p n c, u64 x] [] (fun W => SeesP W p (bytesV l)) (fun v out => FreshRow v out (bytesV (l ++ numB x)) 5 (n + szN x.toNat) 1) := by
 intro W hW
 have hz := szN_pos x.toNat
 refine calls_of (hp0 := []) Tryz.func152 rfl 11 Tryz.ntmps152 rfl (HRep.nil _) ?_
 refine Sat.seq (Sat.region ?_)
 refine Tr.assign rfl rfl rfl ?_
 refine Tr.nil (at_n (Sat.seq (Sat.region ?_)))
 refine Tr.move rfl rfl rfl ?_
 refine Tr.move rfl rfl rfl ?_
 refine Tr.callV rfl rfl rfl rfl Body133 (oct_size _) (fun _ _ => trivial) ?_
 refine Tr.call rfl rfl rfl rfl Body129 (oct_grown p n c (szN x.toNat) l hl hp oM oM) (FreshRow.loose _ _ _ _) (fun w h => seesP_ext h rfl hW) ?_
 rintro v1 out1 ⟨q1, c1, rfl, hc1, rfl⟩
 refine Tr.move rfl rfl rfl ?_
 refine Tr.callL (L := [⟨q1, bytesV (l), 5, c1 * 1⟩]) rfl rfl rfl rfl rfl Body214 (oct_number q1 (n) c1 (l) x (by simp [hl]) hc1 oM) rem_here lO (fun w h => own_blk h (by exact mem0)) ?_
 rintro v2 out2 ⟨q2, c2, rfl, hc2, rfl⟩
 refine Tr.assign rfl rfl rfl ?_
 refine Tr.nil (at_n (Sat.ret (en_r ?_)))
 refine ⟨_, [⟨q2, bytesV (l ++ numB x), 5, c2 * 1⟩], res_tmp rfl rfl, (by intro b hb; rw [List.mem_singleton.1 hb]; exact mem0), nodup1, ⟨q2, c2, rfl, hc2, rfl⟩⟩

end Go.Proofs.YtpacobmjjjillaaGreat
end

section
namespace Go.Proofs.YtpacobmjjjillaaGreat
open Go Hw
set_option linter.unusedVariables false
set_option linter.unusedSimpArgs false

theorem res_none {C : Cx} {fn : Func} {s : St} (hr : fn.results = #[]) : Res C fn s (.tuple #[]) := fun a w r => by
  simp [results, hr]
def rdr (n q N cp at' : Nat) (e : Int) : Reader := ⟨.pointer (some ⟨n, 0, none⟩), ⟨some ⟨q, 0, none⟩, N, cp⟩, (at' : Int), e⟩
/-- a reader's block: its number, its row, how much there is, where it stands, its error -/
def RB (n q N cp at' : Nat) (e : Int) : Blk := ⟨n, (rdr n q N cp at' e).cells, 140, 4⟩
/-- what Number reads: the number, where the reader then stands, its error -/
def numR (xs : List UInt8) (a : Nat) (e : Int) : UInt64 × Nat × Int :=
  if ¬ e = 0 then (0, a, e) else if xs.length ≤ a then (0, a, 5) else if xs.length < a + cntB (xs.getD a 0) then (0, a, 5) else if szN (numV xs a).toNat = cntB (xs.getD a 0) then (numV xs a, a + cntB (xs.getD a 0), 0) else (0, a, 4)
def digR (xs : List UInt8) (a : Nat) (e : Int) : List UInt8 × Nat × Int :=
  if ¬ e = 0 then (List.replicate 32 0, a, e) else if xs.length < a + 32 then (List.replicate 32 0, a, 5) else ((xs.drop a).take 32, a + 32, 0)
end Go.Proofs.YtpacobmjjjillaaGreat
end

section
namespace Go.Proofs.YtpacobmjjjillaaGreat
open Go Hw
set_option linter.unusedVariables false
set_option linter.unusedSimpArgs false

theorem BlkOk.keep {ex : List Nat} {w w' : World} {b : Blk} (h : Keeps ex w w') (hb : BlkOk w b) (hn : b.n ∉ ex) : BlkOk w' b := hb.of_heap (h.block b.n hb.lt hn)

/-- a new reader -/
def RdNew (N : Nat) (xs : List UInt8) (v : Value) (out : List Blk) : Prop := ∃ n q cp, v = ptr n 0 ∧ N ≤ cp ∧ out = [RB n q N cp 0 0, ⟨q, bytesV xs, 5, cp * 1⟩]
theorem RdNew.loose (N : Nat) (xs : List UInt8) : Loose (RdNew N xs) := fun k hk => by
  obtain ⟨q1, _, h1⟩ := fresh_is 0 k
  obtain ⟨q2, h2', h2⟩ := fresh_is (q1 + 1) k
  refine ⟨_, _, ⟨q2, q1, N, rfl, Nat.le_refl _, rfl⟩, ?_⟩
  simp only [RB, List.cons_append, List.nil_append, List.map_cons, List.nodup_cons, List.mem_cons]
  refine ⟨?_, fun h => ?_, hk⟩
  · rintro (h | h)
    · omega
    · obtain ⟨b, hb, e⟩ := List.mem_map.1 h; exact h2 b hb e
  · obtain ⟨b, hb, e⟩ := List.mem_map.1 h; exact h1 b hb e

def endR (N a : Nat) (e : Int) : Int := if e = 0 then (if (0 : Int) < (N : Int) - (a : Int) then 4 else 0) else e

/-- what Block reads: the bytes (none if there is an error), where the reader then stands, its error -/
def blkR (xs : List UInt8) (a : Nat) (e : Int) : Option (List UInt8) × Nat × Int :=
  if ¬ (numR xs a e).2.2 = 0 then (none, a, (numR xs a e).2.2) else if xs.length < (numR xs a e).2.1 + (numR xs a e).1.toNat then (none, a, 5) else (some ((xs.drop (numR xs a e).2.1).take (numR xs a e).1.toNat), (numR xs a e).2.1 + (numR xs a e).1.toNat, 0)

end Go.Proofs.YtpacobmjjjillaaGreat
end

section
namespace Go.Proofs.YtpacobmjjjillaaGreat
open Go Hw
set_option linter.unusedVariables false
set_option linter.unusedSimpArgs false

def bodyB (B : Block) (ls : List (List UInt8)) (ds : List UInt8) : List UInt8 := B.fWriter ++ numB B.fSeq ++ B.fPrev ++ numB (UInt64.ofNat B.fLinks.n) ++ ls.flatten ++ (numB (UInt64.ofNat B.fData.n) ++ ds)
theorem word_nat {n : Nat} (h : n ≤ 1000000) : wordOf (n : Int) = UInt64.ofNat n := by simp only [wordOf]; congr 1; omega
theorem ofNat_nat {n : Nat} (h : n ≤ 1000000) : (UInt64.ofNat n).toNat = n := by rw [UInt64.toNat_ofNat', Nat.mod_eq_of_lt oM]
theorem flatten_take_len {ls : List (List UInt8)} (h : ∀ l ∈ ls, l.length = 32) {k : Nat} (hk : k ≤ ls.length) : (ls.take k).flatten.length = k * 32 := by
  rw [flatten_len 32 _ (fun l hl => h l (List.mem_of_mem_take hl)), List.length_take, Nat.min_eq_left hk]

def bytesB (B : Block) (ls : List (List UInt8)) (ds : List UInt8) : List UInt8 := bodyB B ls ds ++ B.fSig

end Go.Proofs.YtpacobmjjjillaaGreat
end

section
namespace Go.Proofs.YtpacobmjjjillaaGreat
open Go Hw
set_option linter.unusedVariables false
set_option linter.unusedSimpArgs false

def BB (b : Nat) (X : Block) : Blk := ⟨b, X.cells, 53, 131⟩
def takR (xs : List UInt8) (m a : Nat) (e : Int) : List UInt8 × Nat × Int :=
  if ¬ e = 0 then ([], a, e) else if xs.length < a + m then ([], a, 5) else ((xs.drop a).take m, a + m, 0)
/-- so many digests -/
def digsR (xs : List UInt8) : Nat → Nat → Int → List (List UInt8) × Nat × Int
  | 0, a, e => ([], a, e)
  | j + 1, a, e => ((digsR xs j a e).1 ++ [(digR xs (digsR xs j a e).2.1 (digsR xs j a e).2.2).1], (digR xs (digsR xs j a e).2.1 (digsR xs j a e).2.2).2)
end Go.Proofs.YtpacobmjjjillaaGreat
end

section
namespace Go.Proofs.YtpacobmjjjillaaGreat
open Go Hw
set_option linter.unusedVariables false
set_option linter.unusedSimpArgs false

/-- a block as plain data -/
structure DB where
  w : List UInt8
  seq : UInt64
  prev : List UInt8
  ls : List (List UInt8)
  ds : List UInt8
  sg : List UInt8
deriving DecidableEq
def DB.zero : DB := ⟨List.replicate 32 0, 0, List.replicate 32 0, [], [], List.replicate 64 0⟩
def DB.head (D : DB) : Bool := decide ((4294967295 : Int) < (D.seq.toNat : Int)) || (!decide (decide (D.prev = List.replicate 32 0) = decide ((D.seq.toNat : Int) = 0)) || (decide ((16 : Int) < (D.ls.length : Int)) || decide ((512 : Int) < (D.ds.length : Int))))
def DB.check (D : DB) : Int := if D.head = true then 2 else (if linksBad D.prev D.ls = true then 2 else 0)
def DB.body (D : DB) : List UInt8 := D.w ++ numB D.seq ++ D.prev ++ numB (UInt64.ofNat D.ls.length) ++ D.ls.flatten ++ (numB (UInt64.ofNat D.ds.length) ++ D.ds)
def DB.bytes (D : DB) : List UInt8 := D.body ++ D.sg
/-- the lengths that the types ask -/
structure DB.ok (D : DB) : Prop where
  w : D.w.length = 32
  prev : D.prev.length = 32
  sg : D.sg.length = 64
  ls : ∀ l ∈ D.ls, l.length = 32
structure BlockIs (W : World) (B : Block) (D : DB) : Prop where
  ok : B.ok
  w : B.fWriter = D.w
  seq : B.fSeq = D.seq
  prev : B.fPrev = D.prev
  ls : RowsAt W B.fLinks 32 D.ls
  ds : BytesAt W B.fData D.ds
  sg : B.fSig = D.sg
theorem BlockIs.check {W : World} {B : Block} {D : DB} (h : BlockIs W B D) : bcheck B D.ls = D.check := by
  simp only [bcheck, bheadB, DB.check, DB.head, h.seq, h.prev, h.ls.len, h.ds.len]
theorem BlockIs.body {W : World} {B : Block} {D : DB} (h : BlockIs W B D) : bodyB B D.ls D.ds = D.body := by
  simp only [bodyB, DB.body, h.w, h.seq, h.prev, h.ls.len, h.ds.len]
theorem BlockIs.bytes {W : World} {B : Block} {D : DB} (h : BlockIs W B D) : bytesB B D.ls D.ds = D.bytes := by
  simp only [bytesB, DB.bytes, h.body, h.sg]
/-- what is read: the data of a block -/
def readP (xs : List UInt8) : DB × Nat × Int :=
  let r1 := digR xs 0 0
  let r2 := numR xs r1.2.1 r1.2.2
  let r3 := digR xs r2.2.1 r2.2.2
  let r4 := numR xs r3.2.1 r3.2.2
  let r5 := digsR xs (min r4.1.toNat 17) r4.2.1 r4.2.2
  let r6 := blkR xs r5.2.1 r5.2.2
  let r7 := takR xs 64 r6.2.1 r6.2.2
  (⟨r1.1, r2.1, r3.1, r5.1, r6.1.getD [], r7.1 ++ (List.replicate 64 0).drop r7.1.length⟩, r7.2)
def readD (xs : List UInt8) : DB × Int :=
  if endR xs.length (readP xs).2.1 (readP xs).2.2 = 0 ∧ (readP xs).1.check = 0 then ((readP xs).1, 0) else (DB.zero, 4)
theorem readD_ok {xs : List UInt8} (h : endR xs.length (readP xs).2.1 (readP xs).2.2 = 0 ∧ (readP xs).1.check = 0) : readD xs = ((readP xs).1, 0) := if_pos h
end Go.Proofs.YtpacobmjjjillaaGreat
end

section
namespace Hw
open Go
set_option linter.unusedSimpArgs false
set_option linter.unusedVariables false

/-- turned to the left by s bits -/
def rolW (x : UInt64) (s : Nat) : UInt64 := shl64 x s ||| shr64 x (64 - s)
def schA (p : List UInt8) : Nat → List UInt64
  | 0 => List.replicate 80 0
  | i + 1 => (schA p i).set (i / 8) (shl64 ((schA p i).getD (i / 8) 0) 8 ||| (p.getD i 0).toUInt64)
theorem schA_length (p : List UInt8) : ∀ i, (schA p i).length = 80
  | 0 => rfl
  | i + 1 => by rw [schA, List.length_set, schA_length p i]
def sig0 (x : UInt64) : UInt64 := rolW x 63 ^^^ rolW x 56 ^^^ shr64 x 7
def sig1 (y : UInt64) : UInt64 := rolW y 45 ^^^ rolW y 3 ^^^ shr64 y 6
def schB (w : List UInt64) : Nat → List UInt64
  | 0 => w
  | j + 1 => (schB w j).set (16 + j) ((schB w j).getD j 0 + sig0 ((schB w j).getD (j + 1) 0) + (schB w j).getD (j + 9) 0 + sig1 ((schB w j).getD (j + 14) 0))
theorem schB_length (w : List UInt64) : ∀ j, (schB w j).length = w.length
  | 0 => rfl
  | j + 1 => by rw [schB, List.length_set, schB_length w j]
def schW (p : List UInt8) : List UInt64 := schB (schA p 128) 64
structure W8 where
  a : UInt64
  b : UInt64
  c : UInt64
  d : UInt64
  e : UInt64
  f : UInt64
  g : UInt64
  h : UInt64
def W8.l (s : W8) : List UInt64 := [s.a, s.b, s.c, s.d, s.e, s.f, s.g, s.h]
def W8.of (l : List UInt64) : W8 := ⟨l.getD 0 0, l.getD 1 0, l.getD 2 0, l.getD 3 0, l.getD 4 0, l.getD 5 0, l.getD 6 0, l.getD 7 0⟩
def rndT1 (s : W8) (k w : UInt64) : UInt64 := s.h + (rolW s.e 50 ^^^ rolW s.e 46 ^^^ rolW s.e 23) + ((s.e &&& s.f) ^^^ ((18446744073709551615 ^^^ s.e) &&& s.g)) + k + w
def rndT2 (s : W8) : UInt64 := (rolW s.a 36 ^^^ rolW s.a 30 ^^^ rolW s.a 25) + ((s.a &&& s.b) ^^^ (s.a &&& s.c) ^^^ (s.b &&& s.c))
def rnd1 (s : W8) (k w : UInt64) : W8 := ⟨rndT1 s k w + rndT2 s, s.a, s.b, s.c, s.d + rndT1 s k w, s.e, s.f, s.g⟩
def rnds (k w : List UInt64) (s : W8) : Nat → W8
  | 0 => s
  | t + 1 => rnd1 (rnds k w s t) (k.getD t 0) (w.getD t 0)
def addUp (st xs : List UInt64) : Nat → List UInt64
  | 0 => st
  | i + 1 => (addUp st xs i).set i ((addUp st xs i).getD i 0 + xs.getD i 0)
theorem addUp_length (st xs : List UInt64) : ∀ i, (addUp st xs i).length = st.length
  | 0 => rfl
  | i + 1 => by rw [addUp, List.length_set, addUp_length st xs i]
theorem addUp_get (st xs : List UInt64) : ∀ i j, i ≤ j → (addUp st xs i).getD j 0 = st.getD j 0
  | 0, j, _ => rfl
  | i + 1, j, h => by
    rw [addUp, List.getD_eq_getElem?_getD, List.getElem?_set_ne oM, ← List.getD_eq_getElem?_getD]
    exact addUp_get st xs i j oM
def pieceW (k st : List UInt64) (p : List UInt8) : List UInt64 := addUp st (rnds k (schW p) (W8.of st) 80).l 8
theorem pieceW_length (k st : List UInt64) (p : List UInt8) : (pieceW k st p).length = st.length := addUp_length _ _ _
def sumUp (st : List UInt64) : Nat → List UInt8
  | 0 => List.replicate 64 0
  | i + 1 => (sumUp st i).set i (shr64 (st.getD (i / 8) 0) (56 - 8 * (i % 8))).toUInt8
theorem sumUp_length (st : List UInt64) : ∀ i, (sumUp st i).length = 64
  | 0 => rfl
  | i + 1 => by rw [sumUp, List.length_set, sumUp_length st i]
/-- the zeros behind the 128 -/
def padZ (n : Nat) : Nat := (239 - n % 128) % 128
theorem padZ_lt (n : Nat) : padZ n < 128 := Nat.mod_lt _ dE
theorem padZ_at (n j : Nat) (h : j ≤ padZ n) : (n + 1 + j) % 128 = 112 ↔ j = padZ n := by unfold padZ at *; omega
def beUp (x : UInt64) : Nat → List UInt8
  | 0 => []
  | j + 1 => beUp x j ++ [(shr64 x (56 - 8 * j)).toUInt8]
theorem beUp_length (x : UInt64) : ∀ j, (beUp x j).length = j
  | 0 => rfl
  | j + 1 => by rw [beUp, List.length_append, beUp_length x j]; rfl
def padB (l : List UInt8) : List UInt8 := l ++ [128] ++ List.replicate (padZ l.length) 0 ++ beUp 0 8 ++ beUp (UInt64.ofNat (8 * l.length)) 8
theorem padB_length (l : List UInt8) : (padB l).length = l.length + 17 + padZ l.length := by
  simp only [padB, List.length_append, beUp_length, List.length_replicate, List.length_singleton]; omega
theorem padB_mod (l : List UInt8) : (padB l).length = 128 * ((padB l).length / 128) := by
  rw [padB_length]; unfold padZ; omega
def runW (k st : List UInt64) (bs : List UInt8) : Nat → List UInt64
  | 0 => st
  | i + 1 => pieceW k (runW k st bs i) ((bs.drop (128 * i)).take 128)
theorem runW_length (k st : List UInt64) (bs : List UInt8) : ∀ i, (runW k st bs i).length = st.length
  | 0 => rfl
  | i + 1 => by rw [runW, pieceW_length, runW_length k st bs i]
def allW (k st : List UInt64) (l : List UInt8) : List UInt64 := runW k st (padB l) ((padB l).length / 128)
theorem allW_length (k st : List UInt64) (l : List UInt8) : (allW k st l).length = st.length := runW_length _ _ _ _
end Hw
end

section
namespace Go.Proofs.YtpacobmjjjillaaGreat
open Go Hw
set_option linter.unusedVariables false
set_option linter.unusedSimpArgs false

def kW : List UInt64 := [4794697086780616226, 8158064640168781261, 13096744586834688815, 16840607885511220156, 4131703408338449720, 6480981068601479193, 10538285296894168987, 12329834152419229976, 15566598209576043074, 1334009975649890238, 2608012711638119052, 6128411473006802146, 8268148722764581231, 9286055187155687089, 11230858885718282805, 13951009754708518548, 16472876342353939154, 17275323862435702243, 1135362057144423861, 2597628984639134821, 3308224258029322869, 5365058923640841347, 6679025012923562964, 8573033837759648693, 10970295158949994411, 12119686244451234320, 12683024718118986047, 13788192230050041572, 14330467153632333762, 15395433587784984357, 489312712824947311, 1452737877330783856, 2861767655752347644, 3322285676063803686, 5560940570517711597, 5996557281743188959, 7280758554555802590, 8532644243296465576, 9350256976987008742, 10552545826968843579, 11727347734174303076, 12113106623233404929, 14000437183269869457, 14369950271660146224, 15101387698204529176, 15463397548674623760, 17586052441742319658, 1182934255886127544, 1847814050463011016, 2177327727835720531, 2830643537854262169, 3796741975233480872, 4115178125766777443, 5681478168544905931, 6601373596472566643, 7507060721942968483, 8399075790359081724, 8693463985226723168, 9568029438360202098, 10144078919501101548, 10430055236837252648, 11840083180663258601, 13761210420658862357, 14299343276471374635, 14566680578165727644, 15097957966210449927, 16922976911328602910, 17689382322260857208, 500013540394364858, 748580250866718886, 1242879168328830382, 1977374033974150939, 2944078676154940804, 3659926193048069267, 4368137639120453308, 4836135668995329356, 5532061633213252278, 6448918945643986474, 6902733635092675308, 7801388544844847127]
def startW : List UInt64 := [7640891576956012808, 13503953896175478587, 4354685564936845355, 11912009170470909681, 5840696475078001361, 11170449401992604703, 2270897969802886507, 6620516959819538809]

set_option maxRecDepth 100000 in
set_option maxHeartbeats 1000000 in
theorem sha_K  : Meets Tryz.prog 237 [] [] (fun _ => True) (fun v out => v = agg (wordsV kW) ∧ out = []) := by
 intro W hW
 refine calls_of (hp0 := []) Tryz.func237 rfl 2 Tryz.ntmps237 rfl (HRep.nil _) ?_
 refine Sat.seq (Sat.region ?_)
 refine Tr.alloc (cs := (wordsV (List.replicate 80 0))) rfl Zr209 rfl ?_
 intro n0 hn0 hf0
 refine Tr.nil (at_n (Sat.seq (Sat.region ?_)))
 refine Tr.build (cs := wordsV kW) rfl rfl rfl (fun w => by kernel_rfl) ?_
 refine Tr.storeAll rfl rfl rfl rfl (by simp [isCell]) Sz209 (by (simp [kW]; done)) (by exact mem0) (by (simp; done)) (by exact upd0) ?_
 refine Tr.nil (at_n (Sat.ret (en_r ?_)))
 refine ⟨_, [], res_cell rfl rfl Tryz.underlying209 rfl Sz209 (by exact mem0) (by simp [kW]), sP, sP, ?_, rfl⟩
 rfl

set_option maxRecDepth 100000 in
set_option maxHeartbeats 1000000 in
theorem sha_Start  : Meets Tryz.prog 204 [] [] (fun _ => True) (fun v out => v = agg (wordsV startW) ∧ out = []) := by
 intro W hW
 refine calls_of (hp0 := []) Tryz.func204 rfl 2 Tryz.ntmps204 rfl (HRep.nil _) ?_
 refine Sat.seq (Sat.region ?_)
 refine Tr.alloc (cs := (wordsV (List.replicate 8 0))) rfl Zr135 rfl ?_
 intro n0 hn0 hf0
 refine Tr.nil (at_n (Sat.seq (Sat.region ?_)))
 refine Tr.build (cs := wordsV startW) rfl rfl rfl (fun w => by kernel_rfl) ?_
 refine Tr.storeAll rfl rfl rfl rfl (by simp [isCell]) Sz135 (by (simp [startW]; done)) (by exact mem0) (by (simp; done)) (by exact upd0) ?_
 refine Tr.nil (at_n (Sat.ret (en_r ?_)))
 refine ⟨_, [], res_cell rfl rfl Tryz.underlying135 rfl Sz135 (by exact mem0) (by simp [startW]), sP, sP, ?_, rfl⟩
 rfl

set_option maxRecDepth 100000 in
set_option maxHeartbeats 1000000 in
theorem bits_rol (x : UInt64) (k : Int) (s : Nat) (hk : -64 ≤ k ∧ k ≤ 64) (hs : (wordOf k &&& 63).toNat = s) (hs2 : s ≤ 63) : Meets Tryz.prog 238 [u64 x, i64 k] [] (fun _ => True) (fun v out => v = u64 (rolW x s) ∧ out = []) := by
 intro W hW
 have h64 : ((64 : UInt64) - (wordOf k &&& 63)).toNat = 64 - s := by rw [UInt64.toNat_sub_of_le _ _ (by rw [UInt64.le_iff_toNat_le, hs]; show s ≤ 64; omega), hs]; rfl
 refine calls_of (hp0 := []) Tryz.func238 rfl 17 Tryz.ntmps238 rfl (HRep.nil _) ?_
 refine Sat.seq (Sat.region ?_)
 refine Tr.assign rfl rfl (show evIn _ _ = some (u64 0) from rfl) ?_
 refine Tr.nil (at_n (Sat.seq (Sat.region ?_)))
 refine Tr.move rfl rfl rfl ?_
 refine Tr.conv rfl rfl rfl Tryz.underlying3 Tryz.underlying35 (cv_i64_u64 _) ?_
 refine Tr.and_u64 rfl rfl rfl (show evIn _ _ = some (u64 63) from rfl) ?_
 refine Tr.assign rfl rfl rfl ?_
 refine Tr.nil (at_n (Sat.seq (Sat.region ?_)))
 refine Tr.move rfl rfl rfl ?_
 refine Tr.move rfl rfl rfl ?_
 refine Tr.shl_u64 rfl rfl rfl rfl s oM oM ?_
 refine Tr.move rfl rfl rfl ?_
 refine Tr.move rfl rfl rfl ?_
 refine Tr.sub_u64 rfl rfl (show evIn _ _ = some (u64 64) from rfl) rfl ?_
 refine Tr.shr_u64 rfl rfl rfl rfl (64 - s) oM oM ?_
 refine Tr.or_u64 rfl rfl rfl rfl ?_
 refine Tr.assign rfl rfl rfl ?_
 refine Tr.nil (at_n (Sat.ret (en_r ?_)))
 refine ⟨_, [], res_tmp rfl rfl, sP, sP, ?_, rfl⟩
 rfl

set_option maxRecDepth 100000 in
set_option maxHeartbeats 4000000 in
theorem sha_schedule (p : List UInt8) (hp : p.length = 128) (A w : List UInt64) (hA : Hid (schA p 128 = A)) (hwp : Hid (schB A 64 = w)) : Meets Tryz.prog 236 [agg (bytesV p)] [] (fun _ => True) (fun v out => v = agg (wordsV w) ∧ out = []) := by
 intro W hW
 have hA80 : A.length = 80 := by rw [← hA.out]; exact schA_length p 128
 have hw80 : w.length = 80 := by rw [← hwp.out, schB_length]; exact hA80
 refine calls_of (hp0 := []) Tryz.func236 rfl 72 Tryz.ntmps236 rfl (HRep.nil _) ?_
 refine Sat.seq (Sat.region ?_)
 refine Tr.boxA rfl rfl ?_
 intro n1 hn1 hf1
 refine Tr.alloc (cs := (wordsV (List.replicate 80 0))) rfl Zr209 rfl ?_
 intro n2 hn2 hf2
 refine Tr.nil (at_n (Sat.seq (Sat.region ?_)))
 refine Tr.alloc (cs := (wordsV (List.replicate 80 0))) rfl Zr209 rfl ?_
 intro n3 hn3 hf3
 refine Tr.nil (at_n (Sat.seq (Sat.seq (Sat.region ?_))))
 refine Tr.loadAll rfl rfl rfl Tryz.underlying191 rfl Sz191 (by exact mem2) (by (simp [hp]; done)) ?_
 refine Tr.move rfl rfl rfl ?_
 refine Tr.nil (at_n (Sat.block ?_))
 refine Sat.loop (ι := Nat) (fun k => ⟨[(3, ptr n3 0), (2, ptr n2 0), (11, agg (bytesV p)), (12, i64 (k : Int))], [⟨n3, wordsV (schA p k), 209, 80⟩, ⟨n2, wordsV (List.replicate 80 0), 209, 80⟩]⟩) (fun k => k ≤ 128) (fun k => 128 - k) (0) ?_ ?_ ?_
 · omega
 · exact weak_of (wk1 rfl (wk1 rfl (wk1 rfl (wk1 rfl wk0)))) (wh1 (by exact mem0) (wh1 (by exact mem1) wh0)) (by repeat (first | exact ns_nil | refine ns_keep rfl ?_))
 ·
  rintro k hi
  have hlk := schA_length p k
  refine Sat.seq (Sat.region ?_)
  refine Tr.lss rfl rfl rfl rfl rfl ?_
  refine Tr.nil (at_n (Sat.seq ?_))
  refine Sat.condP rfl (fun hc0 => ?_) (fun hc0 => ?_)
  ·
   refine Sat.skip (at_n (Sat.seq (Sat.block (Sat.seq (Sat.region ?_)))))
   refine Tr.move rfl rfl rfl ?_
   refine Tr.idxA1 rfl rfl rfl rfl Tryz.underlying191 Sz5 Tryz.underlying5 rfl _ rfl oM (by exact get_bytes oM) ?_
   refine Tr.assign rfl rfl rfl ?_
   refine Tr.assign rfl rfl rfl ?_
   refine Tr.nil (at_n (Sat.region ?_))
   refine Tr.move rfl rfl rfl ?_
   refine Tr.quo_i64 rfl rfl rfl rfl oM ?_
   refine Tr.move rfl rfl rfl ?_
   refine Tr.quo_i64 rfl rfl rfl rfl oM ?_
   refine Tr.idxArr1 rfl rfl rfl rfl Tryz.underlying209 Sz22 (k / 8) oM oM ?_
   refine Tr.load1 rfl rfl rfl Tryz.underlying22 rfl (by exact mem0) (by exact get_words oM) ?_
   refine Tr.shl_u64 rfl rfl rfl rfl 8 rfl dE ?_
   refine Tr.move rfl rfl rfl ?_
   refine Tr.conv rfl rfl rfl Tryz.underlying5 Tryz.underlying22 (cv_u8_u64 _) ?_
   refine Tr.or_u64 rfl rfl rfl rfl ?_
   refine Tr.idxArr1 rfl rfl rfl rfl Tryz.underlying209 Sz22 (k / 8) oM oM ?_
   refine Tr.store1 rfl rfl rfl rfl rfl Sz22 (by exact mem0) (by (simp [schA_length]; omega)) (by exact set_words _ _ _) (by exact upd0) ?_
   refine Tr.nil (bl_n (at_n (Sat.region ?_)))
   refine Tr.add_i64 rfl rfl rfl rfl oM ?_
   refine Tr.move rfl rfl rfl ?_
   refine Tr.nil (at_n ?_)
   exact ⟨k + 1, by omega, by omega, weak_of (wk1 rfl (wk1 rfl (wk1 rfl (wk1 rfl wk0)))) (wh1 (by exact mem0) (wh1 (by exact mem1) wh0)) (by repeat (first | exact ns_nil | refine ns_keep rfl ?_))⟩
  ·
   obtain rfl : k = 128 := by omega
   rw [hA.out]
   clear hlk
   refine Sat.exit (at_x (at_x (bl_h (at_n (Sat.seq (Sat.seq (Sat.region ?_)))))))
   refine Tr.assign rfl rfl rfl ?_
   refine Tr.nil (at_n (Sat.block ?_))
   refine Sat.loop (ι := Nat) (fun j => ⟨[(3, ptr n3 0), (2, ptr n2 0), (6, i64 (16 + (j : Int)))], [⟨n3, wordsV (schB A j), 209, 80⟩, ⟨n2, wordsV (List.replicate 80 0), 209, 80⟩]⟩) (fun j => j ≤ 64) (fun j => 64 - j) (0) ?_ ?_ ?_
   · omega
   · exact weak_of (wk1 rfl (wk1 rfl (wk1 rfl wk0))) (wh1 (by exact mem0) (wh1 (by exact mem1) wh0)) (by repeat (first | exact ns_nil | refine ns_keep rfl ?_))
   ·
    rintro j hi
    have hlj := schB_length A j
    refine Sat.seq (Sat.seq (Sat.region ?_))
    refine Tr.move rfl rfl rfl ?_
    refine Tr.lss rfl rfl rfl rfl rfl ?_
    refine Tr.nil (at_n ?_)
    refine Sat.condP rfl (fun hc1 => ?_) (fun hc1 => ?_)
    ·
     refine Sat.skip (at_n (Sat.seq (Sat.block (Sat.seq ?_))))
     refine Sat.draw [(0, 0), (0, 1), (0, 2), (1, 3), (0, 4), (0, 5), (0, 6), (1, 7), (0, 8), (0, 9)] Mixed (by kernel_rfl) ?_
     refine Tr.move rfl rfl rfl ?_
     refine Tr.sub_i64 rfl rfl rfl rfl oM ?_
     refine Tr.idxArr1 rfl rfl rfl rfl Tryz.underlying209 Sz22 (j + 1) oM oM ?_
     refine Tr.load1 rfl rfl rfl Tryz.underlying22 rfl (by exact mem0) (by exact get_words oM) ?_
     refine Tr.move rfl rfl rfl ?_
     refine Tr.sub_i64 rfl rfl rfl rfl oM ?_
     refine Tr.idxArr1 rfl rfl rfl rfl Tryz.underlying209 Sz22 (j + 14) oM oM ?_
     refine Tr.load1 rfl rfl rfl Tryz.underlying22 rfl (by exact mem0) (by exact get_words oM) ?_
     refine Tr.assign rfl rfl rfl ?_
     refine Tr.assign rfl rfl rfl ?_
     refine Tr.nil (at_n (Sat.seq (Sat.region ?_)))
     refine Tr.move rfl rfl rfl ?_
     refine Tr.callV rfl rfl rfl rfl Body238 (bits_rol _ (-1) 63 dE dE dE) (fun _ _ => trivial) ?_
     refine Tr.move rfl rfl rfl ?_
     refine Tr.callV rfl rfl rfl rfl Body238 (bits_rol _ (-8) 56 dE dE dE) (fun _ _ => trivial) ?_
     refine Tr.xor_u64 rfl rfl rfl rfl ?_
     refine Tr.move rfl rfl rfl ?_
     refine Tr.shr_u64 rfl rfl rfl rfl 7 rfl dE ?_
     refine Tr.xor_u64 rfl rfl rfl rfl ?_
     refine Tr.assign rfl rfl rfl ?_
     refine Tr.nil (at_n (Sat.seq (Sat.region ?_)))
     refine Tr.move rfl rfl rfl ?_
     refine Tr.callV rfl rfl rfl rfl Body238 (bits_rol _ (-19) 45 dE dE dE) (fun _ _ => trivial) ?_
     refine Tr.move rfl rfl rfl ?_
     refine Tr.callV rfl rfl rfl rfl Body238 (bits_rol _ (-61) 3 dE dE dE) (fun _ _ => trivial) ?_
     refine Tr.xor_u64 rfl rfl rfl rfl ?_
     refine Tr.move rfl rfl rfl ?_
     refine Tr.shr_u64 rfl rfl rfl rfl 6 rfl dE ?_
     refine Tr.xor_u64 rfl rfl rfl rfl ?_
     refine Tr.assign rfl rfl rfl ?_
     refine Tr.nil (at_n ?_)
     refine Sat.draw [(0, 0), (0, 1), (0, 2), (0, 3), (1, 4), (0, 5), (0, 6), (0, 7), (0, 8), (0, 9), (1, 10), (0, 11), (0, 12), (0, 13), (0, 14), (4, 15)] Mixed (by kernel_rfl) ?_
     refine Tr.move rfl rfl rfl ?_
     refine Tr.move rfl rfl rfl ?_
     refine Tr.sub_i64 rfl rfl rfl rfl oM ?_
     refine Tr.idxArr1 rfl rfl rfl rfl Tryz.underlying209 Sz22 j oM oM ?_
     refine Tr.load1 rfl rfl rfl Tryz.underlying22 rfl (by exact mem0) (by exact get_words oM) ?_
     refine Tr.move rfl rfl rfl ?_
     refine Tr.add_u64 rfl rfl rfl rfl ?_
     refine Tr.move rfl rfl rfl ?_
     refine Tr.sub_i64 rfl rfl rfl rfl oM ?_
     refine Tr.idxArr1 rfl rfl rfl rfl Tryz.underlying209 Sz22 (j + 9) oM oM ?_
     refine Tr.load1 rfl rfl rfl Tryz.underlying22 rfl (by exact mem0) (by exact get_words oM) ?_
     refine Tr.add_u64 rfl rfl rfl rfl ?_
     refine Tr.move rfl rfl rfl ?_
     refine Tr.add_u64 rfl rfl rfl rfl ?_
     refine Tr.idxArr1 rfl rfl rfl rfl Tryz.underlying209 Sz22 (16 + j) oM oM ?_
     refine Tr.store1 rfl rfl rfl rfl rfl Sz22 (by exact mem0) (by (simp [schB_length, hA80]; omega)) (by exact set_words _ _ _) (by exact upd0) ?_
     refine Tr.nil (bl_n (at_n (Sat.region ?_)))
     refine Tr.move rfl rfl rfl ?_
     refine Tr.add_i64 rfl rfl rfl rfl oM ?_
     refine Tr.assign rfl rfl rfl ?_
     refine Tr.nil (at_n ?_)
     exact ⟨j + 1, by omega, by omega, weak_of (wk1 rfl (wk1 rfl (wk1 (congrArg (fun z => some (i64 z)) oM) wk0))) (wh1 (by exact mem0) (wh1 (by exact mem1) wh0)) (by repeat (first | exact ns_nil | refine ns_keep rfl ?_))⟩
    ·
     obtain rfl : j = 64 := by omega
     rw [hwp.out]
     clear hlj
     refine Sat.exit (at_x (at_x (bl_h (at_n (Sat.seq (Sat.region ?_))))))
     refine Tr.loadAll rfl rfl rfl Tryz.underlying209 rfl Sz209 (by exact mem0) (by (simp [hw80]; done)) ?_
     refine Tr.storeAll rfl rfl rfl rfl (by simp [isCell]) Sz209 (by (simp [hw80]; done)) (by exact mem1) (by (simp; done)) (by exact upd1) ?_
     refine Tr.nil (at_n (Sat.ret (en_r ?_)))
     refine ⟨_, [], res_cell rfl rfl Tryz.underlying209 rfl Sz209 (by exact mem1) (by simp [hw80]), sP, sP, ?_, rfl⟩
     rfl

theorem sha_Kk (k : List UInt64) (hk : Hid (kW = k)) : Meets Tryz.prog 237 [] [] (fun _ => True) (fun v out => v = agg (wordsV k) ∧ out = []) := by
  rw [← hk.out]; exact sha_K
theorem W8.l_length (R : W8) : R.l.length = 8 := rfl

set_option maxRecDepth 100000 in
set_option maxHeartbeats 4000000 in
theorem sha_Piece (st : List UInt64) (hst : st.length = 8) (p : List UInt8) (hp : p.length = 128) (A w k : List UInt64) (R : W8) (hA : Hid (schA p 128 = A)) (hwp : Hid (schB A 64 = w)) (hw : w.length = 80) (hk : Hid (kW = k)) (hk80 : k.length = 80) (hR : Hid (rnds k w (W8.of st) 80 = R)) : Meets Tryz.prog 203 [agg (wordsV st), agg (bytesV p)] [] (fun _ => True) (fun v out => v = agg (wordsV (addUp st R.l 8)) ∧ out = []) := by
 intro W hW
 refine calls_of (hp0 := []) Tryz.func203 rfl 127 Tryz.ntmps203 rfl (HRep.nil _) ?_
 refine Sat.seq (Sat.region ?_)
 refine Tr.boxA rfl rfl ?_
 intro n2 hn2 hf2
 refine Tr.boxA rfl rfl ?_
 intro n3 hn3 hf3
 refine Tr.alloc (cs := (wordsV (List.replicate 8 0))) rfl Zr135 rfl ?_
 intro n4 hn4 hf4
 refine Tr.nil (at_n (Sat.seq (Sat.region ?_)))
 refine Tr.loadAll rfl rfl rfl Tryz.underlying191 rfl Sz191 (by exact mem1) (by (simp [hp]; done)) ?_
 refine Tr.callV rfl rfl rfl rfl Body236 (sha_schedule p hp A w hA hwp) (fun _ _ => trivial) ?_
 refine Tr.callV rfl rfl rfl rfl Body237 (sha_Kk k hk) (fun _ _ => trivial) ?_
 refine Tr.alloc (cs := (wordsV (List.replicate 80 0))) rfl Zr209 rfl ?_
 intro n5 hn5 hf5
 refine Tr.alloc (cs := (wordsV (List.replicate 80 0))) rfl Zr209 rfl ?_
 intro n6 hn6 hf6
 refine Tr.storeAll rfl rfl rfl rfl (by simp [isCell]) Sz209 (by (simp [hw]; done)) (by exact mem1) (by (simp; done)) (by exact upd1) ?_
 refine Tr.storeAll rfl rfl rfl rfl (by simp [isCell]) Sz209 (by (simp [hk80]; done)) (by exact mem0) (by (simp; done)) (by exact upd0) ?_
 refine Tr.nil (at_n (Sat.seq ?_))
 refine Sat.draw [(0, 0), (1, 1), (0, 2), (1, 3), (0, 4), (1, 5), (0, 6), (1, 7), (0, 8), (0, 9), (0, 10), (0, 11)] Mixed (by kernel_rfl) ?_
 refine Tr.idxArr1 rfl rfl rfl rfl Tryz.underlying135 Sz22 0 rfl dE ?_
 refine Tr.load1 rfl rfl rfl Tryz.underlying22 rfl (by exact mem4) (by exact get_words oM) ?_
 refine Tr.idxArr1 rfl rfl rfl rfl Tryz.underlying135 Sz22 1 rfl dE ?_
 refine Tr.load1 rfl rfl rfl Tryz.underlying22 rfl (by exact mem4) (by exact get_words oM) ?_
 refine Tr.idxArr1 rfl rfl rfl rfl Tryz.underlying135 Sz22 2 rfl dE ?_
 refine Tr.load1 rfl rfl rfl Tryz.underlying22 rfl (by exact mem4) (by exact get_words oM) ?_
 refine Tr.idxArr1 rfl rfl rfl rfl Tryz.underlying135 Sz22 3 rfl dE ?_
 refine Tr.load1 rfl rfl rfl Tryz.underlying22 rfl (by exact mem4) (by exact get_words oM) ?_
 refine Tr.assign rfl rfl rfl ?_
 refine Tr.assign rfl rfl rfl ?_
 refine Tr.assign rfl rfl rfl ?_
 refine Tr.assign rfl rfl rfl ?_
 refine Tr.nil (at_n (Sat.seq ?_))
 refine Sat.draw [(0, 0), (1, 1), (0, 2), (1, 3), (0, 4), (1, 5), (0, 6), (1, 7), (0, 8), (0, 9), (0, 10), (0, 11)] Mixed (by kernel_rfl) ?_
 refine Tr.idxArr1 rfl rfl rfl rfl Tryz.underlying135 Sz22 4 rfl dE ?_
 refine Tr.load1 rfl rfl rfl Tryz.underlying22 rfl (by exact mem4) (by exact get_words oM) ?_
 refine Tr.idxArr1 rfl rfl rfl rfl Tryz.underlying135 Sz22 5 rfl dE ?_
 refine Tr.load1 rfl rfl rfl Tryz.underlying22 rfl (by exact mem4) (by exact get_words oM) ?_
 refine Tr.idxArr1 rfl rfl rfl rfl Tryz.underlying135 Sz22 6 rfl dE ?_
 refine Tr.load1 rfl rfl rfl Tryz.underlying22 rfl (by exact mem4) (by exact get_words oM) ?_
 refine Tr.idxArr1 rfl rfl rfl rfl Tryz.underlying135 Sz22 7 rfl dE ?_
 refine Tr.load1 rfl rfl rfl Tryz.underlying22 rfl (by exact mem4) (by exact get_words oM) ?_
 refine Tr.assign rfl rfl rfl ?_
 refine Tr.assign rfl rfl rfl ?_
 refine Tr.assign rfl rfl rfl ?_
 refine Tr.assign rfl rfl rfl ?_
 refine Tr.nil (at_n (Sat.seq (Sat.seq (Sat.region ?_))))
 refine Tr.move rfl rfl rfl ?_
 refine Tr.nil (at_n (Sat.block ?_))
 refine Sat.loop (ι := Nat) (fun t => ⟨[(2, ptr n2 0), (4, ptr n4 0), (5, ptr n5 0), (6, ptr n6 0), (7, u64 (rnds k w (W8.of st) t).a), (8, u64 (rnds k w (W8.of st) t).b), (9, u64 (rnds k w (W8.of st) t).c), (10, u64 (rnds k w (W8.of st) t).d), (11, u64 (rnds k w (W8.of st) t).e), (12, u64 (rnds k w (W8.of st) t).f), (13, u64 (rnds k w (W8.of st) t).g), (14, u64 (rnds k w (W8.of st) t).h), (41, i64 (t : Int))], [⟨n6, wordsV k, 209, 80⟩, ⟨n5, wordsV w, 209, 80⟩, ⟨n4, wordsV (List.replicate 8 0), 135, 8⟩, ⟨n2, wordsV st, 135, (wordsV st).length⟩]⟩) (fun t => t ≤ 80) (fun t => 80 - t) (0) ?_ ?_ ?_
 · omega
 · exact weak_of (wk1 rfl (wk1 rfl (wk1 rfl (wk1 rfl (wk1 rfl (wk1 rfl (wk1 rfl (wk1 rfl (wk1 rfl (wk1 rfl (wk1 rfl (wk1 rfl (wk1 rfl wk0))))))))))))) (wh1 (by exact mem0) (wh1 (by exact mem1) (wh1 (by exact mem2) (wh1 (by exact mem4) wh0)))) nD
 ·
  rintro t hi
  refine Sat.seq (Sat.region ?_)
  refine Tr.lss rfl rfl rfl rfl rfl ?_
  refine Tr.nil (at_n (Sat.seq ?_))
  refine Sat.condP rfl (fun hc0 => ?_) (fun hc0 => ?_)
  ·
   refine Sat.skip (at_n (Sat.seq (Sat.block (Sat.seq (Sat.region ?_)))))
   refine Tr.move rfl rfl rfl ?_
   refine Tr.assign rfl rfl rfl ?_
   refine Tr.nil (at_n (Sat.seq (Sat.region ?_)))
   refine Tr.move rfl rfl rfl ?_
   refine Tr.callV rfl rfl rfl rfl Body238 (bits_rol _ (-14) 50 dE dE dE) (fun _ _ => trivial) ?_
   refine Tr.move rfl rfl rfl ?_
   refine Tr.callV rfl rfl rfl rfl Body238 (bits_rol _ (-18) 46 dE dE dE) (fun _ _ => trivial) ?_
   refine Tr.xor_u64 rfl rfl rfl rfl ?_
   refine Tr.move rfl rfl rfl ?_
   refine Tr.callV rfl rfl rfl rfl Body238 (bits_rol _ (-41) 23 dE dE dE) (fun _ _ => trivial) ?_
   refine Tr.xor_u64 rfl rfl rfl rfl ?_
   refine Tr.assign rfl rfl rfl ?_
   refine Tr.nil (at_n (Sat.seq ?_))
   refine Sat.draw [(0, 0), (0, 1), (0, 2), (0, 3), (0, 4), (0, 5), (0, 6), (0, 7), (0, 8), (0, 9), (0, 10), (0, 11), (0, 12), (0, 13), (1, 14), (0, 15), (0, 16), (0, 17), (1, 18), (0, 19), (0, 20)] Mixed (by kernel_rfl) ?_
   refine Tr.move rfl rfl rfl ?_
   refine Tr.move rfl rfl rfl ?_
   refine Tr.add_u64 rfl rfl rfl rfl ?_
   refine Tr.move rfl rfl rfl ?_
   refine Tr.move rfl rfl rfl ?_
   refine Tr.and_u64 rfl rfl rfl rfl ?_
   refine Tr.move rfl rfl rfl ?_
   refine Tr.not_u64 rfl rfl rfl ?_
   refine Tr.move rfl rfl rfl ?_
   refine Tr.and_u64 rfl rfl rfl rfl ?_
   refine Tr.xor_u64 rfl rfl rfl rfl ?_
   refine Tr.add_u64 rfl rfl rfl rfl ?_
   refine Tr.move rfl rfl rfl ?_
   refine Tr.idxArr1 rfl rfl rfl rfl Tryz.underlying209 Sz22 _ rfl oM ?_
   refine Tr.load1 rfl rfl rfl Tryz.underlying22 rfl (by exact mem0) (by exact get_words oM) ?_
   refine Tr.add_u64 rfl rfl rfl rfl ?_
   refine Tr.move rfl rfl rfl ?_
   refine Tr.idxArr1 rfl rfl rfl rfl Tryz.underlying209 Sz22 _ rfl oM ?_
   refine Tr.load1 rfl rfl rfl Tryz.underlying22 rfl (by exact mem1) (by exact get_words oM) ?_
   refine Tr.add_u64 rfl rfl rfl rfl ?_
   refine Tr.assign rfl rfl rfl ?_
   refine Tr.nil (at_n (Sat.seq (Sat.region ?_)))
   refine Tr.move rfl rfl rfl ?_
   refine Tr.callV rfl rfl rfl rfl Body238 (bits_rol _ (-28) 36 dE dE dE) (fun _ _ => trivial) ?_
   refine Tr.move rfl rfl rfl ?_
   refine Tr.callV rfl rfl rfl rfl Body238 (bits_rol _ (-34) 30 dE dE dE) (fun _ _ => trivial) ?_
   refine Tr.xor_u64 rfl rfl rfl rfl ?_
   refine Tr.move rfl rfl rfl ?_
   refine Tr.callV rfl rfl rfl rfl Body238 (bits_rol _ (-39) 25 dE dE dE) (fun _ _ => trivial) ?_
   refine Tr.xor_u64 rfl rfl rfl rfl ?_
   refine Tr.assign rfl rfl rfl ?_
   refine Tr.nil (at_n (Sat.seq (Sat.region ?_)))
   refine Tr.move rfl rfl rfl ?_
   refine Tr.move rfl rfl rfl ?_
   refine Tr.move rfl rfl rfl ?_
   refine Tr.and_u64 rfl rfl rfl rfl ?_
   refine Tr.move rfl rfl rfl ?_
   refine Tr.move rfl rfl rfl ?_
   refine Tr.and_u64 rfl rfl rfl rfl ?_
   refine Tr.xor_u64 rfl rfl rfl rfl ?_
   refine Tr.move rfl rfl rfl ?_
   refine Tr.move rfl rfl rfl ?_
   refine Tr.and_u64 rfl rfl rfl rfl ?_
   refine Tr.xor_u64 rfl rfl rfl rfl ?_
   refine Tr.add_u64 rfl rfl rfl rfl ?_
   refine Tr.assign rfl rfl rfl ?_
   refine Tr.nil (at_n (Sat.region ?_))
   refine Tr.move rfl rfl rfl ?_
   refine Tr.move rfl rfl rfl ?_
   refine Tr.add_u64 rfl rfl rfl rfl ?_
   refine Tr.move rfl rfl rfl ?_
   refine Tr.move rfl rfl rfl ?_
   refine Tr.move rfl rfl rfl ?_
   refine Tr.move rfl rfl rfl ?_
   refine Tr.move rfl rfl rfl ?_
   refine Tr.add_u64 rfl rfl rfl rfl ?_
   refine Tr.move rfl rfl rfl ?_
   refine Tr.move rfl rfl rfl ?_
   refine Tr.move rfl rfl rfl ?_
   refine Tr.assign rfl rfl rfl ?_
   refine Tr.assign rfl rfl rfl ?_
   refine Tr.assign rfl rfl rfl ?_
   refine Tr.assign rfl rfl rfl ?_
   refine Tr.assign rfl rfl rfl ?_
   refine Tr.assign rfl rfl rfl ?_
   refine Tr.assign rfl rfl rfl ?_
   refine Tr.assign rfl rfl rfl ?_
   refine Tr.nil (bl_n (at_n (Sat.region ?_)))
   refine Tr.add_i64 rfl rfl rfl rfl oM ?_
   refine Tr.move rfl rfl rfl ?_
   refine Tr.nil (at_n ?_)
   exact ⟨t + 1, by omega, by omega, weak_of (wk1 rfl (wk1 rfl (wk1 rfl (wk1 rfl (wk1 rfl (wk1 rfl (wk1 rfl (wk1 rfl (wk1 rfl (wk1 rfl (wk1 rfl (wk1 rfl (wk1 rfl wk0))))))))))))) (wh1 (by exact mem0) (wh1 (by exact mem1) (wh1 (by exact mem2) (wh1 (by exact mem3) wh0)))) (by repeat (first | exact ns_nil | refine ns_keep rfl ?_))⟩
  ·
   obtain rfl : t = 80 := by omega
   rw [hR.out]
   refine Sat.exit (at_x (at_x (bl_h (at_n (Sat.seq (Sat.seq (Sat.region ?_)))))))
   refine Tr.move rfl rfl rfl ?_
   refine Tr.move rfl rfl rfl ?_
   refine Tr.move rfl rfl rfl ?_
   refine Tr.move rfl rfl rfl ?_
   refine Tr.move rfl rfl rfl ?_
   refine Tr.move rfl rfl rfl ?_
   refine Tr.move rfl rfl rfl ?_
   refine Tr.move rfl rfl rfl ?_
   refine Tr.build (cs := wordsV R.l) rfl rfl rfl (fun w => by kernel_rfl) ?_
   refine Tr.move rfl rfl rfl ?_
   refine Tr.nil (at_n (Sat.block ?_))
   refine Sat.loop (ι := Nat) (fun i => ⟨[(2, ptr n2 0), (4, ptr n4 0), (114, agg (wordsV R.l)), (115, i64 (i : Int))], [⟨n4, wordsV (List.replicate 8 0), 135, 8⟩, ⟨n2, wordsV (addUp st R.l i), 135, (wordsV st).length⟩]⟩) (fun i => i ≤ 8) (fun i => 8 - i) (0) ?_ ?_ ?_
   · omega
   · exact weak_of (wk1 rfl (wk1 rfl (wk1 rfl (wk1 rfl wk0)))) (wh1 (by exact mem2) (wh1 (by exact mem3) wh0)) nD
   ·
    rintro i hi
    have hli := addUp_length st R.l i
    have hRl := W8.l_length R
    refine Sat.seq (Sat.region ?_)
    refine Tr.lss rfl rfl rfl rfl rfl ?_
    refine Tr.nil (at_n (Sat.seq ?_))
    refine Sat.condP rfl (fun hc1 => ?_) (fun hc1 => ?_)
    ·
     refine Sat.skip (at_n (Sat.seq (Sat.block (Sat.seq (Sat.region ?_)))))
     refine Tr.move rfl rfl rfl ?_
     refine Tr.idxA1 rfl rfl rfl rfl Tryz.underlying135 Sz22 Tryz.underlying22 rfl _ rfl oM (by exact get_words oM) ?_
     refine Tr.assign rfl rfl rfl ?_
     refine Tr.assign rfl rfl rfl ?_
     refine Tr.nil (at_n (Sat.region ?_))
     refine Tr.move rfl rfl rfl ?_
     refine Tr.idxArr1 rfl rfl rfl rfl Tryz.underlying135 Sz22 _ rfl oM ?_
     refine Tr.load1 rfl rfl rfl Tryz.underlying22 rfl (by exact mem1) (by exact get_words oM) ?_
     refine Tr.move rfl rfl rfl ?_
     refine Tr.add_u64 rfl rfl rfl rfl ?_
     refine Tr.idxArr1 rfl rfl rfl rfl Tryz.underlying135 Sz22 _ rfl oM ?_
     refine Tr.store1 rfl rfl rfl rfl rfl Sz22 (by exact mem1) (by (simp [hst, addUp_length]; omega)) (by exact set_words _ _ _) (by exact upd1) ?_
     refine Tr.nil (bl_n (at_n (Sat.region ?_)))
     refine Tr.add_i64 rfl rfl rfl rfl oM ?_
     refine Tr.move rfl rfl rfl ?_
     refine Tr.nil (at_n ?_)
     exact ⟨i + 1, by omega, by omega, weak_of (wk1 rfl (wk1 rfl (wk1 rfl (wk1 rfl wk0)))) (wh1 (by exact mem0) (wh1 (by exact mem1) wh0)) (by repeat (first | exact ns_nil | refine ns_keep rfl ?_))⟩
    ·
     obtain rfl : i = 8 := by omega
     refine Sat.exit (at_x (at_x (bl_h (at_n (Sat.seq (Sat.region ?_))))))
     refine Tr.loadAll rfl rfl rfl Tryz.underlying135 rfl Sz135 (by exact mem1) (by (simp [hst, addUp_length]; done)) ?_
     refine Tr.storeAll rfl rfl rfl rfl (by simp [isCell]) Sz135 (by (simp [hst, addUp_length]; done)) (by exact mem0) (by (simp; done)) (by exact upd0) ?_
     refine Tr.nil (at_n (Sat.ret (en_r ?_)))
     refine ⟨_, [], res_cell rfl rfl Tryz.underlying135 rfl Sz135 (by exact mem0) (by simp [hst, addUp_length]), sP, sP, ?_, rfl⟩
     rfl

set_option maxRecDepth 100000 in
set_option maxHeartbeats 2000000 in
theorem sha_sum (st : List UInt64) (hst : st.length = 8) (s : List UInt8) (hs : Hid (sumUp st 64 = s)) : Meets Tryz.prog 126 [agg (wordsV st)] [] (fun _ => True) (fun v out => v = agg (bytesV s) ∧ out = []) := by
 intro W hW
 have hs64 : s.length = 64 := by rw [← hs.out]; exact sumUp_length st 64
 refine calls_of (hp0 := []) Tryz.func126 rfl 22 Tryz.ntmps126 rfl (HRep.nil _) ?_
 refine Sat.seq (Sat.region ?_)
 refine Tr.boxA rfl rfl ?_
 intro n1 hn1 hf1
 refine Tr.alloc (cs := (bytesV (List.replicate 64 0))) rfl Zr26 rfl ?_
 intro n2 hn2 hf2
 refine Tr.nil (at_n (Sat.seq (Sat.region ?_)))
 refine Tr.alloc (cs := (bytesV (List.replicate 64 0))) rfl Zr26 rfl ?_
 intro n3 hn3 hf3
 refine Tr.nil (at_n (Sat.seq (Sat.seq (Sat.region ?_))))
 refine Tr.move rfl rfl rfl ?_
 refine Tr.nil (at_n (Sat.block ?_))
 refine Sat.loop (ι := Nat) (fun k => ⟨[(1, ptr n1 0), (2, ptr n2 0), (3, ptr n3 0), (5, i64 (k : Int))], [⟨n3, bytesV (sumUp st k), 26, 64⟩, ⟨n2, bytesV (List.replicate 64 0), 26, 64⟩, ⟨n1, wordsV st, 135, (wordsV st).length⟩]⟩) (fun k => k ≤ 64) (fun k => 64 - k) (0) ?_ ?_ ?_
 · omega
 · exact weak_of (wk1 rfl (wk1 rfl (wk1 rfl (wk1 rfl wk0)))) (wh1 (by exact mem0) (wh1 (by exact mem1) (wh1 (by exact mem2) wh0))) (by repeat (first | exact ns_nil | refine ns_keep rfl ?_))
 ·
  rintro k hi
  have hlk := sumUp_length st k
  refine Sat.seq (Sat.region ?_)
  refine Tr.lss rfl rfl rfl rfl rfl ?_
  refine Tr.nil (at_n (Sat.seq ?_))
  refine Sat.condP rfl (fun hc0 => ?_) (fun hc0 => ?_)
  ·
   refine Sat.skip (at_n (Sat.seq (Sat.block (Sat.seq (Sat.region ?_)))))
   refine Tr.move rfl rfl rfl ?_
   refine Tr.assign rfl rfl rfl ?_
   refine Tr.nil (at_n (Sat.region ?_))
   refine Tr.move rfl rfl rfl ?_
   refine Tr.move rfl rfl rfl ?_
   refine Tr.quo_i64 rfl rfl rfl rfl oM ?_
   refine Tr.idxArr1 rfl rfl rfl rfl Tryz.underlying135 Sz22 (k / 8) oM oM ?_
   refine Tr.load1 rfl rfl rfl Tryz.underlying22 rfl (by exact mem2) (by exact get_words oM) ?_
   refine Tr.move rfl rfl rfl ?_
   refine Tr.rem_i64 rfl rfl rfl rfl oM ?_
   refine Tr.mul_i64 rfl rfl rfl rfl oM ?_
   refine Tr.sub_i64 rfl rfl rfl rfl oM ?_
   refine Tr.shr_u64 rfl rfl rfl rfl (56 - 8 * (k % 8)) oM oM ?_
   refine Tr.conv rfl rfl rfl Tryz.underlying22 Tryz.underlying5 (cv_u64_u8 _) ?_
   refine Tr.idxArr1 rfl rfl rfl rfl Tryz.underlying26 Sz5 _ rfl oM ?_
   refine Tr.store1 rfl rfl rfl rfl rfl Sz5 (by exact mem0) (by (simp [sumUp_length]; omega)) (by exact set_bytes _ _ _) (by exact upd0) ?_
   refine Tr.nil (bl_n (at_n (Sat.region ?_)))
   refine Tr.add_i64 rfl rfl rfl rfl oM ?_
   refine Tr.move rfl rfl rfl ?_
   refine Tr.nil (at_n ?_)
   exact ⟨k + 1, by omega, by omega, weak_of (wk1 rfl (wk1 rfl (wk1 rfl (wk1 rfl wk0)))) (wh1 (by exact mem0) (wh1 (by exact mem1) (wh1 (by exact mem2) wh0))) (by repeat (first | exact ns_nil | refine ns_keep rfl ?_))⟩
  ·
   obtain rfl : k = 64 := by omega
   rw [hs.out]
   clear hlk
   refine Sat.exit (at_x (at_x (bl_h (at_n (Sat.seq (Sat.region ?_))))))
   refine Tr.loadAll rfl rfl rfl Tryz.underlying26 rfl Sz26 (by exact mem0) (by (simp [hs64]; done)) ?_
   refine Tr.storeAll rfl rfl rfl rfl (by exact bytesV_cell _) Sz26 (by (simp [hs64]; done)) (by exact mem1) (by (simp; done)) (by exact upd1) ?_
   refine Tr.nil (at_n (Sat.ret (en_r ?_)))
   refine ⟨_, [], res_cell rfl rfl Tryz.underlying26 rfl Sz26 (by exact mem1) (by simp [hs64]), sP, sP, ?_, rfl⟩
   rfl

end Go.Proofs.YtpacobmjjjillaaGreat
end

section
namespace Go.Proofs.YtpacobmjjjillaaGreat
open Go Hw
set_option linter.unusedVariables false
set_option linter.unusedSimpArgs false

theorem and_low {x : UInt64} (h : x.toNat < 4294967296) : x &&& 4294967295 = x := by
  apply UInt64.toNat_inj.1
  rw [UInt64.toNat_and]
  show x.toNat &&& (2 ^ 32 - 1) = x.toNat
  rw [Nat.and_two_pow_sub_one_eq_mod, Nat.mod_eq_of_lt oM]
theorem shr_small {x : UInt64} {n : Nat} (h : x.toNat < 2 ^ n) : shr64 x n = 0 := by
  apply UInt64.toNat_inj.1
  rw [shr64_nat, Nat.div_eq_of_lt h]; rfl
theorem mul8_nat {x : UInt64} (h : x.toNat < 536870912) : (x * 8).toNat = x.toNat * 8 := by
  rw [UInt64.toNat_mul]; show x.toNat * 8 % 18446744073709551616 = _; omega

set_option maxRecDepth 100000 in
set_option maxHeartbeats 1000000 in
theorem bits_mul8 (x : UInt64) (hx : x.toNat < 536870912) : Meets Tryz.prog 163 [u64 x, u64 8] [] (fun _ => True) (fun v out => v = .tuple #[u64 0, u64 (x * 8)] ∧ out = []) := by
 intro W hW
 have h1 := and_low (x := x) oM
 have h2 := shr_small (x := x) (n := 32) oM
 have h3 := mul8_nat hx
 have h4 := shr_small (x := x * 8) (n := 32) oM
 refine calls_of (hp0 := []) Tryz.func163 rfl 51 Tryz.ntmps163 rfl (HRep.nil _) ?_
 refine Sat.seq (Sat.region ?_)
 refine Tr.assign rfl rfl (show evIn _ _ = some (u64 0) from rfl) ?_
 refine Tr.assign rfl rfl (show evIn _ _ = some (u64 0) from rfl) ?_
 refine Tr.nil (at_n (Sat.seq (Sat.region ?_)))
 refine Tr.move rfl rfl rfl ?_
 refine Tr.and_u64 rfl rfl rfl (show evIn _ _ = some (u64 4294967295) from rfl) ?_
 refine Tr.assign rfl rfl rfl ?_
 refine Tr.nil (at_n (Sat.seq (Sat.region ?_)))
 refine Tr.move rfl rfl rfl ?_
 refine Tr.shr_u64 rfl rfl rfl rfl 32 oM oM ?_
 refine Tr.assign rfl rfl rfl ?_
 refine Tr.nil (at_n (Sat.seq (Sat.region ?_)))
 refine Tr.move rfl rfl rfl ?_
 refine Tr.and_u64 rfl rfl rfl (show evIn _ _ = some (u64 4294967295) from rfl) ?_
 refine Tr.assign rfl rfl rfl ?_
 refine Tr.nil (at_n (Sat.seq (Sat.region ?_)))
 refine Tr.move rfl rfl rfl ?_
 refine Tr.shr_u64 rfl rfl (show evIn _ _ = some (u64 8) from rfl) rfl 32 oM oM ?_
 refine Tr.assign rfl rfl rfl ?_
 refine Tr.nil (at_n (Sat.seq (Sat.region ?_)))
 refine Tr.move rfl rfl rfl ?_
 refine Tr.move rfl rfl rfl ?_
 refine Tr.mul_u64 rfl rfl rfl rfl ?_
 refine Tr.assign rfl rfl rfl ?_
 refine Tr.nil (at_n (Sat.seq (Sat.region ?_)))
 refine Tr.move rfl rfl rfl ?_
 refine Tr.move rfl rfl rfl ?_
 refine Tr.mul_u64 rfl rfl rfl rfl ?_
 refine Tr.move rfl rfl rfl ?_
 refine Tr.shr_u64 rfl rfl rfl rfl 32 rfl dE ?_
 refine Tr.add_u64 rfl rfl rfl rfl ?_
 refine Tr.assign rfl rfl rfl ?_
 refine Tr.nil (at_n (Sat.seq (Sat.region ?_)))
 refine Tr.move rfl rfl rfl ?_
 refine Tr.and_u64 rfl rfl rfl (show evIn _ _ = some (u64 4294967295) from rfl) ?_
 refine Tr.assign rfl rfl rfl ?_
 refine Tr.nil (at_n (Sat.seq (Sat.region ?_)))
 refine Tr.move rfl rfl rfl ?_
 refine Tr.shr_u64 rfl rfl rfl rfl 32 rfl dE ?_
 refine Tr.assign rfl rfl rfl ?_
 refine Tr.nil (at_n (Sat.seq (Sat.region ?_)))
 refine Tr.move rfl rfl rfl ?_
 refine Tr.move rfl rfl rfl ?_
 refine Tr.move rfl rfl rfl ?_
 refine Tr.mul_u64 rfl rfl rfl rfl ?_
 refine Tr.add_u64 rfl rfl rfl rfl ?_
 refine Tr.assign rfl rfl rfl ?_
 refine Tr.nil (at_n (Sat.seq (Sat.region ?_)))
 refine Tr.move rfl rfl rfl ?_
 refine Tr.move rfl rfl rfl ?_
 refine Tr.mul_u64 rfl rfl rfl rfl ?_
 refine Tr.move rfl rfl rfl ?_
 refine Tr.add_u64 rfl rfl rfl rfl ?_
 refine Tr.move rfl rfl rfl ?_
 refine Tr.shr_u64 rfl rfl rfl rfl 32 rfl dE ?_
 refine Tr.add_u64 rfl rfl rfl rfl ?_
 refine Tr.assign rfl rfl rfl ?_
 refine Tr.nil (at_n (Sat.seq (Sat.region ?_)))
 refine Tr.move rfl rfl rfl ?_
 refine Tr.move rfl rfl rfl ?_
 refine Tr.mul_u64 rfl rfl rfl rfl ?_
 refine Tr.assign rfl rfl rfl ?_
 refine Tr.nil (at_n (Sat.ret (en_r ?_)))
 refine ⟨_, [], res_tmp2 rfl rfl rfl, sP, sP, ?_, rfl⟩
 simp only [h1, h2, show shr64 8 32 = 0 from rfl, show (8 : UInt64) &&& 4294967295 = 8 from rfl]
 rw [h4, UInt64.mul_zero (a := x)]
 rfl

theorem bytesV_app (a b : List UInt8) : bytesV (a ++ b) = bytesV a ++ bytesV b := List.map_append
theorem sl_get {ss : List Sl} {j : Nat} (h : j < ss.length) : (ss.map Sl.v)[j]? = some (ss.getD j Sl.nil).v := by simp [List.getElem?_eq_getElem h, List.getD]
theorem take_flat {ls : List (List UInt8)} {j : Nat} (h : j < ls.length) : (ls.take (j + 1)).flatten = (ls.take j).flatten ++ ls.getD j [] := by
  rw [List.take_succ_eq_append_getElem h, List.flatten_append]
  simp [List.getD, h]
theorem take_flat_le (ls : List (List UInt8)) (j : Nat) : (ls.take j).flatten.length ≤ ls.flatten.length := by
  have : ls.flatten = (ls.take j).flatten ++ (ls.drop j).flatten := by rw [← List.flatten_append, List.take_append_drop]
  rw [this, List.length_append]; omega

set_option maxRecDepth 100000 in
set_option maxHeartbeats 4000000 in
theorem sha_padded (p : Option Addr) (n c : Nat) (ss : List Sl) (ls : List (List UInt8)) (hss : ss.length = n) (hls : ls.length = n) (hsl : ∀ j, j < n → (ss.getD j Sl.nil).n = (ls.getD j []).length ∧ ((ss.getD j Sl.nil).p = none → (ss.getD j Sl.nil).n = 0)) (F : List UInt8) (hF : ls.flatten = F) (htot : F.length ≤ 90000) (hn : n ≤ 1000000) : Meets Tryz.prog 202 [.slice p n c] [] (fun W => SeesP W p (ss.map Sl.v) ∧ ∀ j, j < n → SeesP W (ss.getD j Sl.nil).p (bytesV (ls.getD j []))) (fun v out => ∃ s, v = s.v ∧ Acc s out (bytesV (padB F)) 5 (padB F).length 1) := by
 intro W hW
 have hz := padZ_lt F.length
 have hle := take_flat_le ls
 rw [hF] at hle
 refine calls_of (hp0 := []) Tryz.func202 rfl 76 Tryz.ntmps202 rfl (HRep.nil _) ?_
 refine Sat.seq (Sat.region ?_)
 refine Tr.assign rfl rfl rfl ?_
 refine Tr.nil (at_n (Sat.seq (Sat.region ?_)))
 refine Tr.assign rfl rfl rfl ?_
 refine Tr.nil (at_n (Sat.seq (Sat.seq (Sat.region ?_))))
 refine Tr.move rfl rfl rfl ?_
 refine Tr.lenSl rfl rfl rfl Tryz.underlying133 ?_
 refine Tr.move rfl rfl rfl ?_
 refine Tr.nil (at_n (Sat.block ?_))
 refine Sat.loop (ι := Nat) (fun k => ⟨[(0, .slice p n c), (3, i64 ((ls.take k).flatten.length : Int)), (14, .slice p n c), (15, i64 (n : Int)), (16, i64 (k : Int))], []⟩) (fun k => k ≤ n) (fun k => n - k) (0) ?_ ?_ ?_
 · omega
 · exact weak_perm (wk1 rfl (wk1 rfl (wk1 rfl (wk1 rfl (wk1 rfl wk0))))) pm_nil
 ·
  rintro k hi
  refine Sat.seq (Sat.region ?_)
  refine Tr.lss rfl rfl rfl rfl rfl ?_
  refine Tr.nil (at_n (Sat.seq ?_))
  refine Sat.condP rfl (fun hc0 => ?_) (fun hc0 => ?_)
  ·
   have hk3 : k < n := by omega
   obtain ⟨b, o, hbp, hbs⟩ := hW.1.at (by rw [List.length_map]; omega)
   have hv : W.cell? ⟨b, o + k * 1, none⟩ = some (ss.getD k Sl.nil).v := by rw [Nat.mul_one]; exact hbs k _ (sl_get oM)
   have hstep := hle (k + 1)
   rw [take_flat oM, List.length_append, ← (hsl k oM).1] at hstep
   refine Sat.skip (at_n (Sat.seq (Sat.block (Sat.seq (Sat.region ?_)))))
   refine Tr.idxSlP 1 rfl rfl rfl hbp rfl Tryz.underlying133 Sz39 k rfl oM ?_
   refine Tr.loadE rfl rfl rfl Tryz.underlying39 rfl (by (simp; done)) (hv) ?_
   refine Tr.assign rfl rfl rfl ?_
   refine Tr.nil (at_n (Sat.region ?_))
   refine Tr.move rfl rfl rfl ?_
   refine Tr.move rfl rfl rfl ?_
   refine Tr.lenSl rfl rfl rfl Tryz.underlying39 ?_
   refine Tr.add_i64 rfl rfl rfl rfl oM ?_
   refine Tr.assign rfl rfl rfl ?_
   refine Tr.nil (bl_n (at_n (Sat.region ?_)))
   refine Tr.add_i64 rfl rfl rfl rfl oM ?_
   refine Tr.move rfl rfl rfl ?_
   refine Tr.nil (at_n ?_)
   exact ⟨k + 1, by omega, by omega, weak_perm (wk1 rfl (wk1 (congrArg (fun z => some (i64 z)) (by rw [take_flat oM, List.length_append, (hsl k oM).1]; simp)) (wk1 rfl (wk1 rfl (wk1 rfl wk0))))) pm_nil⟩
  ·
   have hk3 : k = n := by omega
   rw [hk3, List.take_of_length_le oM, hF]
   refine Sat.exit (at_x (at_x (bl_h (at_n (Sat.seq (Sat.region ?_))))))
   refine Tr.move rfl rfl rfl ?_
   refine Tr.add_i64 rfl rfl rfl rfl oM ?_
   refine Tr.quo_i64 rfl rfl rfl rfl oM ?_
   refine Tr.mul_i64 rfl rfl rfl rfl oM ?_
   refine Tr.add_i64 rfl rfl rfl rfl oM ?_
   refine Tr.mkRoom (z := u8 0) (by' := 1) ((F.length + 16) / 128 * 128 + 128) rfl rfl rfl rfl oM Tryz.underlying39 Sz5 Zr5 (by unfold By; kernel_rfl) rfl oM oM ?_
   intro q30
   refine Tr.assign rfl rfl rfl ?_
   refine Tr.nil (at_n (Sat.seq (Sat.seq (Sat.region ?_))))
   refine Tr.move rfl rfl rfl ?_
   refine Tr.lenSl rfl rfl rfl Tryz.underlying133 ?_
   refine Tr.move rfl rfl rfl ?_
   refine Tr.nil (at_n (Sat.block ?_))
   refine Sat.loop (ι := Nat × Sl × List Blk) (fun x => ⟨[(3, i64 (F.length : Int)), (6, x.2.1.v), (31, .slice p n c), (32, i64 (n : Int)), (33, i64 (x.1 : Int))], (x.2.2 ++ [])⟩) (fun x => x.1 ≤ n ∧ Acc x.2.1 x.2.2 (bytesV (ls.take x.1).flatten) 5 (ls.take x.1).flatten.length 1) (fun x => n - x.1) ((0, ⟨some ⟨q30, 0, none⟩, 0, (F.length + 16) / 128 * 128 + 128⟩, [⟨q30, [], 5, ((F.length + 16) / 128 * 128 + 128) * 1⟩])) ?_ ?_ ?_
   · exact ⟨Nat.zero_le _, Acc.some (Nat.zero_le _) rfl⟩
   · exact weak_perm (wk1 rfl (wk1 rfl (wk1 rfl (wk1 rfl (wk1 rfl wk0))))) (pm_consE (by repeat (exact rem_here)) rfl (Nat.mul_one _).symm pm_nil)
   ·
    rintro x ⟨hx, hax⟩
    refine Sat.seq (Sat.region ?_)
    refine Tr.lss rfl rfl rfl rfl rfl ?_
    refine Tr.nil (at_n (Sat.seq ?_))
    refine Sat.condP rfl (fun hc1 => ?_) (fun hc1 => ?_)
    ·
     have hx3 : x.1 < n := by omega
     obtain ⟨b, o, hbp, hbs⟩ := hW.1.at (by rw [List.length_map]; omega)
     have hv : W.cell? ⟨b, o + x.1 * 1, none⟩ = some (ss.getD x.1 Sl.nil).v := by rw [Nat.mul_one]; exact hbs x.1 _ (sl_get oM)
     have hstep := hle (x.1 + 1)
     rw [take_flat oM, List.length_append, ← (hsl x.1 oM).1] at hstep
     refine Sat.skip (at_n (Sat.seq (Sat.block (Sat.seq (Sat.region ?_)))))
     refine Tr.idxSlP 1 rfl rfl rfl hbp rfl Tryz.underlying133 Sz39 x.1 rfl oM ?_
     refine Tr.loadE rfl rfl rfl Tryz.underlying39 rfl (by (simp; done)) (hv) ?_
     refine Tr.assign rfl rfl rfl ?_
     refine Tr.nil (at_n (Sat.region ?_))
     refine Tr.move rfl rfl rfl ?_
     refine Tr.move rfl rfl rfl ?_
     refine Tr.appendAcc (z := u8 0) (by' := 1) (bytesV (ls.getD x.1 [])) rfl rfl rfl rfl rfl Tryz.underlying39 Tryz.underlying39 Sz5 Zr5 (by unfold By; kernel_rfl) rfl hax (by repeat (exact sg_here)) (fun w h => seesP_ext h rfl (hW.2 x.1 oM)) (hsl x.1 oM).2 (bytesV_cell _) oM oM (by rw [bytesV, List.length_map, Nat.mul_one]; exact (hsl x.1 oM).1.symm) ?_
     intro s39 bl39 hac39
     refine Tr.assign rfl rfl rfl ?_
     refine Tr.nil (bl_n (at_n (Sat.region ?_)))
     refine Tr.add_i64 rfl rfl rfl rfl oM ?_
     refine Tr.move rfl rfl rfl ?_
     refine Tr.nil (at_n ?_)
     refine ⟨(x.1 + 1, s39, bl39), ⟨by simp only []; omega, ?_⟩, by simp only []; omega, weak_perm (wk1 rfl (wk1 rfl (wk1 rfl (wk1 rfl (wk1 rfl wk0))))) (pm_seg (by repeat (exact sg_here)) pm_nil)⟩
     rw [take_flat oM, List.length_append, ← (hsl x.1 oM).1]
     simpa [bytesV] using hac39
    ·
     have hx3 : x.1 = n := by omega
     rw [hx3, List.take_of_length_le oM, hF] at hax
     refine Sat.exit (at_x (at_x (bl_h (at_n (Sat.seq (Sat.region ?_))))))
     refine Tr.move rfl rfl rfl ?_
     refine Tr.mkRow (z := u8 0) [u8 (128)] (bytesV [128]) rfl rfl rfl Tryz.underlying39 Sz5 Zr5 rfl rfl (by intro v hv; rw [List.mem_singleton.1 hv]; rfl) dE rfl ?_
     intro q42
     refine Tr.appendAcc (z := u8 0) (by' := 1) (bytesV [128]) rfl rfl rfl rfl rfl Tryz.underlying39 Tryz.underlying39 Sz5 Zr5 (by unfold By; kernel_rfl) rfl hax (by repeat (first | exact sg_here | apply sg_there)) (fun w h => SeesP.of (sees_own h (by exact mem0))) (fun e => by cases e) (bytesV_cell _) oM oM (by rfl) ?_
     intro s43 bl43 hac43
     refine Tr.assign rfl rfl rfl ?_
     refine Tr.nil (at_n (Sat.seq (Sat.block ?_)))
     refine Sat.loop (ι := Nat × Sl × List Blk) (fun z => ⟨[(3, i64 (F.length : Int)), (6, z.2.1.v)], (z.2.2 ++ [])⟩) (fun z => z.1 ≤ padZ F.length ∧ Acc z.2.1 z.2.2 (bytesV (F ++ [128] ++ List.replicate z.1 0)) 5 (F.length + 1 + z.1) 1) (fun z => padZ F.length - z.1) ((0, s43, bl43)) ?_ ?_ ?_
     · exact ⟨Nat.zero_le _, by simpa [bytesV] using hac43⟩
     · exact weak_perm (wk1 rfl (wk1 rfl wk0)) (pm_seg (by repeat (exact sg_here)) pm_nil)
     ·
      rintro z ⟨hz1, haz⟩
      have hzn := haz.num
      have hpz := padZ_at F.length z.1 hz1
      refine Sat.seq (Sat.seq (Sat.region ?_))
      refine Tr.move rfl rfl rfl ?_
      refine Tr.lenSl rfl rfl rfl Tryz.underlying39 ?_
      refine Tr.rem_i64 rfl rfl rfl rfl oM ?_
      refine Tr.nei rfl rfl rfl rfl rfl ?_
      refine Tr.nil (at_n ?_)
      refine Sat.condNP rfl (fun hc2 => ?_) (fun hc2 => ?_)
      ·
       have hz3 : z.1 < padZ F.length := by omega
       refine Sat.skip (at_n (Sat.block (Sat.region ?_)))
       refine Tr.move rfl rfl rfl ?_
       refine Tr.mkRow (z := u8 0) [u8 (0)] (bytesV [0]) rfl rfl rfl Tryz.underlying39 Sz5 Zr5 rfl rfl (by intro v hv; rw [List.mem_singleton.1 hv]; rfl) dE rfl ?_
       intro q49
       refine Tr.appendAcc (z := u8 0) (by' := 1) (bytesV [0]) rfl rfl rfl rfl rfl Tryz.underlying39 Tryz.underlying39 Sz5 Zr5 (by unfold By; kernel_rfl) rfl haz (by repeat (first | exact sg_here | apply sg_there)) (fun w h => SeesP.of (sees_own h (by exact mem0))) (fun e => by cases e) (bytesV_cell _) oM oM (by rfl) ?_
       intro s50 bl50 hac50
       refine Tr.assign rfl rfl rfl ?_
       refine Tr.nil (bl_n (at_n ?_))
       refine ⟨(z.1 + 1, s50, bl50), ⟨by simp only []; omega, ?_⟩, by simp only []; omega, weak_perm (wk1 rfl (wk1 rfl wk0)) (pm_seg (by repeat (exact sg_here)) pm_nil)⟩
       rw [List.replicate_succ', ← List.append_assoc]
       simpa [bytesV, Nat.add_assoc] using hac50
      ·
       have hz3 : z.1 = padZ F.length := by omega
       rw [hz3] at haz
       refine Sat.exit (at_x (at_x (bl_h (at_n (Sat.seq (Sat.region ?_))))))
       refine Tr.move rfl rfl rfl ?_
       refine Tr.conv rfl rfl rfl Tryz.underlying3 Tryz.underlying22 (cv_i64_u64 _) ?_
       rw [word_nat (n := F.length) oM]
       refine Tr.callV rfl rfl rfl rfl Body163 (bits_mul8 (UInt64.ofNat F.length) (by rw [ofNat_nat oM]; omega)) (fun _ _ => trivial) ?_
       refine Tr.move rfl rfl rfl ?_
       refine Tr.extract rfl rfl rfl rfl ?_
       refine Tr.extract rfl rfl rfl rfl ?_
       refine Tr.assign rfl rfl rfl ?_
       refine Tr.assign rfl rfl rfl ?_
       refine Tr.nil (at_n (Sat.seq (Sat.seq (Sat.region ?_))))
       refine Tr.move rfl rfl rfl ?_
       refine Tr.move rfl rfl rfl ?_
       refine Tr.build (cs := [u64 0, u64 (UInt64.ofNat F.length * 8)]) rfl rfl rfl (fun w => by kernel_rfl) ?_
       refine Tr.move rfl rfl rfl ?_
       refine Tr.nil (at_n (Sat.block ?_))
       refine Sat.rounds 3 (SRounds.more ?_)
       refine Sat.seq (Sat.region ?_)
       refine Tr.lss rfl rfl rfl rfl rfl ?_
       refine Tr.nil (at_n (Sat.seq ?_))
       refine Sat.cond_t rfl (rfl) ?_
       refine Sat.skip (at_n (Sat.seq (Sat.block (Sat.seq (Sat.region ?_)))))
       refine Tr.idxA1 rfl rfl rfl rfl Tryz.underlying208 Sz22 Tryz.underlying22 rfl 0 rfl oM rfl ?_
       refine Tr.assign rfl rfl rfl ?_
       refine Tr.nil (at_n (Sat.seq (Sat.region ?_)))
       refine Tr.assign rfl rfl rfl ?_
       refine Tr.nil (at_n (Sat.block ?_))
       refine Sat.loop (ι := Nat × Sl × List Blk) (fun y => ⟨[(3, i64 (F.length : Int)), (6, y.2.1.v), (12, u64 (0)), (13, i64 (56 - 8 * (y.1 : Int))), (59, agg [u64 0, u64 (UInt64.ofNat F.length * 8)]), (60, i64 0)], (y.2.2 ++ [])⟩) (fun y => y.1 ≤ 8 ∧ Acc y.2.1 y.2.2 (bytesV (F ++ [128] ++ List.replicate (padZ F.length) 0 ++ beUp (0) y.1)) 5 ((F.length + 1 + padZ F.length) + y.1) 1) (fun y => 8 - y.1) ((0, z.2.1, z.2.2)) ?_ ?_ ?_
       · exact ⟨Nat.zero_le _, by simpa [beUp] using haz⟩
       · exact weak_perm (wk1 rfl (wk1 rfl (wk1 rfl (wk1 rfl (wk1 rfl (wk1 rfl wk0)))))) (pm_seg (by repeat (exact sg_here)) pm_nil)
       ·
        rintro y ⟨hy, hay⟩
        refine Sat.seq (Sat.seq (Sat.region ?_))
        refine Tr.move rfl rfl rfl ?_
        refine Tr.geq rfl rfl rfl rfl rfl ?_
        refine Tr.nil (at_n ?_)
        refine Sat.condP rfl (fun hc4 => ?_) (fun hc4 => ?_)
        ·
         have hy3 : y.1 ≤ 7 := by omega
         refine Sat.skip (at_n (Sat.seq (Sat.block (Sat.region ?_))))
         refine Tr.move rfl rfl rfl ?_
         refine Tr.move rfl rfl rfl ?_
         refine Tr.move rfl rfl rfl ?_
         refine Tr.shr_u64 rfl rfl rfl rfl (56 - 8 * y.1) oM oM ?_
         refine Tr.conv rfl rfl rfl Tryz.underlying22 Tryz.underlying5 (cv_u64_u8 _) ?_
         refine Tr.mkRow (z := u8 0) [u8 ((shr64 0 (56 - 8 * y.1)).toUInt8)] (bytesV [(shr64 0 (56 - 8 * y.1)).toUInt8]) rfl rfl rfl Tryz.underlying39 Sz5 Zr5 rfl rfl (by intro v hv; rw [List.mem_singleton.1 hv]; rfl) dE rfl ?_
         intro q72
         refine Tr.appendAcc (z := u8 0) (by' := 1) (bytesV [(shr64 0 (56 - 8 * y.1)).toUInt8]) rfl rfl rfl rfl rfl Tryz.underlying39 Tryz.underlying39 Sz5 Zr5 (by unfold By; kernel_rfl) rfl hay (by repeat (first | exact sg_here | apply sg_there)) (fun w h => SeesP.of (sees_own h (by exact mem0))) (fun e => by cases e) (bytesV_cell _) oM oM (by rfl) ?_
         intro s73 bl73 hac73
         refine Tr.assign rfl rfl rfl ?_
         refine Tr.nil (bl_n (at_n (Sat.region ?_)))
         refine Tr.move rfl rfl rfl ?_
         refine Tr.sub_i64 rfl rfl rfl rfl oM ?_
         refine Tr.assign rfl rfl rfl ?_
         refine Tr.nil (at_n ?_)
         refine ⟨(y.1 + 1, s73, bl73), ⟨by simp only []; omega, ?_⟩, by simp only []; omega, weak_perm (wk1 rfl (wk1 rfl (wk1 rfl (wk1 (congrArg (fun z => some (i64 z)) oM) (wk1 rfl (wk1 rfl wk0)))))) (pm_seg (by repeat (exact sg_here)) pm_nil)⟩
         rw [show beUp (0) (y.1 + 1) = beUp (0) y.1 ++ [(shr64 (0) (56 - 8 * y.1)).toUInt8] from rfl, ← List.append_assoc, bytesV_app]
         exact hac73
        ·
         have hy3 : y.1 = 8 := by omega
         rw [hy3] at hay
         refine Sat.exit (at_x (at_x (bl_h (bl_n (at_n (Sat.region ?_))))))
         refine Tr.add_i64 rfl rfl rfl rfl oM ?_
         refine Tr.move rfl rfl rfl ?_
         refine Tr.nil ?_
         refine at_n (SRounds.more (Sat.seq (Sat.region ?_)))
         refine Tr.lss rfl rfl rfl rfl rfl ?_
         refine Tr.nil (at_n (Sat.seq ?_))
         refine Sat.cond_t rfl (rfl) ?_
         refine Sat.skip (at_n (Sat.seq (Sat.block (Sat.seq (Sat.region ?_)))))
         refine Tr.idxA1 rfl rfl rfl rfl Tryz.underlying208 Sz22 Tryz.underlying22 rfl 1 rfl oM rfl ?_
         refine Tr.assign rfl rfl rfl ?_
         refine Tr.nil (at_n (Sat.seq (Sat.region ?_)))
         refine Tr.assign rfl rfl rfl ?_
         refine Tr.nil (at_n (Sat.block ?_))
         refine Sat.loop (ι := Nat × Sl × List Blk) (fun y => ⟨[(3, i64 (F.length : Int)), (6, y.2.1.v), (12, u64 (UInt64.ofNat F.length * 8)), (13, i64 (56 - 8 * (y.1 : Int))), (59, agg [u64 0, u64 (UInt64.ofNat F.length * 8)]), (60, i64 (0 + 1))], (y.2.2 ++ [])⟩) (fun y => y.1 ≤ 8 ∧ Acc y.2.1 y.2.2 (bytesV (F ++ [128] ++ List.replicate (padZ F.length) 0 ++ beUp 0 8 ++ beUp (UInt64.ofNat F.length * 8) y.1)) 5 ((F.length + 1 + padZ F.length + 8) + y.1) 1) (fun y => 8 - y.1) ((0, y.2.1, y.2.2)) ?_ ?_ ?_
         · exact ⟨Nat.zero_le _, by simpa [beUp] using hay⟩
         · exact weak_perm (wk1 rfl (wk1 rfl (wk1 rfl (wk1 rfl (wk1 rfl (wk1 rfl wk0)))))) (pm_seg (by repeat (exact sg_here)) pm_nil)
         ·
          rintro y ⟨hy, hay⟩
          refine Sat.seq (Sat.seq (Sat.region ?_))
          refine Tr.move rfl rfl rfl ?_
          refine Tr.geq rfl rfl rfl rfl rfl ?_
          refine Tr.nil (at_n ?_)
          refine Sat.condP rfl (fun hc4 => ?_) (fun hc4 => ?_)
          ·
           have hy3 : y.1 ≤ 7 := by omega
           refine Sat.skip (at_n (Sat.seq (Sat.block (Sat.region ?_))))
           refine Tr.move rfl rfl rfl ?_
           refine Tr.move rfl rfl rfl ?_
           refine Tr.move rfl rfl rfl ?_
           refine Tr.shr_u64 rfl rfl rfl rfl (56 - 8 * y.1) oM oM ?_
           refine Tr.conv rfl rfl rfl Tryz.underlying22 Tryz.underlying5 (cv_u64_u8 _) ?_
           refine Tr.mkRow (z := u8 0) [u8 ((shr64 (UInt64.ofNat F.length * 8) (56 - 8 * y.1)).toUInt8)] (bytesV [(shr64 (UInt64.ofNat F.length * 8) (56 - 8 * y.1)).toUInt8]) rfl rfl rfl Tryz.underlying39 Sz5 Zr5 rfl rfl (by intro v hv; rw [List.mem_singleton.1 hv]; rfl) dE rfl ?_
           intro q72
           refine Tr.appendAcc (z := u8 0) (by' := 1) (bytesV [(shr64 (UInt64.ofNat F.length * 8) (56 - 8 * y.1)).toUInt8]) rfl rfl rfl rfl rfl Tryz.underlying39 Tryz.underlying39 Sz5 Zr5 (by unfold By; kernel_rfl) rfl hay (by repeat (first | exact sg_here | apply sg_there)) (fun w h => SeesP.of (sees_own h (by exact mem0))) (fun e => by cases e) (bytesV_cell _) oM oM (by rfl) ?_
           intro s73 bl73 hac73
           refine Tr.assign rfl rfl rfl ?_
           refine Tr.nil (bl_n (at_n (Sat.region ?_)))
           refine Tr.move rfl rfl rfl ?_
           refine Tr.sub_i64 rfl rfl rfl rfl oM ?_
           refine Tr.assign rfl rfl rfl ?_
           refine Tr.nil (at_n ?_)
           refine ⟨(y.1 + 1, s73, bl73), ⟨by simp only []; omega, ?_⟩, by simp only []; omega, weak_perm (wk1 rfl (wk1 rfl (wk1 rfl (wk1 (congrArg (fun z => some (i64 z)) oM) (wk1 rfl (wk1 rfl wk0)))))) (pm_seg (by repeat (exact sg_here)) pm_nil)⟩
           rw [show beUp (UInt64.ofNat F.length * 8) (y.1 + 1) = beUp (UInt64.ofNat F.length * 8) y.1 ++ [(shr64 (UInt64.ofNat F.length * 8) (56 - 8 * y.1)).toUInt8] from rfl, ← List.append_assoc, bytesV_app]
           exact hac73
          ·
           have hy3 : y.1 = 8 := by omega
           rw [hy3] at hay
           refine Sat.exit (at_x (at_x (bl_h (bl_n (at_n (Sat.region ?_))))))
           refine Tr.add_i64 rfl rfl rfl rfl oM ?_
           refine Tr.move rfl rfl rfl ?_
           refine Tr.nil ?_
           refine at_n (SRounds.more (Sat.seq (Sat.region ?_)))
           refine Tr.lss rfl rfl rfl rfl rfl ?_
           refine Tr.nil (at_n (Sat.seq ?_))
           refine Sat.cond_f rfl (rfl) ?_
           refine Sat.exit (at_x (at_x (bl_h (at_n (Sat.seq (Sat.region ?_))))))
           refine Tr.move rfl rfl rfl ?_
           refine Tr.assign rfl rfl rfl ?_
           refine Tr.nil (at_n (Sat.ret (en_r ?_)))
           refine end_perm (out := (y.2.2 ++ [])) (res_tmp rfl rfl) (pm_seg (by repeat (exact sg_here)) pm_nil) ?_
           refine ⟨y.2.1, rfl, ?_⟩
           have e8 : UInt64.ofNat F.length * 8 = UInt64.ofNat (8 * F.length) := by
            apply UInt64.toNat_inj.1
            rw [mul8_nat (by rw [ofNat_nat oM]; omega), ofNat_nat oM, ofNat_nat oM]; omega
           rw [e8] at hay
           rw [padB_length, padB]
           simpa [Nat.add_assoc, Nat.add_comm, Nat.add_left_comm] using hay

end Go.Proofs.YtpacobmjjjillaaGreat
end

section
namespace Go.Proofs.YtpacobmjjjillaaGreat
open Go Hw
set_option linter.unusedVariables false
set_option linter.unusedSimpArgs false

set_option maxRecDepth 100000 in
set_option maxHeartbeats 1000000 in
theorem mk_chunk (p : Option Addr) (n c : Nat) : Meets Tryz.prog 201 [.slice p n c, i64 128] [] (fun _ => True) (fun v out => ∃ b1 b2, v = .func (.func 235) #[] #[ptr b1 0, ptr b2 0] ∧ out = [⟨b1, [.slice p n c], 39, 1⟩, ⟨b2, [i64 128], 3, 1⟩]) := by
 intro W hW
 refine calls_of (hp0 := []) Tryz.func201 rfl 9 Tryz.ntmps201 rfl (HRep.nil _) ?_
 refine Sat.seq (Sat.region ?_)
 refine Tr.box1 rfl rfl rfl ?_
 intro n2 hn2 hf2
 refine Tr.box1 rfl rfl rfl ?_
 intro n3 hn3 hf3
 refine Tr.assign rfl rfl rfl ?_
 refine Tr.nil (at_n (Sat.seq (Sat.seq (Sat.region ?_))))
 refine Tr.load1 rfl rfl rfl Tryz.underlying3 rfl (by exact mem0) (by rfl) ?_
 refine Tr.lss rfl rfl rfl rfl rfl ?_
 refine Tr.nil (at_n ?_)
 refine Sat.cond_f rfl dE ?_
 refine Sat.skip (at_n (Sat.seq (Sat.region ?_)))
 refine Tr.makeFunc rfl rfl rfl rfl ?_
 refine Tr.assign rfl rfl rfl ?_
 refine Tr.nil (at_n (Sat.ret (en_r ?_)))
 refine end_perm (out := (⟨n2, [.slice p n c], 39, 1⟩ :: (⟨n3, [i64 128], 3, 1⟩ :: []))) (res_tmp rfl rfl) (pm_cons (by repeat (first | exact rem_here | apply rem_there)) (pm_cons (by repeat (exact rem_here)) pm_nil)) ?_
 exact ⟨n2, n3, rfl, by simp⟩

/-- a chunk of 128 bytes -/
def encC (q i : Nat) : Value := .slice (some ⟨q, 128 * i, none⟩) 128 128
theorem encC_eq (q i : Nat) : (.slice (some ⟨q, if 128 * i + 128 = 128 * i then 0 else 0 + 128 * i * 1, none⟩) (128 * i + 128 - 128 * i) (128 * i + 128 - 128 * i) : Value) = encC q i := by
  have e1 : 128 * i + 128 - 128 * i = 128 := by omega
  have e2 : 0 + 128 * i * 1 = 128 * i := by omega
  rw [if_neg oM, e1, e2]; rfl

set_option maxRecDepth 100000 in
set_option maxHeartbeats 2000000 in
theorem chunk_iter (l b1 b2 q n c K : Nat) (X : Nat → List Blk) (names : List Nat) (hnk : n = 128 * K) (hnc : n ≤ c) (hbig : n ≤ 1000000) : Meets Tryz.prog 235 [.func (.yield l) #[] #[], ptr b1 0, ptr b2 0] names (fun W => HRep ⟨Tryz.prog, W, 0, names, [], []⟩ (⟨b1, [.slice (some ⟨q, 0, none⟩) n c], 39, 1⟩ :: ⟨b2, [i64 128], 3, 1⟩ :: X 0) W ∧ ∀ i, i < K → ∀ W2, HRep ⟨Tryz.prog, W, 0, names, [], []⟩ (⟨b1, [.slice (some ⟨q, 0, none⟩) n c], 39, 1⟩ :: ⟨b2, [i64 128], 3, 1⟩ :: X i) W2 → YieldAt Fence.wide 0 Tryz.prog l #[encC q i] W2 fun e W3 => e = .returned (.bool true) ∧ HRep ⟨Tryz.prog, W, 0, names, [], []⟩ (⟨b1, [.slice (some ⟨q, 0, none⟩) n c], 39, 1⟩ :: ⟨b2, [i64 128], 3, 1⟩ :: X (i + 1)) W3) (fun v out => v = .tuple #[] ∧ out = ⟨b1, [.slice (some ⟨q, 0, none⟩) n c], 39, 1⟩ :: ⟨b2, [i64 128], 3, 1⟩ :: X K) := by
 intro W hW
 refine calls_of (hp0 := ⟨b1, [.slice (some ⟨q, 0, none⟩) n c], 39, 1⟩ :: ⟨b2, [i64 128], 3, 1⟩ :: X 0) Tryz.func235 rfl 31 Tryz.ntmps235 rfl (HRep.reN hW.1) ?_
 refine Sat.seq (Sat.region ?_)
 refine Tr.assign rfl rfl rfl ?_
 refine Tr.nil (at_n (Sat.block ?_))
 refine Sat.loop (ι := Nat) (fun i => ⟨[(0, .func (.yield l) #[] #[]), (1, ptr b1 0), (2, ptr b2 0), (4, i64 (128 * (i : Int)))], (⟨b1, [.slice (some ⟨q, 0, none⟩) n c], 39, 1⟩ :: (⟨b2, [i64 128], 3, 1⟩ :: (X i ++ [])))⟩) (fun i => i ≤ K) (fun i => K - i) (0) ?_ ?_ ?_
 · exact Nat.zero_le _
 · exact weak_perm (wk1 rfl (wk1 rfl (wk1 rfl (wk1 rfl wk0)))) (pm_cons (by repeat (exact rem_here)) (pm_cons (by repeat (exact rem_here)) (pm_seg (by repeat (exact sg_end)) pm_nil)))
 ·
  rintro i hi
  refine Sat.seq (Sat.seq (Sat.region ?_))
  refine Tr.move rfl rfl rfl ?_
  refine Tr.load1 rfl rfl rfl Tryz.underlying39 rfl (by exact mem0) (by rfl) ?_
  refine Tr.lenSl rfl rfl rfl Tryz.underlying39 ?_
  refine Tr.lss rfl rfl rfl rfl rfl ?_
  refine Tr.nil (at_n ?_)
  refine Sat.condP rfl (fun hc0 => ?_) (fun hc0 => ?_)
  ·
   have hi3 : i < K := by omega
   refine Sat.skip (at_n (Sat.seq (Sat.block (Sat.seq ?_))))
   refine Sat.draw [(1, 0), (1, 1), (0, 2), (0, 3), (0, 4), (0, 5), (0, 6)] Mixed (by kernel_rfl) ?_
   refine Tr.load1 rfl rfl rfl Tryz.underlying3 rfl (by exact mem1) (by rfl) ?_
   refine Tr.load1 rfl rfl rfl Tryz.underlying39 rfl (by exact mem0) (by rfl) ?_
   refine Tr.move rfl rfl rfl ?_
   refine Tr.sliceLoN (128*i) rfl rfl rfl rfl oM oM oM Tryz.underlying39 Sz5 ?_
   refine Tr.lenSl rfl rfl rfl Tryz.underlying39 ?_
   refine Tr.min2 rfl rfl rfl rfl (show Value.int .i64 (if ((n - 128 * i : Nat) : Int) < (128 : Int) then ((n - 128 * i : Nat) : Int) else (128 : Int)) = i64 128 from by rw [if_neg oM]) ?_
   refine Tr.assign rfl rfl rfl ?_
   refine Tr.nil (at_n (Sat.seq ?_))
   refine Sat.regionY 10 rfl (by kernel_rfl) ?_
   refine Tr.move rfl rfl rfl ?_
   refine Tr.load1 rfl rfl rfl Tryz.underlying39 rfl (by exact mem0) (by rfl) ?_
   refine Tr.move rfl rfl rfl ?_
   refine Tr.move rfl rfl rfl ?_
   refine Tr.move rfl rfl rfl ?_
   refine Tr.add_i64 rfl rfl rfl rfl oM ?_
   refine Tr.move rfl rfl rfl ?_
   refine Tr.move rfl rfl rfl ?_
   refine Tr.add_i64 rfl rfl rfl rfl oM ?_
   refine Tr.slice3 (128*i) (128*i+128) (128*i+128) rfl rfl rfl rfl rfl rfl oM oM oM oM oM oM Tryz.underlying39 Sz5 ?_
   refine Tr.nil ?_
   refine yop rfl rfl (congrArg some (encC_eq q i)) (fun w h => hW.2 i hi3 w (by rw [List.append_nil] at h; exact h)) ?_
   refine Tr.not rfl rfl rfl ?_
   refine Tr.nil (at_n ?_)
   refine Sat.cond_f rfl (rfl) ?_
   refine Sat.skip (bl_n (at_n (Sat.region ?_)))
   refine Tr.move rfl rfl rfl ?_
   refine Tr.load1 rfl rfl rfl Tryz.underlying3 rfl (by exact mem1) (by rfl) ?_
   refine Tr.add_i64 rfl rfl rfl rfl oM ?_
   refine Tr.assign rfl rfl rfl ?_
   refine Tr.nil (at_n ?_)
   exact ⟨i + 1, by omega, by omega, weak_perm (wk1 rfl (wk1 rfl (wk1 rfl (wk1 (congrArg (fun z => some (i64 z)) oM) wk0)))) (pm_cons (by repeat (exact rem_here)) (pm_cons (by repeat (exact rem_here)) (pm_seg (by repeat (exact sg_end)) pm_nil)))⟩
  ·
   have hi3 : i = K := by omega
   refine Sat.exit (at_x (at_x (bl_h (en_n ?_))))
   refine end_perm (out := (⟨b1, [.slice (some ⟨q, 0, none⟩) n c], 39, 1⟩ :: (⟨b2, [i64 128], 3, 1⟩ :: (X i ++ [])))) (res_none rfl) (pm_cons (by repeat (exact rem_here)) (pm_cons (by repeat (exact rem_here)) (pm_seg (by repeat (exact sg_here)) pm_nil))) ?_
   rw [hi3]; exact ⟨rfl, by simp⟩

theorem chunk_seq {l b1 b2 q n c K : Nat} {X : Nat → List Blk} {names : List Nat} (hnk : n = 128 * K) (hnc : n ≤ c) (hbig : n ≤ 1000000) (hnm : ∀ i, (⟨b1, [.slice (some ⟨q, 0, none⟩) n c], 39, 1⟩ :: ⟨b2, [i64 128], 3, 1⟩ :: X i).map (·.n) = names) (w1 : World) (hh : HRep ⟨Tryz.prog, w1, 0, names, [], []⟩ (⟨b1, [.slice (some ⟨q, 0, none⟩) n c], 39, 1⟩ :: ⟨b2, [i64 128], 3, 1⟩ :: X 0) w1)
    (hy : ∀ i, i < K → ∀ W2, HRep ⟨Tryz.prog, w1, 0, names, [], []⟩ (⟨b1, [.slice (some ⟨q, 0, none⟩) n c], 39, 1⟩ :: ⟨b2, [i64 128], 3, 1⟩ :: X i) W2 → YieldAt Fence.wide 0 Tryz.prog l #[encC q i] W2 fun e W3 => e = .returned (.bool true) ∧ HRep ⟨Tryz.prog, w1, 0, names, [], []⟩ (⟨b1, [.slice (some ⟨q, 0, none⟩) n c], 39, 1⟩ :: ⟨b2, [i64 128], 3, 1⟩ :: X (i + 1)) W3) :
    CallsIn Fence.wide 0 Tryz.prog 235 (#[.func (.yield l) #[] #[]] ++ #[ptr b1 0, ptr b2 0]) w1 fun e W' => (∃ v, e = .returned v) ∧ HRep ⟨Tryz.prog, w1, 0, names, [], []⟩ (⟨b1, [.slice (some ⟨q, 0, none⟩) n c], 39, 1⟩ :: ⟨b2, [i64 128], 3, 1⟩ :: X K) W' :=
  callsIn_wide.2 ((chunk_iter l b1 b2 q n c K X names hnk hnc hbig w1 ⟨hh, hy⟩).mono fun e W' ⟨v, out, he, ⟨_, ho⟩, hr⟩ => ⟨⟨v, he⟩, by subst ho; exact HRep.ofRet hr (hnm K)⟩)
theorem take_len {xs : List UInt8} {i K : Nat} (h : xs.length = 128 * K) (hi : i < K) : ((xs.drop (128 * i)).take 128).length = 128 := by simp; omega

set_option maxRecDepth 100000 in
set_option maxHeartbeats 4000000 in
theorem sha_whole (st : List UInt64) (hst : st.length = 8) (k : List UInt64) (hk : Hid (kW = k)) (hk80 : k.length = 80) (p : Option Addr) (n c : Nat) (ss : List Sl) (ls : List (List UInt8)) (hss : ss.length = n) (hls : ls.length = n) (hsl : ∀ j, j < n → (ss.getD j Sl.nil).n = (ls.getD j []).length ∧ ((ss.getD j Sl.nil).p = none → (ss.getD j Sl.nil).n = 0)) (F : List UInt8) (hF : ls.flatten = F) (htot : F.length ≤ 90000) (hn : n ≤ 1000000)  : Meets Tryz.prog 127 [agg (wordsV st), .slice p n c] [] (fun W => SeesP W p (ss.map Sl.v) ∧ ∀ j, j < n → SeesP W (ss.getD j Sl.nil).p (bytesV (ls.getD j []))) (fun v out => v = agg (wordsV (allW k st F)) ∧ out = []) := by
  intro W hW
  have hpl := padB_length F
  have hpz := padZ_lt F.length
  have hpm := padB_mod F
  have hst2 : (runW k st (padB F) ((padB F).length / 128)).length = 8 := by rw [runW_length]; exact hst
  refine calls_range Tryz.func127 rfl 16 Tryz.ntmps127 rfl ?_
  refine Sat.region ?_
  refine Tr.boxA rfl rfl ?_
  intro n2 hn2 hf2
  refine Tr.alloc (cs := (wordsV (List.replicate 8 0))) rfl Zr135 rfl ?_
  intro n4 hn4 hf4
  refine Tr.nil ?_
  refine at_n ?_
  refine Sat.region ?_
  refine Tr.move rfl rfl rfl ?_
  refine Tr.call4 rfl rfl rfl rfl rfl Body202 (sha_padded p n c ss ls hss hls hsl F hF htot hn) (fun w h => ⟨seesP_ext h rfl hW.1, fun j hj => seesP_ext h rfl (hW.2 j hj)⟩) ?_
  rintro v7 out7 ⟨s7, rfl, hac7⟩
  obtain ⟨q7, c7, rfl, hc7, rfl⟩ := acc_pos hac7 oM
  refine Tr.call4 rfl rfl rfl rfl rfl Body201 (mk_chunk (some ⟨q7, 0, none⟩) (padB F).length c7) (fun _ _ => trivial) ?_
  rintro v8 out8 ⟨b1, b2, rfl, rfl⟩
  refine Tr.nil ?_
  refine at_n ?_
  refine ⟨_, _, fun i => ⟨b1, [.slice (some ⟨q7, 0, none⟩) (padB F).length c7], 39, 1⟩ :: ⟨b2, [i64 128], 3, 1⟩ :: [⟨q7, bytesV (padB F), 5, c7 * 1⟩, ⟨n4, wordsV (List.replicate 8 0), 135, (wordsV (List.replicate 8 0)).length⟩, ⟨n2, wordsV (runW k st (padB F) i), 135, (wordsV st).length⟩], [b1, b2, q7, n4, n2], encC q7, ((padB F).length / 128), fun sl i => (5, encC q7 i) :: (9, encC q7 i) :: sl, rfl, rfl, Body235, dE, fun _ => rfl, ?_, ?_, ?_, ?_⟩
  ·
    intro l w1 hh hy
    exact chunk_seq (X := fun i => [⟨q7, bytesV (padB F), 5, c7 * 1⟩, ⟨n4, wordsV (List.replicate 8 0), 135, (wordsV (List.replicate 8 0)).length⟩, ⟨n2, wordsV (runW k st (padB F) i), 135, (wordsV st).length⟩]) hpm hc7 oM (fun _ => rfl) w1 hh hy
  ·
    intro i hi l W2 hh
    refine SatI.region (by kernel_rfl) ?_
    refine Tr.assign rfl rfl rfl ?_
    refine Tr.nil ?_
    exact ⟨rfl, rfl⟩
  ·
    intro i hi l W2 hh
    obtain ⟨A, hA⟩ : ∃ A, Hid (schA ((padB F).drop (128 * i) |>.take 128) 128 = A) := ⟨_, ⟨rfl⟩⟩
    obtain ⟨w, hwp⟩ : ∃ w, Hid (schB A 64 = w) := ⟨_, ⟨rfl⟩⟩
    obtain ⟨R, hR⟩ : ∃ R, Hid (rnds k w (W8.of (runW k st (padB F) i)) 80 = R) := ⟨_, ⟨rfl⟩⟩
    have hw : w.length = 80 := by rw [← hwp.out, schB_length, ← hA.out]; exact schA_length _ 128
    have e1 : addUp (runW k st (padB F) i) R.l 8 = runW k st (padB F) (i + 1) := by rw [runW, pieceW, schW, hA.out, hwp.out, hR.out]
    refine SatI.block ?_
    refine SatI.draw [(1, 0), (0, 1), (0, 2), (1, 3), (3, 4), (4, 5)] Mixed (by kernel_rfl) (by kernel_rfl) ?_
    refine Tr.loadAll rfl rfl rfl Tryz.underlying135 rfl Sz135 (by exact mem4) (by rw [List.length_map, runW_length]; exact hst) ?_
    refine Tr.move rfl rfl rfl ?_
    refine Tr.s2a rfl rfl rfl Tryz.underlying191 oM ?_
    refine Tr.loadN (bytesV ((padB F).drop (128 * i) |>.take 128)) rfl rfl rfl Tryz.underlying191 rfl Sz191 (by exact mem2) (by rw [← List.map_drop, ← List.map_take]) (by rw [List.length_map]; exact take_len hpm hi) ?_
    refine Tr.callV rfl rfl rfl rfl Body203 (sha_Piece (runW k st (padB F) i) (by rw [runW_length]; exact hst) ((padB F).drop (128 * i) |>.take 128) (take_len hpm hi) A w k R hA hwp hw hk hk80 hR) (fun _ _ => trivial) ?_
    refine Tr.storeAll rfl rfl rfl rfl (by simp [isCell]) Sz135 (by (rw [List.length_map, addUp_length, runW_length]; exact hst)) (by exact mem4) (by (rw [List.length_map, runW_length]; exact hst)) (by exact upd4) ?_
    refine Tr.nil ?_
    rw [e1]
  ·
    intro D W2
    refine Sat.seq ?_
    refine Sat.region ?_
    refine Tr.loadAll rfl rfl rfl Tryz.underlying135 rfl Sz135 (by exact mem4) (by (simp [hst2]; done)) ?_
    refine Tr.storeAll rfl rfl rfl rfl (by simp [isCell]) Sz135 (by (simp [hst2]; done)) (by exact mem3) (by (simp; done)) (by exact upd3) ?_
    refine Tr.nil ?_
    refine at_n ?_
    refine Sat.ret ?_
    refine enA_r ?_
    refine ⟨_, [], fun W names => res_cell rfl rfl Tryz.underlying135 rfl Sz135 (by exact mem3) (by simp [hst2]), sP, sP, ?_⟩
    exact ⟨rfl, rfl⟩

theorem startW_length : startW.length = 8 := rfl
def xorUp : Nat → List UInt64
  | 0 => startW
  | i + 1 => (xorUp i).set i ((xorUp i).getD i 0 ^^^ 11936128518282651045)
theorem xorUp_length : ∀ i, (xorUp i).length = 8
  | 0 => rfl
  | i + 1 => by rw [xorUp, List.length_set, xorUp_length i]
/-- the bytes of 'SHA-512/256' -/
def shaTag : List UInt8 := [83, 72, 65, 45, 53, 49, 50, 47, 50, 53, 54]
def shaI : List UInt64 := allW kW (xorUp 8) shaTag
/-- SHA-512/256 -/
def sha256 (l : List UInt8) : List UInt8 := (sumUp (allW kW shaI l) 64).take 32
set_option maxRecDepth 100000 in
set_option maxHeartbeats 4000000 in
theorem sha_StartShort (k s0 i0 : List UInt64) (G : List UInt8) (hk : Hid (kW = k)) (hk80 : k.length = 80) (hs0 : Hid (xorUp 8 = s0)) (hs8 : s0.length = 8) (hG : Hid (shaTag = G)) (hGl : G.length = 11) (hi0 : Hid (allW k s0 G = i0)) (hi8 : i0.length = 8)  : Meets Tryz.prog 128 [] [] (fun _ => True) (fun v out => v = agg (wordsV i0) ∧ out = []) := by
 intro W hW
 refine calls_of (hp0 := []) Tryz.func128 rfl 18 Tryz.ntmps128 rfl (HRep.nil _) ?_
 refine Sat.seq (Sat.region ?_)
 refine Tr.alloc (cs := (wordsV (List.replicate 8 0))) rfl Zr135 rfl ?_
 intro n0 hn0 hf0
 refine Tr.nil (at_n (Sat.seq (Sat.region ?_)))
 refine Tr.callV rfl rfl rfl rfl Body204 (sha_Start) (fun _ _ => trivial) ?_
 refine Tr.alloc (cs := (wordsV (List.replicate 8 0))) rfl Zr135 rfl ?_
 intro n1 hn1 hf1
 first
  | refine Tr.storeAll rfl rfl rfl rfl cB Sz135 (by first | (simp [xorUp_length, hs8, hi8, startW_length]; done) | assumption | (rw [bytesV, List.length_map]; assumption)) mM (by first | (simp [xorUp_length, hs8, hi8, startW_length]; done) | assumption | (rw [bytesV, List.length_map]; assumption)) uU ?_
  | refine Tr.storeN _ rfl rfl rfl rfl rfl cB Sz135 (by first | (simp [xorUp_length, hs8, hi8, startW_length]; done) | assumption | (rw [bytesV, List.length_map]; assumption)) mM (by first | (simp [xorUp_length, hs8, hi8, startW_length]; done) | assumption | (rw [bytesV, List.length_map]; assumption)) (by exact rfl) uU ?_
 refine Tr.nil (at_n (Sat.seq (Sat.seq (Sat.region ?_))))
 refine Tr.move rfl rfl rfl ?_
 refine Tr.nil (at_n (Sat.block ?_))
 refine Sat.loop (ι := Nat) (fun j => ⟨[(0, ptr n0 0), (1, ptr n1 0), (4, i64 (j : Int))], [⟨n1, wordsV (xorUp j), 135, 8⟩, ⟨n0, wordsV (List.replicate 8 0), 135, 8⟩]⟩) (fun j => j ≤ 8) (fun j => 8 - j) (0) ?_ ?_ ?_
 · omega
 · exact weak_perm (wk1 rfl (wk1 rfl (wk1 rfl wk0))) (pm_cons rM (pm_cons rM pm_nil))
 ·
  rintro j hi
  have hlj := xorUp_length j
  refine Sat.seq (Sat.region ?_)
  refine Tr.lss rfl rfl rfl rfl rfl ?_
  refine Tr.nil (at_n (Sat.seq ?_))
  first
   | refine Sat.condP rfl (fun hc0 => ?_) (fun hc0 => ?_)
   | refine Sat.condNP rfl (fun hc0 => ?_) (fun hc0 => ?_)
   | refine Sat.cond rfl (fun hc0 => ?_) (fun hc0 => ?_)
  ·
   refine Sat.skip (at_n (Sat.seq (Sat.block (Sat.seq (Sat.region ?_)))))
   refine Tr.move rfl rfl rfl ?_
   refine Tr.assign rfl rfl rfl ?_
   refine Tr.nil (at_n (Sat.region ?_))
   refine Tr.move rfl rfl rfl ?_
   first
    | refine Tr.idxArr1 rfl rfl rfl rfl Tryz.underlying135 Sz22 _ rfl oM ?_
    | refine Tr.idxArrO rfl rfl rfl rfl Tryz.underlying135 Sz22 _ rfl oM ?_
    | refine Tr.idxArr1 rfl rfl rfl rfl Tryz.underlying135 Sz22 _ (toNat_back oM) oM ?_
    | refine Tr.idxArrO rfl rfl rfl rfl Tryz.underlying135 Sz22 _ (toNat_back oM) oM ?_
   refine Tr.load1 rfl rfl rfl Tryz.underlying22 rfl mM (by first | rfl | exact get_words (by first | omega | (simp [xorUp_length, hs8, hi8, startW_length]; done) | (simp [xorUp_length, hs8, hi8, startW_length]; omega)) | exact get_bytes (by first | omega | (simp [xorUp_length, hs8, hi8, startW_length]; done) | (simp [xorUp_length, hs8, hi8, startW_length]; omega)) | exact get_ints (by first | omega | (simp [xorUp_length, hs8, hi8, startW_length]; done) | (simp [xorUp_length, hs8, hi8, startW_length]; omega))) ?_
   refine Tr.xor_u64 rfl rfl rfl (show evIn _ _ = some (u64 11936128518282651045) from rfl) ?_
   first
    | refine Tr.idxArr1 rfl rfl rfl rfl Tryz.underlying135 Sz22 _ rfl oM ?_
    | refine Tr.idxArrO rfl rfl rfl rfl Tryz.underlying135 Sz22 _ rfl oM ?_
    | refine Tr.idxArr1 rfl rfl rfl rfl Tryz.underlying135 Sz22 _ (toNat_back oM) oM ?_
    | refine Tr.idxArrO rfl rfl rfl rfl Tryz.underlying135 Sz22 _ (toNat_back oM) oM ?_
   refine Tr.store1 rfl rfl rfl rfl rfl Sz22 mM (by first | (simp [xorUp_length, hs8, hi8, startW_length]; done) | (simp [xorUp_length, hs8, hi8, startW_length]; omega)) sT uU ?_
   refine Tr.nil (bl_n (at_n (Sat.region ?_)))
   refine Tr.add_i64 rfl rfl rfl rfl oM ?_
   refine Tr.move rfl rfl rfl ?_
   refine Tr.nil (at_n ?_)
   exact ⟨j + 1, by omega, by omega, weak_perm (wk1 rfl (wk1 rfl (wk1 rfl wk0))) (pm_cons rM (pm_cons rM pm_nil))⟩
  ·
   obtain rfl : j = 8 := by omega
   rw [hs0.out]
   clear hlj
   refine Sat.exit (at_x (at_x (bl_h (at_n (Sat.seq (Sat.region ?_))))))
   first
    | refine Tr.loadAll rfl rfl rfl Tryz.underlying135 rfl Sz135 mM (by first | (simp [xorUp_length, hs8, hi8, startW_length]; done) | assumption | (rw [bytesV, List.length_map]; assumption)) ?_
    | refine Tr.loadN _ rfl rfl rfl Tryz.underlying135 rfl Sz135 mM (by exact rfl) (by first | (simp [xorUp_length, hs8, hi8, startW_length]; done) | assumption | (rw [bytesV, List.length_map]; assumption)) ?_
   refine Tr.mkRow (z := u8 0) [u8 83, u8 72, u8 65, u8 45, u8 53, u8 49, u8 50, u8 47, u8 50, u8 53, u8 54] (bytesV shaTag) rfl rfl rfl Tryz.underlying39 Sz5 Zr5 rfl rfl (by intro v hv; simp only [List.mem_cons, List.not_mem_nil, or_false] at hv; rcases hv with rfl | rfl | rfl | rfl | rfl | rfl | rfl | rfl | rfl | rfl | rfl <;> rfl) dE rfl ?_
   intro q14
   rw [hG.out]
   refine Tr.constB rfl rfl rfl rfl Tryz.underlying39 Tryz.underlying5 mM ?_
   refine Tr.mkRow (z := .slice none 0 0) [.slice (some ⟨q14, 0, none⟩) 11 11] [.slice (some ⟨q14, 0, none⟩) 11 11] rfl rfl rfl Tryz.underlying133 Sz39 Zr39 rfl rfl (by intro v hv; rw [List.mem_singleton.1 hv]; rfl) dE rfl ?_
   intro q16
   refine Tr.callV rfl rfl rfl rfl Body127 (sha_whole s0 hs8 k hk hk80 (some ⟨q16, 0, none⟩) 1 1 [⟨some ⟨q14, 0, none⟩, 11, 11⟩] [G] rfl rfl (fun j hj => (by obtain rfl : j = 0 := oM; exact ⟨by simp [hGl], fun e => by cases e⟩)) G sP oM dE) (fun w h => ⟨SeesP.of (sees_own h mM), fun j hj => (by obtain rfl : j = 0 := oM; exact SeesP.of (sees_own h mM))⟩) ?_
   rw [hi0.out]
   first
    | refine Tr.storeAll rfl rfl rfl rfl cB Sz135 (by first | (simp [xorUp_length, hs8, hi8, startW_length]; done) | assumption | (rw [bytesV, List.length_map]; assumption)) mM (by first | (simp [xorUp_length, hs8, hi8, startW_length]; done) | assumption | (rw [bytesV, List.length_map]; assumption)) uU ?_
    | refine Tr.storeN _ rfl rfl rfl rfl rfl cB Sz135 (by first | (simp [xorUp_length, hs8, hi8, startW_length]; done) | assumption | (rw [bytesV, List.length_map]; assumption)) mM (by first | (simp [xorUp_length, hs8, hi8, startW_length]; done) | assumption | (rw [bytesV, List.length_map]; assumption)) (by exact rfl) uU ?_
   refine Tr.nil (at_n (Sat.ret (en_r ?_)))
   refine ⟨_, [], res_cell rfl rfl Tryz.underlying135 rfl Sz135 mM (by simp [xorUp_length, hs8, hi8, startW_length]), sP, sP, ?_, rfl⟩
   rfl

set_option maxRecDepth 100000 in
set_option maxHeartbeats 4000000 in
theorem sha_Sum (k s0 i0 : List UInt64) (G : List UInt8) (hk : Hid (kW = k)) (hk80 : k.length = 80) (hs0 : Hid (xorUp 8 = s0)) (hs8 : s0.length = 8) (hG : Hid (shaTag = G)) (hGl : G.length = 11) (hi0 : Hid (allW k s0 G = i0)) (hi8 : i0.length = 8) (p : Option Addr) (n c : Nat) (ss : List Sl) (ls : List (List UInt8)) (hss : ss.length = n) (hls : ls.length = n) (hsl : ∀ j, j < n → (ss.getD j Sl.nil).n = (ls.getD j []).length ∧ ((ss.getD j Sl.nil).p = none → (ss.getD j Sl.nil).n = 0)) (F : List UInt8) (hF : ls.flatten = F) (htot : F.length ≤ 90000) (hn : n ≤ 1000000) (r : List UInt64) (hr : Hid (allW k i0 F = r)) (s : List UInt8) (hs : Hid (sumUp r 64 = s))  : Meets Tryz.prog 68 [.slice p n c] [] (fun W => SeesP W p (ss.map Sl.v) ∧ ∀ j, j < n → SeesP W (ss.getD j Sl.nil).p (bytesV (ls.getD j []))) (fun v out => v = agg (bytesV (s.take 32)) ∧ out = []) := by
 intro W hW
 have hr8 : r.length = 8 := by rw [← hr.out, allW_length]; exact hi8
 have hs64 : s.length = 64 := by rw [← hs.out]; exact sumUp_length r 64
 have hs32 : (s.take 32).length = 32 := by rw [List.length_take, hs64]; rfl
 refine calls_of (hp0 := []) Tryz.func68 rfl 11 Tryz.ntmps68 rfl (HRep.nil _) ?_
 refine Sat.seq (Sat.region ?_)
 refine Tr.alloc (cs := (bytesV (List.replicate 32 0))) rfl Zr24 rfl ?_
 intro n2 hn2 hf2
 refine Tr.nil (at_n (Sat.seq (Sat.region ?_)))
 refine Tr.callV rfl rfl rfl rfl Body128 (sha_StartShort k s0 i0 G hk hk80 hs0 hs8 hG hGl hi0 hi8) (fun _ _ => trivial) ?_
 refine Tr.move rfl rfl rfl ?_
 refine Tr.callV rfl rfl rfl rfl Body127 (sha_whole i0 hi8 k hk hk80 p n c ss ls hss hls hsl F hF htot hn) (fun w h => ⟨seesP_ext h rfl hW.1, fun j hj => seesP_ext h rfl (hW.2 j hj)⟩) ?_
 rw [hr.out]
 refine Tr.callV rfl rfl rfl rfl Body126 (sha_sum r hr8 s hs) (fun _ _ => trivial) ?_
 refine Tr.alloc (cs := (bytesV (List.replicate 64 0))) rfl Zr26 rfl ?_
 intro n3 hn3 hf3
 first
  | refine Tr.storeAll rfl rfl rfl rfl cB Sz26 (by first | (simp [hs64, hs32]; done) | assumption | (rw [bytesV, List.length_map]; assumption)) mM (by first | (simp [hs64, hs32]; done) | assumption | (rw [bytesV, List.length_map]; assumption)) uU ?_
  | refine Tr.storeN _ rfl rfl rfl rfl rfl cB Sz26 (by first | (simp [hs64, hs32]; done) | assumption | (rw [bytesV, List.length_map]; assumption)) mM (by first | (simp [hs64, hs32]; done) | assumption | (rw [bytesV, List.length_map]; assumption)) (by exact rfl) uU ?_
 refine Tr.nil (at_n (Sat.seq (Sat.region ?_)))
 refine Tr.sliceArrHi 32 rfl rfl rfl rfl rfl dE dE Tryz.underlying26 Sz5 ?_
 refine Tr.s2a rfl rfl rfl Tryz.underlying24 oM ?_
 refine Tr.loadN (bytesV (s.take 32)) rfl rfl rfl Tryz.underlying24 rfl Sz24 mM (by rw [List.drop_zero, ← List.map_take]) (by rw [List.length_map]; exact hs32) ?_
 first
  | refine Tr.storeAll rfl rfl rfl rfl cB Sz24 (by first | (simp [hs64, hs32]; done) | assumption | (rw [bytesV, List.length_map]; assumption)) mM (by first | (simp [hs64, hs32]; done) | assumption | (rw [bytesV, List.length_map]; assumption)) uU ?_
  | refine Tr.storeN _ rfl rfl rfl rfl rfl cB Sz24 (by first | (simp [hs64, hs32]; done) | assumption | (rw [bytesV, List.length_map]; assumption)) mM (by first | (simp [hs64, hs32]; done) | assumption | (rw [bytesV, List.length_map]; assumption)) (by exact rfl) uU ?_
 refine Tr.nil (at_n (Sat.ret (en_r ?_)))
 refine ⟨_, [], res_cell rfl rfl Tryz.underlying24 rfl Sz24 mM (by simp [hs64, hs32]), sP, sP, ?_, rfl⟩
 rfl

end Go.Proofs.YtpacobmjjjillaaGreat
end

section
namespace Go.Proofs.YtpacobmjjjillaaGreat
open Go Hw
set_option linter.unusedVariables false
set_option linter.unusedSimpArgs false

theorem DB.head_small {D : DB} (h : D.check = 0) : D.ls.length ≤ 16 ∧ D.ds.length ≤ 512 := by
  unfold DB.check at h
  by_cases h1 : D.head = true
  · rw [if_pos h1] at h; cases h
  · unfold DB.head at h1
    simp at h1
    omega
theorem BlockIs.ext {C : Cx} {hp : List Blk} {w : World} {B : Block} {D : DB} (hh : HRep C hp w) (hl : C.lent = []) (h : BlockIs C.W0 B D) : BlockIs w B D :=
  ⟨h.ok, h.w, h.seq, h.prev, rows_ext hh hl h.ls, bytes_ext hh hl h.ds, h.sg⟩

end Go.Proofs.YtpacobmjjjillaaGreat
end

section
namespace Go.Proofs.YtpacobmjjjillaaGreat
open Go Hw
set_option linter.unusedSimpArgs false
set_option linter.unusedVariables false
set_option maxRecDepth 100000
/-- a vote is its own data -/
structure VoteIs (W : World) (x : Vote) (d : Vote) : Prop where
  ok : x.ok
  eq : x = d
  wf : (Lit.int .i64 d.fPhase).wf = true
theorem VoteIs.ext {C : Cx} {hp : List Blk} {w : World} {x d : Vote} (h : VoteIs C.W0 x d) (hh : HRep C hp w) (hl : C.lent = []) : VoteIs w x d := ⟨h.ok, h.eq, h.wf⟩
section
variable {H : Type} {enc : TypeId × Value → H} {P : Program} {W : World} {base : Nat} {sp : Nat → Bool} {held : Bool}
end
section
variable {H : Type} {enc : TypeId × Value → H} {W : World} {base : Nat} {sp : Nat → Bool} {held : Bool}
end
section
variable {H : Type} {enc : TypeId × Value → H} {W : World} {base : Nat} {sp : Nat → Bool} {held : Bool}
end
section
variable {H : Type} {enc : TypeId × Value → H} {W : World} {base : Nat} {sp : Nat → Bool} {held : Bool}
end
section
variable {H : Type} {enc : TypeId × Value → H} {W : World} {base : Nat} {sp : Nat → Bool} {held : Bool}
end
section
variable {H : Type} {enc : TypeId × Value → H} {W : World} {base : Nat} {sp : Nat → Bool} {held : Bool}
end

end Go.Proofs.YtpacobmjjjillaaGreat
end

section
namespace Go.Proofs.YtpacobmjjjillaaGreat
open Go Hw
set_option linter.unusedVariables false
set_option linter.unusedSimpArgs false

def vheadB (V : Vote) : Bool := decide ((V.fHeight.toNat : Int) < 1) || (decide ((4294967295 : Int) < (V.fHeight.toNat : Int)) || decide ((20 : Int) < (V.fRound.toNat : Int)))
def vokB (V : Vote) : Bool := if V.fPhase = 1 then (!decide (V.fValue = List.replicate 32 0)) && decide ((V.fProof.toNat : Int) ≤ (V.fRound.toNat : Int)) else if V.fPhase = 2 ∨ V.fPhase = 3 then decide ((V.fProof.toNat : Int) = 0) else false
def vcheck (V : Vote) : Int := if vheadB V = true then 2 else if vokB V = true then 0 else 2

set_option maxRecDepth 100000 in
set_option maxHeartbeats 4000000 in
theorem vote_check (V : Vote) (hV : V.ok) : Meets Tryz.prog 13 [agg V.cells] [] (fun _ => True) (fun v out => v = i64 (vcheck V) ∧ out = []) := by
 intro W hW
 refine calls_of (hp0 := []) Tryz.func13 rfl 40 Tryz.ntmps13 rfl (HRep.nil _) ?_
 refine Sat.seq (Sat.region ?_)
 refine Tr.boxA rfl rfl ?_
 intro n1 hn1 hf1
 refine Tr.assign rfl rfl rfl ?_
 refine Tr.nil (at_n (Sat.seq (Sat.seq (Sat.region ?_))))
 refine Tr.fld rfl rfl rfl Tryz.underlying29 rfl Sz22 dE _ rfl ?_
 refine Tr.load1 rfl rfl rfl Tryz.underlying22 rfl (by exact mem0) (by exact Vote.get_fHeight (by assumption)) ?_
 refine two (fun r hr k => Tr.lss rfl rfl rfl rfl hr k) (fun hs1_20 => ?_) (fun hs1_20 => ?_)
 ·
  have hs1_2 := of_decide_eq_true hs1_20
  refine Tr.move rfl rfl rfl ?_
  refine Tr.skp rfl rfl ?_
  refine Tr.skp rfl rfl ?_
  refine Tr.skp rfl rfl ?_
  refine Tr.pick rfl rfl rfl rfl rfl rfl ?_
  refine Tr.move rfl rfl rfl ?_
  refine Tr.skp rfl rfl ?_
  refine Tr.skp rfl rfl ?_
  refine Tr.skp rfl rfl ?_
  refine Tr.pick rfl rfl rfl rfl rfl rfl ?_
  refine Tr.nil (at_n ?_)
  refine Sat.cond_t rfl rfl ?_
  refine Sat.seq (Sat.region ?_)
  refine Tr.assign rfl rfl rfl ?_
  refine Tr.nil (at_n (Sat.ret (at_r (en_r ?_))))
  refine ⟨_, [], res_tmp rfl rfl, sP, sP, ?_, rfl⟩
  (unfold vcheck vheadB vokB; simp_all; done)
 ·
  have hs1_2 := of_decide_eq_false hs1_20
  refine Tr.move rfl rfl rfl ?_
  refine Tr.fld rfl rfl rfl Tryz.underlying29 rfl Sz22 dE _ rfl ?_
  refine Tr.load1 rfl rfl rfl Tryz.underlying22 rfl (by exact mem0) (by exact Vote.get_fHeight (by assumption)) ?_
  refine two (fun r hr k => Tr.gtr rfl rfl rfl rfl hr k) (fun hs1_60 => ?_) (fun hs1_60 => ?_)
  ·
   have hs1_6 := of_decide_eq_true hs1_60
   refine Tr.pick rfl rfl rfl rfl rfl rfl ?_
   refine Tr.move rfl rfl rfl ?_
   refine Tr.skp rfl rfl ?_
   refine Tr.skp rfl rfl ?_
   refine Tr.skp rfl rfl ?_
   refine Tr.pick rfl rfl rfl rfl rfl rfl ?_
   refine Tr.nil (at_n ?_)
   refine Sat.cond_t rfl rfl ?_
   refine Sat.seq (Sat.region ?_)
   refine Tr.assign rfl rfl rfl ?_
   refine Tr.nil (at_n (Sat.ret (at_r (en_r ?_))))
   refine ⟨_, [], res_tmp rfl rfl, sP, sP, ?_, rfl⟩
   (unfold vcheck vheadB vokB; simp_all; done)
  ·
   have hs1_6 := of_decide_eq_false hs1_60
   refine Tr.pick rfl rfl rfl rfl rfl rfl ?_
   refine Tr.move rfl rfl rfl ?_
   refine Tr.fld rfl rfl rfl Tryz.underlying29 rfl Sz22 dE _ rfl ?_
   refine Tr.load1 rfl rfl rfl Tryz.underlying22 rfl (by exact mem0) (by exact Vote.get_fRound (by assumption)) ?_
   refine Tr.gtr rfl rfl rfl rfl rfl ?_
   refine Tr.pick rfl rfl rfl rfl rfl rfl ?_
   refine Tr.nil (at_n ?_)
   refine Sat.condP rfl (fun hc0 => ?_) (fun hc0 => ?_)
   ·
    refine Sat.seq (Sat.region ?_)
    refine Tr.assign rfl rfl rfl ?_
    refine Tr.nil (at_n (Sat.ret (at_r (en_r ?_))))
    refine ⟨_, [], res_tmp rfl rfl, sP, sP, ?_, rfl⟩
    (unfold vcheck vheadB vokB; simp_all; done)
   ·
    refine Sat.skip (at_n (Sat.seq (Sat.region ?_)))
    refine Tr.assign rfl rfl rfl ?_
    refine Tr.nil (at_n (Sat.seq (Sat.seq (Sat.region ?_))))
    refine Tr.fld rfl rfl rfl Tryz.underlying29 rfl Sz3 dE _ rfl ?_
    refine Tr.load1 rfl rfl rfl Tryz.underlying3 rfl (by exact mem0) (by exact Vote.get_fPhase (by assumption)) ?_
    refine Tr.nil (at_n (Sat.block (Sat.seq (Sat.region ?_))))
    refine Tr.eqi rfl rfl rfl rfl rfl ?_
    refine Tr.assign rfl rfl rfl ?_
    refine Tr.nil (at_n ?_)
    refine Sat.condP rfl (fun hc1 => ?_) (fun hc1 => ?_)
    ·
     refine Sat.region ?_
     refine Tr.fld rfl rfl rfl Tryz.underlying29 rfl Sz24 dE _ rfl ?_
     refine Tr.loadN (bytesV _) rfl rfl rfl Tryz.underlying24 rfl Sz24 (by exact mem0) (Vote.row_fValue (by assumption)) (Vote.rl_fValue (by assumption)) ?_
     refine Tr.build (cs := bytesV (List.replicate 32 0)) rfl rfl rfl (fun w => by kernel_rfl) ?_
     refine two (fun r hr k => Tr.neq_bytes rfl rfl rfl rfl Tryz.eqGuardType24 Tryz.underlying24 Tryz.underlying5 Sz5 (by (simp [hV.l_fValue]; done)) (by (simp; done)) hr k) (fun hs6_30 => ?_) (fun hs6_30 => ?_)
     ·
      have hs6_3 := nd_t hs6_30
      refine Tr.move rfl rfl rfl ?_
      refine Tr.fld rfl rfl rfl Tryz.underlying29 rfl Sz22 dE _ rfl ?_
      refine Tr.load1 rfl rfl rfl Tryz.underlying22 rfl (by exact mem0) (by exact Vote.get_fProof (by assumption)) ?_
      refine Tr.fld rfl rfl rfl Tryz.underlying29 rfl Sz22 dE _ rfl ?_
      refine Tr.load1 rfl rfl rfl Tryz.underlying22 rfl (by exact mem0) (by exact Vote.get_fRound (by assumption)) ?_
      refine Tr.leq rfl rfl rfl rfl rfl ?_
      refine Tr.pick rfl rfl rfl rfl rfl rfl ?_
      refine Tr.assign rfl rfl rfl ?_
      refine Tr.nil (bl_n (at_n (Sat.seq (Sat.seq (Sat.region ?_)))))
      refine Tr.move rfl rfl rfl ?_
      refine Tr.not rfl rfl rfl ?_
      refine Tr.nil (at_n ?_)
      refine Sat.condNP rfl (fun hc4 => ?_) (fun hc4 => ?_)
      ·
       refine Sat.seq (Sat.region ?_)
       refine Tr.assign rfl rfl rfl ?_
       refine Tr.nil (at_n (Sat.ret (at_r (en_r ?_))))
       refine ⟨_, [], res_tmp rfl rfl, sP, sP, ?_, rfl⟩
       (unfold vcheck vheadB vokB; simp_all; done)
      ·
       refine Sat.skip (at_n (Sat.seq (Sat.region ?_)))
       refine Tr.assign rfl rfl rfl ?_
       refine Tr.nil (at_n (Sat.ret (en_r ?_)))
       refine ⟨_, [], res_tmp rfl rfl, sP, sP, ?_, rfl⟩
       (unfold vcheck vheadB vokB; simp_all; done)
     ·
      have hs6_3 := nd_f hs6_30
      refine Tr.move rfl rfl rfl ?_
      refine Tr.skp rfl rfl ?_
      refine Tr.skp rfl rfl ?_
      refine Tr.skp rfl rfl ?_
      refine Tr.skp rfl rfl ?_
      refine Tr.skp rfl rfl ?_
      refine Tr.pick rfl rfl rfl rfl rfl rfl ?_
      refine Tr.assign rfl rfl rfl ?_
      refine Tr.nil (bl_n (at_n (Sat.seq (Sat.seq (Sat.region ?_)))))
      refine Tr.move rfl rfl rfl ?_
      refine Tr.not rfl rfl rfl ?_
      refine Tr.nil (at_n ?_)
      refine Sat.cond_t rfl rfl ?_
      refine Sat.seq (Sat.region ?_)
      refine Tr.assign rfl rfl rfl ?_
      refine Tr.nil (at_n (Sat.ret (at_r (en_r ?_))))
      refine ⟨_, [], res_tmp rfl rfl, sP, sP, ?_, rfl⟩
      (unfold vcheck vheadB vokB; simp_all; done)
    ·
     refine Sat.seq (Sat.seq (Sat.region ?_))
     refine Tr.eqi rfl rfl rfl rfl rfl ?_
     refine Tr.assign rfl rfl rfl ?_
     refine Tr.nil (at_n ?_)
     refine Sat.condP rfl (fun hc2 => ?_) (fun hc2 => ?_)
     ·
      refine Sat.skip (at_n ?_)
      refine Sat.condP rfl (fun hc3 => ?_) (fun hc3 => ?_)
      ·
       refine Sat.region ?_
       refine Tr.fld rfl rfl rfl Tryz.underlying29 rfl Sz22 dE _ rfl ?_
       refine Tr.load1 rfl rfl rfl Tryz.underlying22 rfl (by exact mem0) (by exact Vote.get_fProof (by assumption)) ?_
       refine Tr.eqi rfl rfl rfl rfl rfl ?_
       refine Tr.assign rfl rfl rfl ?_
       refine Tr.nil (bl_n (at_n (Sat.seq (Sat.seq (Sat.region ?_)))))
       refine Tr.move rfl rfl rfl ?_
       refine Tr.not rfl rfl rfl ?_
       refine Tr.nil (at_n ?_)
       refine Sat.condNP rfl (fun hc4 => ?_) (fun hc4 => ?_)
       ·
        refine Sat.seq (Sat.region ?_)
        refine Tr.assign rfl rfl rfl ?_
        refine Tr.nil (at_n (Sat.ret (at_r (en_r ?_))))
        refine ⟨_, [], res_tmp rfl rfl, sP, sP, ?_, rfl⟩
        (unfold vcheck vheadB vokB; simp_all; done)
       ·
        refine Sat.skip (at_n (Sat.seq (Sat.region ?_)))
        refine Tr.assign rfl rfl rfl ?_
        refine Tr.nil (at_n (Sat.ret (en_r ?_)))
        refine ⟨_, [], res_tmp rfl rfl, sP, sP, ?_, rfl⟩
        (unfold vcheck vheadB vokB; simp_all; done)
      ·
       refine Sat.skip (bl_n (at_n (Sat.seq (Sat.seq (Sat.region ?_)))))
       refine Tr.move rfl rfl rfl ?_
       refine Tr.not rfl rfl rfl ?_
       refine Tr.nil (at_n ?_)
       refine Sat.cond_t rfl rfl ?_
       refine Sat.seq (Sat.region ?_)
       refine Tr.assign rfl rfl rfl ?_
       refine Tr.nil (at_n (Sat.ret (at_r (en_r ?_))))
       refine ⟨_, [], res_tmp rfl rfl, sP, sP, ?_, rfl⟩
       (unfold vcheck vheadB vokB; simp_all; done)
     ·
      refine Sat.region ?_
      refine Tr.eqi rfl rfl rfl rfl rfl ?_
      refine Tr.assign rfl rfl rfl ?_
      refine Tr.nil (at_n ?_)
      refine Sat.condP rfl (fun hc3 => ?_) (fun hc3 => ?_)
      ·
       refine Sat.region ?_
       refine Tr.fld rfl rfl rfl Tryz.underlying29 rfl Sz22 dE _ rfl ?_
       refine Tr.load1 rfl rfl rfl Tryz.underlying22 rfl (by exact mem0) (by exact Vote.get_fProof (by assumption)) ?_
       refine Tr.eqi rfl rfl rfl rfl rfl ?_
       refine Tr.assign rfl rfl rfl ?_
       refine Tr.nil (bl_n (at_n (Sat.seq (Sat.seq (Sat.region ?_)))))
       refine Tr.move rfl rfl rfl ?_
       refine Tr.not rfl rfl rfl ?_
       refine Tr.nil (at_n ?_)
       refine Sat.condNP rfl (fun hc4 => ?_) (fun hc4 => ?_)
       ·
        refine Sat.seq (Sat.region ?_)
        refine Tr.assign rfl rfl rfl ?_
        refine Tr.nil (at_n (Sat.ret (at_r (en_r ?_))))
        refine ⟨_, [], res_tmp rfl rfl, sP, sP, ?_, rfl⟩
        (unfold vcheck vheadB vokB; simp_all; done)
       ·
        refine Sat.skip (at_n (Sat.seq (Sat.region ?_)))
        refine Tr.assign rfl rfl rfl ?_
        refine Tr.nil (at_n (Sat.ret (en_r ?_)))
        refine ⟨_, [], res_tmp rfl rfl, sP, sP, ?_, rfl⟩
        (unfold vcheck vheadB vokB; simp_all; done)
      ·
       refine Sat.skip (bl_n (at_n (Sat.seq (Sat.seq (Sat.region ?_)))))
       refine Tr.move rfl rfl rfl ?_
       refine Tr.not rfl rfl rfl ?_
       refine Tr.nil (at_n ?_)
       refine Sat.cond_t rfl rfl ?_
       refine Sat.seq (Sat.region ?_)
       refine Tr.assign rfl rfl rfl ?_
       refine Tr.nil (at_n (Sat.ret (at_r (en_r ?_))))
       refine ⟨_, [], res_tmp rfl rfl, sP, sP, ?_, rfl⟩
       (unfold vcheck vheadB vokB; simp_all; done)

end Go.Proofs.YtpacobmjjjillaaGreat
end

section
namespace Hw
open Go Go.RowKit
set_option linter.unusedSimpArgs false
set_option linter.unusedVariables false
def orI (x y : Int) : Int := IntKind.i64.wrap (((BitVec.ofInt 64 x ||| BitVec.ofInt 64 y).toNat : Nat) : Int)
section
variable {C : Cx} {ops : Array Oper} {rest : List (Nat × Oper)} {sl : List (Nat × Value)} {hp : List Blk} {Q : St → Prop} {c d : Nat} {ty : TypeId} {pos : String} {af : Array Edge} {g : Option (Nat × Bool)} {x y : Operand} {xT yT : TypeId} {a b : Int}
end
end Hw
end

section
namespace Go.Proofs.YtpacobmjjjillaaGreat
open Go Hw
set_option linter.unusedVariables false
set_option linter.unusedSimpArgs false

theorem Acc.hrep {P : Program} {W : World} {N : Nat} {s : Sl} {bl : List Blk} {cells : List Value} {E : TypeId} {n size : Nat} (h : Hw.Acc s bl cells E n size) (hl : Lies bl W) : HRep ⟨P, W, N, bl.map (·.n), [], []⟩ bl W :=
  ⟨hl, by rcases h with ⟨_, rfl, _⟩ | ⟨q, c, _, _, _, rfl⟩ <;> simp, fun b hb => .inr (List.mem_map.2 ⟨b, hb, rfl⟩), Keeps.refl _ _, fun _ h => (by cases h), fun _ _ _ h => (by cases h)⟩
theorem sees_kok {w : World} {b o : Nat} {cs l : List Value} {T : TypeId} {m : Nat} (hb : BlkOk w ⟨b, cs, T, m⟩) (hs : ∀ (j : Nat) (v : Value), l[j]? = some v → cs[o + j]? = some v) : Sees w b o l := fun j v hj => hb.cell (o := o + j) (hs j v hj)
theorem sp_e {X A K : List Blk} (h : ([] : List Blk).Perm (A ++ K)) : X.Perm ((X ++ A) ++ K) := by rw [List.append_assoc]; exact (List.Perm.append_left X h).symm.symm.trans (.refl _) |> fun k => (by rw [List.append_nil] at k; exact k)
theorem seesP_na {C : Cx} {hp : List Blk} {w : World} {p : Option Addr} {cs : List Value} (h : HRep C hp w) (hs : SeesP C.W0 p cs) (hna : ∀ a, p = some a → a.block ∉ C.lent) : SeesP w p cs := fun j v hj => by
  obtain ⟨b, o, e, hc⟩ := hs j v hj
  exact ⟨b, o, e, h.keeps.cell (show b ∉ C.lent from hna ⟨b, o, none⟩ e) hc⟩
theorem na_kb {C : Cx} {hp bl : List Blk} {w : World} {k : Blk} {o : Nat} (h : HRep C hp w) (hk : k ∈ C.kb) (hb : ∀ b ∈ bl, b ∈ hp) : ∀ a, (some ⟨k.n, o, none⟩ : Option Addr) = some a → a.block ∉ bl.map (·.n) := fun a e hm => by
  cases e
  obtain ⟨b, hb2, e2⟩ := List.mem_map.1 hm
  exact h.kd b (hb b hb2) k hk e2
def voteT (V : Vote) : List UInt8 := numB V.fHeight ++ numB V.fRound ++ numB (Hw.byteOf V.fPhase).toUInt64 ++ V.fValue ++ numB V.fProof ++ V.fVoter
def voteBy (V : Vote) : List UInt8 := if vcheck V = 0 then voteT V ++ V.fSig else []
def voteN (V : Vote) : Nat := szN V.fHeight.toNat + szN V.fRound.toNat + szN (Hw.byteOf V.fPhase).toUInt64.toNat + 32 + szN V.fProof.toNat + 32
theorem voteT_length {V : Vote} (h : V.ok) : (voteT V).length = voteN V := by simp only [voteT, voteN, List.length_append, numB_length, h.l_fValue, h.l_fVoter]
theorem voteN_le (V : Vote) : voteN V ≤ 100 := by
  have h1 := szN_pos V.fHeight.toNat
  have h2 := szN_pos V.fRound.toNat
  have h3 := szN_pos (Hw.byteOf V.fPhase).toUInt64.toNat
  have h4 := szN_pos V.fProof.toNat
  unfold voteN
  omega

set_option maxRecDepth 100000 in
set_option maxHeartbeats 1000000 in
theorem text_number (s : Sl) (bl : List Blk) (l : List UInt8) (n : Nat) (hac : Hw.Acc s bl (bytesV l) 5 n 1) (hn : n ≤ 1000) (x : UInt64) : Meets Tryz.prog 117 [s.v, u64 x] (bl.map (·.n)) (fun W => Lies bl W ∧ True) (fun v out => ∃ s', v = s'.v ∧ Hw.Acc s' out (bytesV (l ++ numB x)) 5 (n + szN x.toNat) 1) := by
 intro W hW
 have hz := szN_pos x.toNat
 refine calls_of (hp0 := bl) Tryz.func117 rfl 9 Tryz.ntmps117 rfl (Acc.hrep hac hW.1) ?_
 refine Sat.seq (Sat.region ?_)
 refine Tr.assign rfl rfl rfl ?_
 refine Tr.nil (at_n (Sat.seq (Sat.region ?_)))
 refine Tr.move rfl rfl rfl ?_
 refine Tr.move rfl rfl rfl ?_
 refine Tr.call4 rfl rfl rfl rfl rfl Body152 (oct_Number none 0 0 [] x rfl (fun _ => rfl) oM) (fun _ _ => SeesP.nil) ?_
 rintro v7 out7 ⟨q7, c7, rfl, hc7, rfl⟩
 simp only [Nat.zero_add, List.nil_append, List.cons_append]
 refine Tr.appendAcc (z := u8 0) (by' := 1) (bytesV (numB x)) rfl rfl rfl rfl rfl Tryz.underlying72 Tryz.underlying39 Sz5 Zr5 (by unfold By; kernel_rfl) rfl hac (by repeat (first | exact sg_end | apply sg_there)) (fun w h => SeesP.of (sees_own h (by exact mem0))) (fun e => by cases e) (bytesV_cell _) oM oM (by simp [numB_length]) ?_
 intro s8 bl8 hac8
 refine Tr.assign rfl rfl rfl ?_
 refine Tr.nil (at_n (Sat.ret (en_r ?_)))
 refine end_perm (out := (bl8 ++ [])) (res_tmp rfl rfl) (pm_seg (by repeat (exact sg_here)) pm_nil) ?_
 exact ⟨s8, rfl, by rw [bytesV_app, List.append_nil]; exact hac8⟩

set_option maxRecDepth 100000 in
set_option maxHeartbeats 1000000 in
theorem text_raw (s : Sl) (bl : List Blk) (l : List UInt8) (n : Nat) (hac : Hw.Acc s bl (bytesV l) 5 n 1) (hn : n ≤ 1000) (p : Option Addr) (m c : Nat) (ys : List UInt8) (hy : ys.length = m) (hm : m ≤ 1000) (hpn : p = none → m = 0) : Meets Tryz.prog 63 [s.v, .slice p m c] (bl.map (·.n)) (fun W => Lies bl W ∧ SeesP W p (bytesV ys) ∧ ∀ a, p = some a → a.block ∉ bl.map (·.n)) (fun v out => ∃ s', v = s'.v ∧ Hw.Acc s' out (bytesV (l ++ ys)) 5 (n + m) 1) := by
 intro W hW
 refine calls_of (hp0 := bl) Tryz.func63 rfl 8 Tryz.ntmps63 rfl (Acc.hrep hac hW.1) ?_
 refine Sat.seq (Sat.region ?_)
 refine Tr.assign rfl rfl rfl ?_
 refine Tr.nil (at_n (Sat.seq (Sat.region ?_)))
 refine Tr.move rfl rfl rfl ?_
 refine Tr.move rfl rfl rfl ?_
 refine Tr.appendAcc (z := u8 0) (by' := 1) (bytesV ys) rfl rfl rfl rfl rfl Tryz.underlying72 Tryz.underlying39 Sz5 Zr5 (by unfold By; kernel_rfl) rfl hac (by repeat (exact sg_end)) (fun w h => seesP_na h hW.2.1 hW.2.2) hpn (bytesV_cell _) oM oM (by rw [bytesV, List.length_map, hy, Nat.mul_one]) ?_
 intro s7 bl7 hac7
 refine Tr.assign rfl rfl rfl ?_
 refine Tr.nil (at_n (Sat.ret (en_r ?_)))
 refine end_perm (out := (bl7 ++ [])) (res_tmp rfl rfl) (pm_seg (by repeat (exact sg_here)) pm_nil) ?_
 exact ⟨s7, rfl, by rw [bytesV_app, List.append_nil]; exact hac7⟩

set_option maxRecDepth 100000 in
set_option maxHeartbeats 4000000 in
theorem text_vote (s : Sl) (bl : List Blk) (l : List UInt8) (n : Nat) (hac : Hw.Acc s bl (bytesV l) 5 n 1) (hn : n ≤ 100) (V : Vote) (hV : V.ok) : Meets Tryz.prog 62 [s.v, agg V.cells] (bl.map (·.n)) (fun W => Lies bl W) (fun v out => ∃ s', v = s'.v ∧ Hw.Acc s' out (bytesV (l ++ voteT V)) 5 (n + voteN V) 1) := by
 intro W hW
 have z1 := szN_pos V.fHeight.toNat
 have z2 := szN_pos V.fRound.toNat
 have z3 := szN_pos (Hw.byteOf V.fPhase).toUInt64.toNat
 have z4 := szN_pos V.fProof.toNat
 refine calls_of (hp0 := bl) Tryz.func62 rfl 27 Tryz.ntmps62 rfl (Acc.hrep hac hW) ?_
 refine Sat.seq (Sat.region ?_)
 refine Tr.boxA rfl rfl ?_
 intro n3 hn3 hf3
 refine Tr.assign rfl rfl rfl ?_
 refine Tr.nil (at_n ?_)
 refine Sat.join (ι := Sl × List Blk) (fun p => ⟨[(0, p.1.v), (3, ptr n3 0)], (p.2 ++ (⟨n3, V.cells, 29, V.cells.length⟩ :: []))⟩) (fun p => Hw.Acc p.1 p.2 (bytesV (l ++ numB V.fHeight ++ numB V.fRound ++ numB (Hw.byteOf V.fPhase).toUInt64)) 5 (n + szN V.fHeight.toNat + szN V.fRound.toNat + szN (Hw.byteOf V.fPhase).toUInt64.toNat) 1) ?_ ?_
 ·
  refine Sat.withK (sp_k (sp_e sp_n)) rfl ?_
  refine Sat.draw [(0, 0), (0, 1), (0, 2), (0, 4), (0, 5), (0, 7), (0, 8), (0, 9), (0, 10), (4, 3), (4, 6), (4, 11), (0, 12)] Mixed (by kernel_rfl) ?_
  refine Tr.move rfl rfl rfl ?_
  refine Tr.fld rfl rfl rfl Tryz.underlying29 rfl Sz22 dE _ rfl ?_
  refine Tr.kload1 rfl rfl rfl Tryz.underlying22 rfl (by exact mem0) (by exact Vote.get_fHeight (by assumption)) ?_
  refine Tr.fld rfl rfl rfl Tryz.underlying29 rfl Sz22 dE _ rfl ?_
  refine Tr.kload1 rfl rfl rfl Tryz.underlying22 rfl (by exact mem0) (by exact Vote.get_fRound (by assumption)) ?_
  refine Tr.fld rfl rfl rfl Tryz.underlying29 rfl Sz3 dE _ rfl ?_
  refine Tr.kload1 rfl rfl rfl Tryz.underlying3 rfl (by exact mem0) (by exact Vote.get_fPhase (by assumption)) ?_
  refine Tr.conv rfl rfl rfl Tryz.underlying3 Tryz.underlying5 (cv_i64_u8 _) ?_
  refine Tr.conv rfl rfl rfl Tryz.underlying5 Tryz.underlying22 (cv_u8_u64 _) ?_
  refine Tr.callL (L := bl) rfl rfl rfl rfl rfl Body117 (text_number s bl (l) (n) hac oM (V.fHeight)) (by repeat (exact sg_here)) (lent_ok rfl) (fun w h => ⟨Lies.of h (by repeat (exact in_here)), trivial⟩) ?_
  rintro v8 out8 ⟨s8, rfl, hac8⟩
  refine Tr.callL (L := out8) rfl rfl rfl rfl rfl Body117 (text_number s8 out8 (l ++ numB V.fHeight) (n + szN V.fHeight.toNat) hac8 oM (V.fRound)) (by repeat (exact sg_here)) (lent_ok rfl) (fun w h => ⟨Lies.of h (by repeat (exact in_here)), trivial⟩) ?_
  rintro v11 out11 ⟨s11, rfl, hac11⟩
  refine Tr.callL (L := out11) rfl rfl rfl rfl rfl Body117 (text_number s11 out11 (l ++ numB V.fHeight ++ numB V.fRound) (n + szN V.fHeight.toNat + szN V.fRound.toNat) hac11 oM ((Hw.byteOf V.fPhase).toUInt64)) (by repeat (exact sg_here)) (lent_ok rfl) (fun w h => ⟨Lies.of h (by repeat (exact in_here)), trivial⟩) ?_
  rintro v16 out16 ⟨s16, rfl, hac16⟩
  refine Tr.assign rfl rfl rfl ?_
  refine Tr.nil (at_n ?_)
  simp only [List.cons_append, List.nil_append, List.append_nil]
  exact ⟨(s16, out16), hac16, weak_perm (wk1 rfl (wk1 rfl wk0)) (pm_seg (by repeat (exact sg_here)) (pm_cons (by repeat (exact rem_here)) pm_nil))⟩
 ·
  intro p hj
  have hap := hj
  refine Sat.seq ?_
  refine Sat.withK (sp_x (sp_k sp_n)) rfl ?_
  refine Sat.draw [(0, 0), (0, 1), (0, 2), (0, 4), (0, 5), (0, 7), (0, 8), (4, 3), (4, 6), (4, 9), (0, 10)] Mixed (by kernel_rfl) ?_
  refine Tr.move rfl rfl rfl ?_
  refine Tr.fld rfl rfl rfl Tryz.underlying29 rfl Sz24 dE _ rfl ?_
  refine Tr.sliceArr rfl rfl rfl Tryz.underlying24 Sz5 ?_
  refine Tr.fld rfl rfl rfl Tryz.underlying29 rfl Sz22 dE _ rfl ?_
  refine Tr.kload1 rfl rfl rfl Tryz.underlying22 rfl (by exact mem0) (by exact Vote.get_fProof (by assumption)) ?_
  refine Tr.fld rfl rfl rfl Tryz.underlying29 rfl Sz25 dE _ rfl ?_
  refine Tr.sliceArr rfl rfl rfl Tryz.underlying25 Sz5 ?_
  refine Tr.callL (L := p.2) rfl rfl rfl rfl rfl Body63 (text_raw p.1 p.2 (l ++ numB V.fHeight ++ numB V.fRound ++ numB (Hw.byteOf V.fPhase).toUInt64) (n + szN V.fHeight.toNat + szN V.fRound.toNat + szN (Hw.byteOf V.fPhase).toUInt64.toNat) hap oM (some ⟨n3, 0 + 3, none⟩) 32 32 V.fValue hV.l_fValue dE (fun e => by cases e)) (by repeat (exact sg_here)) (lent_ok rfl) (fun w h => ⟨Lies.of h (by repeat (exact in_here)), SeesP.of (sees_kok (h.kok _ List.mem_cons_self) (Vote.see_fValue hV)), na_kb h List.mem_cons_self (by repeat (exact in_here))⟩) ?_
  rintro v20 out20 ⟨s20, rfl, hac20⟩
  refine Tr.callL (L := out20) rfl rfl rfl rfl rfl Body117 (text_number s20 out20 (l ++ numB V.fHeight ++ numB V.fRound ++ numB (Hw.byteOf V.fPhase).toUInt64 ++ V.fValue) (n + szN V.fHeight.toNat + szN V.fRound.toNat + szN (Hw.byteOf V.fPhase).toUInt64.toNat + 32) hac20 oM (V.fProof)) (by repeat (exact sg_here)) (lent_ok rfl) (fun w h => ⟨Lies.of h (by repeat (exact in_here)), trivial⟩) ?_
  rintro v23 out23 ⟨s23, rfl, hac23⟩
  refine Tr.callL (L := out23) rfl rfl rfl rfl rfl Body63 (text_raw s23 out23 (l ++ numB V.fHeight ++ numB V.fRound ++ numB (Hw.byteOf V.fPhase).toUInt64 ++ V.fValue ++ numB V.fProof) (n + szN V.fHeight.toNat + szN V.fRound.toNat + szN (Hw.byteOf V.fPhase).toUInt64.toNat + 32 + szN V.fProof.toNat) hac23 oM (some ⟨n3, 0 + 36, none⟩) 32 32 V.fVoter hV.l_fVoter dE (fun e => by cases e)) (by repeat (exact sg_here)) (lent_ok rfl) (fun w h => ⟨Lies.of h (by repeat (exact in_here)), SeesP.of (sees_kok (h.kok _ List.mem_cons_self) (Vote.see_fVoter hV)), na_kb h List.mem_cons_self (by repeat (exact in_here))⟩) ?_
  rintro v26 out26 ⟨s26, rfl, hac26⟩
  refine Tr.assign rfl rfl rfl ?_
  refine Tr.nil (at_n (Sat.ret (en_r ?_)))
  simp only [List.cons_append, List.nil_append, List.append_nil]
  refine end_perm (out := (out26 ++ [])) (res_tmp rfl rfl) (pm_seg (by repeat (exact sg_here)) pm_nil) ?_
  refine ⟨s26, rfl, ?_⟩
  rw [List.append_nil, show l ++ voteT V = l ++ numB V.fHeight ++ numB V.fRound ++ numB (Hw.byteOf V.fPhase).toUInt64 ++ V.fValue ++ numB V.fProof ++ V.fVoter by simp only [voteT, List.append_assoc], show n + voteN V = n + szN V.fHeight.toNat + szN V.fRound.toNat + szN (Hw.byteOf V.fPhase).toUInt64.toNat + 32 + szN V.fProof.toNat + 32 by unfold voteN; omega]
  exact hac26

set_option maxRecDepth 100000 in
set_option maxHeartbeats 4000000 in
theorem vote_bytes (V : Vote) (hV : V.ok) : Meets Tryz.prog 17 [agg V.cells] [] (fun _ => True) (fun v out => ∃ s, v = .tuple #[s.v, i64 (vcheck V)] ∧ Hw.Acc s out (bytesV (voteBy V)) 5 (voteBy V).length 1) := by
 intro W hW
 have hvl := voteT_length hV
 have hvn := voteN_le V
 have hsl := hV.l_fSig
 refine calls_of (hp0 := []) Tryz.func17 rfl 15 Tryz.ntmps17 rfl (HRep.nil _) ?_
 refine Sat.seq (Sat.region ?_)
 refine Tr.boxA rfl rfl ?_
 intro n1 hn1 hf1
 refine Tr.assign rfl rfl rfl ?_
 refine Tr.assign rfl rfl rfl ?_
 refine Tr.nil (at_n (Sat.seq (Sat.seq (Sat.region ?_))))
 refine Tr.loadAll rfl rfl rfl Tryz.underlying29 rfl Sz29 (by exact mem0) (Vote.length (by assumption)) ?_
 refine Tr.callV rfl rfl rfl rfl Body13 (vote_check V hV) (fun _ _ => trivial) ?_
 refine Tr.assign rfl rfl rfl ?_
 refine Tr.nil (at_n (Sat.seq (Sat.region ?_)))
 refine Tr.move rfl rfl rfl ?_
 refine Tr.nei rfl rfl rfl rfl rfl ?_
 refine Tr.nil (at_n ?_)
 refine Sat.condNP rfl (fun hc0 => ?_) (fun hc0 => ?_)
 ·
  refine Sat.seq (Sat.region ?_)
  refine Tr.move rfl rfl rfl ?_
  refine Tr.assign rfl rfl rfl ?_
  refine Tr.assign rfl rfl rfl ?_
  refine Tr.nil (at_n (Sat.ret (at_r (en_r ?_))))
  refine end_perm (out := []) (res_tmp2 rfl rfl rfl) pm_nil ?_
  exact ⟨Sl.nil, rfl, by rw [show voteBy V = [] from if_neg hc0]; exact Acc.none⟩
 ·
  refine Sat.skip (at_n (Sat.seq ?_))
  refine Sat.withK (sp_k sp_n) rfl ?_
  refine Sat.draw [(0, 0), (0, 2), (0, 3), (4, 1), (4, 4), (0, 5), (0, 6)] Mixed (by kernel_rfl) ?_
  refine Tr.kloadAll rfl rfl rfl Tryz.underlying29 rfl Sz29 (by exact mem0) (Vote.length (by assumption)) ?_
  refine Tr.fld rfl rfl rfl Tryz.underlying29 rfl Sz27 dE _ rfl ?_
  refine Tr.sliceArr rfl rfl rfl Tryz.underlying27 Sz5 ?_
  refine Tr.callL (L := []) rfl rfl rfl rfl rfl Body62 (text_vote Sl.nil [] [] 0 Acc.none dE V hV) (.refl _) (lent_ok rfl) (fun w h => fun b hb => (by cases hb)) ?_
  rintro v11 out11 ⟨s11, rfl, hac11⟩
  simp only [List.nil_append, Nat.zero_add] at hac11
  refine Tr.callL (L := out11) rfl rfl rfl rfl rfl Body63 (text_raw s11 out11 (voteT V) (voteN V) hac11 oM (some ⟨n1, 0 + 68, none⟩) 64 64 V.fSig hV.l_fSig dE (fun e => by cases e)) (by repeat (exact sg_here)) (lent_ok rfl) (fun w h => ⟨Lies.of h (by repeat (exact in_here)), SeesP.of (sees_kok (h.kok _ List.mem_cons_self) (Vote.see_fSig hV)), na_kb h List.mem_cons_self (by repeat (exact in_here))⟩) ?_
  rintro v14 out14 ⟨s14, rfl, hac14⟩
  refine Tr.assign rfl rfl rfl ?_
  refine Tr.assign rfl rfl rfl ?_
  refine Tr.nil (at_n (Sat.ret (en_r ?_)))
  simp only [List.cons_append, List.nil_append, List.append_nil]
  refine end_perm (out := (out14 ++ [])) (res_tmp2 rfl rfl rfl) (pm_seg (by repeat (exact sg_here)) pm_nil) ?_
  refine ⟨s14, by rw [show vcheck V = 0 by omega], ?_⟩
  rw [show voteBy V = voteT V ++ V.fSig from if_pos oM, List.append_nil, show (voteT V ++ V.fSig).length = voteN V + 64 by rw [List.length_append, hvl, hsl]]
  exact hac14

end Go.Proofs.YtpacobmjjjillaaGreat
end

section
namespace Ed
set_option linter.unusedVariables false

abbrev ClsOf {C : Type → Type} {a : Type} (_ : C a) : Type → Type := C
abbrev CommRing : Type → Type := ClsOf Dyadic.instCommRing
/-- a field in which -1 is a square and d is not one -/
structure Cv (R : Type) [CommRing R] where
  d : R
  i : R
  inv : R → R
  one_ne : (1 : R) ≠ 0
  two_ne : (1 : R) + 1 ≠ 0
  mul_inv : ∀ a : R, a ≠ 0 → a * inv a = 1
  inv_zero : inv 0 = 0
  i_sq : i * i = -1
  nsq : ∀ z : R, z * z ≠ d

structure Pt (R : Type) where
  x : R
  y : R

section
variable {R : Type} [CommRing R] (C : Cv R)
theorem Cv.no_zero (C : Cv R) {a b : R} (ha : a ≠ 0) (hb : b ≠ 0) : a * b ≠ 0 := fun h => by
  have h1 := C.mul_inv a ha
  have h2 := C.mul_inv b hb
  exact C.one_ne (by grind)
theorem Cv.zero_or (C : Cv R) {a b : R} (h : a * b = 0) : a = 0 ∨ b = 0 := by
  by_cases ha : a = 0
  · exact .inl ha
  · by_cases hb : b = 0
    · exact .inr hb
    · exact absurd h (C.no_zero ha hb)
theorem Cv.cancel (C : Cv R) {a u v : R} (ha : a ≠ 0) (h : a * u = a * v) : u = v := by
  have h1 := C.mul_inv a ha
  grind
def Cv.on (P : Pt R) : Prop := P.y * P.y - P.x * P.x = 1 + C.d * P.x * P.x * P.y * P.y
def Cv.e (P Q : Pt R) : R := C.d * P.x * Q.x * P.y * Q.y
def Cv.add (P Q : Pt R) : Pt R := ⟨(P.x * Q.y + Q.x * P.y) * C.inv (1 + C.e P Q), (P.y * Q.y + P.x * Q.x) * C.inv (1 - C.e P Q)⟩
def zero : Pt R := ⟨0, 1⟩
def neg (P : Pt R) : Pt R := ⟨-P.x, P.y⟩

theorem Cv.sq_no {u v : R} (hv : v ≠ 0) (h : u * u = C.d * (v * v)) : False := by
  have h1 := C.mul_inv v hv
  exact C.nsq (u * C.inv v) (by grind)
theorem Cv.complete {P Q : Pt R} (hP : C.on P) (hQ : C.on Q) : C.e P Q * C.e P Q ≠ 1 := fun h => by
  obtain ⟨x1, y1⟩ := P
  obtain ⟨x2, y2⟩ := Q
  simp only [on, e] at *
  have hi := C.i_sq
  have h1 : (C.i * x1 + C.d * x1 * x2 * y1 * y2 * y1) * (C.i * x1 + C.d * x1 * x2 * y1 * y2 * y1) = C.d * ((x1 * y1 * (C.i * x2 + y2)) * (x1 * y1 * (C.i * x2 + y2))) := by grind
  have h2 : (C.i * x1 - C.d * x1 * x2 * y1 * y2 * y1) * (C.i * x1 - C.d * x1 * x2 * y1 * y2 * y1) = C.d * ((x1 * y1 * (C.i * x2 - y2)) * (x1 * y1 * (C.i * x2 - y2))) := by grind
  have n1 : x1 ≠ 0 := fun e => C.one_ne (by rw [e] at h; grind)
  have n2 : y1 ≠ 0 := fun e => C.one_ne (by rw [e] at h; grind)
  have n3 : y2 ≠ 0 := fun e => C.one_ne (by rw [e] at h; grind)
  have n4 := C.no_zero n1 n2
  by_cases h3 : C.i * x2 + y2 = 0
  · by_cases h4 : C.i * x2 - y2 = 0
    · have h5 : (1 + 1) * y2 = 0 := by grind
      rcases C.zero_or h5 with h6 | h6
      · exact C.two_ne h6
      · exact n3 h6
    · exact C.sq_no (C.no_zero n4 h4) h2
  · exact C.sq_no (C.no_zero n4 h3) h1
theorem Cv.plus_ne {P Q : Pt R} (hP : C.on P) (hQ : C.on Q) : 1 + C.e P Q ≠ 0 := fun h => C.complete hP hQ (by grind)
theorem Cv.minus_ne {P Q : Pt R} (hP : C.on P) (hQ : C.on Q) : 1 - C.e P Q ≠ 0 := fun h => C.complete hP hQ (by grind)

theorem Cv.on_zero : C.on (zero : Pt R) := by simp only [on, zero]; grind
theorem Cv.on_neg {P : Pt R} (h : C.on P) : C.on (neg P) := by simp only [on, neg] at *; grind
theorem Cv.add_zero (P : Pt R) : C.add P zero = P := by
  obtain ⟨x, y⟩ := P
  have h1 := C.mul_inv 1 C.one_ne
  have h2 : C.e ⟨x, y⟩ ⟨0, 1⟩ = 0 := by simp only [e]; grind
  simp only [add, zero, h2]
  rw [show (1 : R) + 0 = 1 by grind, show (1 : R) - 0 = 1 by grind]
  congr 1 <;> grind
theorem Cv.e_comm (P Q : Pt R) : C.e P Q = C.e Q P := by simp only [e]; grind
theorem Cv.add_comm (P Q : Pt R) : C.add P Q = C.add Q P := by
  simp only [add, C.e_comm P Q]
  congr 1 <;> grind
theorem Cv.add_neg {P : Pt R} (h : C.on P) : C.add P (neg P) = zero := by
  have h1 := C.mul_inv _ (C.minus_ne h (C.on_neg h))
  obtain ⟨x, y⟩ := P
  simp only [on, add, neg, zero, e] at *
  congr 1 <;> grind
theorem Cv.on_add {P Q : Pt R} (hP : C.on P) (hQ : C.on Q) : C.on (C.add P Q) := by
  have h1 := C.mul_inv _ (C.plus_ne hP hQ)
  have h2 := C.mul_inv _ (C.minus_ne hP hQ)
  obtain ⟨x1, y1⟩ := P
  obtain ⟨x2, y2⟩ := Q
  simp only [on, add, e] at *
  generalize C.inv (1 + C.d * x1 * x2 * y1 * y2) = a at *
  generalize C.inv (1 - C.d * x1 * x2 * y1 * y2) = b at *
  have k : ((y1*y2+x1*x2)*(1 + C.d*x1*x2*y1*y2))*((y1*y2+x1*x2)*(1 + C.d*x1*x2*y1*y2)) - ((x1*y2+x2*y1)*(1 - C.d*x1*x2*y1*y2))*((x1*y2+x2*y1)*(1 - C.d*x1*x2*y1*y2)) = ((1 + C.d*x1*x2*y1*y2)*(1 - C.d*x1*x2*y1*y2))*((1 + C.d*x1*x2*y1*y2)*(1 - C.d*x1*x2*y1*y2)) + C.d*((x1*y2+x2*y1)*(x1*y2+x2*y1))*((y1*y2+x1*x2)*(y1*y2+x1*x2)) := by grind
  generalize C.d * x1 * x2 * y1 * y2 = ee at *
  generalize y1*y2+x1*x2 = B at *
  generalize x1*y2+x2*y1 = A at *
  clear hP hQ
  have e1 : (a * b) * (a * b) * (B * (1 + ee) * (B * (1 + ee)) - A * (1 - ee) * (A * (1 - ee))) = B * b * (B * b) - A * a * (A * a) := by grind
  have e2 : (a * b) * (a * b) * ((1 + ee) * (1 - ee) * ((1 + ee) * (1 - ee)) + C.d * (A * A) * (B * B)) = 1 + C.d * (A * a) * (A * a) * (B * b) * (B * b) := by grind
  rw [← e1, ← e2, k]

theorem Cv.frac (C : Cv R) {X Y n m k l : R} (hm : m ≠ 0) (hl : l ≠ 0) (h1 : X * m = n) (h2 : Y * l = k) (h : n * l = k * m) : X = Y :=
  C.cancel (C.no_zero hm hl) (by grind)
theorem Cv.third {P Q S : Pt R} (hP : C.on P) (hQ : C.on Q) (hS : C.on S) :
    (C.add (C.add P Q) S).x * ((1 - C.e P Q) * (1 + C.e P Q) + C.d * S.x * S.y * (P.x * Q.y + Q.x * P.y) * (P.y * Q.y + P.x * Q.x)) = (P.x * Q.y + Q.x * P.y) * S.y * (1 - C.e P Q) + S.x * (P.y * Q.y + P.x * Q.x) * (1 + C.e P Q) ∧
    (C.add (C.add P Q) S).y * ((1 - C.e P Q) * (1 + C.e P Q) - C.d * S.x * S.y * (P.x * Q.y + Q.x * P.y) * (P.y * Q.y + P.x * Q.x)) = (P.y * Q.y + P.x * Q.x) * S.y * (1 + C.e P Q) + S.x * (P.x * Q.y + Q.x * P.y) * (1 - C.e P Q) ∧
    (1 - C.e P Q) * (1 + C.e P Q) + C.d * S.x * S.y * (P.x * Q.y + Q.x * P.y) * (P.y * Q.y + P.x * Q.x) ≠ 0 ∧ (1 - C.e P Q) * (1 + C.e P Q) - C.d * S.x * S.y * (P.x * Q.y + Q.x * P.y) * (P.y * Q.y + P.x * Q.x) ≠ 0 := by
  have p1 := C.plus_ne hP hQ
  have p2 := C.minus_ne hP hQ
  have hA := C.on_add hP hQ
  have p3 := C.plus_ne hA hS
  have p4 := C.minus_ne hA hS
  have h1 := C.mul_inv _ p1
  have h2 := C.mul_inv _ p2
  have h3 := C.mul_inv _ p3
  have h4 := C.mul_inv _ p4
  have m1 := C.no_zero (C.no_zero p2 p1) p3
  have m2 := C.no_zero (C.no_zero p2 p1) p4
  generalize he : C.e P Q = ee at *
  have eA : C.e (C.add P Q) S = C.d * ((P.x * Q.y + Q.x * P.y) * C.inv (1 + ee)) * S.x * ((P.y * Q.y + P.x * Q.x) * C.inv (1 - ee)) * S.y := by rw [← he]; rfl
  have xA : (C.add (C.add P Q) S).x = ((P.x * Q.y + Q.x * P.y) * C.inv (1 + ee) * S.y + S.x * ((P.y * Q.y + P.x * Q.x) * C.inv (1 - ee))) * C.inv (1 + C.e (C.add P Q) S) := by rw [← he]; rfl
  have yA : (C.add (C.add P Q) S).y = ((P.y * Q.y + P.x * Q.x) * C.inv (1 - ee) * S.y + (P.x * Q.y + Q.x * P.y) * C.inv (1 + ee) * S.x) * C.inv (1 - C.e (C.add P Q) S) := by rw [← he]; rfl
  rw [xA, yA]
  generalize C.inv (1 + C.e (C.add P Q) S) = u at *
  generalize C.inv (1 - C.e (C.add P Q) S) = v at *
  rw [eA] at h3 h4 m1 m2
  generalize C.inv (1 + ee) = a at *
  generalize C.inv (1 - ee) = b at *
  generalize P.x * Q.y + Q.x * P.y = A at *
  generalize P.y * Q.y + P.x * Q.x = B at *
  clear he eA xA yA hA p3 p4 hP hQ hS
  have k1 : (1 - ee) * (1 + ee) + C.d * S.x * S.y * A * B = (1 - ee) * (1 + ee) * (1 + C.d * (A * a) * S.x * (B * b) * S.y) := by grind
  have k2 : (1 - ee) * (1 + ee) - C.d * S.x * S.y * A * B = (1 - ee) * (1 + ee) * (1 - C.d * (A * a) * S.x * (B * b) * S.y) := by grind
  rw [k1, k2]
  refine ⟨?_, ?_, m1, m2⟩
  · generalize (1 + C.d * (A * a) * S.x * (B * b) * S.y) = w at *
    have : (A * a * S.y + S.x * (B * b)) * u * ((1 - ee) * (1 + ee) * w) = (A * ((1 + ee) * a) * (1 - ee) * S.y + S.x * (B * ((1 - ee) * b)) * (1 + ee)) * (w * u) := by grind
    rw [this, h1, h2, h3]; grind
  · generalize (1 - C.d * (A * a) * S.x * (B * b) * S.y) = w at *
    have : (B * b * S.y + A * a * S.x) * v * ((1 - ee) * (1 + ee) * w) = (B * ((1 - ee) * b) * (1 + ee) * S.y + S.x * (A * ((1 + ee) * a)) * (1 - ee)) * (w * v) := by grind
    rw [this, h1, h2, h4]; grind
theorem Cv.add_assoc {P Q S : Pt R} (hP : C.on P) (hQ : C.on Q) (hS : C.on S) : C.add (C.add P Q) S = C.add P (C.add Q S) := by
  rw [C.add_comm P (C.add Q S)]
  obtain ⟨a1, a2, a3, a4⟩ := C.third hP hQ hS
  obtain ⟨b1, b2, b3, b4⟩ := C.third hQ hS hP
  have hx : (C.add (C.add P Q) S).x = (C.add (C.add Q S) P).x := by
    refine C.frac a3 b3 a1 b1 ?_
    clear a1 a2 a3 a4 b1 b2 b3 b4
    simp only [on, e] at *
    grind
  have hy : (C.add (C.add P Q) S).y = (C.add (C.add Q S) P).y := by
    refine C.frac a4 b4 a2 b2 ?_
    clear a1 a2 a3 a4 b1 b2 b3 b4 hx
    simp only [on, e] at *
    grind
  revert hx hy
  generalize C.add (C.add P Q) S = U
  generalize C.add (C.add Q S) P = V
  obtain ⟨x, y⟩ := U
  obtain ⟨z, w⟩ := V
  rintro rfl rfl
  rfl
end
section
variable {R : Type} [CommRing R] (C : Cv R)
theorem Cv.zero_add (P : Pt R) : C.add zero P = P := by rw [C.add_comm, C.add_zero]
/-- P, n times -/
def Cv.mul : Nat → Pt R → Pt R
  | 0, _ => zero
  | n + 1, P => C.add (Cv.mul n P) P
theorem Cv.on_mul {P : Pt R} (h : C.on P) : ∀ n, C.on (C.mul n P)
  | 0 => C.on_zero
  | n + 1 => C.on_add (Cv.on_mul h n) h
theorem Cv.mul_one (P : Pt R) : C.mul 1 P = P := C.zero_add P
theorem Cv.mul_add {P : Pt R} (h : C.on P) (m : Nat) : ∀ n, C.mul (m + n) P = C.add (C.mul m P) (C.mul n P)
  | 0 => (C.add_zero _).symm
  | n + 1 => by
    show C.add (C.mul (m + n) P) P = C.add (C.mul m P) (C.add (C.mul n P) P)
    rw [Cv.mul_add h m n, C.add_assoc (C.on_mul h m) (C.on_mul h n) h]
theorem Cv.swap4 {P Q S T : Pt R} (hP : C.on P) (hQ : C.on Q) (hS : C.on S) (hT : C.on T) : C.add (C.add P Q) (C.add S T) = C.add (C.add P S) (C.add Q T) := by
  rw [C.add_assoc hP hQ (C.on_add hS hT), ← C.add_assoc hQ hS hT, C.add_comm Q S, C.add_assoc hS hQ hT, ← C.add_assoc hP hS (C.on_add hQ hT)]
theorem Cv.mul_plus {P Q : Pt R} (hP : C.on P) (hQ : C.on Q) : ∀ n, C.mul n (C.add P Q) = C.add (C.mul n P) (C.mul n Q)
  | 0 => (C.add_zero _).symm
  | n + 1 => by
    show C.add (C.mul n (C.add P Q)) (C.add P Q) = C.add (C.add (C.mul n P) P) (C.add (C.mul n Q) Q)
    rw [Cv.mul_plus hP hQ n, C.swap4 (C.on_mul hP n) (C.on_mul hQ n) hP hQ]
theorem Cv.mul_zero : ∀ n, C.mul n (zero : Pt R) = zero
  | 0 => rfl
  | n + 1 => by show C.add (C.mul n zero) zero = zero; rw [Cv.mul_zero n, C.add_zero]
theorem Cv.mul_mul {P : Pt R} (h : C.on P) (m : Nat) : ∀ n, C.mul (m * n) P = C.mul m (C.mul n P)
  | 0 => (C.mul_zero m).symm
  | n + 1 => by
    rw [Nat.mul_succ, C.mul_add h, Cv.mul_mul h m n]
    show _ = C.mul m (C.add (C.mul n P) P)
    rw [C.mul_plus (C.on_mul h n) h]
theorem Cv.mul_two {P : Pt R} (h : C.on P) (n : Nat) : C.mul (2 * n) P = C.add (C.mul n P) (C.mul n P) := by rw [Nat.two_mul, C.mul_add h]
theorem Cv.mul_order {P : Pt R} (h : C.on P) {L : Nat} (hL : C.mul L P = zero) (n : Nat) : C.mul (n % L) P = C.mul n P := by
  have e : C.mul (n % L + L * (n / L)) P = C.mul (n % L) P := by
    rw [C.mul_add h, Nat.mul_comm, C.mul_mul h, hL, C.mul_zero, C.add_zero]
  rw [← e, Nat.mod_add_div]
theorem Cv.neg_unique {P Q : Pt R} (hP : C.on P) (hQ : C.on Q) (h : C.add P Q = zero) : Q = neg P := by
  have h1 := C.add_assoc (C.on_neg hP) hP hQ
  rw [h, C.add_zero, C.add_comm (neg P) P, C.add_neg hP, C.zero_add] at h1
  exact h1
theorem Cv.neg_add {P Q : Pt R} (hP : C.on P) (hQ : C.on Q) : neg (C.add P Q) = C.add (neg P) (neg Q) := by
  refine (C.neg_unique (C.on_add hP hQ) (C.on_add (C.on_neg hP) (C.on_neg hQ)) ?_).symm
  rw [C.swap4 hP hQ (C.on_neg hP) (C.on_neg hQ), C.add_neg hP, C.add_neg hQ, C.add_zero]
theorem Cv.mul_neg {P : Pt R} (h : C.on P) : ∀ n, C.mul n (neg P) = neg (C.mul n P)
  | 0 => by show (zero : Pt R) = neg zero; simp only [zero, neg]; congr 1; grind
  | n + 1 => by
    show C.add (C.mul n (neg P)) (neg P) = neg (C.add (C.mul n P) P)
    rw [Cv.mul_neg h n, C.neg_add (C.on_mul h n) h]

theorem Cv.below_ne (C : Cv R) (Y : R) : C.d * (Y * Y) + 1 ≠ 0 := fun h => by
  have hi := C.i_sq
  by_cases hY : Y = 0
  · rw [hY] at h
    exact C.one_ne (by grind)
  · exact C.sq_no (u := C.i) (v := Y) hY (by grind)
theorem Cv.on_read {x Y u : R} (h2 : (C.d * (Y * Y) + 1) * u = 1) (h3 : x * x = (Y * Y - 1) * u) : C.on ⟨x, Y⟩ := by
  show Y * Y - x * x = 1 + C.d * x * x * Y * Y
  have h4 : x * x * (C.d * (Y * Y) + 1) = Y * Y - 1 := by
    rw [h3]
    have : (Y * Y - 1) * u * (C.d * (Y * Y) + 1) = (Y * Y - 1) * ((C.d * (Y * Y) + 1) * u) := by grind
    rw [this, h2]; grind
  grind
theorem Cv.on_iff (P : Pt R) : C.on P ↔ P.y * P.y - P.x * P.x = 1 + C.d * (P.x * P.x * (P.y * P.y)) := by
  have e : C.d * P.x * P.x * P.y * P.y = C.d * (P.x * P.x * (P.y * P.y)) := by grind
  simp only [on, e]
theorem sq_neg (x : R) : -x * -x = x * x := by grind
/-- extended coordinates -/
structure Wd (R : Type) where
  x : R
  y : R
  z : R
  t : R
structure Wd.rep (w : Wd R) (P : Pt R) : Prop where
  z : w.z ≠ 0
  x : w.x = P.x * w.z
  y : w.y = P.y * w.z
  t : w.t = P.x * P.y * w.z
def Wd.fin (e f g h : R) : Wd R := ⟨e * f, g * h, f * g, e * h⟩
def Wd.add (d : R) (w p : Wd R) : Wd R :=
  Wd.fin ((w.y + w.x) * (p.y + p.x) - (w.y - w.x) * (p.y - p.x)) (w.z * p.z + w.z * p.z - w.t * (d + d) * p.t) (w.z * p.z + w.z * p.z + w.t * (d + d) * p.t) ((w.y + w.x) * (p.y + p.x) + (w.y - w.x) * (p.y - p.x))
def Wd.dbl (w : Wd R) : Wd R :=
  Wd.fin (w.x * w.x + w.y * w.y - (w.x + w.y) * (w.x + w.y)) (w.z * w.z + w.z * w.z + (w.x * w.x - w.y * w.y)) (w.x * w.x - w.y * w.y) (w.x * w.x + w.y * w.y)
def Wd.of (P : Pt R) : Wd R := ⟨P.x, P.y, 1, P.x * P.y⟩
theorem Cv.rep_of (C : Cv R) (P : Pt R) : (Wd.of P).rep P := ⟨C.one_ne, by simp only [Wd.of]; grind, by simp only [Wd.of]; grind, by simp only [Wd.of]; grind⟩
theorem Cv.rep_add {w p : Wd R} {P Q : Pt R} (hw : w.rep P) (hp : p.rep Q) (hP : C.on P) (hQ : C.on Q) : (Wd.add C.d w p).rep (C.add P Q) := by
  have p1 := C.plus_ne hP hQ
  have p2 := C.minus_ne hP hQ
  have h1 := C.mul_inv _ p1
  have h2 := C.mul_inv _ p2
  obtain ⟨w1, w2, w3, w4⟩ := hw
  obtain ⟨q1, q2, q3, q4⟩ := hp
  have hzz := C.no_zero w1 q1
  have hz2 := C.no_zero (C.no_zero C.two_ne hzz) (C.no_zero C.two_ne hzz)
  have hz3 := C.no_zero hz2 (C.no_zero p2 p1)
  obtain ⟨x, y, z, t⟩ := w
  obtain ⟨x', y', z', t'⟩ := p
  simp only at *
  subst w2 w3 w4 q2 q3 q4
  have e1 : C.e P Q = C.d * P.x * Q.x * P.y * Q.y := rfl
  simp only [Cv.add, Wd.add, Wd.fin]
  generalize C.inv (1 + C.e P Q) = a at *
  generalize C.inv (1 - C.e P Q) = b at *
  have f1 : z * z' + z * z' - P.x * P.y * z * (C.d + C.d) * (Q.x * Q.y * z') = (1 + 1) * (z * z') * (1 - C.e P Q) := by rw [e1]; grind
  have f2 : z * z' + z * z' + P.x * P.y * z * (C.d + C.d) * (Q.x * Q.y * z') = (1 + 1) * (z * z') * (1 + C.e P Q) := by rw [e1]; grind
  have f3 : (P.y * z + P.x * z) * (Q.y * z' + Q.x * z') - (P.y * z - P.x * z) * (Q.y * z' - Q.x * z') = (1 + 1) * (z * z') * (P.x * Q.y + Q.x * P.y) := by grind
  have f4 : (P.y * z + P.x * z) * (Q.y * z' + Q.x * z') + (P.y * z - P.x * z) * (Q.y * z' - Q.x * z') = (1 + 1) * (z * z') * (P.y * Q.y + P.x * Q.x) := by grind
  rw [f1, f2, f3, f4]
  generalize P.x * Q.y + Q.x * P.y = A at *
  generalize P.y * Q.y + P.x * Q.x = B at *
  generalize C.e P Q = ee at *
  generalize (1 + 1) * (z * z') = k at *
  constructor <;> simp only
  · intro h; exact hz3 (by grind)
  · have : A * a * (k * (1 - ee) * (k * (1 + ee))) = k * A * (k * (1 - ee)) * ((1 + ee) * a) := by grind
    rw [this, h1]; grind
  · have : B * b * (k * (1 - ee) * (k * (1 + ee))) = k * (1 + ee) * (k * B) * ((1 - ee) * b) := by grind
    rw [this, h2]; grind
  · have : A * a * (B * b) * (k * (1 - ee) * (k * (1 + ee))) = k * A * (k * B) * ((1 + ee) * a) * ((1 - ee) * b) := by grind
    rw [this, h1, h2]; grind
theorem Cv.rep_dbl {w : Wd R} {P : Pt R} (hw : w.rep P) (hP : C.on P) : (Wd.dbl w).rep (C.add P P) := by
  have p1 := C.plus_ne hP hP
  have p2 := C.minus_ne hP hP
  have h1 := C.mul_inv _ p1
  have h2 := C.mul_inv _ p2
  obtain ⟨w1, w2, w3, w4⟩ := hw
  have hzz := C.no_zero w1 w1
  have hz2 := C.no_zero hzz hzz
  have hz3 := C.no_zero hz2 (C.no_zero p2 p1)
  obtain ⟨x, y, z, t⟩ := w
  simp only at *
  subst w2 w3 w4
  have e1 : P.y * P.y - P.x * P.x = 1 + C.e P P := by
    have h := hP
    simp only [on] at h
    rw [h]; rfl
  simp only [Cv.add, Wd.dbl, Wd.fin]
  generalize C.inv (1 + C.e P P) = a at *
  generalize C.inv (1 - C.e P P) = b at *
  generalize C.e P P = ee at *
  have f1 : z * z + z * z + (P.x * z * (P.x * z) - P.y * z * (P.y * z)) = (z * z) * (1 - ee) := by grind
  have f2 : P.x * z * (P.x * z) - P.y * z * (P.y * z) = - ((z * z) * (1 + ee)) := by grind
  have f3 : P.x * z * (P.x * z) + P.y * z * (P.y * z) - (P.x * z + P.y * z) * (P.x * z + P.y * z) = - ((z * z) * (P.x * P.y + P.x * P.y)) := by grind
  have f4 : P.x * z * (P.x * z) + P.y * z * (P.y * z) = (z * z) * (P.y * P.y + P.x * P.x) := by grind
  rw [f1, f2, f3, f4]
  clear f1 f2 f3 f4 e1
  generalize P.x * P.y + P.x * P.y = A at *
  generalize P.y * P.y + P.x * P.x = B at *
  generalize z * z = k at *
  constructor <;> simp only
  · intro h; exact hz3 (by grind)
  · have : A * a * (k * (1 - ee) * -(k * (1 + ee))) = -(k * A) * (k * (1 - ee)) * ((1 + ee) * a) := by grind
    rw [this, h1]; grind
  · have : B * b * (k * (1 - ee) * -(k * (1 + ee))) = -(k * (1 + ee)) * (k * B) * ((1 - ee) * b) := by grind
    rw [this, h2]; grind
  · have : A * a * (B * b) * (k * (1 - ee) * -(k * (1 + ee))) = -(k * A) * (k * B) * ((1 + ee) * a) * ((1 - ee) * b) := by grind
    rw [this, h1, h2]; grind
theorem Cv.rep_pt {w : Wd R} {P : Pt R} (hw : w.rep P) : (⟨w.x * C.inv w.z, w.y * C.inv w.z⟩ : Pt R) = P := by
  have h1 := C.mul_inv _ hw.z
  rw [hw.x, hw.y]
  obtain ⟨x, y⟩ := P
  simp only
  congr 1 <;> grind

/-- three coordinates -/
structure Fr (R : Type) where
  x : R
  y : R
  z : R
structure Fr.rep (w : Fr R) (P : Pt R) : Prop where
  z : w.z ≠ 0
  x : w.x = P.x * w.z
  y : w.y = P.y * w.z
def Fr.add (d : R) (p q : Fr R) : Fr R :=
  ⟨p.z * q.z * ((p.z * q.z * (p.z * q.z) - d * (p.x * q.x * (p.y * q.y))) * ((p.x + p.y) * (q.x + q.y) - (p.x * q.x + p.y * q.y))), p.z * q.z * ((p.z * q.z * (p.z * q.z) + d * (p.x * q.x * (p.y * q.y))) * (p.x * q.x + p.y * q.y)), (p.z * q.z * (p.z * q.z) - d * (p.x * q.x * (p.y * q.y))) * (p.z * q.z * (p.z * q.z) + d * (p.x * q.x * (p.y * q.y)))⟩
def Fr.of (P : Pt R) : Fr R := ⟨P.x, P.y, 1⟩
theorem Cv.far_of (C : Cv R) (P : Pt R) : (Fr.of P).rep P := ⟨C.one_ne, by simp only [Fr.of]; grind, by simp only [Fr.of]; grind⟩
theorem Cv.far_add {w p : Fr R} {P Q : Pt R} (hw : w.rep P) (hp : p.rep Q) (hP : C.on P) (hQ : C.on Q) : (Fr.add C.d w p).rep (C.add P Q) := by
  have p1 := C.plus_ne hP hQ
  have p2 := C.minus_ne hP hQ
  have h1 := C.mul_inv _ p1
  have h2 := C.mul_inv _ p2
  obtain ⟨w1, w2, w3⟩ := hw
  obtain ⟨q1, q2, q3⟩ := hp
  have hzz := C.no_zero w1 q1
  have hz2 := C.no_zero (C.no_zero hzz hzz) (C.no_zero hzz hzz)
  have hz3 := C.no_zero hz2 (C.no_zero p2 p1)
  obtain ⟨x, y, z⟩ := w
  obtain ⟨x', y', z'⟩ := p
  simp only at *
  subst w2 w3 q2 q3
  have e1 : C.e P Q = C.d * P.x * Q.x * P.y * Q.y := rfl
  simp only [Cv.add, Fr.add]
  generalize C.inv (1 + C.e P Q) = a at *
  generalize C.inv (1 - C.e P Q) = b at *
  have f1 : z * z' * (z * z') - C.d * (P.x * z * (Q.x * z') * (P.y * z * (Q.y * z'))) = z * z' * (z * z') * (1 - C.e P Q) := by rw [e1]; grind
  have f2 : z * z' * (z * z') + C.d * (P.x * z * (Q.x * z') * (P.y * z * (Q.y * z'))) = z * z' * (z * z') * (1 + C.e P Q) := by rw [e1]; grind
  have f3 : (P.x * z + P.y * z) * (Q.x * z' + Q.y * z') - (P.x * z * (Q.x * z') + P.y * z * (Q.y * z')) = z * z' * (P.x * Q.y + Q.x * P.y) := by grind
  have f4 : P.x * z * (Q.x * z') + P.y * z * (Q.y * z') = z * z' * (P.y * Q.y + P.x * Q.x) := by grind
  rw [f3, f1, f2, f4]
  clear f1 f2 f3 f4
  generalize P.x * Q.y + Q.x * P.y = A at *
  generalize P.y * Q.y + P.x * Q.x = B at *
  generalize C.e P Q = ee at *
  generalize z * z' = k at *
  constructor <;> simp only
  · intro h; exact hz3 (by grind)
  · have : A * a * (k * k * (1 - ee) * (k * k * (1 + ee))) = k * (k * k * (1 - ee) * (k * A)) * ((1 + ee) * a) := by grind
    rw [this, h1]; grind
  · have : B * b * (k * k * (1 - ee) * (k * k * (1 + ee))) = k * (k * k * (1 + ee) * (k * B)) * ((1 - ee) * b) := by grind
    rw [this, h2]; grind
theorem Cv.far_pt {w : Fr R} {P : Pt R} (hw : w.rep P) : (⟨w.x * C.inv w.z, w.y * C.inv w.z⟩ : Pt R) = P := by
  have h1 := C.mul_inv _ hw.z
  rw [hw.x, hw.y]
  obtain ⟨x, y⟩ := P
  simp only
  congr 1 <;> grind

/-- two sums at once: the bits from the highest on -/
def Cv.lin (a b : Nat) (P Q : Pt R) : Pt R := C.add (C.mul a P) (C.mul b Q)
theorem Cv.on_lin {P Q : Pt R} (hP : C.on P) (hQ : C.on Q) (a b : Nat) : C.on (C.lin a b P Q) := C.on_add (C.on_mul hP a) (C.on_mul hQ b)
theorem Cv.lin_two {P Q : Pt R} (hP : C.on P) (hQ : C.on Q) (a b : Nat) : C.lin (2 * a) (2 * b) P Q = C.add (C.lin a b P Q) (C.lin a b P Q) := by
  simp only [lin]
  rw [C.mul_two hP, C.mul_two hQ, C.swap4 (C.on_mul hP a) (C.on_mul hP a) (C.on_mul hQ b) (C.on_mul hQ b)]
theorem Cv.lin_left {P Q : Pt R} (hP : C.on P) (hQ : C.on Q) (a b : Nat) : C.lin (a + 1) b P Q = C.add (C.lin a b P Q) P := by
  simp only [lin]
  show C.add (C.add (C.mul a P) P) (C.mul b Q) = _
  rw [C.add_assoc (C.on_mul hP a) hP (C.on_mul hQ b), C.add_comm P, ← C.add_assoc (C.on_mul hP a) (C.on_mul hQ b) hP]
theorem Cv.lin_right {P Q : Pt R} (hP : C.on P) (hQ : C.on Q) (a b : Nat) : C.lin a (b + 1) P Q = C.add (C.lin a b P Q) Q := by
  simp only [lin]
  show C.add (C.mul a P) (C.add (C.mul b Q) Q) = _
  rw [← C.add_assoc (C.on_mul hP a) (C.on_mul hQ b) hQ]
theorem Cv.lin_both {P Q : Pt R} (hP : C.on P) (hQ : C.on Q) (a b : Nat) : C.lin (a + 1) (b + 1) P Q = C.add (C.lin a b P Q) (C.add P Q) := by
  rw [C.lin_right hP hQ, C.lin_left hP hQ, C.add_assoc (C.on_lin hP hQ a b) hP hQ]
theorem Cv.lin_zero (P Q : Pt R) : C.lin 0 0 P Q = zero := C.add_zero _
/-- n times a point, bit by bit from the highest on -/
def mulW (d : R) (P : Wd R) : List Bool → Wd R → Wd R
  | [], acc => acc
  | true :: bs, acc => mulW d P bs (Wd.add d (Wd.dbl acc) P)
  | false :: bs, acc => mulW d P bs (Wd.dbl acc)
theorem mulW_t (d : R) (P : Wd R) (bs : List Bool) (acc : Wd R) : mulW d P (true :: bs) acc = mulW d P bs (Wd.add d (Wd.dbl acc) P) := rfl
theorem mulW_f (d : R) (P : Wd R) (bs : List Bool) (acc : Wd R) : mulW d P (false :: bs) acc = mulW d P bs (Wd.dbl acc) := rfl
def bitsV (a : Nat) : List Bool → Nat
  | [] => a
  | true :: bs => bitsV (2 * a + 1) bs
  | false :: bs => bitsV (2 * a) bs
theorem Cv.mulW_rep {P : Pt R} (hP : C.on P) {p : Wd R} (hp : p.rep P) : ∀ (bs : List Bool) (acc : Wd R) (a : Nat), acc.rep (C.mul a P) → (mulW C.d p bs acc).rep (C.mul (bitsV a bs) P)
  | [], acc, a, h => h
  | false :: bs, acc, a, h => by
    have h2 : (Wd.dbl acc).rep (C.mul (2 * a) P) := by
      rw [C.mul_two hP]
      exact C.rep_dbl h (C.on_mul hP a)
    exact Cv.mulW_rep hP hp bs _ _ h2
  | true :: bs, acc, a, h => by
    have h2 : (Wd.dbl acc).rep (C.mul (2 * a) P) := by
      rw [C.mul_two hP]
      exact C.rep_dbl h (C.on_mul hP a)
    exact Cv.mulW_rep hP hp bs (Wd.add C.d (Wd.dbl acc) p) (2 * a + 1) (C.rep_add h2 hp (C.on_mul hP _) hP)
end
def toBits : Nat → Nat → List Bool
  | 0, _ => []
  | k + 1, n => (n / 2 ^ k % 2 == 1) :: toBits k n
theorem toBits_v : ∀ (k n a : Nat), bitsV a (toBits k n) = a * 2 ^ k + n % 2 ^ k
  | 0, n, a => by simp [toBits, bitsV, Nat.mod_one]
  | k + 1, n, a => by
    have e1 : n % 2 ^ (k + 1) = n % 2 ^ k + 2 ^ k * (n / 2 ^ k % 2) := by rw [Nat.pow_succ, Nat.mod_mul]
    have h := Nat.mod_two_eq_zero_or_one (n / 2 ^ k)
    rw [toBits, e1]
    rcases h with h | h
    · rw [h, show ((0 : Nat) == 1) = false from rfl, bitsV, toBits_v k n, Nat.pow_succ, Nat.mul_zero, Nat.add_zero, Nat.mul_comm 2 a, Nat.mul_assoc, Nat.mul_comm 2]
    · rw [h, show ((1 : Nat) == 1) = true from rfl, bitsV, toBits_v k n, Nat.pow_succ, Nat.mul_one, Nat.add_mul, Nat.one_mul, Nat.mul_comm 2 a, Nat.mul_assoc, Nat.mul_comm 2]
      omega
end Ed
end

section
namespace Hw
open Go

/-- the number of bytes, little-endian -/
def le : List UInt8 → Nat
  | [] => 0
  | b :: l => b.toNat + 256 * le l

/-- the bytes of a number, little-endian -/
def leb : Nat → Nat → List UInt8
  | 0, _ => []
  | k + 1, n => UInt8.ofNat n :: leb k (n / 256)

def w64 (n : Nat) : UInt64 := UInt64.ofNat n

/-- the number of words, the highest first -/
def wv (l : List UInt64) : Nat := l.foldl (fun a x => a * 2 ^ 64 + x.toNat) 0

def words4 (n : Nat) : List UInt64 := [w64 (n / 2 ^ 192), w64 (n / 2 ^ 128), w64 (n / 2 ^ 64), w64 n]

theorem leb_length : ∀ k n, (leb k n).length = k
  | 0, _ => rfl
  | k + 1, n => by simp [leb, leb_length k]

theorem le_leb : ∀ k n, le (leb k n) = n % 256 ^ k
  | 0, n => by simp [le, leb, Nat.mod_one]
  | k + 1, n => by
    rw [leb, le, le_leb k, Nat.pow_succ, Nat.mul_comm (256 ^ k) 256, Nat.mod_mul]
    simp

theorem le_lt : ∀ l : List UInt8, le l < 256 ^ l.length
  | [] => by simp [le]
  | b :: l => by
    have := le_lt l
    have := b.toNat_lt
    rw [le, List.length_cons, Nat.pow_succ]
    omega

theorem le32 {l : List UInt8} (h : l.length = 32) : le l < 2 ^ 256 := by
  have := le_lt l; rw [h] at this; exact this

theorem leb_le : ∀ l : List UInt8, leb l.length (le l) = l
  | [] => rfl
  | b :: l => by
    have h := b.toNat_lt
    have h1 : (b.toNat + 256 * le l) / 256 = le l := by omega
    have h2 : UInt8.ofNat (b.toNat + 256 * le l) = b := by
      apply UInt8.toNat_inj.1
      rw [UInt8.toNat_ofNat']
      omega
    rw [le, List.length_cons, leb, h1, h2, leb_le l]

theorem le_append : ∀ a b : List UInt8, le (a ++ b) = le a + 256 ^ a.length * le b
  | [], b => by simp [le]
  | x :: a, b => by
    have : 256 ^ a.length * 256 * le b = 256 * (256 ^ a.length * le b) := by rw [Nat.mul_comm (256 ^ a.length) 256, Nat.mul_assoc]
    rw [List.cons_append, le, le_append a b, le, List.length_cons, Nat.pow_succ, this]
    omega

theorem w64_toNat (n : Nat) : (w64 n).toNat = n % 2 ^ 64 := by simp [w64]

theorem wv4 (a b c d : UInt64) : wv [a, b, c, d] = ((a.toNat * 2 ^ 64 + b.toNat) * 2 ^ 64 + c.toNat) * 2 ^ 64 + d.toNat := by
  simp [wv]

theorem words4_length (n : Nat) : (words4 n).length = 4 := rfl

theorem wv_take_succ (l : List UInt64) (k : Nat) (h : k < l.length) : wv (l.take (k + 1)) = wv (l.take k) * 2 ^ 64 + (l.getD k 0).toNat := by
  rw [List.take_succ_eq_append_getElem h, wv, List.foldl_append]
  simp [wv, List.getD, h]

theorem words4_wv {l : List UInt64} (h : l.length = 4) : words4 (wv l) = l := by
  match l, h with
  | [a, b, c, d], _ =>
    have ha := a.toNat_lt; have hb := b.toNat_lt; have hc := c.toNat_lt; have hd := d.toNat_lt
    rw [wv4]
    simp only [words4]
    have e1 : w64 ((((a.toNat * 2 ^ 64 + b.toNat) * 2 ^ 64 + c.toNat) * 2 ^ 64 + d.toNat) / 2 ^ 192) = a := by
      apply UInt64.toNat_inj.1; rw [w64_toNat]; omega
    have e2 : w64 ((((a.toNat * 2 ^ 64 + b.toNat) * 2 ^ 64 + c.toNat) * 2 ^ 64 + d.toNat) / 2 ^ 128) = b := by
      apply UInt64.toNat_inj.1; rw [w64_toNat]; omega
    have e3 : w64 ((((a.toNat * 2 ^ 64 + b.toNat) * 2 ^ 64 + c.toNat) * 2 ^ 64 + d.toNat) / 2 ^ 64) = c := by
      apply UInt64.toNat_inj.1; rw [w64_toNat]; omega
    have e4 : w64 ((((a.toNat * 2 ^ 64 + b.toNat) * 2 ^ 64 + c.toNat) * 2 ^ 64 + d.toNat)) = d := by
      apply UInt64.toNat_inj.1; rw [w64_toNat]; omega
    rw [e1, e2, e3, e4]

theorem wv_words4 (n : Nat) : wv (words4 n) = n % 2 ^ 256 := by
  rw [words4, wv4]
  simp only [w64_toNat]
  omega

theorem words4_mod (n : Nat) : words4 (n % 2 ^ 256) = words4 n := by
  rw [← wv_words4, words4_wv rfl]

/-- the order of the group -/
def L : Nat := 7237005577332262213973186563042994240857116359379907606001950938285454250989


def cmp1 (x y : UInt64) : Int := if x.toNat < y.toNat then -1 else if y.toNat < x.toNat then 1 else 0

def cmpW : List UInt64 → List UInt64 → Int
  | x :: xs, y :: ys => if cmp1 x y = 0 then cmpW xs ys else cmp1 x y
  | _, _ => 0

theorem cmp1_self (x : UInt64) : cmp1 x x = 0 := by simp [cmp1]

theorem cmpW_at : ∀ (k : Nat) (xs ys : List UInt64), (∀ j, j < k → xs.getD j 0 = ys.getD j 0) → k < xs.length → k < ys.length → cmp1 (xs.getD k 0) (ys.getD k 0) ≠ 0 → cmpW xs ys = cmp1 (xs.getD k 0) (ys.getD k 0)
  | _, [], _, _, h, _, _ => by simp at h
  | _, _, [], _, _, h, _ => by simp at h
  | 0, x :: xs, y :: ys, _, _, _, hc => by
    simp at hc
    simp [cmpW, hc]
  | k + 1, x :: xs, y :: ys, h, hx, hy, hc => by
    have h0 := h 0 oM
    simp at h0
    subst h0
    have := cmpW_at k xs ys (fun j hj => by have := h (j + 1) oM; simpa using this) (by simpa using hx) (by simpa using hy) (by simpa using hc)
    simpa [cmpW, cmp1_self] using this

theorem cmpW_all : ∀ (xs ys : List UInt64), xs.length = ys.length → (∀ j, j < xs.length → xs.getD j 0 = ys.getD j 0) → cmpW xs ys = 0
  | [], _, _, _ => by simp [cmpW]
  | _ :: _, [], h, _ => by simp at h
  | x :: xs, y :: ys, hl, h => by
    have h0 := h 0 sP
    simp at h0
    subst h0
    have := cmpW_all xs ys (by simpa using hl) (fun j hj => by have := h (j + 1) (by simp; omega); simpa using this)
    simpa [cmpW, cmp1_self] using this

theorem cmp1_eq {x y : UInt64} (h : cmp1 x y = 0) : x = y := by
  apply UInt64.toNat_inj.1
  unfold cmp1 at h
  split at h
  · simp at h
  · split at h
    · simp at h
    · omega

theorem cmpW_lt {w m : List UInt64} (hw : w.length = 4) (hm : m.length = 4) : cmpW w m < 0 ↔ wv w < wv m := by
  match w, hw, m, hm with
  | [a, b, c, d], _, [e, f, g, h], _ =>
    rw [wv4, wv4]
    have ha := a.toNat_lt; have hb := b.toNat_lt; have hc := c.toNat_lt; have hd := d.toNat_lt
    have he := e.toNat_lt; have hf := f.toNat_lt; have hg := g.toNat_lt; have hh := h.toNat_lt
    simp only [cmpW, cmp1]
    repeat' split
    all_goals omega

def mulHi (x y : UInt64) : UInt64 :=
  let x0 := x &&& 4294967295
  let x1 := shr64 x 32
  let y0 := y &&& 4294967295
  let y1 := shr64 y 32
  let t := x1 * y0 + shr64 (x0 * y0) 32
  x1 * y1 + shr64 t 32 + shr64 ((t &&& 4294967295) + x0 * y1) 32

theorem shr64_toNat (x : UInt64) (n : Nat) : (shr64 x n).toNat = x.toNat / 2 ^ n := by
  have h : x.toNat / 2 ^ n ≤ x.toNat := Nat.div_le_self _ _
  have := x.toNat_lt
  rw [shr64, UInt64.toNat_ofNat', Nat.mod_eq_of_lt oM]
theorem shl64_toNat (x : UInt64) (n : Nat) : (shl64 x n).toNat = x.toNat * 2 ^ n % 2 ^ 64 := by rw [shl64, UInt64.toNat_ofNat']
theorem and32_toNat (x : UInt64) : (x &&& 4294967295).toNat = x.toNat % 4294967296 := by
  rw [UInt64.toNat_and]
  exact Nat.and_two_pow_sub_one_eq_mod x.toNat 32

theorem mulHi_toNat (x y : UInt64) : (mulHi x y).toNat = x.toNat * y.toNat / 2 ^ 64 := by
  have hx := x.toNat_lt; have hy := y.toNat_lt
  have key := mul64_arith (x.toNat : Int) (y.toNat : Int) oM oM oM oM
  simp only [mulHi, UInt64.toNat_add, UInt64.toNat_mul, shr64_toNat, and32_toNat]
  have e : ((x.toNat * y.toNat / 2 ^ 64 : Nat) : Int) = (x.toNat : Int) * y.toNat / 18446744073709551616 := by simp
  apply Int.ofNat.inj
  show ((_ : Nat) : Int) = ((_ : Nat) : Int)
  rw [e, ← key]
  simp

end Hw
end

section
namespace Hw
open Go
set_option linter.unusedSimpArgs false
set_option linter.unusedVariables false

def PF : Nat := 57896044618658097711785492504343953926634992332820282019728792003956564819949
def LOW : UInt64 := 2251799813685247
theorem low_toNat (x : UInt64) : (x &&& LOW).toNat = x.toNat % 2251799813685248 := by
  rw [UInt64.toNat_and]
  exact Nat.and_two_pow_sub_one_eq_mod x.toNat 51
theorem or_add {x y : UInt64} {k m : Nat} (hx : x.toNat < 2 ^ k) (hy : y.toNat = 2 ^ k * m) : (x ||| y).toNat = x.toNat + y.toNat := by
  rw [UInt64.toNat_or, hy, Nat.or_comm, ← Nat.two_pow_add_eq_or_of_lt hx]
  omega
structure W5 where
  a : UInt64
  b : UInt64
  c : UInt64
  d : UInt64
  e : UInt64
def W5.l (w : W5) : List UInt64 := [w.a, w.b, w.c, w.d, w.e]
def W5.v (w : W5) : Nat := w.a.toNat + 2251799813685248 * w.b.toNat + 5070602400912917605986812821504 * w.c.toNat + 11417981541647679048466287755595961091061972992 * w.d.toNat + 25711008708143844408671393477458601640355247900524685364822016 * w.e.toNat

def ldF (q0 q1 q2 q3 : UInt64) : W5 :=
  ⟨q0 &&& LOW, (shr64 q0 51 ||| shl64 q1 13) &&& LOW, (shr64 q1 38 ||| shl64 q2 26) &&& LOW, (shr64 q2 25 ||| shl64 q3 39) &&& LOW, shr64 q3 12⟩
theorem mid_word (x y : UInt64) (s : Nat) (hs : s ≤ 64) : (shr64 x (64 - s) ||| shl64 y s).toNat = x.toNat / 2 ^ (64 - s) + y.toNat * 2 ^ s % 2 ^ 64 := by
  have hx : x.toNat / 2 ^ (64 - s) < 2 ^ s := by
    rw [Nat.div_lt_iff_lt_mul (Nat.pow_pos dE), ← Nat.pow_add, show s + (64 - s) = 64 by omega]
    exact x.toNat_lt
  have e : y.toNat * 2 ^ s % 2 ^ 64 = 2 ^ s * (y.toNat % 2 ^ (64 - s)) := by
    have h := Nat.mul_mod_mul_left (2 ^ s) y.toNat (2 ^ (64 - s))
    rw [← Nat.pow_add, show s + (64 - s) = 64 by omega, Nat.mul_comm] at h
    exact h
  rw [or_add (k := s) (m := y.toNat % 2 ^ (64 - s)) (by rw [shr64_toNat]; exact hx) (by rw [shl64_toNat, e]), shr64_toNat, shl64_toNat]
structure W5.lt (w : W5) (n m : Nat) : Prop where
  a : w.a.toNat < n
  b : w.b.toNat < n
  c : w.c.toNat < n
  d : w.d.toNat < n
  e : w.e.toNat < m
theorem ldF_lt (q0 q1 q2 q3 : UInt64) : (ldF q0 q1 q2 q3).lt 2251799813685248 4503599627370496 := by
  have := q3.toNat_lt
  refine ⟨?_, ?_, ?_, ?_, ?_⟩ <;> simp only [ldF, low_toNat, shr64_toNat] <;> omega
theorem ld_arith (q0 q1 q2 q3 : Nat) (h0 : q0 < 2 ^ 64) (h1 : q1 < 2 ^ 64) (h2 : q2 < 2 ^ 64) (h3 : q3 < 2 ^ 64) :
    q0 % 2251799813685248 + 2251799813685248 * ((q0 / 2 ^ 51 + q1 * 2 ^ 13 % 2 ^ 64) % 2251799813685248) + 5070602400912917605986812821504 * ((q1 / 2 ^ 38 + q2 * 2 ^ 26 % 2 ^ 64) % 2251799813685248) + 11417981541647679048466287755595961091061972992 * ((q2 / 2 ^ 25 + q3 * 2 ^ 39 % 2 ^ 64) % 2251799813685248) + 25711008708143844408671393477458601640355247900524685364822016 * (q3 / 2 ^ 12)
    = q0 + 18446744073709551616 * q1 + 340282366920938463463374607431768211456 * q2 + 6277101735386680763835789423207666416102355444464034512896 * q3 := by
  have e1 : (q0 / 2 ^ 51 + q1 * 2 ^ 13 % 2 ^ 64) % 2251799813685248 = q0 / 2251799813685248 + 8192 * (q1 % 274877906944) := by omega
  have e2 : (q1 / 2 ^ 38 + q2 * 2 ^ 26 % 2 ^ 64) % 2251799813685248 = q1 / 274877906944 + 67108864 * (q2 % 33554432) := by omega
  have e3 : (q2 / 2 ^ 25 + q3 * 2 ^ 39 % 2 ^ 64) % 2251799813685248 = q2 / 33554432 + 549755813888 * (q3 % 4096) := by omega
  rw [e1, e2, e3]
  omega
theorem ldF_v (q0 q1 q2 q3 : UInt64) : (ldF q0 q1 q2 q3).v = q0.toNat + 18446744073709551616 * q1.toNat + 340282366920938463463374607431768211456 * q2.toNat + 6277101735386680763835789423207666416102355444464034512896 * q3.toNat := by
  have h1 := mid_word q0 q1 13 dE
  have h2 := mid_word q1 q2 26 dE
  have h3 := mid_word q2 q3 39 dE
  simp only [W5.v, ldF, low_toNat]
  rw [show (shr64 q0 51 ||| shl64 q1 13).toNat = _ from h1, show (shr64 q1 38 ||| shl64 q2 26).toNat = _ from h2, show (shr64 q2 25 ||| shl64 q3 39).toNat = _ from h3, shr64_toNat]
  exact ld_arith _ _ _ _ q0.toNat_lt q1.toNat_lt q2.toNat_lt q3.toNat_lt

def carF (w : W5) : W5 :=
  ⟨(w.a &&& LOW) + 19 * shr64 w.e 51, (w.b &&& LOW) + shr64 w.a 51, (w.c &&& LOW) + shr64 w.b 51, (w.d &&& LOW) + shr64 w.c 51, (w.e &&& LOW) + shr64 w.d 51⟩
structure W5.carried (w : W5) (n : Nat) : Prop where
  a : w.a.toNat < 2251799813685248 + 155648
  b : w.b.toNat < 2251799813685248 + 8192
  c : w.c.toNat < 2251799813685248 + 8192
  d : w.d.toNat < 2251799813685248 + 8192
  e : w.e.toNat < 2251799813685248 + 8192
theorem carF_a (w : W5) : (carF w).a.toNat = w.a.toNat % 2251799813685248 + 19 * (w.e.toNat / 2251799813685248) := by
  have := w.e.toNat_lt
  simp only [carF, UInt64.toNat_add, UInt64.toNat_mul, low_toNat, shr64_toNat]
  rw [show (19 : UInt64).toNat = 19 from rfl]
  omega
theorem carF_b (w : W5) : (carF w).b.toNat = w.b.toNat % 2251799813685248 + w.a.toNat / 2251799813685248 := by
  have := w.a.toNat_lt
  simp only [carF, UInt64.toNat_add, low_toNat, shr64_toNat]
  omega
theorem carF_c (w : W5) : (carF w).c.toNat = w.c.toNat % 2251799813685248 + w.b.toNat / 2251799813685248 := by
  have := w.b.toNat_lt
  simp only [carF, UInt64.toNat_add, low_toNat, shr64_toNat]
  omega
theorem carF_d (w : W5) : (carF w).d.toNat = w.d.toNat % 2251799813685248 + w.c.toNat / 2251799813685248 := by
  have := w.c.toNat_lt
  simp only [carF, UInt64.toNat_add, low_toNat, shr64_toNat]
  omega
theorem carF_e (w : W5) : (carF w).e.toNat = w.e.toNat % 2251799813685248 + w.d.toNat / 2251799813685248 := by
  have := w.d.toNat_lt
  simp only [carF, UInt64.toNat_add, low_toNat, shr64_toNat]
  omega
theorem carF_small (w : W5) : (carF w).carried 0 := by
  have h1 := w.a.toNat_lt; have h2 := w.b.toNat_lt; have h3 := w.c.toNat_lt; have h4 := w.d.toNat_lt; have h5 := w.e.toNat_lt
  refine ⟨?_, ?_, ?_, ?_, ?_⟩
  · rw [carF_a]; omega
  · rw [carF_b]; omega
  · rw [carF_c]; omega
  · rw [carF_d]; omega
  · rw [carF_e]; omega
theorem carF_v (w : W5) : (carF w).v + PF * (w.e.toNat / 2251799813685248) = w.v := by
  simp only [W5.v, carF_a, carF_b, carF_c, carF_d, carF_e, PF]
  omega
theorem carF_mod (w : W5) : (carF w).v % PF = w.v % PF := by rw [← carF_v w, Nat.add_mul_mod_self_left]

def ccF (w : W5) : UInt64 := shr64 (w.e + shr64 (w.d + shr64 (w.c + shr64 (w.b + shr64 (w.a + 19) 51) 51) 51) 51) 51
def fixF (w : W5) (c : UInt64) : W5 :=
  ⟨(w.a + 19 * c) &&& LOW, (w.b + shr64 (w.a + 19 * c) 51) &&& LOW, (w.c + shr64 (w.b + shr64 (w.a + 19 * c) 51) 51) &&& LOW,
   (w.d + shr64 (w.c + shr64 (w.b + shr64 (w.a + 19 * c) 51) 51) 51) &&& LOW, (w.e + shr64 (w.d + shr64 (w.c + shr64 (w.b + shr64 (w.a + 19 * c) 51) 51) 51) 51) &&& LOW⟩
def stF (w : W5) : W5 := fixF (carF w) (ccF (carF w))
theorem cc_arith (a b c d e : Nat) : (e + (d + (c + (b + (a + 19) / 2251799813685248) / 2251799813685248) / 2251799813685248) / 2251799813685248) / 2251799813685248 =
    (a + 2251799813685248 * b + 5070602400912917605986812821504 * c + 11417981541647679048466287755595961091061972992 * d + 25711008708143844408671393477458601640355247900524685364822016 * e + 19) / 57896044618658097711785492504343953926634992332820282019728792003956564819968 := by omega
theorem ccF_v {w : W5} (h : w.carried 0) : (ccF w).toNat = (w.v + 19) / 57896044618658097711785492504343953926634992332820282019728792003956564819968 := by
  obtain ⟨h1, h2, h3, h4, h5⟩ := h
  simp only [ccF, shr64_toNat, UInt64.toNat_add, show (19 : UInt64).toNat = 19 from rfl, W5.v]
  rw [← cc_arith]
  omega
theorem fix_five (x b c d e : Nat) :
    x % 2251799813685248 + 2251799813685248 * ((b + x / 2251799813685248) % 2251799813685248) + 5070602400912917605986812821504 * ((c + (b + x / 2251799813685248) / 2251799813685248) % 2251799813685248) + 11417981541647679048466287755595961091061972992 * ((d + (c + (b + x / 2251799813685248) / 2251799813685248) / 2251799813685248) % 2251799813685248) + 25711008708143844408671393477458601640355247900524685364822016 * ((e + (d + (c + (b + x / 2251799813685248) / 2251799813685248) / 2251799813685248) / 2251799813685248) % 2251799813685248)
    = (x + 2251799813685248 * b + 5070602400912917605986812821504 * c + 11417981541647679048466287755595961091061972992 * d + 25711008708143844408671393477458601640355247900524685364822016 * e) % 57896044618658097711785492504343953926634992332820282019728792003956564819968 := by omega
theorem fix_red {v k : Nat} (hk : k = (v + 19) / 57896044618658097711785492504343953926634992332820282019728792003956564819968) (hb : v < 2 * 57896044618658097711785492504343953926634992332820282019728792003956564819949) : (v + 19 * k) % 57896044618658097711785492504343953926634992332820282019728792003956564819968 = v % 57896044618658097711785492504343953926634992332820282019728792003956564819949 := by
  have h : k = 0 ∨ k = 1 := by omega
  rcases h with rfl | rfl <;> omega
theorem fixF_lt (w : W5) (c : UInt64) : (fixF w c).lt 2251799813685248 2251799813685248 := by
  refine ⟨?_, ?_, ?_, ?_, ?_⟩ <;> simp only [fixF, low_toNat] <;> exact Nat.mod_lt _ dE
theorem carried_lt {w : W5} (h : w.carried 0) : w.v < 2 * 57896044618658097711785492504343953926634992332820282019728792003956564819949 := by
  obtain ⟨h1, h2, h3, h4, h5⟩ := h
  simp only [W5.v]
  omega
theorem fix_words {w : W5} (h : w.carried 0) {k : UInt64} (hk : k.toNat ≤ 1) : (w.a + 19 * k).toNat = w.a.toNat + 19 * k.toNat ∧
    (w.b + shr64 (w.a + 19 * k) 51).toNat = w.b.toNat + (w.a.toNat + 19 * k.toNat) / 2251799813685248 ∧
    (w.c + shr64 (w.b + shr64 (w.a + 19 * k) 51) 51).toNat = w.c.toNat + (w.b.toNat + (w.a.toNat + 19 * k.toNat) / 2251799813685248) / 2251799813685248 ∧
    (w.d + shr64 (w.c + shr64 (w.b + shr64 (w.a + 19 * k) 51) 51) 51).toNat = w.d.toNat + (w.c.toNat + (w.b.toNat + (w.a.toNat + 19 * k.toNat) / 2251799813685248) / 2251799813685248) / 2251799813685248 ∧
    (w.e + shr64 (w.d + shr64 (w.c + shr64 (w.b + shr64 (w.a + 19 * k) 51) 51) 51) 51).toNat = w.e.toNat + (w.d.toNat + (w.c.toNat + (w.b.toNat + (w.a.toNat + 19 * k.toNat) / 2251799813685248) / 2251799813685248) / 2251799813685248) / 2251799813685248 := by
  obtain ⟨h1, h2, h3, h4, h5⟩ := h
  have g1 : (w.a + 19 * k).toNat = w.a.toNat + 19 * k.toNat := by simp only [UInt64.toNat_add, UInt64.toNat_mul, show (19 : UInt64).toNat = 19 from rfl]; omega
  have g2 : (w.b + shr64 (w.a + 19 * k) 51).toNat = w.b.toNat + (w.a.toNat + 19 * k.toNat) / 2251799813685248 := by rw [UInt64.toNat_add, shr64_toNat, g1]; omega
  have g3 : (w.c + shr64 (w.b + shr64 (w.a + 19 * k) 51) 51).toNat = w.c.toNat + (w.b.toNat + (w.a.toNat + 19 * k.toNat) / 2251799813685248) / 2251799813685248 := by rw [UInt64.toNat_add, shr64_toNat, g2]; omega
  have g4 : (w.d + shr64 (w.c + shr64 (w.b + shr64 (w.a + 19 * k) 51) 51) 51).toNat = w.d.toNat + (w.c.toNat + (w.b.toNat + (w.a.toNat + 19 * k.toNat) / 2251799813685248) / 2251799813685248) / 2251799813685248 := by rw [UInt64.toNat_add, shr64_toNat, g3]; omega
  exact ⟨g1, g2, g3, g4, by rw [UInt64.toNat_add, shr64_toNat, g4]; omega⟩
theorem fix_v {w : W5} (h : w.carried 0) {k : UInt64} (hk : k.toNat ≤ 1) : (fixF w k).v = (w.v + 19 * k.toNat) % 57896044618658097711785492504343953926634992332820282019728792003956564819968 := by
  obtain ⟨g1, g2, g3, g4, g5⟩ := fix_words h hk
  have e : (fixF w k).v = (w.a.toNat + 19 * k.toNat) % 2251799813685248 + 2251799813685248 * ((w.b.toNat + (w.a.toNat + 19 * k.toNat) / 2251799813685248) % 2251799813685248) + 5070602400912917605986812821504 * ((w.c.toNat + (w.b.toNat + (w.a.toNat + 19 * k.toNat) / 2251799813685248) / 2251799813685248) % 2251799813685248) + 11417981541647679048466287755595961091061972992 * ((w.d.toNat + (w.c.toNat + (w.b.toNat + (w.a.toNat + 19 * k.toNat) / 2251799813685248) / 2251799813685248) / 2251799813685248) % 2251799813685248) + 25711008708143844408671393477458601640355247900524685364822016 * ((w.e.toNat + (w.d.toNat + (w.c.toNat + (w.b.toNat + (w.a.toNat + 19 * k.toNat) / 2251799813685248) / 2251799813685248) / 2251799813685248) / 2251799813685248) % 2251799813685248) := by
    simp only [W5.v, fixF, low_toNat, g1, g2, g3, g4, g5]
  rw [e, fix_five]
  clear e g1 g2 g3 g4 g5
  have e2 : w.v + 19 * k.toNat = w.a.toNat + 19 * k.toNat + 2251799813685248 * w.b.toNat + 5070602400912917605986812821504 * w.c.toNat + 11417981541647679048466287755595961091061972992 * w.d.toNat + 25711008708143844408671393477458601640355247900524685364822016 * w.e.toNat := by rw [W5.v]; omega
  rw [e2]
theorem fixF_v {w : W5} (h : w.carried 0) : (fixF w (ccF w)).v = w.v % PF := by
  have hc := ccF_v h
  have hb := carried_lt h
  have hk : (ccF w).toNat ≤ 1 := by omega
  rw [fix_v h hk]
  exact fix_red hc hb
theorem stF_v (w : W5) : (stF w).v = w.v % PF := by rw [stF, fixF_v (carF_small w), carF_mod]
/-- the bytes of the words -/
def stB5 (w : W5) : List UInt8 := leb 8 (w.a ||| shl64 w.b 51).toNat ++ leb 8 (shr64 w.b 13 ||| shl64 w.c 38).toNat ++ leb 8 (shr64 w.c 26 ||| shl64 w.d 25).toNat ++ leb 8 (shr64 w.d 39 ||| shl64 w.e 12).toNat
theorem leb_split (m : Nat) : ∀ n x, leb (n + m) x = leb n x ++ leb m (x / 256 ^ n)
  | 0, x => by simp [leb]
  | n + 1, x => by
    rw [show n + 1 + m = (n + m) + 1 by omega, leb, leb, leb_split m n (x / 256), Nat.div_div_eq_div_mul, Nat.pow_succ, Nat.mul_comm 256]
    rfl
theorem leb_low256 (k : Nat) (x : Nat) : leb k (x % 256 ^ k) = leb k x := by
  have h := leb_le (leb k x)
  rw [leb_length, le_leb] at h
  exact h
theorem leb_32 (x : Nat) : leb 32 x = leb 8 (x % 18446744073709551616) ++ (leb 8 (x / 18446744073709551616 % 18446744073709551616) ++ (leb 8 (x / 340282366920938463463374607431768211456 % 18446744073709551616) ++ leb 8 (x / 6277101735386680763835789423207666416102355444464034512896))) := by
  have e : ∀ x, leb 8 (x % 18446744073709551616) = leb 8 x := fun x => leb_low256 8 x
  rw [e, e, e]
  have h1 := leb_split 24 8 x
  have h2 := leb_split 16 8 (x / 256 ^ 8)
  have h3 := leb_split 8 8 (x / 256 ^ 8 / 256 ^ 8)
  rw [Nat.div_div_eq_div_mul] at h2 h3
  rw [Nat.div_div_eq_div_mul] at h3
  exact h1.trans (congrArg _ (h2.trans (congrArg _ h3)))
theorem leb4 (q0 q1 q2 q3 : Nat) (h0 : q0 < 2 ^ 64) (h1 : q1 < 2 ^ 64) (h2 : q2 < 2 ^ 64) : leb 8 q0 ++ leb 8 q1 ++ leb 8 q2 ++ leb 8 q3 = leb 32 (q0 + 18446744073709551616 * q1 + 340282366920938463463374607431768211456 * q2 + 6277101735386680763835789423207666416102355444464034512896 * q3) := by
  rw [leb_32, List.append_assoc, List.append_assoc]
  have a0 : (q0 + 18446744073709551616 * q1 + 340282366920938463463374607431768211456 * q2 + 6277101735386680763835789423207666416102355444464034512896 * q3) % 18446744073709551616 = q0 := by omega
  have a1 : (q0 + 18446744073709551616 * q1 + 340282366920938463463374607431768211456 * q2 + 6277101735386680763835789423207666416102355444464034512896 * q3) / 18446744073709551616 % 18446744073709551616 = q1 := by omega
  have a2 : (q0 + 18446744073709551616 * q1 + 340282366920938463463374607431768211456 * q2 + 6277101735386680763835789423207666416102355444464034512896 * q3) / 340282366920938463463374607431768211456 % 18446744073709551616 = q2 := by omega
  have a3 : (q0 + 18446744073709551616 * q1 + 340282366920938463463374607431768211456 * q2 + 6277101735386680763835789423207666416102355444464034512896 * q3) / 6277101735386680763835789423207666416102355444464034512896 = q3 := by omega
  rw [a0, a1, a2, a3]
theorem stB5_eq {w : W5} (h : w.lt 2251799813685248 2251799813685248) : stB5 w = leb 32 w.v := by
  obtain ⟨h1, h2, h3, h4, h5⟩ := h
  have m0 : (w.a ||| shl64 w.b 51).toNat = w.a.toNat + w.b.toNat * 2 ^ 51 % 2 ^ 64 := by
    rw [or_add (k := 51) (m := w.b.toNat % 2 ^ 13) oM (by rw [shl64_toNat]; omega), shl64_toNat]
  have m1 := mid_word w.b w.c 38 dE
  have m1' : (shr64 w.b 13 ||| shl64 w.c 38).toNat = w.b.toNat / 2 ^ 13 + w.c.toNat * 2 ^ 38 % 2 ^ 64 := by
    rw [or_add (k := 38) (m := w.c.toNat % 2 ^ 26) (by rw [shr64_toNat]; omega) (by rw [shl64_toNat]; omega), shl64_toNat, shr64_toNat]
  have m2' : (shr64 w.c 26 ||| shl64 w.d 25).toNat = w.c.toNat / 2 ^ 26 + w.d.toNat * 2 ^ 25 % 2 ^ 64 := by
    rw [or_add (k := 25) (m := w.d.toNat % 2 ^ 39) (by rw [shr64_toNat]; omega) (by rw [shl64_toNat]; omega), shl64_toNat, shr64_toNat]
  have m3' : (shr64 w.d 39 ||| shl64 w.e 12).toNat = w.d.toNat / 2 ^ 39 + w.e.toNat * 2 ^ 12 % 2 ^ 64 := by
    rw [or_add (k := 12) (m := w.e.toNat % 2 ^ 52) (by rw [shr64_toNat]; omega) (by rw [shl64_toNat]; omega), shl64_toNat, shr64_toNat]
  rw [stB5, leb4 _ _ _ _ (UInt64.toNat_lt _) (UInt64.toNat_lt _) (UInt64.toNat_lt _), m0, m1', m2', m3']
  congr 1
  simp only [W5.v]
  omega
theorem store_eq (w : W5) : stB5 (stF w) = leb 32 (w.v % PF) := by
  have h : (stF w).lt 2251799813685248 2251799813685248 := fixF_lt _ _
  rw [stB5_eq h, stF_v]

/-- the sum, the high word first -/
def wv2 (s : UInt64 × UInt64) : Nat := s.1.toNat * 18446744073709551616 + s.2.toNat
def plF (s : UInt64 × UInt64) (a b : UInt64) : UInt64 × UInt64 :=
  (w64 (s.1.toNat + (mulHi a b).toNat + (w64 ((s.2.toNat + (a * b).toNat + (0 : UInt64).toNat) / 2 ^ 64)).toNat), w64 (s.2.toNat + (a * b).toNat + (0 : UInt64).toNat))
theorem plF_v {s : UInt64 × UInt64} {a b : UInt64} {n : Nat} (hn : a.toNat * b.toNat = n) (h : wv2 s + n < 340282366920938463463374607431768211456) : wv2 (plF s a b) = wv2 s + n := by
  have h1 := s.1.toNat_lt
  have h2 := s.2.toNat_lt
  simp only [wv2, plF, w64_toNat, mulHi_toNat, UInt64.toNat_mul, show (0 : UInt64).toNat = 0 from rfl, hn] at h ⊢
  omega
def upF (s : UInt64 × UInt64) : UInt64 := shl64 s.1 13 ||| shr64 s.2 51
theorem upF_v {s : UInt64 × UInt64} (h : wv2 s < 41538374868278621028243970633760768) : (upF s).toNat = wv2 s / 2251799813685248 := by
  have h2 := s.2.toNat_lt
  simp only [wv2] at h ⊢
  have e : (upF s).toNat = s.2.toNat / 2 ^ 51 + s.1.toNat * 2 ^ 13 % 2 ^ 64 := by
    rw [upF, UInt64.or_comm, or_add (k := 13) (m := s.1.toNat % 2 ^ 51) (by rw [shr64_toNat]; omega) (by rw [shl64_toNat]; omega), shl64_toNat, shr64_toNat]
  rw [e]
  omega
theorem low_v (s : UInt64 × UInt64) : (s.2 &&& LOW).toNat = wv2 s % 2251799813685248 := by
  rw [low_toNat, wv2]; omega
abbrev s0F (a b : W5) := plF (plF (plF (plF (plF (0, 0) a.a b.a) (19 * a.b) b.e) (19 * a.c) b.d) (19 * a.d) b.c) (19 * a.e) b.b
abbrev s1F (a b : W5) := plF (plF (plF (plF (plF (0, 0) a.a b.b) a.b b.a) (19 * a.c) b.e) (19 * a.d) b.d) (19 * a.e) b.c
abbrev s2F (a b : W5) := plF (plF (plF (plF (plF (0, 0) a.a b.c) a.b b.b) a.c b.a) (19 * a.d) b.e) (19 * a.e) b.d
abbrev s3F (a b : W5) := plF (plF (plF (plF (plF (0, 0) a.a b.d) a.b b.c) a.c b.b) a.d b.a) (19 * a.e) b.e
abbrev s4F (a b : W5) := plF (plF (plF (plF (plF (0, 0) a.a b.e) a.b b.d) a.c b.c) a.d b.b) a.e b.a
def mulF (a b : W5) : W5 := carF ⟨((s0F a b).2 &&& LOW) + 19 * upF (s4F a b), ((s1F a b).2 &&& LOW) + upF (s0F a b), ((s2F a b).2 &&& LOW) + upF (s1F a b), ((s3F a b).2 &&& LOW) + upF (s2F a b), ((s4F a b).2 &&& LOW) + upF (s3F a b)⟩
theorem times19 {x : UInt64} (h : x.toNat < 18014398509481984) : (19 * x).toNat = 19 * x.toNat := by
  rw [UInt64.toNat_mul, show (19 : UInt64).toNat = 19 from rfl]; omega
theorem mul_bound {x y : Nat} (hx : x < 18014398509481984) (hy : y < 18014398509481984) : x * y < 324518553658426726783156020576256 := by
  have := Nat.mul_lt_mul'' hx hy
  exact this
theorem prod_poly (X a b c d e a' b' c' d' e' : Int) : (a + X * b + X * X * c + X * X * X * d + X * X * X * X * e) * (a' + X * b' + X * X * c' + X * X * X * d' + X * X * X * X * e') =
    (a * a' + 19 * (b * e') + 19 * (c * d') + 19 * (d * c') + 19 * (e * b')) + X * (a * b' + b * a' + 19 * (c * e') + 19 * (d * d') + 19 * (e * c')) + X * X * (a * c' + b * b' + c * a' + 19 * (d * e') + 19 * (e * d')) + X * X * X * (a * d' + b * c' + c * b' + d * a' + 19 * (e * e')) + X * X * X * X * (a * e' + b * d' + c * c' + d * b' + e * a') +
    (X * X * X * X * X - 19) * ((b * e' + c * d' + d * c' + e * b') + X * (c * e' + d * d' + e * c') + X * X * (d * e' + e * d') + X * X * X * (e * e')) := by
  grind
theorem prod_nat (a b c d e a' b' c' d' e' : Nat) : (a + 2251799813685248 * b + 5070602400912917605986812821504 * c + 11417981541647679048466287755595961091061972992 * d + 25711008708143844408671393477458601640355247900524685364822016 * e) * (a' + 2251799813685248 * b' + 5070602400912917605986812821504 * c' + 11417981541647679048466287755595961091061972992 * d' + 25711008708143844408671393477458601640355247900524685364822016 * e') =
    (a * a' + 19 * (b * e') + 19 * (c * d') + 19 * (d * c') + 19 * (e * b')) + 2251799813685248 * (a * b' + b * a' + 19 * (c * e') + 19 * (d * d') + 19 * (e * c')) + 5070602400912917605986812821504 * (a * c' + b * b' + c * a' + 19 * (d * e') + 19 * (e * d')) + 11417981541647679048466287755595961091061972992 * (a * d' + b * c' + c * b' + d * a' + 19 * (e * e')) + 25711008708143844408671393477458601640355247900524685364822016 * (a * e' + b * d' + c * c' + d * b' + e * a') +
    PF * ((b * e' + c * d' + d * c' + e * b') + 2251799813685248 * (c * e' + d * d' + e * c') + 5070602400912917605986812821504 * (d * e' + e * d') + 11417981541647679048466287755595961091061972992 * (e * e')) := by
  have h := prod_poly 2251799813685248 a b c d e a' b' c' d' e'
  apply Int.ofNat.inj
  simp only [PF]
  show ((_ : Nat) : Int) = ((_ : Nat) : Int)
  simp only [Int.natCast_add, Int.natCast_mul]
  exact h
theorem s_add {s : UInt64 × UInt64} {a b : UInt64} {m n : Nat} (hs : wv2 s = m) (hn : a.toNat * b.toNat = n) (h : m + n < 340282366920938463463374607431768211456) : wv2 (plF s a b) = m + n := by
  rw [plF_v hn (by rw [hs]; exact h), hs]
theorem wv2_zero : wv2 (0, 0) = 0 := rfl
theorem carry_sum (s0 s1 s2 s3 s4 : Nat) : (s0 % 2251799813685248 + 19 * (s4 / 2251799813685248)) + 2251799813685248 * (s1 % 2251799813685248 + s0 / 2251799813685248) + 5070602400912917605986812821504 * (s2 % 2251799813685248 + s1 / 2251799813685248) + 11417981541647679048466287755595961091061972992 * (s3 % 2251799813685248 + s2 / 2251799813685248) + 25711008708143844408671393477458601640355247900524685364822016 * (s4 % 2251799813685248 + s3 / 2251799813685248) + PF * (s4 / 2251799813685248) =
    s0 + 2251799813685248 * s1 + 5070602400912917605986812821504 * s2 + 11417981541647679048466287755595961091061972992 * s3 + 25711008708143844408671393477458601640355247900524685364822016 * s4 := by
  simp only [PF]
  omega
structure W5.fit (w : W5) : Prop where
  a : w.a.toNat < 18014398509481984
  b : w.b.toNat < 18014398509481984
  c : w.c.toNat < 18014398509481984
  d : w.d.toNat < 18014398509481984
  e : w.e.toNat < 18014398509481984
theorem W5.lt.fit {w : W5} (h : w.lt 2251799813685248 4503599627370496) : w.fit := by
  obtain ⟨h1, h2, h3, h4, h5⟩ := h
  constructor <;> omega
theorem W5.carried.fit {w : W5} (h : w.carried 0) : w.fit := by
  obtain ⟨h1, h2, h3, h4, h5⟩ := h
  constructor <;> omega
theorem mulF_v {a b : W5} (ha : a.fit) (hb : b.fit) : (mulF a b).v % PF = (a.v * b.v) % PF := by
  obtain ⟨a0, a1, a2, a3, a4⟩ := ha
  obtain ⟨b0, b1, b2, b3, b4⟩ := hb
  have m : ∀ {x y : UInt64}, x.toNat < 18014398509481984 → y.toNat < 18014398509481984 → ∃ n, x.toNat * y.toNat = n ∧ n < 324518553658426726783156020576256 := fun hx hy => ⟨_, rfl, mul_bound hx hy⟩
  have m19 : ∀ {x y : UInt64} {n : Nat}, x.toNat < 18014398509481984 → x.toNat * y.toNat = n → (19 * x).toNat * y.toNat = 19 * n := fun hx hn => by rw [times19 hx, Nat.mul_assoc, hn]
  obtain ⟨p00, e00, l00⟩ := m a0 b0; obtain ⟨p01, e01, l01⟩ := m a0 b1; obtain ⟨p02, e02, l02⟩ := m a0 b2; obtain ⟨p03, e03, l03⟩ := m a0 b3; obtain ⟨p04, e04, l04⟩ := m a0 b4
  obtain ⟨p10, e10, l10⟩ := m a1 b0; obtain ⟨p11, e11, l11⟩ := m a1 b1; obtain ⟨p12, e12, l12⟩ := m a1 b2; obtain ⟨p13, e13, l13⟩ := m a1 b3; obtain ⟨p14, e14, l14⟩ := m a1 b4
  obtain ⟨p20, e20, l20⟩ := m a2 b0; obtain ⟨p21, e21, l21⟩ := m a2 b1; obtain ⟨p22, e22, l22⟩ := m a2 b2; obtain ⟨p23, e23, l23⟩ := m a2 b3; obtain ⟨p24, e24, l24⟩ := m a2 b4
  obtain ⟨p30, e30, l30⟩ := m a3 b0; obtain ⟨p31, e31, l31⟩ := m a3 b1; obtain ⟨p32, e32, l32⟩ := m a3 b2; obtain ⟨p33, e33, l33⟩ := m a3 b3; obtain ⟨p34, e34, l34⟩ := m a3 b4
  obtain ⟨p40, e40, l40⟩ := m a4 b0; obtain ⟨p41, e41, l41⟩ := m a4 b1; obtain ⟨p42, e42, l42⟩ := m a4 b2; obtain ⟨p43, e43, l43⟩ := m a4 b3; obtain ⟨p44, e44, l44⟩ := m a4 b4
  have hv : a.v * b.v = _ := prod_nat a.a.toNat a.b.toNat a.c.toNat a.d.toNat a.e.toNat b.a.toNat b.b.toNat b.c.toNat b.d.toNat b.e.toNat
  rw [e00, e01, e02, e03, e04, e10, e11, e12, e13, e14, e20, e21, e22, e23, e24, e30, e31, e32, e33, e34, e40, e41, e42, e43, e44] at hv
  have k0 : wv2 (s0F a b) = p00 + 19 * p14 + 19 * p23 + 19 * p32 + 19 * p41 := by
    have := s_add (s_add (s_add (s_add (s_add wv2_zero e00 oM) (m19 a1 e14) oM) (m19 a2 e23) oM) (m19 a3 e32) oM) (m19 a4 e41) oM
    rw [Nat.zero_add] at this; exact this
  have k1 : wv2 (s1F a b) = p01 + p10 + 19 * p24 + 19 * p33 + 19 * p42 := by
    have := s_add (s_add (s_add (s_add (s_add wv2_zero e01 oM) e10 oM) (m19 a2 e24) oM) (m19 a3 e33) oM) (m19 a4 e42) oM
    rw [Nat.zero_add] at this; exact this
  have k2 : wv2 (s2F a b) = p02 + p11 + p20 + 19 * p34 + 19 * p43 := by
    have := s_add (s_add (s_add (s_add (s_add wv2_zero e02 oM) e11 oM) e20 oM) (m19 a3 e34) oM) (m19 a4 e43) oM
    rw [Nat.zero_add] at this; exact this
  have k3 : wv2 (s3F a b) = p03 + p12 + p21 + p30 + 19 * p44 := by
    have := s_add (s_add (s_add (s_add (s_add wv2_zero e03 oM) e12 oM) e21 oM) e30 oM) (m19 a4 e44) oM
    rw [Nat.zero_add] at this; exact this
  have k4 : wv2 (s4F a b) = p04 + p13 + p22 + p31 + p40 := by
    have := s_add (s_add (s_add (s_add (s_add wv2_zero e04 oM) e13 oM) e22 oM) e31 oM) e40 oM
    rw [Nat.zero_add] at this; exact this
  clear e00 e01 e02 e03 e04 e10 e11 e12 e13 e14 e20 e21 e22 e23 e24 e30 e31 e32 e33 e34 e40 e41 e42 e43 e44
  rw [← k0, ← k1, ← k2, ← k3, ← k4] at hv
  have n0 : wv2 (s0F a b) < 25312447185357284689086169604947968 := by omega
  have n1 : wv2 (s1F a b) < 25312447185357284689086169604947968 := by omega
  have n2 : wv2 (s2F a b) < 25312447185357284689086169604947968 := by omega
  have n3 : wv2 (s3F a b) < 25312447185357284689086169604947968 := by omega
  have n4 : wv2 (s4F a b) < 1622592768292133633915780102881280 + 1 := by omega
  clear k0 k1 k2 k3 k4
  rw [mulF, carF_mod]
  have f : (⟨((s0F a b).2 &&& LOW) + 19 * upF (s4F a b), ((s1F a b).2 &&& LOW) + upF (s0F a b), ((s2F a b).2 &&& LOW) + upF (s1F a b), ((s3F a b).2 &&& LOW) + upF (s2F a b), ((s4F a b).2 &&& LOW) + upF (s3F a b)⟩ : W5).v + PF * (wv2 (s4F a b) / 2251799813685248) =
      wv2 (s0F a b) + 2251799813685248 * wv2 (s1F a b) + 5070602400912917605986812821504 * wv2 (s2F a b) + 11417981541647679048466287755595961091061972992 * wv2 (s3F a b) + 25711008708143844408671393477458601640355247900524685364822016 * wv2 (s4F a b) := by
    rw [← carry_sum]
    clear hv
    have u0 := upF_v (s := s0F a b) oM; have u1 := upF_v (s := s1F a b) oM; have u2 := upF_v (s := s2F a b) oM; have u3 := upF_v (s := s3F a b) oM; have u4 := upF_v (s := s4F a b) oM
    have v0 := low_v (s0F a b); have v1 := low_v (s1F a b); have v2 := low_v (s2F a b); have v3 := low_v (s3F a b); have v4 := low_v (s4F a b)
    have c0 : (((s0F a b).2 &&& LOW) + 19 * upF (s4F a b)).toNat = wv2 (s0F a b) % 2251799813685248 + 19 * (wv2 (s4F a b) / 2251799813685248) := by
      rw [UInt64.toNat_add, UInt64.toNat_mul, v0, u4, show (19 : UInt64).toNat = 19 from rfl]; omega
    have c1 : (((s1F a b).2 &&& LOW) + upF (s0F a b)).toNat = wv2 (s1F a b) % 2251799813685248 + wv2 (s0F a b) / 2251799813685248 := by
      rw [UInt64.toNat_add, v1, u0]; omega
    have c2 : (((s2F a b).2 &&& LOW) + upF (s1F a b)).toNat = wv2 (s2F a b) % 2251799813685248 + wv2 (s1F a b) / 2251799813685248 := by
      rw [UInt64.toNat_add, v2, u1]; omega
    have c3 : (((s3F a b).2 &&& LOW) + upF (s2F a b)).toNat = wv2 (s3F a b) % 2251799813685248 + wv2 (s2F a b) / 2251799813685248 := by
      rw [UInt64.toNat_add, v3, u2]; omega
    have c4 : (((s4F a b).2 &&& LOW) + upF (s3F a b)).toNat = wv2 (s4F a b) % 2251799813685248 + wv2 (s3F a b) / 2251799813685248 := by
      rw [UInt64.toNat_add, v4, u3]; omega
    simp only [W5.v, c0, c1, c2, c3, c4]
  rw [hv, ← f, Nat.add_mul_mod_self_left, Nat.add_mul_mod_self_left]
end Hw
end
