/- What is written of a block is read back, and only that: plain lists. No conditions. -/
import Derived.Test.YtejjamifnombhaaName
import Derived.Test.YtejjamifnombhaaNumL
import Derived.Laws.Externs
namespace Go.Proofs.Ytejjamifnombhaa
open Go Hw
set_option linter.unusedVariables false
set_option linter.unusedSimpArgs false


theorem drop_cons {xs l : List UInt8} {a : Nat} {f : UInt8} (h : xs.drop a = f :: l) : a < xs.length ∧ xs.getD a 0 = f ∧ xs.drop (a + 1) = l := by
  have hlt : a < xs.length := by
    rcases Nat.lt_or_ge a xs.length with h1 | h1
    · exact h1
    · rw [List.drop_eq_nil_of_le h1] at h; cases h
  rw [List.drop_eq_getElem_cons hlt] at h
  injection h with h1 h2
  exact ⟨hlt, by rw [List.getD_eq_getElem?_getD, List.getElem?_eq_getElem hlt]; exact h1, h2⟩
theorem drop_split {xs p t : List UInt8} {a : Nat} (h : xs.drop a = p ++ t) (hp : 0 < p.length) : a + p.length ≤ xs.length ∧ (xs.drop a).take p.length = p ∧ xs.drop (a + p.length) = t := by
  have h1 := congrArg List.length h
  rw [List.length_drop, List.length_append] at h1
  refine ⟨by omega, by rw [h]; simp, ?_⟩
  rw [← List.drop_drop, h]; simp
theorem dig_fwd {xs d t : List UInt8} {a : Nat} (h : xs.drop a = d ++ t) (hd : d.length = 32) : digR xs a 0 = (d, a + 32, 0) ∧ xs.drop (a + 32) = t := by
  obtain ⟨h1, h2, h3⟩ := drop_split h (by omega)
  rw [hd] at h1 h2 h3
  unfold digR
  rw [if_neg (by simp), if_neg (by omega), h2]
  exact ⟨rfl, h3⟩
theorem num_fwd {xs t : List UInt8} {a : Nat} {x : UInt64} (h : xs.drop a = numB x ++ t) : numR xs a 0 = (x, a + szN x.toNat, 0) ∧ xs.drop (a + szN x.toNat) = t := by
  have hp := szN_pos x.toNat
  have hl := numB_length x
  obtain ⟨h1, h2, h3⟩ := drop_split h (by omega)
  rw [hl] at h1 h2 h3
  rw [numB, List.cons_append] at h
  obtain ⟨g1, g2, g3⟩ := drop_cons h
  obtain ⟨n1, n2⟩ := num_back x
  have hv : numV xs a = x := by
    rw [numV, g2, g3, n1, List.take_left' (tailB_length x _)]
    exact n2
  unfold numR
  rw [if_neg (by simp), if_neg (by omega), hv, g2, n1, if_neg (by omega), if_pos rfl]
  exact ⟨rfl, h3⟩
theorem blk_fwd {xs ds t : List UInt8} {a : Nat} (hn : ds.length ≤ 1000000) (h : xs.drop a = numB (UInt64.ofNat ds.length) ++ ds ++ t) : blkR xs a 0 = (some ds, a + szN ds.length + ds.length, 0) ∧ xs.drop (a + szN ds.length + ds.length) = t := by
  rw [List.append_assoc] at h
  have hx : (UInt64.ofNat ds.length).toNat = ds.length := ofNat_nat hn
  obtain ⟨h1, h2⟩ := num_fwd h
  rw [hx] at h1 h2
  unfold blkR
  rw [h1]
  simp only [hx]
  rw [if_neg (by simp)]
  have hl := congrArg List.length h2
  rw [List.length_drop, List.length_append] at hl
  have hz := szN_pos ds.length
  have hle : a + szN ds.length ≤ xs.length := by
    have := congrArg List.length h
    rw [List.length_drop, List.length_append, numB_length, hx] at this
    omega
  rw [if_neg (by omega), h2]
  refine ⟨by simp, ?_⟩
  rw [← List.drop_drop, h2]; simp
theorem tak_fwd {xs d t : List UInt8} {a m : Nat} (h : xs.drop a = d ++ t) (hd : d.length = m) (hm : 0 < m) : takR xs m a 0 = (d, a + m, 0) ∧ xs.drop (a + m) = t := by
  obtain ⟨h1, h2, h3⟩ := drop_split h (by omega)
  rw [hd] at h1 h2 h3
  unfold takR
  rw [if_neg (by simp), if_neg (by omega), h2]
  exact ⟨rfl, h3⟩
theorem digs_fwd {xs t : List UInt8} {ls : List (List UInt8)} {a : Nat} (hls : ∀ l ∈ ls, l.length = 32) (h : xs.drop a = ls.flatten ++ t) : ∀ j, j ≤ ls.length → digsR xs j a 0 = (ls.take j, a + 32 * j, 0) ∧ xs.drop (a + 32 * j) = (ls.drop j).flatten ++ t
  | 0, _ => ⟨rfl, by simpa using h⟩
  | j + 1, hj => by
    obtain ⟨h1, h2⟩ := digs_fwd hls h j (by omega)
    rw [List.drop_eq_getElem_cons (l := ls) (i := j) (by omega), List.flatten_cons, List.append_assoc] at h2
    obtain ⟨h3, h4⟩ := dig_fwd h2 (hls _ (List.getElem_mem (by omega)))
    refine ⟨?_, by rw [show a + 32 * (j + 1) = a + 32 * j + 32 by omega]; exact h4⟩
    rw [digsR, h1]
    simp only [h3]
    rw [List.take_succ_eq_append_getElem (by omega)]
    rfl
/-! ### back -/
theorem dig_bwd {xs d : List UInt8} {a a1 : Nat} {e : Int} (h : digR xs a e = (d, a1, 0)) : e = 0 ∧ a1 = a + 32 ∧ a + 32 ≤ xs.length ∧ xs.drop a = d ++ xs.drop a1 := by
  unfold digR at h
  by_cases he : e = 0
  · rw [if_neg (by simp [he])] at h
    by_cases h1 : xs.length < a + 32
    · rw [if_pos h1] at h; simp at h
    · rw [if_neg h1] at h
      obtain ⟨rfl, rfl⟩ : (xs.drop a).take 32 = d ∧ a + 32 = a1 := by simpa using h
      exact ⟨he, rfl, by omega, by rw [← List.drop_drop, List.take_append_drop]⟩
  · rw [if_pos he] at h
    simp at h; exact absurd h.2.2 he
theorem num_bwd {xs : List UInt8} {x : UInt64} {a a1 : Nat} {e : Int} (h : numR xs a e = (x, a1, 0)) : e = 0 ∧ a1 = a + szN x.toNat ∧ a1 ≤ xs.length ∧ xs.drop a = numB x ++ xs.drop a1 := by
  unfold numR at h
  by_cases he : e = 0
  · rw [if_neg (by simp [he])] at h
    by_cases h1 : xs.length ≤ a
    · rw [if_pos h1] at h; simp at h
    rw [if_neg h1] at h
    by_cases h2 : xs.length < a + cntB (xs.getD a 0)
    · rw [if_pos h2] at h; simp at h
    rw [if_neg h2] at h
    by_cases h3 : szN (numV xs a).toNat = cntB (xs.getD a 0)
    · rw [if_pos h3] at h
      obtain ⟨h4, h5⟩ : numV xs a = x ∧ a + cntB (xs.getD a 0) = a1 := by simpa using h
      have hc := (head_of (xs.getD a 0)).1
      have hl : ((xs.drop (a + 1)).take (cntB (xs.getD a 0) - 1)).length = cntB (xs.getD a 0) - 1 := by rw [List.length_take, List.length_drop]; omega
      have hb := num_only hl h3
      rw [show foldB (headV (xs.getD a 0)) ((xs.drop (a + 1)).take (cntB (xs.getD a 0) - 1)) = x from h4] at hb
      rw [h4] at h3
      refine ⟨he, by omega, by omega, ?_⟩
      have e3 : xs.drop a1 = (xs.drop (a + 1)).drop (cntB (xs.getD a 0) - 1) := by rw [List.drop_drop]; congr 1; omega
      rw [hb, e3, List.cons_append, List.take_append_drop, List.drop_eq_getElem_cons (l := xs) (i := a) (by omega)]
      congr 1
      rw [List.getD_eq_getElem?_getD, List.getElem?_eq_getElem (by omega)]; rfl
    · rw [if_neg h3] at h; simp at h
  · rw [if_pos he] at h
    simp at h; exact absurd h.2.2 he
theorem blk_bwd {xs : List UInt8} {o : Option (List UInt8)} {a a1 : Nat} {e : Int} (h : blkR xs a e = (o, a1, 0)) : e = 0 ∧ a1 ≤ xs.length ∧ ∃ ds, o = some ds ∧ xs.drop a = numB (UInt64.ofNat ds.length) ++ ds ++ xs.drop a1 := by
  unfold blkR at h
  by_cases he : (numR xs a e).2.2 = 0
  · rw [if_neg (by simp [he])] at h
    by_cases h1 : xs.length < (numR xs a e).2.1 + (numR xs a e).1.toNat
    · rw [if_pos h1] at h; simp at h
    rw [if_neg h1] at h
    obtain ⟨h2, h3⟩ : some ((xs.drop (numR xs a e).2.1).take (numR xs a e).1.toNat) = o ∧ (numR xs a e).2.1 + (numR xs a e).1.toNat = a1 := by simpa using h
    obtain ⟨g1, g2, g3, g4⟩ := num_bwd (xs := xs) (x := (numR xs a e).1) (a := a) (a1 := (numR xs a e).2.1) (e := e) (by rw [← he])
    have hl : ((xs.drop (numR xs a e).2.1).take (numR xs a e).1.toNat).length = (numR xs a e).1.toNat := by simp; omega
    refine ⟨g1, by omega, _, h2.symm, ?_⟩
    rw [hl, UInt64.ofNat_toNat, List.append_assoc, ← h3, ← List.drop_drop, List.take_append_drop]
    exact g4
  · rw [if_pos he] at h
    simp at h; exact absurd h.2.2 he
theorem tak_bwd {xs d : List UInt8} {a a1 m : Nat} {e : Int} (h : takR xs m a e = (d, a1, 0)) : e = 0 ∧ a1 = a + m ∧ a1 ≤ xs.length ∧ d.length = m ∧ xs.drop a = d ++ xs.drop a1 := by
  unfold takR at h
  by_cases he : e = 0
  · rw [if_neg (by simp [he])] at h
    by_cases h1 : xs.length < a + m
    · rw [if_pos h1] at h; simp at h
    · rw [if_neg h1] at h
      obtain ⟨rfl, rfl⟩ : (xs.drop a).take m = d ∧ a + m = a1 := by simpa using h
      exact ⟨he, rfl, by omega, by simp; omega, by rw [← List.drop_drop, List.take_append_drop]⟩
  · rw [if_pos he] at h
    simp at h; exact absurd h.2.2 he
theorem digs_bwd {xs : List UInt8} {a : Nat} {e : Int} : ∀ (j : Nat) (ls : List (List UInt8)) (a1 : Nat), digsR xs j a e = (ls, a1, 0) → e = 0 ∧ ls.length = j ∧ xs.drop a = ls.flatten ++ xs.drop a1
  | 0, ls, a1, h => by
    obtain ⟨rfl, rfl, rfl⟩ : [] = ls ∧ a = a1 ∧ e = 0 := by simpa [digsR] using h
    exact ⟨rfl, rfl, rfl⟩
  | j + 1, ls, a1, h => by
    rw [digsR] at h
    obtain ⟨h1, h2⟩ : (digsR xs j a e).1 ++ [(digR xs (digsR xs j a e).2.1 (digsR xs j a e).2.2).1] = ls ∧ (digR xs (digsR xs j a e).2.1 (digsR xs j a e).2.2).2 = (a1, 0) := by simpa using h
    obtain ⟨g1, g2, g3, g4⟩ := dig_bwd (xs := xs) (d := (digR xs (digsR xs j a e).2.1 (digsR xs j a e).2.2).1) (a := (digsR xs j a e).2.1) (a1 := a1) (e := (digsR xs j a e).2.2) (by rw [← h2])
    obtain ⟨k1, k2, k3⟩ := digs_bwd j (digsR xs j a e).1 (digsR xs j a e).2.1 (by rw [← g1])
    refine ⟨k1, by rw [← h1, List.length_append, k2]; rfl, ?_⟩
    rw [← h1, List.flatten_append, k3, g4]
    simp
/-! ### blocks -/
theorem readP_bytes {D : DB} (h : D.ok) (hc : D.check = 0) (t : List UInt8) : readP (D.bytes ++ t) = (D, D.bytes.length, 0) := by
  have hs := D.head_small hc
  have hl1 : (UInt64.ofNat D.ls.length).toNat = D.ls.length := ofNat_nat (by omega)
  obtain ⟨xs, hxs⟩ : ∃ xs, D.bytes ++ t = xs := ⟨_, rfl⟩
  rw [hxs]
  have h0 : xs.drop 0 = D.w ++ (numB D.seq ++ (D.prev ++ (numB (UInt64.ofNat D.ls.length) ++ (D.ls.flatten ++ (numB (UInt64.ofNat D.ds.length) ++ D.ds ++ (D.sg ++ t)))))) := by
    rw [List.drop_zero, ← hxs]
    simp only [DB.bytes, DB.body, List.append_assoc]
  obtain ⟨r1, h1⟩ := dig_fwd h0 h.w
  obtain ⟨r2, h2⟩ := num_fwd h1
  obtain ⟨r3, h3⟩ := dig_fwd h2 h.prev
  obtain ⟨r4, h4⟩ := num_fwd h3
  rw [hl1] at r4 h4
  obtain ⟨r5, h5⟩ := digs_fwd h.ls h4 D.ls.length (Nat.le_refl _)
  rw [List.take_length] at r5
  rw [List.drop_length, List.flatten_nil, List.nil_append] at h5
  obtain ⟨r6, h6⟩ := blk_fwd (by omega) h5
  obtain ⟨r7, h7⟩ := tak_fwd h6 h.sg (by decide)
  have hk : min (UInt64.ofNat D.ls.length).toNat 17 = D.ls.length := by omega
  have hlen : D.bytes.length = 0 + 32 + szN D.seq.toNat + 32 + szN D.ls.length + 32 * D.ls.length + szN D.ds.length + D.ds.length + 64 := by
    have hfl := flatten_take_len h.ls (Nat.le_refl D.ls.length)
    rw [List.take_length] at hfl
    simp only [DB.bytes, DB.body, List.length_append, numB_length, h.w, h.prev, h.sg, hfl, hl1, ofNat_nat (n := D.ds.length) (by omega)]
    omega
  simp only [readP, r1, r2, r3, r4, hk, r5, r6, r7, Option.getD_some]
  rw [h.sg, hlen, List.drop_of_length_le (by simp), List.append_nil]
theorem readD_bytes {D : DB} (h : D.ok) (hc : D.check = 0) : readD D.bytes = (D, 0) := by
  have hr := readP_bytes h hc []
  rw [List.append_nil] at hr
  rw [readD_ok (by rw [hr]; exact ⟨by simp [endR], hc⟩), hr]
theorem readD_more {D : DB} (h : D.ok) (hc : D.check = 0) (b : UInt8) : (readD (D.bytes ++ [b])).2 = 4 := by
  have hr := readP_bytes h hc [b]
  rw [readD_bad]
  rw [hr]
  intro h1
  have := h1.1
  simp only [endR, if_true, List.length_append, List.length_singleton] at this
  rw [if_pos (by omega)] at this
  cases this
theorem bytes_inj {D E : DB} (hD : D.ok) (hE : E.ok) (cD : D.check = 0) (cE : E.check = 0) : D.bytes = E.bytes ↔ D = E := by
  constructor
  · intro h
    have h1 := readD_bytes hD cD
    rw [h, readD_bytes hE cE] at h1
    exact (congrArg Prod.fst h1).symm
  · intro h; rw [h]
theorem readD_only {xs : List UInt8} (h : (readD xs).2 = 0) : (readD xs).1.check = 0 ∧ (readD xs).1.bytes = xs := by
  by_cases hg : endR xs.length (readP xs).2.1 (readP xs).2.2 = 0 ∧ (readP xs).1.check = 0
  · rw [readD_ok hg]
    refine ⟨hg.2, ?_⟩
    obtain ⟨he, hc⟩ := hg
    have hs := (readP xs).1.head_small hc
    have e0 : (readP xs).2.2 = 0 ∧ ¬ (0 : Int) < (xs.length : Int) - ((readP xs).2.1 : Int) := by
      unfold endR at he
      split at he
      · rename_i h1
        exact ⟨h1, fun h2 => by rw [if_pos h2] at he; cases he⟩
      · rename_i h1; exact absurd he h1
    obtain ⟨e1, e2⟩ := e0
    simp only [readP] at e1 e2 hs hc ⊢
    obtain ⟨l1, p1, h1⟩ : ∃ l r, digR xs 0 0 = (l, r) := ⟨_, _, rfl⟩
    obtain ⟨a1, d1⟩ := p1
    rw [h1] at e1 e2 hs ⊢
    simp only at e1 e2 hs ⊢
    obtain ⟨x2, p2, h2⟩ : ∃ l r, numR xs a1 d1 = (l, r) := ⟨_, _, rfl⟩
    obtain ⟨a2, d2⟩ := p2
    rw [h2] at e1 e2 hs ⊢
    simp only at e1 e2 hs ⊢
    obtain ⟨l3, p3, h3⟩ : ∃ l r, digR xs a2 d2 = (l, r) := ⟨_, _, rfl⟩
    obtain ⟨a3, d3⟩ := p3
    rw [h3] at e1 e2 hs ⊢
    simp only at e1 e2 hs ⊢
    obtain ⟨x4, p4, h4⟩ : ∃ l r, numR xs a3 d3 = (l, r) := ⟨_, _, rfl⟩
    obtain ⟨a4, d4⟩ := p4
    rw [h4] at e1 e2 hs ⊢
    simp only at e1 e2 hs ⊢
    obtain ⟨ls, p5, h5⟩ : ∃ l r, digsR xs (min x4.toNat 17) a4 d4 = (l, r) := ⟨_, _, rfl⟩
    obtain ⟨a5, d5⟩ := p5
    rw [h5] at e1 e2 hs ⊢
    simp only at e1 e2 hs ⊢
    obtain ⟨o, p6, h6⟩ : ∃ l r, blkR xs a5 d5 = (l, r) := ⟨_, _, rfl⟩
    obtain ⟨a6, d6⟩ := p6
    rw [h6] at e1 e2 hs ⊢
    simp only at e1 e2 hs ⊢
    obtain ⟨l7, p7, h7⟩ : ∃ l r, takR xs 64 a6 d6 = (l, r) := ⟨_, _, rfl⟩
    obtain ⟨a7, d7⟩ := p7
    rw [h7] at e1 e2 ⊢
    simp only at e1 e2 ⊢
    subst e1
    obtain ⟨rfl, i7, j7, k7, g7⟩ := tak_bwd h7
    obtain ⟨rfl, i6, ds, rfl, g6⟩ := blk_bwd h6
    obtain ⟨rfl, i5, g5⟩ := digs_bwd _ _ _ h5
    obtain ⟨rfl, i4, j4, g4⟩ := num_bwd h4
    obtain ⟨rfl, i3, j3, g3⟩ := dig_bwd h3
    obtain ⟨rfl, i2, j2, g2⟩ := num_bwd h2
    obtain ⟨_, i1, j1, g1⟩ := dig_bwd h1
    have hx4 : x4 = UInt64.ofNat ls.length := by
      apply UInt64.toNat_inj.1
      rw [ofNat_nat (by omega)]; omega
    have hnil : xs.drop a7 = [] := List.drop_eq_nil_of_le (by omega)
    simp only [DB.bytes, DB.body, Option.getD_some]
    rw [k7, List.drop_of_length_le (by simp), List.append_nil, ← hx4]
    rw [hnil, List.append_nil] at g7
    rw [List.drop_zero] at g1
    rw [g1, g2, g3, g4, g5, g6, g7]
    simp only [List.append_assoc]
  · rw [readD_bad hg] at h; cases h


end Go.Proofs.Ytejjamifnombhaa
