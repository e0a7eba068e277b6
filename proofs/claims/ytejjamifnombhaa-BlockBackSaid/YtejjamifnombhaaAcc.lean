/- Rows under construction, lists of blocks whose contents are not listed, and how states that hold them are compared. It proves no statement by itself; it has no conditions. -/
import Derived.Test.YtejjamifnombhaaDraw
namespace Hw
open Go Go.RowKit
set_option linter.unusedSimpArgs false
set_option linter.unusedVariables false

/-! ### lists of blocks -/
section
variable {X Y l l' l'' hp hp1 R : List Blk} {x B : Blk} {n : Nat} {cs cs' : List Value} {T : TypeId} {m m' : Nat}
theorem rem_seg (h : l.Perm (B :: l')) : (X ++ l).Perm (B :: (X ++ l')) := (List.Perm.append_left X h).trans List.perm_middle
theorem sg_here : (X ++ l).Perm (X ++ l) := .refl _
theorem sg_there (h : l.Perm (X ++ l')) : (x :: l).Perm (X ++ (x :: l')) := (List.Perm.cons x h).trans List.perm_middle.symm
theorem sg_seg (h : l.Perm (X ++ l')) : (Y ++ l).Perm (X ++ (Y ++ l')) := by
  refine (List.Perm.append_left Y h).trans ?_
  rw [← List.append_assoc, ← List.append_assoc]
  exact List.Perm.append_right l' List.perm_append_comm
theorem sp_x {A K : List Blk} (h : l.Perm (A ++ K)) : (X ++ l).Perm ((X ++ A) ++ K) := by rw [List.append_assoc]; exact List.Perm.append_left X h
theorem sg_end : X.Perm (X ++ []) := by rw [List.append_nil]
theorem pm_nil : hp.Perm ([] ++ hp) := .refl _
theorem pm_cons (h : hp.Perm (x :: hp1)) (k : hp1.Perm (l ++ R)) : hp.Perm ((x :: l) ++ R) := h.trans (.cons x k)
theorem pm_consE (h : hp.Perm (⟨n, cs, T, m⟩ :: hp1)) (e : cs = cs') (e2 : m = m') (k : hp1.Perm (l ++ R)) : hp.Perm ((⟨n, cs', T, m'⟩ :: l) ++ R) := by subst e; subst e2; exact pm_cons h k
theorem pm_seg (h : hp.Perm (X ++ hp1)) (k : hp1.Perm (l ++ R)) : hp.Perm ((X ++ l) ++ R) := by
  rw [List.append_assoc]
  exact h.trans (List.Perm.append_left X k)
theorem pm_two (h : hp.Perm ((X ++ (Y ++ l)) ++ R)) : hp.Perm (((X ++ Y) ++ l) ++ R) := by rwa [List.append_assoc X Y l]
theorem pm_none (h : hp.Perm (l ++ R)) : hp.Perm (([] ++ l) ++ R) := h
theorem pm_only (h : hp.Perm (X ++ R)) : hp.Perm (X ++ R) := h
theorem mem_seg (h : B ∈ l) : B ∈ X ++ l := List.mem_append_right _ h
theorem in_here : ∀ b ∈ X, b ∈ X ++ l := fun b hb => List.mem_append_left _ hb
theorem in_all : ∀ b ∈ X, b ∈ X := fun b hb => hb
theorem in_there (h : ∀ b ∈ X, b ∈ l) : ∀ b ∈ X, b ∈ x :: l := fun b hb => List.mem_cons_of_mem _ (h b hb)
theorem in_seg (h : ∀ b ∈ X, b ∈ l) : ∀ b ∈ X, b ∈ Y ++ l := fun b hb => List.mem_append_right _ (h b hb)
theorem ns_segs (k : NSub l' l) : NSub l' (X ++ l) := by
  unfold NSub at *; rw [List.map_append]; exact k.trans (List.sublist_append_right _ _)
theorem Upd.seg {b : Nat} (h : Upd l b cs T m cs' l') : Upd (X ++ l) b cs T m cs' (X ++ l') := by
  induction X with
  | nil => exact h
  | cons x X ih => exact .tail ih
end
theorem weak_perm {sl sl' : List (Nat × Value)} {hp hp' R : List Blk} (h1 : wkl sl sl') (h2 : hp.Perm (hp' ++ R)) : Weak ⟨sl, hp⟩ ⟨sl', hp'⟩ :=
  ⟨wkl_mem h1, fun b hb => h2.symm.subset (List.mem_append_left _ hb), fun h => by
    have := (h2.map (·.n)).nodup_iff.1 h
    rw [List.map_append, List.nodup_append] at this
    exact this.1⟩
theorem end_perm {C : Cx} {fn : Func} {R : Value → List Blk → Prop} {s : St} {v : Value} {out K : List Blk} (hr : Res C fn s v) (hp : s.hp.Perm (out ++ K)) (h : R v out) : endAt C fn R s :=
  ⟨v, out, hr, fun b hb => hp.symm.subset (List.mem_append_left _ hb), fun hn => by
    have := (hp.map (·.n)).nodup_iff.1 hn
    rw [List.map_append, List.nodup_append] at this
    exact this.1, h⟩

theorem Meets.imp {P : Program} {f : FuncId} {args : List Value} {lent : List Nat} {Pre Pre' : World → Prop} {R R' : Value → List Blk → Prop} (h : Meets P f args lent Pre R) (hp : ∀ w, Pre' w → Pre w) (hr : ∀ v out, R v out → R' v out) : Meets P f args lent Pre' R' :=
  fun W hW => (h W (hp W hW)).mono fun e W' ⟨v, out, h1, h2, h3⟩ => ⟨v, out, h1, hr v out h2, h3⟩

/-- a fact that omega does not look into -/
structure Hid (p : Prop) : Prop where
  out : p

/-! ### facts of worlds -/
/-- whatever holds where these blocks lie -/
def Lies (bl : List Blk) (w : World) : Prop := ∀ b ∈ bl, BlkOk w b
theorem Lies.of {C : Cx} {hp bl : List Blk} {w : World} (h : HRep C hp w) (hb : ∀ b ∈ bl, b ∈ hp) : Lies bl w := fun b hb' => h.cells b (hb b hb')
theorem Lies.sub {bl bl' : List Blk} {w : World} (h : Lies bl w) (hb : ∀ b ∈ bl', b ∈ bl) : Lies bl' w := fun b hb' => h b (hb b hb')
theorem Lies.keep {bl : List Blk} {ex : List Nat} {w w' : World} (h : Lies bl w) (k : Keeps ex w w') (hn : ∀ b ∈ bl, b.n ∉ ex) : Lies bl w' := fun b hb => (h b hb).of_heap (k.block b.n (h b hb).lt (hn b hb))

/-- a row under construction: nil, or a block of one's own -/
def Acc (s : Sl) (bl : List Blk) (cells : List Value) (E : TypeId) (n size : Nat) : Prop :=
  (s = Sl.nil ∧ bl = [] ∧ cells = [] ∧ n = 0) ∨ ∃ q c, s = ⟨some ⟨q, 0, none⟩, n, c⟩ ∧ n ≤ c ∧ cells.length = n * size ∧ bl = [⟨q, cells, E, c * size⟩]
section
variable {s : Sl} {bl : List Blk} {cells : List Value} {E : TypeId} {n size : Nat}
theorem Acc.none : Acc Sl.nil [] [] E 0 size := .inl ⟨rfl, rfl, rfl, rfl⟩
theorem Acc.some {q c : Nat} (h : n ≤ c) (hl : cells.length = n * size) : Acc ⟨.some ⟨q, 0, .none⟩, n, c⟩ [⟨q, cells, E, c * size⟩] cells E n size := .inr ⟨q, c, rfl, h, hl, rfl⟩
theorem Acc.num (h : Acc s bl cells E n size) : s.n = n := by rcases h with ⟨rfl, _, _, rfl⟩ | ⟨q, c, rfl, _⟩ <;> rfl
theorem Acc.len (h : Acc s bl cells E n size) : cells.length = n * size := by rcases h with ⟨_, _, rfl, rfl⟩ | ⟨q, c, _, _, h, _⟩; simp; exact h
theorem Acc.cap (h : Acc s bl cells E n size) : s.n ≤ s.c := by rcases h with ⟨rfl, _⟩ | ⟨q, c, rfl, h, _⟩; exact Nat.le_refl _; exact h
theorem Acc.nil (h : Acc s bl cells E n size) (hp : s.p = .none) : s.n = 0 := by rcases h with ⟨rfl, _⟩ | ⟨q, c, rfl, _⟩; rfl; cases hp
theorem Acc.nilc (h : Acc s bl cells E n size) (hp : s.p = .none) : s.c = 0 := by rcases h with ⟨rfl, _⟩ | ⟨q, c, rfl, _⟩; rfl; cases hp
theorem Acc.see (h : Acc s bl cells E n size) {w : World} (hw : Lies bl w) : SeesP w s.p cells := by
  rcases h with ⟨_, _, rfl, _⟩ | ⟨q, c, rfl, _, _, rfl⟩
  · exact SeesP.nil
  · refine SeesP.of fun j v hj => ?_
    have := (hw _ (List.mem_singleton.2 rfl)).cell (o := 0 + j) (v := v) (by simpa using hj)
    simpa using this
end

section
variable {C : Cx} {ops : Array Oper} {rest : List (Nat × Oper)} {sl : List (Nat × Value)} {hp hp' : List Blk} {Q : St → Prop} {c d : Nat} {ty : TypeId} {pos : String} {af : Array Edge} {g : Option (Nat × Bool)}

/-- append to a row under construction -/
theorem Tr.appendAcc {x y : Operand} {s : Sl} {bl : List Blk} {n m size by' c2 : Nat} {T tx E E2 : TypeId} {z : Value} {olds : List Value} {p : Option Addr} (news : List Value) (hg : guardOk ops sl g = true) (hc : Nat.beq c 4 = true) (hd : Nat.blt d C.N = true)
    (hx : evIn sl x = some s.v) (hy : evIn sl y = some (.slice p m c2)) (hu : C.P.underlying T = some (.slice E)) (hut : C.P.underlying tx = some (.slice E2)) (hs : Sz C.P E size) (hz : Zr C.P E z) (hb : By C.P E by') (hzc : z.cells.size = size)
    (hacc : Acc s bl olds E n size) (hp1 : hp.Perm (bl ++ hp')) (hsee : ∀ w, HRep C hp w → SeesP w p news) (hpn : p = none → m = 0) (hcell : ∀ u ∈ news, isCell u = true)
    (hbig : n + m ≤ 1000000) (hfit : (n + m) * by' ≤ 140737488355328) (hnl : news.length = m * size)
    (k : ∀ s' bl', Acc s' bl' (olds ++ news) E (n + m) size → Tr C ops rest ⟨(d, s'.v) :: sl, bl' ++ hp'⟩ Q) :
    Tr C ops ((c, ⟨some d, .call { callee := .builtin .append, args := #[x, y], argTypes := #[T, tx] }, ty, pos, af, g⟩) :: rest) ⟨sl, hp⟩ Q := by
  rcases hacc with ⟨rfl, rfl, rfl, rfl⟩ | ⟨q, cp, rfl, hnc, hol, rfl⟩
  · rw [List.nil_append] at hp1
    simp only [Nat.zero_add, List.nil_append] at k hbig hfit
    by_cases hm : m = 0
    · subst hm
      have hnil : news = [] := by simpa using hnl
      subst hnil
      refine Tr.act (ρ := Unit) (fun _ => True) (fun _ => .slice none 0 0) (fun _ => hp') (nbeq' hc) (wantS_of_guardOk hg) (dst_some (nblt hd)) ⟨by simpa [Known, Op.operands, Call.operands] using known2 hx hy, fun a w hf hh => ?_⟩ (fun _ _ => k Sl.nil [] Acc.none)
      have h1 := hf x (by simp [Op.operands, Call.operands]); rw [hx] at h1
      have h2 := hf y (by simp [Op.operands, Call.operands]); rw [hy] at h2
      simp only [Option.some.injEq, Sl.v, Sl.nil] at h1 h2
      have rs := run_sz hs
      unfold Oper.wp
      have hex : (execOp a.eval ⟨some d, .call { callee := .builtin .append, args := #[x, y], argTypes := #[T, tx] }, ty, pos, af, g⟩).run C.P w = .ok (.value (.slice none 0 0)) w := by
        cases p <;> simp [execOp, resolve, invoke, builtin, ← h1, ← h2, Builtin.append_, run_underlying hu, run_underlying hut, rs, Builtin.lenOf, Builtin.firstCells, loadCells, loadCellsFrom, storeCells]
      rw [hex]
      exact ⟨(), trivial, rfl, hh.perm hp1⟩
    · refine Tr.act (ρ := Nat × Nat) (fun r => m ≤ r.2) (fun r => .slice (some ⟨r.1, 0, none⟩) m r.2) (fun r => ⟨r.1, news, E, r.2 * size⟩ :: hp') (nbeq' hc) (wantS_of_guardOk hg) (dst_some (nblt hd))
        ⟨by simpa [Known, Op.operands, Call.operands] using known2 hx hy, fun a w hf hh => ?_⟩ (fun r hr => k ⟨some ⟨r.1, 0, none⟩, m, r.2⟩ _ (Acc.some hr hnl))
      have h1 := hf x (by simp [Op.operands, Call.operands]); rw [hx] at h1
      have h2 := hf y (by simp [Op.operands, Call.operands]); rw [hy] at h2
      simp only [Option.some.injEq, Sl.v, Sl.nil] at h1 h2
      have hsz := hs
      unfold Sz at hs; unfold Zr at hz; unfold By at hb
      cases hi : C.P.info? E with
      | none => rw [hi] at hs; simp at hs
      | some i =>
        rw [hi] at hs hz hb
        simp only [Option.map_some, Option.some.injEq, Option.bind_some] at hs hz hb
        subst hs
        have hS : Src C.P i.size tx (.slice p m c2) m news w := Src.ofP hut (hsee w hh) hpn hnl hcell
        have hrun := run_append_grow_src (P := C.P) w T tx ty E i z hu hi hz none 0 0 [] (by simp [Builtin.firstCells]) _ m news hS (by omega) (by omega) (growslice_fits (by omega) (by rw [hb]; simpa using hfit))
        simp only [Nat.zero_add, List.nil_append] at hrun
        have hge := grownCap_ge w m 0 E
        unfold Oper.wp
        have hex : (execOp a.eval ⟨some d, .call { callee := .builtin .append, args := #[x, y], argTypes := #[T, tx] }, ty, pos, af, g⟩).run C.P w = .ok (.value (.slice (some ⟨w.heap.size, 0, none⟩) m (grownCap w m 0 E))) (w.drew.alloc (.cells (news.toArray ++ Builtin.zeroCells z.cells (grownCap w m 0 E - m)) E)) := by
          simp [execOp, resolve, invoke, builtin, ← h1, ← h2, hrun]
        rw [hex]
        refine ⟨(w.heap.size, grownCap w m 0 E), hge, rfl, ?_⟩
        have hret : Ret [] [⟨w.heap.size, news, E, grownCap w m 0 E * i.size⟩] w (w.drew.alloc (.cells (news.toArray ++ Builtin.zeroCells z.cells (grownCap w m 0 E - m)) E)) := Ret.pushD _ _ _ _ (by
          have e : grownCap w m 0 E * i.size = m * i.size + (grownCap w m 0 E - m) * i.size := by rw [← Nat.add_mul]; congr 1; omega
          simp [Builtin.zeroCells, hnl, hzc, e]) (by simp)
        exact (hh.perm hp1).grown hret
  · refine Tr.appendSl (z := z) (by' := by') news hg hc hd hx hy hu hut hs hz hb hzc hsee hpn hcell hp1 rfl hol hnc hbig hfit hnl (fun q' c' hq => ?_)
    exact k ⟨some ⟨q', 0, none⟩, n + m, c'⟩ _ (Acc.some hq (by rw [List.length_append, hol, hnl, Nat.add_mul]))

/-- the builtin copy, into an own block, elements of one cell, as many as both hold -/
theorem Tr.copyP {x y : Operand} {b o n cap1 m2 c2 : Nat} {p : Option Addr} {cs vs cs' : List Value} {BT T T2 E : TypeId} {m : Nat} (src : List Value) (k0 : Nat) (hg : guardOk ops sl g = true) (hc : Nat.beq c 4 = true) (hd : Nat.blt d C.N = true)
    (hx : evIn sl x = some (.slice (some ⟨b, o, none⟩) n cap1)) (hy : evIn sl y = some (.slice p m2 c2)) (hu : C.P.underlying T = some (.slice E)) (hs : Sz C.P E 1)
    (hsee : ∀ w, HRep C hp w → SeesP w p src) (hpn : p = none → m2 = 0) (hsl : src.length = m2) (hk0 : min n m2 = k0) (hvs : src.take k0 = vs) (hcell : ∀ u ∈ src, isCell u = true) (hb : (⟨b, cs, BT, m⟩ : Blk) ∈ hp) (hl : o + k0 ≤ cs.length) (hcs : upd cs o vs = cs') (hup : Upd hp b cs BT m cs' hp')
    (k : Tr C ops rest ⟨(d, i64 (k0 : Int)) :: sl, hp'⟩ Q) : Tr C ops ((c, ⟨some d, .call { callee := .builtin .copy, args := #[x, y], argTypes := #[T, T2] }, ty, pos, af, g⟩) :: rest) ⟨sl, hp⟩ Q := by
  refine Tr.act (ρ := Unit) (fun _ => True) (fun _ => i64 (k0 : Int)) (fun _ => hp') (nbeq' hc) (wantS_of_guardOk hg) (dst_some (nblt hd)) ⟨by simpa [Known, Op.operands, Call.operands] using known2 hx hy, fun a w hf hh => ?_⟩ (fun _ _ => k)
  have h1 := hf x (by simp [Op.operands, Call.operands]); rw [hx] at h1
  have h2 := hf y (by simp [Op.operands, Call.operands]); rw [hy] at h2
  simp only [Option.some.injEq] at h1 h2
  have hvl : vs.length = k0 := by rw [← hvs, List.length_take, hsl]; omega
  obtain ⟨full, fr, hbk⟩ := hh.cells _ hup.mem
  have hpl := hbk.pre.length_le
  simp only [Array.length_toList] at hpl
  have hlt := (hh.cells _ hup.mem).lt
  have hfc : (Builtin.firstCells 1 k0 (.slice p m2 c2)).run C.P w = .ok vs.toArray w := by
    cases p with
    | none =>
      have := hpn rfl
      subst this
      have : vs = [] := List.eq_nil_of_length_eq_zero (by omega)
      subst this
      simp [Builtin.firstCells, ← hk0, loadCells, loadCellsFrom]
    | some ad =>
      refine run_firstCells_some w 1 k0 ad m2 c2 vs (by rw [hvl, Nat.mul_one]) fun j v hj => ?_
      have hj' : src[j]? = some v := by
        rw [← hvs, List.getElem?_take] at hj
        split at hj
        · exact hj
        · cases hj
      obtain ⟨b2, o2, e, hcc⟩ := hsee w hh j v hj'
      simp only [Option.some.injEq] at e
      subst e
      rw [add_addr]; exact hcc
  have hk1 : m2.min n = k0 := by rw [← hk0]; exact Nat.min_comm m2 n
  have hst := run_storeCells (P := C.P) (b := b) (o := o) vs 0 w full hbk.heap (by omega) (by rw [hbk.size]; exact hbk.free) (fun u hu => hcell u (by rw [← hvs] at hu; exact List.mem_of_mem_take hu))
  have hrun : (execOp a.eval ⟨some d, .call { callee := .builtin .copy, args := #[x, y], argTypes := #[T, T2] }, ty, pos, af, g⟩).run C.P w = .ok (.value (i64 (k0 : Int))) (setBlk w b (putAll full o vs) BT fr) := by
    simp [execOp, resolve, invoke, builtin, Builtin.copy_, ← h1, ← h2, run_underlying hu, Builtin.lenOf, run_sz hs, hk1, hfc, hst, goInt]
  unfold Oper.wp
  rw [hrun]
  refine ⟨(), trivial, rfl, hh.upd hup hlt (by rw [putAll_size]; exact hbk.size) ?_ hbk.free⟩
  rw [← hcs]
  exact upd_pre hbk.pre (by rw [hvl]; exact hl)

theorem Tr.nd {l : List (Nat × Oper)} {s : St} (h : (s.hp.map (·.n)).Nodup → Tr C ops l s Q) : Tr C ops l s Q := by
  by_cases hn : (s.hp.map (·.n)).Nodup
  · exact h hn
  · exact .dup hn

variable {f : Operand} {fid : FuncId} {as : List Operand} {ats : Array TypeId} {vs us : List Value} {fst cap : Array Value}
/-- a call in the text's order -/
theorem Tr.call4 {Pre : World → Prop} {R : Value → List Blk → Prop} (hg : guardOk ops sl g = true) (hk : Nat.beq c 4 = true) (hd : Nat.blt d C.N = true) (hfn : evIn sl f = some (.func (.func fid) #[] #[])) (hargs : evs sl as = some vs) (hb : Body C.P fid)
    (hc : Meets C.P fid vs [] Pre R) (hpre : ∀ w, HRep C hp w → Pre w)
    (k : ∀ v out, R v out → Tr C ops rest ⟨(d, v) :: sl, out ++ hp⟩ Q) : Tr C ops ((c, ⟨some d, .call ⟨.value f, as.toArray, ats⟩, ty, pos, af, g⟩) :: rest) ⟨sl, hp⟩ Q := by
  refine Tr.act (ρ := Value × List Blk) (fun r => R r.1 r.2) (·.1) (fun r => r.2 ++ hp) (nbeq' hk) (wantS_of_guardOk hg) (dst_some (nblt hd)) ⟨known_call hfn hargs, fun a w hf hh => ?_⟩ (fun r hr => k r.1 r.2 hr)
  unfold Oper.wp
  rw [run_call hfn hargs hf, hb]
  refine (hc w (hpre w hh)).mono fun e w' ⟨v, out, he, hR, hret⟩ => ?_
  subst he
  exact ⟨(v, out), hR, rfl, hh.grown hret⟩
theorem Tr.call4C {Pre : World → Prop} {R : Value → List Blk → Prop} (hg : guardOk ops sl g = true) (hk : Nat.beq c 4 = true) (hd : Nat.blt d C.N = true) (hfn : evIn sl f = some (.func (.func fid) fst cap)) (hargs : evs sl as = some vs) (hus : fst.toList ++ vs ++ cap.toList = us) (hb : Body C.P fid)
    (hc : Meets C.P fid us [] Pre R) (hpre : ∀ w, HRep C hp w → Pre w)
    (k : ∀ v out, R v out → Tr C ops rest ⟨(d, v) :: sl, out ++ hp⟩ Q) : Tr C ops ((c, ⟨some d, .call ⟨.value f, as.toArray, ats⟩, ty, pos, af, g⟩) :: rest) ⟨sl, hp⟩ Q := by
  refine Tr.act (ρ := Value × List Blk) (fun r => R r.1 r.2) (·.1) (fun r => r.2 ++ hp) (nbeq' hk) (wantS_of_guardOk hg) (dst_some (nblt hd)) ⟨known_callC hfn hargs, fun a w hf hh => ?_⟩ (fun r hr => k r.1 r.2 hr)
  unfold Oper.wp
  rw [run_callC hfn hargs hus hf, hb]
  refine (hc w (hpre w hh)).mono fun e w' ⟨v, out, he, hR, hret⟩ => ?_
  subst he
  exact ⟨(v, out), hR, rfl, hh.grown hret⟩
end
end Hw
