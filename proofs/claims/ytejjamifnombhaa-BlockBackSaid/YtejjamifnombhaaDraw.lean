/- Regions that draw their order while some blocks stay as they are, up to a last part that may write them; loops of few rounds; blocks lent in pairs. It proves no statement by itself; it has no conditions. -/
import Derived.Test.YtejjamifnombhaaMisc
import Derived.LoopN
namespace Hw
open Go Go.RowKit
set_option linter.unusedSimpArgs false
set_option linter.unusedVariables false

theorem Rep.joinK {C : Cx} {K : List Blk} {s : St} {a : Act} {w : World} (hC : C.kb = []) (hk : (K.map (·.n)).Nodup) (ho : ∀ b ∈ K, C.W0.heap.size ≤ b.n ∨ b.n ∈ C.lent) (r' : Rep (C.with K) s a w) : Rep C ⟨s.sl, K ++ s.hp⟩ a w := by
  suffices Rep C ⟨s.sl, s.hp ++ K⟩ a w from ⟨this.rs, this.rh.perm List.perm_append_comm⟩
  refine ⟨⟨r'.rs.size, r'.rs.defers, r'.rs.slots⟩, ⟨fun b hb => ?_, ?_, fun b hb => ?_, r'.rh.keeps, (by rw [hC]; intro _ h; cases h), (by rw [hC]; intro _ _ _ h; cases h)⟩⟩
  · rcases List.mem_append.1 hb with hb | hb
    · exact r'.rh.cells b hb
    · exact r'.rh.kok b hb
  · rw [List.map_append, List.nodup_append]
    refine ⟨r'.rh.nodup, hk, fun i hi j hj => ?_⟩
    obtain ⟨x, hx, rfl⟩ := List.mem_map.1 hi
    obtain ⟨y, hy, rfl⟩ := List.mem_map.1 hj
    exact r'.rh.kd x hx y hy
  · rcases List.mem_append.1 hb with hb | hb
    · exact r'.rh.own b hb
    · exact ho b hb

/-- every operation of the second list waits for every one of the first list -/
def sepOk (ops : Array Oper) (p1 p2 : List (Nat × Nat)) : Bool := p2.all fun q => p1.all fun p => reach ops ops.size q.2 p.2

theorem wpAny_two {C : Cx} {K : List Blk} (hC : C.kb = []) (hKn : (K.map (·.n)).Nodup) (hKo : ∀ b ∈ K, C.W0.heap.size ≤ b.n ∨ b.n ∈ C.lent) {ops : Array Oper} {p1 p2 : List (Nat × Nat)} (hok : orderOk ops (p1 ++ p2) = true) (hsep : sepOk ops p1 p2 = true) (Q : St → Prop) :
    ∀ (fuel : Nat) (listed : Array Bool) (s : St) (a : Act) (w : World) (Q1 : St → Prop), listed.size = ops.size → Shut ops listed → (∀ p ∈ p2, listed.getD p.2 false = false) →
      (p1.filter (fun p => !listed.getD p.2 false)).length + p2.length ≤ fuel → (∀ s, Q1 s → clQ (fun s' => Tr C ops (items ops p2) ⟨s'.sl, K ++ s'.hp⟩ Q) s) →
      Rep (C.with K) s a w → Tr (C.with K) ops (items ops (p1.filter (fun p => !listed.getD p.2 false))) s Q1 →
      wpAny C.P .any ops (Fin C Q) fuel listed a w := by
  have hok' := hok
  simp only [orderOk, Bool.and_eq_true, List.all_eq_true] at hok
  obtain ⟨⟨htopo, hall⟩, hpairs⟩ := hok
  have hnd := topo_nodup (p1 ++ p2) [] htopo
  have hpairs1 : pairsOk ops p1 = true := by
    have h1 := pairs_filter (fun p => p1.contains p) (p1 ++ p2) hpairs
    have e2 : p2.filter (fun p => p1.contains p) = [] := List.filter_eq_nil_iff.2 fun p hp h => by
      rw [List.map_append, List.nodup_append] at hnd
      have hp1 : p ∈ p1 := by simpa using h
      exact hnd.2.2 p.2 (List.mem_map.2 ⟨p, hp1, rfl⟩) p.2 (List.mem_map.2 ⟨p, hp, rfl⟩) rfl
    have e1 : p1.filter (fun p => p1.contains p) = p1 := List.filter_eq_self.2 fun p hp => by simpa using hp
    rwa [List.filter_append, e1, e2, List.append_nil] at h1
  have hnd1 : (p1.map (·.2)).Nodup := by rw [List.map_append, List.nodup_append] at hnd; exact hnd.1
  -- the first list is through
  have base : ∀ (fuel : Nat) (listed : Array Bool) (s : St) (a : Act) (w : World) (Q1 : St → Prop), listed.size = ops.size → Shut ops listed → (∀ p ∈ p2, listed.getD p.2 false = false) →
      p2.length ≤ fuel → (∀ s, Q1 s → clQ (fun s' => Tr C ops (items ops p2) ⟨s'.sl, K ++ s'.hp⟩ Q) s) → p1.filter (fun p => !listed.getD p.2 false) = [] →
      Rep (C.with K) s a w → Tr (C.with K) ops (items ops (p1.filter (fun p => !listed.getD p.2 false))) s Q1 → wpAny C.P .any ops (Fin C Q) fuel listed a w := by
    intro fuel listed s a w Q1 hsz hs h2 hlen hq hnil r h
    rw [hnil] at h
    have e2 : p2.filter (fun p => !listed.getD p.2 false) = p2 := List.filter_eq_self.2 fun p hp => by rw [h2 p hp]; rfl
    have e : (p1 ++ p2).filter (fun p => !listed.getD p.2 false) = p2 := by rw [List.filter_append, hnil, e2, List.nil_append]
    cases h with
    | dup h => exact absurd r.rh.nodup h
    | nil h =>
      obtain ⟨s0, he, ht⟩ := hq _ h
      exact wpAny_of_tr (C := C) hok' fuel listed ⟨s0.sl, K ++ s0.hp⟩ a w Q hsz hs (by rw [e]; exact hlen) (Rep.joinK hC hKn hKo (r.eqv he.symm)) (by rw [e]; exact ht)
  intro fuel
  induction fuel with
  | zero =>
    intro listed s a w Q1 hsz hs h2 hlen hq r h
    exact base 0 listed s a w Q1 hsz hs h2 (by omega) hq (List.eq_nil_of_length_eq_zero (by omega)) r h
  | succ fuel ih =>
    intro listed s a w Q1 hsz hs h2 hlen hq r h
    by_cases hnil : p1.filter (fun p => !listed.getD p.2 false) = []
    · exact base _ listed s a w Q1 hsz hs h2 (by omega) hq hnil r h
    obtain ⟨p0, hp0⟩ := List.exists_mem_of_ne_nil _ hnil
    have hun0 : listed.getD p0.2 false = false := by simpa using (List.mem_filter.1 hp0).2
    refine ⟨fun hr => ?_, fun j hj => ?_⟩
    · exfalso
      have : (p1 ++ p2).filter (fun p => !listed.getD p.2 false) ≠ [] := by
        rw [List.filter_append]
        intro e
        exact hnil (List.append_eq_nil_iff.1 e).1
      cases hf : (p1 ++ p2).filter (fun p => !listed.getD p.2 false) with
      | nil => exact this hf
      | cons p l' =>
        have := topo_first hsz (p1 ++ p2) [] htopo (by simp) p l' hf
        rw [hr] at this
        cases this
    obtain ⟨hjlt, hjun, hjb⟩ := (mem_ready' hsz).1 hj
    have hjm := hall j (List.mem_range.2 hjlt)
    simp only [List.contains_eq_mem, decide_eq_true_eq] at hjm
    obtain ⟨q, hq0, hqj⟩ := List.mem_map.1 hjm
    have hq1 : q ∈ p1 := by
      rcases List.mem_append.1 hq0 with h1 | h1
      · exact h1
      · exfalso
        simp only [sepOk, List.all_eq_true] at hsep
        have := reach_listed hs ops.size q.2 p0.2 (by rw [hqj]; exact hjb) (hsep q h1 p0 (List.mem_filter.1 hp0).1)
        rw [hun0] at this
        cases this
    have hqf : q ∈ p1.filter (fun p => !listed.getD p.2 false) := List.mem_filter.2 ⟨hq1, by rw [hqj, hjun]; rfl⟩
    obtain ⟨l1, l2, hf⟩ := List.append_of_mem hqf
    have hoj : ops[j]? = some ops[j] := Array.getElem?_eq_getElem hjlt
    rw [hf, items_append] at h
    have hit : items ops (q :: l2) = (q.1, ops[j]) :: items ops l2 := by
      simp [items, hqj, hjlt]
    rw [hit] at h
    have hpf := pairs_filter (fun p => !listed.getD p.2 false) p1 hpairs1
    rw [hf] at hpf
    have h' := Tr.front (l1 := items ops l1) (l2 := items ops l2) (fun p hp => by
      obtain ⟨p0, hp0, he⟩ := List.mem_filterMap.1 hp
      have hp1 := pairs_split l1 q l2 hpf p0 hp0
      have hun : listed.getD p0.2 false = false := by
        have : p0 ∈ p1.filter (fun p => !listed.getD p.2 false) := by rw [hf]; exact List.mem_append.2 (.inl hp0)
        simpa using (List.mem_filter.1 this).2
      cases hop : ops[p0.2]? with
      | none => rw [hop] at he; cases he
      | some o =>
        rw [hop] at he
        simp only [Option.map_some, Option.some.injEq] at he
        subst he
        simp only [pairOk, Bool.or_eq_true, Bool.and_eq_true] at hp1
        rcases hp1 with hp1 | hp1
        · rw [hop, hqj, hoj] at hp1
          exact hp1
        · have := reach_listed hs ops.size q.2 p0.2 (by rw [hqj]; exact hjb) hp1
          rw [hun] at this
          cases this) h
    have hjl : j < listed.size := by omega
    refine wpOp_mono (K := fun a' w' => ∃ s', Rep (C.with K) s' a' w' ∧ Tr (C.with K) ops (items ops l1 ++ items ops l2) s' (clQ Q1)) ?_ (Tr.step (i := j) hoj h' a w r _ (fun s' a' w' r' k => ⟨s', r', k⟩) _)
    rintro a' w' ⟨s', r', k⟩
    have hfs := filter_set hjl p1 l1 l2 q hqj hnd1 hf
    have hlen2 := congrArg List.length hf
    rw [List.length_append, List.length_cons] at hlen2
    exact ih (listed.setIfInBounds j true) s' a' w' (clQ Q1) (by simp [hsz]) (fun i hi k hk => by
        rw [getD_set _ _ _ hjl] at hi ⊢
        by_cases hij : j = i
        · subst hij; rw [hjb k hk]; simp
        · simp only [hij, decide_false, Bool.false_or] at hi
          rw [hs i hi k hk]; simp)
      (fun p hp => by
        rw [getD_set _ _ _ hjl, h2 p hp, Bool.or_false]
        refine decide_eq_false fun e => ?_
        rw [List.map_append, List.nodup_append] at hnd
        exact hnd.2.2 q.2 (List.mem_map.2 ⟨q, hq1, rfl⟩) p.2 (List.mem_map.2 ⟨p, hp, rfl⟩) (by rw [hqj, e]))
      (by rw [hfs, List.length_append]; omega)
      (fun s ⟨s0, he, h0⟩ => by
        obtain ⟨s1, he1, h1⟩ := hq _ h0
        exact ⟨s1, he1.trans he, h1⟩) r' (by rw [hfs, items_append]; exact k)

/-- a region that draws its order: the blocks K stay as they are during its first part -/
theorem Sat.drawK {C : Cx} {id : Nat} {ops : List Oper} {sl : List (Nat × Value)} {hp A K : List Blk} {Q : Exit → St → Prop} (hsp : hp.Perm (A ++ K)) (hC : C.kb = []) (p1 p2 : List (Nat × Nat)) (hm : C.P.follows .mixedOrders = true) (hok : orderOk ops.toArray (p1 ++ p2) = true) (hsep : sepOk ops.toArray p1 p2 = true)
    (h : Tr (C.with K) ops.toArray (items ops.toArray p1) ⟨sl, A⟩ (fun s' => Tr C ops.toArray (items ops.toArray p2) ⟨s'.sl, K ++ s'.hp⟩ (Q .normal))) : Sat C (.region id ops.toArray true) ⟨sl, hp⟩ Q := by
  intro a w r
  have hh := r.rh.perm hsp
  have hnd := hh.nodup
  rw [List.map_append, List.nodup_append] at hnd
  have hlen : (p1 ++ p2).length ≤ ops.length := by
    simp only [orderOk, Bool.and_eq_true] at hok
    have hnd := topo_nodup (p1 ++ p2) [] hok.1.1
    have hlt : ∀ x ∈ (p1 ++ p2).map (·.2), x ∈ List.range ops.length := fun x hx => by
      obtain ⟨p, hp, rfl⟩ := List.mem_map.1 hx
      have := (topo_mem (p1 ++ p2) [] hok.1.1 p hp).1
      simpa using this
    have := hnd.length_le_of_subset hlt
    simpa using this
  have z : ∀ j, (Array.replicate ops.toArray.size false).getD j false = false := fun j => by
    rw [Array.getD_eq_getD_getElem?, Array.getElem?_replicate]
    split <;> rfl
  have h0 : p1.filter (fun p => !(Array.replicate ops.toArray.size false).getD p.2 false) = p1 := List.filter_eq_self.2 fun p _ => by rw [z]; rfl
  rw [List.length_append] at hlen
  have := wpAny_two (C := C) (K := K) hC hnd.2.1 (fun b hb => hh.own b (List.mem_append.2 (.inr hb))) hok hsep (Q .normal) ops.toArray.size (Array.replicate ops.toArray.size false) ⟨sl, A⟩ a { w with drawn := w.drawn + 1 } _ (by simp)
    (fun j hj => by rw [z] at hj; cases hj) (fun p _ => z p.2) (by rw [h0]; simpa using hlen) (fun s q => ⟨s, .refl _, q⟩)
    ⟨⟨r.rs.size, r.rs.defers, r.rs.slots⟩, HRep.drew (show HRep (C.with K) A w from ⟨fun b hb => hh.cells b (List.mem_append.2 (.inl hb)), hnd.1, fun b hb => hh.own b (List.mem_append.2 (.inl hb)), hh.keeps, fun b hb => hh.cells b (List.mem_append.2 (.inr hb)),
      fun b hb k hk => hnd.2.2 b.n (List.mem_map.2 ⟨b, hb, rfl⟩) k.n (List.mem_map.2 ⟨k, hk, rfl⟩)⟩) _⟩ (by rw [h0]; exact h)
  refine wp_mono (wp_region_any hm this) fun e a' w' ⟨he, s', r', q⟩ => ?_
  subst he
  exact ⟨s', r', q⟩

/-! ### loops of few rounds -/
def SRounds (C : Cx) (body : Code) (Q : Exit → St → Prop) : Nat → St → Prop
  | 0, _ => False
  | n + 1, s => Sat C body s (thenQ (SRounds C body Q n) Q)
theorem SRounds.more {C : Cx} {body : Code} {Q : Exit → St → Prop} {n : Nat} {s : St} (h : Sat C body s (thenQ (SRounds C body Q n) Q)) : SRounds C body Q (n + 1) s := h
theorem Sat.rounds {C : Cx} {body : Code} {Q : Exit → St → Prop} (n : Nat) {s : St} (h : SRounds C body Q n s) : Sat C (.loop body) s Q := by
  intro a w r
  refine wp_loop_rounds n ?_
  induction n generalizing s a w with
  | zero => exact h.elim
  | succ n ih =>
    rw [rounds_succ]
    refine wp_mono (h a w r) fun e a' w' ⟨s', r', q⟩ => ?_
    cases e with
    | normal => exact ih q a' w' r'
    | _ => exact ⟨s', r', q⟩

/-! ### blocks that are lent -/
theorem lent_ok {L : List Blk} {lent : List Nat} (h : L.map (·.n) = lent) : ∀ n ∈ lent, ∃ b ∈ L, b.n = n := fun n hn => by
  subst h
  obtain ⟨b, hb, rfl⟩ := List.mem_map.1 hn
  exact ⟨b, hb, rfl⟩
theorem HRep.two {P : Program} {W : World} {N : Nat} {A B : Blk} (ha : BlkOk W A) (hb : BlkOk W B) (hn : A.n ≠ B.n) : HRep ⟨P, W, N, [A.n, B.n], [], []⟩ [A, B] W := by
  refine ⟨fun b h => ?_, by simpa using hn, fun b h => ?_, Keeps.refl _ _, fun _ h => (by cases h), fun _ _ _ h => (by cases h)⟩
  · rcases List.mem_cons.1 h with rfl | h
    · exact ha
    · rw [List.mem_singleton.1 h]; exact hb
  · rcases List.mem_cons.1 h with rfl | h
    · exact .inr List.mem_cons_self
    · rw [List.mem_singleton.1 h]; exact .inr (List.mem_cons_of_mem _ List.mem_cons_self)
theorem perm_swap {A B : Blk} {l : List Blk} : (A :: B :: l).Perm (B :: A :: l) := List.Perm.swap _ _ _
end Hw
