/- What ScalarRing returns. Conditions: the lengths of arrays. -/
import Derived.Test.YtjeggfgbcafenaaLaw04
namespace Go.Proofs.Ytjeggfgbcafenaa
open Go Hw
set_option linter.unusedVariables false
set_option linter.unusedSimpArgs false


theorem scalar_canon_t (n : Nat) (h : n < L) : Meets Try.prog 23 [agg (bytesV (leb 32 n))] [] (fun _ => True) (fun v out => v = .bool true ∧ out = []) := by
  have := scalar_canon (leb 32 n) (leb_length 32 n)
  rw [le_leb32 (Nat.lt_trans h L_lt), decide_eq_true h] at this
  exact this


set_option maxRecDepth 100000 in
set_option maxHeartbeats 4000000 in
theorem law_ring (a b c : List UInt8) (ha : a.length = 32) (hb : b.length = 32) (hc : c.length = 32) : Meets Try.prog 6 [agg (bytesV a), agg (bytesV b), agg (bytesV c)] [] (fun _ => True) (fun v out => v = .bool true ∧ out = []) := by
  intro W hW
  obtain ⟨s1, c1, h1, e1⟩ := law_small_ex 1
  have l1 : le s1 = 1 := by rw [e1]; decide
  refine calls_of (hp0 := []) Try.func6 rfl 151 Try.ntmps6 rfl (HRep.nil _) ?_
  refine Sat.seq ?_
  -- region 0
  refine Sat.region ?_
  refine Tr.boxA rfl rfl ?_
  intro n3 hn3 hf3
  refine Tr.boxA rfl rfl ?_
  intro n4 hn4 hf4
  refine Tr.boxA rfl rfl ?_
  intro n5 hn5 hf5
  refine Tr.assign rfl rfl rfl ?_
  refine Tr.nil ?_
  refine at_n ?_
  refine Sat.seq ?_
  refine Sat.seq ?_
  -- region 1
  refine Sat.region ?_
  refine Tr.callV rfl rfl rfl rfl Body22 (law_lives) (fun _ _ => trivial) ?_
  refine Tr.not rfl rfl rfl ?_
  refine Tr.nil ?_
  refine at_n ?_
  refine Sat.cond_f rfl (rfl) ?_
  refine Sat.skip ?_
  refine at_n ?_
  refine Sat.seq ?_
  -- region 3
  refine Sat.draw [(1, 0), (1, 1), (1, 3), (1, 4), (3, 2), (3, 5), (2, 6), (2, 7), (4, 8), (4, 9)] Mixed (by kernel_rfl) ?_
  first
    | refine Tr.loadAll rfl rfl rfl Try.underlying47 rfl Sz47 (by first | exact mem0 | exact mem1 | exact mem2 | exact mem3 | exact mem4 | exact mem5 | exact mem6 | exact mem7) (by simp [leb_length, words4_length, List.length_replicate, subB_all, padB_all, ha, hb, hc, h1]) ?_
    | refine Tr.loadN _ rfl rfl rfl Try.underlying47 rfl Sz47 (by first | exact mem0 | exact mem1 | exact mem2 | exact mem3 | exact mem4 | exact mem5 | exact mem6 | exact mem7) (by exact rfl) (by simp [leb_length, words4_length, List.length_replicate, subB_all, padB_all, ha, hb, hc, h1]) ?_
  first
    | refine Tr.loadAll rfl rfl rfl Try.underlying47 rfl Sz47 (by first | exact mem0 | exact mem1 | exact mem2 | exact mem3 | exact mem4 | exact mem5 | exact mem6 | exact mem7) (by simp [leb_length, words4_length, List.length_replicate, subB_all, padB_all, ha, hb, hc, h1]) ?_
    | refine Tr.loadN _ rfl rfl rfl Try.underlying47 rfl Sz47 (by first | exact mem0 | exact mem1 | exact mem2 | exact mem3 | exact mem4 | exact mem5 | exact mem6 | exact mem7) (by exact rfl) (by simp [leb_length, words4_length, List.length_replicate, subB_all, padB_all, ha, hb, hc, h1]) ?_
  first
    | refine Tr.loadAll rfl rfl rfl Try.underlying47 rfl Sz47 (by first | exact mem0 | exact mem1 | exact mem2 | exact mem3 | exact mem4 | exact mem5 | exact mem6 | exact mem7) (by simp [leb_length, words4_length, List.length_replicate, subB_all, padB_all, ha, hb, hc, h1]) ?_
    | refine Tr.loadN _ rfl rfl rfl Try.underlying47 rfl Sz47 (by first | exact mem0 | exact mem1 | exact mem2 | exact mem3 | exact mem4 | exact mem5 | exact mem6 | exact mem7) (by exact rfl) (by simp [leb_length, words4_length, List.length_replicate, subB_all, padB_all, ha, hb, hc, h1]) ?_
  first
    | refine Tr.loadAll rfl rfl rfl Try.underlying47 rfl Sz47 (by first | exact mem0 | exact mem1 | exact mem2 | exact mem3 | exact mem4 | exact mem5 | exact mem6 | exact mem7) (by simp [leb_length, words4_length, List.length_replicate, subB_all, padB_all, ha, hb, hc, h1]) ?_
    | refine Tr.loadN _ rfl rfl rfl Try.underlying47 rfl Sz47 (by first | exact mem0 | exact mem1 | exact mem2 | exact mem3 | exact mem4 | exact mem5 | exact mem6 | exact mem7) (by exact rfl) (by simp [leb_length, words4_length, List.length_replicate, subB_all, padB_all, ha, hb, hc, h1]) ?_
  refine Tr.callV rfl rfl rfl rfl Body28 (scalar_add _ _ (by simp [leb_length, words4_length, List.length_replicate, subB_all, padB_all, ha, hb, hc, h1]) (by simp [leb_length, words4_length, List.length_replicate, subB_all, padB_all, ha, hb, hc, h1])) (fun _ _ => trivial) ?_
  refine Tr.callV rfl rfl rfl rfl Body29 (scalar_mul _ _ (by simp [leb_length, words4_length, List.length_replicate, subB_all, padB_all, ha, hb, hc, h1]) (by simp [leb_length, words4_length, List.length_replicate, subB_all, padB_all, ha, hb, hc, h1])) (fun _ _ => trivial) ?_
  refine Tr.alloc (cs := (bytesV (List.replicate 32 0))) rfl Zr47 rfl ?_
  intro n7 hn7 hf7
  refine Tr.alloc (cs := (bytesV (List.replicate 32 0))) rfl Zr47 rfl ?_
  intro n8 hn8 hf8
  first
    | refine Tr.storeAll rfl rfl rfl rfl (by simp [isCell]) Sz47 (by simp [leb_length, words4_length, List.length_replicate, subB_all, padB_all, ha, hb, hc, h1]) (by first | exact mem0 | exact mem1 | exact mem2 | exact mem3 | exact mem4 | exact mem5 | exact mem6 | exact mem7) (by simp [leb_length, words4_length, List.length_replicate, subB_all, padB_all, ha, hb, hc, h1]) (by first | exact upd0 | exact upd1 | exact upd2 | exact upd3 | exact upd4 | exact upd5 | exact upd6 | exact upd7) ?_
    | refine Tr.storeN _ rfl rfl rfl rfl rfl (by simp [isCell]) Sz47 (by simp [leb_length, words4_length, List.length_replicate, subB_all, padB_all, ha, hb, hc, h1]) (by first | exact mem0 | exact mem1 | exact mem2 | exact mem3 | exact mem4 | exact mem5 | exact mem6 | exact mem7) (by simp [leb_length, words4_length, List.length_replicate, subB_all, padB_all, ha, hb, hc, h1]) (by exact rfl) (by first | exact upd0 | exact upd1 | exact upd2 | exact upd3 | exact upd4 | exact upd5 | exact upd6 | exact upd7) ?_
  first
    | refine Tr.storeAll rfl rfl rfl rfl (by simp [isCell]) Sz47 (by simp [leb_length, words4_length, List.length_replicate, subB_all, padB_all, ha, hb, hc, h1]) (by first | exact mem0 | exact mem1 | exact mem2 | exact mem3 | exact mem4 | exact mem5 | exact mem6 | exact mem7) (by simp [leb_length, words4_length, List.length_replicate, subB_all, padB_all, ha, hb, hc, h1]) (by first | exact upd0 | exact upd1 | exact upd2 | exact upd3 | exact upd4 | exact upd5 | exact upd6 | exact upd7) ?_
    | refine Tr.storeN _ rfl rfl rfl rfl rfl (by simp [isCell]) Sz47 (by simp [leb_length, words4_length, List.length_replicate, subB_all, padB_all, ha, hb, hc, h1]) (by first | exact mem0 | exact mem1 | exact mem2 | exact mem3 | exact mem4 | exact mem5 | exact mem6 | exact mem7) (by simp [leb_length, words4_length, List.length_replicate, subB_all, padB_all, ha, hb, hc, h1]) (by exact rfl) (by first | exact upd0 | exact upd1 | exact upd2 | exact upd3 | exact upd4 | exact upd5 | exact upd6 | exact upd7) ?_
  refine Tr.nil ?_
  refine at_n ?_
  refine Sat.seq ?_
  refine Sat.seq ?_
  -- region 4
  refine Sat.draw [(1, 0), (1, 1), (1, 2), (3, 3), (0, 4), (0, 5), (1, 6), (1, 7), (1, 8), (3, 9), (0, 10), (0, 11), (0, 12), (1, 13), (1, 14), (1, 16), (1, 17), (1, 18), (3, 15), (3, 19), (3, 20), (0, 21), (0, 22), (0, 23), (1, 24), (1, 25), (1, 27), (1, 28), (1, 29), (3, 26), (3, 30), (3, 31), (0, 32), (0, 33), (0, 34), (1, 35), (1, 36), (1, 38), (1, 39), (1, 41), (1, 42), (3, 37), (3, 40), (3, 43), (3, 44), (0, 45), (0, 46)] Mixed (by kernel_rfl) ?_
  first
    | refine Tr.loadAll rfl rfl rfl Try.underlying47 rfl Sz47 (by first | exact mem0 | exact mem1 | exact mem2 | exact mem3 | exact mem4 | exact mem5 | exact mem6 | exact mem7) (by simp [leb_length, words4_length, List.length_replicate, subB_all, padB_all, ha, hb, hc, h1]) ?_
    | refine Tr.loadN _ rfl rfl rfl Try.underlying47 rfl Sz47 (by first | exact mem0 | exact mem1 | exact mem2 | exact mem3 | exact mem4 | exact mem5 | exact mem6 | exact mem7) (by exact rfl) (by simp [leb_length, words4_length, List.length_replicate, subB_all, padB_all, ha, hb, hc, h1]) ?_
  first
    | refine Tr.loadAll rfl rfl rfl Try.underlying47 rfl Sz47 (by first | exact mem0 | exact mem1 | exact mem2 | exact mem3 | exact mem4 | exact mem5 | exact mem6 | exact mem7) (by simp [leb_length, words4_length, List.length_replicate, subB_all, padB_all, ha, hb, hc, h1]) ?_
    | refine Tr.loadN _ rfl rfl rfl Try.underlying47 rfl Sz47 (by first | exact mem0 | exact mem1 | exact mem2 | exact mem3 | exact mem4 | exact mem5 | exact mem6 | exact mem7) (by exact rfl) (by simp [leb_length, words4_length, List.length_replicate, subB_all, padB_all, ha, hb, hc, h1]) ?_
  first
    | refine Tr.loadAll rfl rfl rfl Try.underlying47 rfl Sz47 (by first | exact mem0 | exact mem1 | exact mem2 | exact mem3 | exact mem4 | exact mem5 | exact mem6 | exact mem7) (by simp [leb_length, words4_length, List.length_replicate, subB_all, padB_all, ha, hb, hc, h1]) ?_
    | refine Tr.loadN _ rfl rfl rfl Try.underlying47 rfl Sz47 (by first | exact mem0 | exact mem1 | exact mem2 | exact mem3 | exact mem4 | exact mem5 | exact mem6 | exact mem7) (by exact rfl) (by simp [leb_length, words4_length, List.length_replicate, subB_all, padB_all, ha, hb, hc, h1]) ?_
  refine Tr.callV rfl rfl rfl rfl Body28 (scalar_add _ _ (by simp [leb_length, words4_length, List.length_replicate, subB_all, padB_all, ha, hb, hc, h1]) (by simp [leb_length, words4_length, List.length_replicate, subB_all, padB_all, ha, hb, hc, h1])) (fun _ _ => trivial) ?_
  refine Tr.neq_bytes rfl rfl rfl rfl Try.eqGuardType47 Try.underlying47 Try.underlying5 Sz5 (by simp [leb_length, words4_length, List.length_replicate, subB_all, padB_all, ha, hb, hc, h1]) (by simp [leb_length, words4_length, List.length_replicate, subB_all, padB_all, ha, hb, hc, h1]) (show (!decide _) = false from congrArg not (decide_eq_true (by rw [Nat.add_comm (le a)]))) ?_
  refine Tr.move rfl rfl rfl ?_
  first
    | refine Tr.loadAll rfl rfl rfl Try.underlying47 rfl Sz47 (by first | exact mem0 | exact mem1 | exact mem2 | exact mem3 | exact mem4 | exact mem5 | exact mem6 | exact mem7) (by simp [leb_length, words4_length, List.length_replicate, subB_all, padB_all, ha, hb, hc, h1]) ?_
    | refine Tr.loadN _ rfl rfl rfl Try.underlying47 rfl Sz47 (by first | exact mem0 | exact mem1 | exact mem2 | exact mem3 | exact mem4 | exact mem5 | exact mem6 | exact mem7) (by exact rfl) (by simp [leb_length, words4_length, List.length_replicate, subB_all, padB_all, ha, hb, hc, h1]) ?_
  first
    | refine Tr.loadAll rfl rfl rfl Try.underlying47 rfl Sz47 (by first | exact mem0 | exact mem1 | exact mem2 | exact mem3 | exact mem4 | exact mem5 | exact mem6 | exact mem7) (by simp [leb_length, words4_length, List.length_replicate, subB_all, padB_all, ha, hb, hc, h1]) ?_
    | refine Tr.loadN _ rfl rfl rfl Try.underlying47 rfl Sz47 (by first | exact mem0 | exact mem1 | exact mem2 | exact mem3 | exact mem4 | exact mem5 | exact mem6 | exact mem7) (by exact rfl) (by simp [leb_length, words4_length, List.length_replicate, subB_all, padB_all, ha, hb, hc, h1]) ?_
  first
    | refine Tr.loadAll rfl rfl rfl Try.underlying47 rfl Sz47 (by first | exact mem0 | exact mem1 | exact mem2 | exact mem3 | exact mem4 | exact mem5 | exact mem6 | exact mem7) (by simp [leb_length, words4_length, List.length_replicate, subB_all, padB_all, ha, hb, hc, h1]) ?_
    | refine Tr.loadN _ rfl rfl rfl Try.underlying47 rfl Sz47 (by first | exact mem0 | exact mem1 | exact mem2 | exact mem3 | exact mem4 | exact mem5 | exact mem6 | exact mem7) (by exact rfl) (by simp [leb_length, words4_length, List.length_replicate, subB_all, padB_all, ha, hb, hc, h1]) ?_
  refine Tr.callV rfl rfl rfl rfl Body29 (scalar_mul _ _ (by simp [leb_length, words4_length, List.length_replicate, subB_all, padB_all, ha, hb, hc, h1]) (by simp [leb_length, words4_length, List.length_replicate, subB_all, padB_all, ha, hb, hc, h1])) (fun _ _ => trivial) ?_
  refine Tr.neq_bytes rfl rfl rfl rfl Try.eqGuardType47 Try.underlying47 Try.underlying5 Sz5 (by simp [leb_length, words4_length, List.length_replicate, subB_all, padB_all, ha, hb, hc, h1]) (by simp [leb_length, words4_length, List.length_replicate, subB_all, padB_all, ha, hb, hc, h1]) (show (!decide _) = false from congrArg not (decide_eq_true (by rw [Nat.mul_comm (le a)]))) ?_
  refine Tr.pick rfl rfl rfl rfl rfl rfl ?_
  refine Tr.move rfl rfl rfl ?_
  first
    | refine Tr.loadAll rfl rfl rfl Try.underlying47 rfl Sz47 (by first | exact mem0 | exact mem1 | exact mem2 | exact mem3 | exact mem4 | exact mem5 | exact mem6 | exact mem7) (by simp [leb_length, words4_length, List.length_replicate, subB_all, padB_all, ha, hb, hc, h1]) ?_
    | refine Tr.loadN _ rfl rfl rfl Try.underlying47 rfl Sz47 (by first | exact mem0 | exact mem1 | exact mem2 | exact mem3 | exact mem4 | exact mem5 | exact mem6 | exact mem7) (by exact rfl) (by simp [leb_length, words4_length, List.length_replicate, subB_all, padB_all, ha, hb, hc, h1]) ?_
  first
    | refine Tr.loadAll rfl rfl rfl Try.underlying47 rfl Sz47 (by first | exact mem0 | exact mem1 | exact mem2 | exact mem3 | exact mem4 | exact mem5 | exact mem6 | exact mem7) (by simp [leb_length, words4_length, List.length_replicate, subB_all, padB_all, ha, hb, hc, h1]) ?_
    | refine Tr.loadN _ rfl rfl rfl Try.underlying47 rfl Sz47 (by first | exact mem0 | exact mem1 | exact mem2 | exact mem3 | exact mem4 | exact mem5 | exact mem6 | exact mem7) (by exact rfl) (by simp [leb_length, words4_length, List.length_replicate, subB_all, padB_all, ha, hb, hc, h1]) ?_
  first
    | refine Tr.loadAll rfl rfl rfl Try.underlying47 rfl Sz47 (by first | exact mem0 | exact mem1 | exact mem2 | exact mem3 | exact mem4 | exact mem5 | exact mem6 | exact mem7) (by simp [leb_length, words4_length, List.length_replicate, subB_all, padB_all, ha, hb, hc, h1]) ?_
    | refine Tr.loadN _ rfl rfl rfl Try.underlying47 rfl Sz47 (by first | exact mem0 | exact mem1 | exact mem2 | exact mem3 | exact mem4 | exact mem5 | exact mem6 | exact mem7) (by exact rfl) (by simp [leb_length, words4_length, List.length_replicate, subB_all, padB_all, ha, hb, hc, h1]) ?_
  first
    | refine Tr.loadAll rfl rfl rfl Try.underlying47 rfl Sz47 (by first | exact mem0 | exact mem1 | exact mem2 | exact mem3 | exact mem4 | exact mem5 | exact mem6 | exact mem7) (by simp [leb_length, words4_length, List.length_replicate, subB_all, padB_all, ha, hb, hc, h1]) ?_
    | refine Tr.loadN _ rfl rfl rfl Try.underlying47 rfl Sz47 (by first | exact mem0 | exact mem1 | exact mem2 | exact mem3 | exact mem4 | exact mem5 | exact mem6 | exact mem7) (by exact rfl) (by simp [leb_length, words4_length, List.length_replicate, subB_all, padB_all, ha, hb, hc, h1]) ?_
  first
    | refine Tr.loadAll rfl rfl rfl Try.underlying47 rfl Sz47 (by first | exact mem0 | exact mem1 | exact mem2 | exact mem3 | exact mem4 | exact mem5 | exact mem6 | exact mem7) (by simp [leb_length, words4_length, List.length_replicate, subB_all, padB_all, ha, hb, hc, h1]) ?_
    | refine Tr.loadN _ rfl rfl rfl Try.underlying47 rfl Sz47 (by first | exact mem0 | exact mem1 | exact mem2 | exact mem3 | exact mem4 | exact mem5 | exact mem6 | exact mem7) (by exact rfl) (by simp [leb_length, words4_length, List.length_replicate, subB_all, padB_all, ha, hb, hc, h1]) ?_
  refine Tr.callV rfl rfl rfl rfl Body28 (scalar_add _ _ (by simp [leb_length, words4_length, List.length_replicate, subB_all, padB_all, ha, hb, hc, h1]) (by simp [leb_length, words4_length, List.length_replicate, subB_all, padB_all, ha, hb, hc, h1])) (fun _ _ => trivial) ?_
  refine Tr.callV rfl rfl rfl rfl Body28 (scalar_add _ _ (by simp [leb_length, words4_length, List.length_replicate, subB_all, padB_all, ha, hb, hc, h1]) (by simp [leb_length, words4_length, List.length_replicate, subB_all, padB_all, ha, hb, hc, h1])) (fun _ _ => trivial) ?_
  refine Tr.callV rfl rfl rfl rfl Body28 (scalar_add _ _ (by simp [leb_length, words4_length, List.length_replicate, subB_all, padB_all, ha, hb, hc, h1]) (by simp [leb_length, words4_length, List.length_replicate, subB_all, padB_all, ha, hb, hc, h1])) (fun _ _ => trivial) ?_
  refine Tr.neq_bytes rfl rfl rfl rfl Try.eqGuardType47 Try.underlying47 Try.underlying5 Sz5 (by simp [leb_length, words4_length, List.length_replicate, subB_all, padB_all, ha, hb, hc, h1]) (by simp [leb_length, words4_length, List.length_replicate, subB_all, padB_all, ha, hb, hc, h1]) (show (!decide _) = false from congrArg not (decide_eq_true (by rw [le_leb32 (lm _), le_leb32 (lm _), Nat.mod_add_mod, Nat.add_mod_mod, Nat.add_assoc]))) ?_
  refine Tr.pick rfl rfl rfl rfl rfl rfl ?_
  refine Tr.move rfl rfl rfl ?_
  first
    | refine Tr.loadAll rfl rfl rfl Try.underlying47 rfl Sz47 (by first | exact mem0 | exact mem1 | exact mem2 | exact mem3 | exact mem4 | exact mem5 | exact mem6 | exact mem7) (by simp [leb_length, words4_length, List.length_replicate, subB_all, padB_all, ha, hb, hc, h1]) ?_
    | refine Tr.loadN _ rfl rfl rfl Try.underlying47 rfl Sz47 (by first | exact mem0 | exact mem1 | exact mem2 | exact mem3 | exact mem4 | exact mem5 | exact mem6 | exact mem7) (by exact rfl) (by simp [leb_length, words4_length, List.length_replicate, subB_all, padB_all, ha, hb, hc, h1]) ?_
  first
    | refine Tr.loadAll rfl rfl rfl Try.underlying47 rfl Sz47 (by first | exact mem0 | exact mem1 | exact mem2 | exact mem3 | exact mem4 | exact mem5 | exact mem6 | exact mem7) (by simp [leb_length, words4_length, List.length_replicate, subB_all, padB_all, ha, hb, hc, h1]) ?_
    | refine Tr.loadN _ rfl rfl rfl Try.underlying47 rfl Sz47 (by first | exact mem0 | exact mem1 | exact mem2 | exact mem3 | exact mem4 | exact mem5 | exact mem6 | exact mem7) (by exact rfl) (by simp [leb_length, words4_length, List.length_replicate, subB_all, padB_all, ha, hb, hc, h1]) ?_
  first
    | refine Tr.loadAll rfl rfl rfl Try.underlying47 rfl Sz47 (by first | exact mem0 | exact mem1 | exact mem2 | exact mem3 | exact mem4 | exact mem5 | exact mem6 | exact mem7) (by simp [leb_length, words4_length, List.length_replicate, subB_all, padB_all, ha, hb, hc, h1]) ?_
    | refine Tr.loadN _ rfl rfl rfl Try.underlying47 rfl Sz47 (by first | exact mem0 | exact mem1 | exact mem2 | exact mem3 | exact mem4 | exact mem5 | exact mem6 | exact mem7) (by exact rfl) (by simp [leb_length, words4_length, List.length_replicate, subB_all, padB_all, ha, hb, hc, h1]) ?_
  first
    | refine Tr.loadAll rfl rfl rfl Try.underlying47 rfl Sz47 (by first | exact mem0 | exact mem1 | exact mem2 | exact mem3 | exact mem4 | exact mem5 | exact mem6 | exact mem7) (by simp [leb_length, words4_length, List.length_replicate, subB_all, padB_all, ha, hb, hc, h1]) ?_
    | refine Tr.loadN _ rfl rfl rfl Try.underlying47 rfl Sz47 (by first | exact mem0 | exact mem1 | exact mem2 | exact mem3 | exact mem4 | exact mem5 | exact mem6 | exact mem7) (by exact rfl) (by simp [leb_length, words4_length, List.length_replicate, subB_all, padB_all, ha, hb, hc, h1]) ?_
  first
    | refine Tr.loadAll rfl rfl rfl Try.underlying47 rfl Sz47 (by first | exact mem0 | exact mem1 | exact mem2 | exact mem3 | exact mem4 | exact mem5 | exact mem6 | exact mem7) (by simp [leb_length, words4_length, List.length_replicate, subB_all, padB_all, ha, hb, hc, h1]) ?_
    | refine Tr.loadN _ rfl rfl rfl Try.underlying47 rfl Sz47 (by first | exact mem0 | exact mem1 | exact mem2 | exact mem3 | exact mem4 | exact mem5 | exact mem6 | exact mem7) (by exact rfl) (by simp [leb_length, words4_length, List.length_replicate, subB_all, padB_all, ha, hb, hc, h1]) ?_
  refine Tr.callV rfl rfl rfl rfl Body29 (scalar_mul _ _ (by simp [leb_length, words4_length, List.length_replicate, subB_all, padB_all, ha, hb, hc, h1]) (by simp [leb_length, words4_length, List.length_replicate, subB_all, padB_all, ha, hb, hc, h1])) (fun _ _ => trivial) ?_
  refine Tr.callV rfl rfl rfl rfl Body29 (scalar_mul _ _ (by simp [leb_length, words4_length, List.length_replicate, subB_all, padB_all, ha, hb, hc, h1]) (by simp [leb_length, words4_length, List.length_replicate, subB_all, padB_all, ha, hb, hc, h1])) (fun _ _ => trivial) ?_
  refine Tr.callV rfl rfl rfl rfl Body29 (scalar_mul _ _ (by simp [leb_length, words4_length, List.length_replicate, subB_all, padB_all, ha, hb, hc, h1]) (by simp [leb_length, words4_length, List.length_replicate, subB_all, padB_all, ha, hb, hc, h1])) (fun _ _ => trivial) ?_
  refine Tr.neq_bytes rfl rfl rfl rfl Try.eqGuardType47 Try.underlying47 Try.underlying5 Sz5 (by simp [leb_length, words4_length, List.length_replicate, subB_all, padB_all, ha, hb, hc, h1]) (by simp [leb_length, words4_length, List.length_replicate, subB_all, padB_all, ha, hb, hc, h1]) (show (!decide _) = false from congrArg not (decide_eq_true (by rw [le_leb32 (lm _), le_leb32 (lm _), Nat.mod_mul_mod, Nat.mul_mod_mod, Nat.mul_assoc]))) ?_
  refine Tr.pick rfl rfl rfl rfl rfl rfl ?_
  refine Tr.move rfl rfl rfl ?_
  first
    | refine Tr.loadAll rfl rfl rfl Try.underlying47 rfl Sz47 (by first | exact mem0 | exact mem1 | exact mem2 | exact mem3 | exact mem4 | exact mem5 | exact mem6 | exact mem7) (by simp [leb_length, words4_length, List.length_replicate, subB_all, padB_all, ha, hb, hc, h1]) ?_
    | refine Tr.loadN _ rfl rfl rfl Try.underlying47 rfl Sz47 (by first | exact mem0 | exact mem1 | exact mem2 | exact mem3 | exact mem4 | exact mem5 | exact mem6 | exact mem7) (by exact rfl) (by simp [leb_length, words4_length, List.length_replicate, subB_all, padB_all, ha, hb, hc, h1]) ?_
  first
    | refine Tr.loadAll rfl rfl rfl Try.underlying47 rfl Sz47 (by first | exact mem0 | exact mem1 | exact mem2 | exact mem3 | exact mem4 | exact mem5 | exact mem6 | exact mem7) (by simp [leb_length, words4_length, List.length_replicate, subB_all, padB_all, ha, hb, hc, h1]) ?_
    | refine Tr.loadN _ rfl rfl rfl Try.underlying47 rfl Sz47 (by first | exact mem0 | exact mem1 | exact mem2 | exact mem3 | exact mem4 | exact mem5 | exact mem6 | exact mem7) (by exact rfl) (by simp [leb_length, words4_length, List.length_replicate, subB_all, padB_all, ha, hb, hc, h1]) ?_
  first
    | refine Tr.loadAll rfl rfl rfl Try.underlying47 rfl Sz47 (by first | exact mem0 | exact mem1 | exact mem2 | exact mem3 | exact mem4 | exact mem5 | exact mem6 | exact mem7) (by simp [leb_length, words4_length, List.length_replicate, subB_all, padB_all, ha, hb, hc, h1]) ?_
    | refine Tr.loadN _ rfl rfl rfl Try.underlying47 rfl Sz47 (by first | exact mem0 | exact mem1 | exact mem2 | exact mem3 | exact mem4 | exact mem5 | exact mem6 | exact mem7) (by exact rfl) (by simp [leb_length, words4_length, List.length_replicate, subB_all, padB_all, ha, hb, hc, h1]) ?_
  first
    | refine Tr.loadAll rfl rfl rfl Try.underlying47 rfl Sz47 (by first | exact mem0 | exact mem1 | exact mem2 | exact mem3 | exact mem4 | exact mem5 | exact mem6 | exact mem7) (by simp [leb_length, words4_length, List.length_replicate, subB_all, padB_all, ha, hb, hc, h1]) ?_
    | refine Tr.loadN _ rfl rfl rfl Try.underlying47 rfl Sz47 (by first | exact mem0 | exact mem1 | exact mem2 | exact mem3 | exact mem4 | exact mem5 | exact mem6 | exact mem7) (by exact rfl) (by simp [leb_length, words4_length, List.length_replicate, subB_all, padB_all, ha, hb, hc, h1]) ?_
  first
    | refine Tr.loadAll rfl rfl rfl Try.underlying47 rfl Sz47 (by first | exact mem0 | exact mem1 | exact mem2 | exact mem3 | exact mem4 | exact mem5 | exact mem6 | exact mem7) (by simp [leb_length, words4_length, List.length_replicate, subB_all, padB_all, ha, hb, hc, h1]) ?_
    | refine Tr.loadN _ rfl rfl rfl Try.underlying47 rfl Sz47 (by first | exact mem0 | exact mem1 | exact mem2 | exact mem3 | exact mem4 | exact mem5 | exact mem6 | exact mem7) (by exact rfl) (by simp [leb_length, words4_length, List.length_replicate, subB_all, padB_all, ha, hb, hc, h1]) ?_
  first
    | refine Tr.loadAll rfl rfl rfl Try.underlying47 rfl Sz47 (by first | exact mem0 | exact mem1 | exact mem2 | exact mem3 | exact mem4 | exact mem5 | exact mem6 | exact mem7) (by simp [leb_length, words4_length, List.length_replicate, subB_all, padB_all, ha, hb, hc, h1]) ?_
    | refine Tr.loadN _ rfl rfl rfl Try.underlying47 rfl Sz47 (by first | exact mem0 | exact mem1 | exact mem2 | exact mem3 | exact mem4 | exact mem5 | exact mem6 | exact mem7) (by exact rfl) (by simp [leb_length, words4_length, List.length_replicate, subB_all, padB_all, ha, hb, hc, h1]) ?_
  refine Tr.callV rfl rfl rfl rfl Body29 (scalar_mul _ _ (by simp [leb_length, words4_length, List.length_replicate, subB_all, padB_all, ha, hb, hc, h1]) (by simp [leb_length, words4_length, List.length_replicate, subB_all, padB_all, ha, hb, hc, h1])) (fun _ _ => trivial) ?_
  refine Tr.callV rfl rfl rfl rfl Body29 (scalar_mul _ _ (by simp [leb_length, words4_length, List.length_replicate, subB_all, padB_all, ha, hb, hc, h1]) (by simp [leb_length, words4_length, List.length_replicate, subB_all, padB_all, ha, hb, hc, h1])) (fun _ _ => trivial) ?_
  refine Tr.callV rfl rfl rfl rfl Body29 (scalar_mul _ _ (by simp [leb_length, words4_length, List.length_replicate, subB_all, padB_all, ha, hb, hc, h1]) (by simp [leb_length, words4_length, List.length_replicate, subB_all, padB_all, ha, hb, hc, h1])) (fun _ _ => trivial) ?_
  refine Tr.callV rfl rfl rfl rfl Body28 (scalar_add _ _ (by simp [leb_length, words4_length, List.length_replicate, subB_all, padB_all, ha, hb, hc, h1]) (by simp [leb_length, words4_length, List.length_replicate, subB_all, padB_all, ha, hb, hc, h1])) (fun _ _ => trivial) ?_
  refine Tr.neq_bytes rfl rfl rfl rfl Try.eqGuardType47 Try.underlying47 Try.underlying5 Sz5 (by simp [leb_length, words4_length, List.length_replicate, subB_all, padB_all, ha, hb, hc, h1]) (by simp [leb_length, words4_length, List.length_replicate, subB_all, padB_all, ha, hb, hc, h1]) (show (!decide _) = false from congrArg not (decide_eq_true (by rw [le_leb32 (lm _), le_leb32 (lm _), le_leb32 (lm _), Nat.mod_mul_mod, ← Nat.add_mod, Nat.add_mul]))) ?_
  refine Tr.pick rfl rfl rfl rfl rfl rfl ?_
  refine Tr.nil ?_
  refine at_n ?_
  refine Sat.cond_f rfl (rfl) ?_
  refine Sat.skip ?_
  refine at_n ?_
  refine Sat.seq ?_
  -- region 6
  refine Sat.region ?_
  refine Tr.sliceArr rfl rfl rfl Try.underlying47 Sz5 ?_
  refine Tr.callV rfl rfl rfl rfl Body21 (scalar_rest _ 0 _ 32 a (by simp [leb_length, words4_length, List.length_replicate, subB_all, padB_all, ha, hb, hc, h1]) (by omega)) (fun W h => sees_own h (by first | exact mem0 | exact mem1 | exact mem2 | exact mem3 | exact mem4 | exact mem5 | exact mem6 | exact mem7)) ?_
  refine Tr.move rfl rfl rfl ?_
  refine Tr.extract rfl rfl rfl rfl ?_
  refine Tr.extract rfl rfl rfl rfl ?_
  refine Tr.alloc (cs := (bytesV (List.replicate 32 0))) rfl Zr47 rfl ?_
  intro n9 hn9 hf9
  first
    | refine Tr.storeAll rfl rfl rfl rfl (by simp [isCell]) Sz47 (by simp [leb_length, words4_length, List.length_replicate, subB_all, padB_all, ha, hb, hc, h1]) (by first | exact mem0 | exact mem1 | exact mem2 | exact mem3 | exact mem4 | exact mem5 | exact mem6 | exact mem7) (by simp [leb_length, words4_length, List.length_replicate, subB_all, padB_all, ha, hb, hc, h1]) (by first | exact upd0 | exact upd1 | exact upd2 | exact upd3 | exact upd4 | exact upd5 | exact upd6 | exact upd7) ?_
    | refine Tr.storeN _ rfl rfl rfl rfl rfl (by simp [isCell]) Sz47 (by simp [leb_length, words4_length, List.length_replicate, subB_all, padB_all, ha, hb, hc, h1]) (by first | exact mem0 | exact mem1 | exact mem2 | exact mem3 | exact mem4 | exact mem5 | exact mem6 | exact mem7) (by simp [leb_length, words4_length, List.length_replicate, subB_all, padB_all, ha, hb, hc, h1]) (by exact rfl) (by first | exact upd0 | exact upd1 | exact upd2 | exact upd3 | exact upd4 | exact upd5 | exact upd6 | exact upd7) ?_
  refine Tr.assign rfl rfl rfl ?_
  refine Tr.nil ?_
  refine at_n ?_
  refine Sat.seq ?_
  -- region 7
  refine Sat.region ?_
  refine Tr.sliceArr rfl rfl rfl Try.underlying47 Sz5 ?_
  refine Tr.callV rfl rfl rfl rfl Body21 (scalar_rest _ 0 _ 32 b (by simp [leb_length, words4_length, List.length_replicate, subB_all, padB_all, ha, hb, hc, h1]) (by omega)) (fun W h => sees_own h (by first | exact mem0 | exact mem1 | exact mem2 | exact mem3 | exact mem4 | exact mem5 | exact mem6 | exact mem7)) ?_
  refine Tr.move rfl rfl rfl ?_
  refine Tr.extract rfl rfl rfl rfl ?_
  refine Tr.extract rfl rfl rfl rfl ?_
  refine Tr.alloc (cs := (bytesV (List.replicate 32 0))) rfl Zr47 rfl ?_
  intro n11 hn11 hf11
  first
    | refine Tr.storeAll rfl rfl rfl rfl (by simp [isCell]) Sz47 (by simp [leb_length, words4_length, List.length_replicate, subB_all, padB_all, ha, hb, hc, h1]) (by first | exact mem0 | exact mem1 | exact mem2 | exact mem3 | exact mem4 | exact mem5 | exact mem6 | exact mem7) (by simp [leb_length, words4_length, List.length_replicate, subB_all, padB_all, ha, hb, hc, h1]) (by first | exact upd0 | exact upd1 | exact upd2 | exact upd3 | exact upd4 | exact upd5 | exact upd6 | exact upd7) ?_
    | refine Tr.storeN _ rfl rfl rfl rfl rfl (by simp [isCell]) Sz47 (by simp [leb_length, words4_length, List.length_replicate, subB_all, padB_all, ha, hb, hc, h1]) (by first | exact mem0 | exact mem1 | exact mem2 | exact mem3 | exact mem4 | exact mem5 | exact mem6 | exact mem7) (by simp [leb_length, words4_length, List.length_replicate, subB_all, padB_all, ha, hb, hc, h1]) (by exact rfl) (by first | exact upd0 | exact upd1 | exact upd2 | exact upd3 | exact upd4 | exact upd5 | exact upd6 | exact upd7) ?_
  refine Tr.assign rfl rfl rfl ?_
  refine Tr.nil ?_
  refine at_n ?_
  refine Sat.seq ?_
  -- region 8
  refine Sat.draw [(0, 0), (0, 1), (0, 2), (0, 3), (0, 4), (0, 5), (0, 6), (1, 7), (1, 8), (1, 9), (1, 11), (1, 12), (3, 10), (3, 13), (0, 14), (0, 15), (0, 16), (1, 17), (1, 18), (0, 21), (3, 19), (3, 20), (0, 22), (0, 23), (0, 24), (1, 25), (1, 27), (1, 29), (3, 26), (3, 28), (0, 30), (0, 31), (0, 32), (1, 33), (3, 34), (0, 35), (0, 36), (1, 37), (3, 38), (0, 39), (0, 40), (1, 41), (3, 42), (0, 43), (0, 44), (1, 45), (1, 46), (1, 48), (3, 47), (0, 49), (0, 50), (0, 51), (1, 52), (1, 53), (1, 55), (3, 54), (0, 56), (0, 57), (0, 58), (1, 59), (1, 62), (3, 60), (3, 61), (0, 63), (0, 64), (0, 65), (1, 66), (1, 68), (1, 69), (0, 70), (3, 67), (0, 71), (0, 72), (0, 73)] Mixed (by kernel_rfl) ?_
  refine Tr.move rfl rfl rfl ?_
  refine Tr.eqi rfl rfl rfl rfl (decide_eq_true (rfl)) ?_
  refine Tr.move rfl rfl rfl ?_
  refine Tr.move rfl rfl rfl ?_
  refine Tr.eqi rfl rfl rfl rfl (decide_eq_true (rfl)) ?_
  refine Tr.pick rfl rfl rfl rfl rfl rfl ?_
  refine Tr.move rfl rfl rfl ?_
  first
    | refine Tr.loadAll rfl rfl rfl Try.underlying47 rfl Sz47 (by first | exact mem0 | exact mem1 | exact mem2 | exact mem3 | exact mem4 | exact mem5 | exact mem6 | exact mem7) (by simp [leb_length, words4_length, List.length_replicate, subB_all, padB_all, ha, hb, hc, h1]) ?_
    | refine Tr.loadN _ rfl rfl rfl Try.underlying47 rfl Sz47 (by first | exact mem0 | exact mem1 | exact mem2 | exact mem3 | exact mem4 | exact mem5 | exact mem6 | exact mem7) (by exact rfl) (by simp [leb_length, words4_length, List.length_replicate, subB_all, padB_all, ha, hb, hc, h1]) ?_
  first
    | refine Tr.loadAll rfl rfl rfl Try.underlying47 rfl Sz47 (by first | exact mem0 | exact mem1 | exact mem2 | exact mem3 | exact mem4 | exact mem5 | exact mem6 | exact mem7) (by simp [leb_length, words4_length, List.length_replicate, subB_all, padB_all, ha, hb, hc, h1]) ?_
    | refine Tr.loadN _ rfl rfl rfl Try.underlying47 rfl Sz47 (by first | exact mem0 | exact mem1 | exact mem2 | exact mem3 | exact mem4 | exact mem5 | exact mem6 | exact mem7) (by exact rfl) (by simp [leb_length, words4_length, List.length_replicate, subB_all, padB_all, ha, hb, hc, h1]) ?_
  first
    | refine Tr.loadAll rfl rfl rfl Try.underlying47 rfl Sz47 (by first | exact mem0 | exact mem1 | exact mem2 | exact mem3 | exact mem4 | exact mem5 | exact mem6 | exact mem7) (by simp [leb_length, words4_length, List.length_replicate, subB_all, padB_all, ha, hb, hc, h1]) ?_
    | refine Tr.loadN _ rfl rfl rfl Try.underlying47 rfl Sz47 (by first | exact mem0 | exact mem1 | exact mem2 | exact mem3 | exact mem4 | exact mem5 | exact mem6 | exact mem7) (by exact rfl) (by simp [leb_length, words4_length, List.length_replicate, subB_all, padB_all, ha, hb, hc, h1]) ?_
  first
    | refine Tr.loadAll rfl rfl rfl Try.underlying47 rfl Sz47 (by first | exact mem0 | exact mem1 | exact mem2 | exact mem3 | exact mem4 | exact mem5 | exact mem6 | exact mem7) (by simp [leb_length, words4_length, List.length_replicate, subB_all, padB_all, ha, hb, hc, h1]) ?_
    | refine Tr.loadN _ rfl rfl rfl Try.underlying47 rfl Sz47 (by first | exact mem0 | exact mem1 | exact mem2 | exact mem3 | exact mem4 | exact mem5 | exact mem6 | exact mem7) (by exact rfl) (by simp [leb_length, words4_length, List.length_replicate, subB_all, padB_all, ha, hb, hc, h1]) ?_
  first
    | refine Tr.loadAll rfl rfl rfl Try.underlying47 rfl Sz47 (by first | exact mem0 | exact mem1 | exact mem2 | exact mem3 | exact mem4 | exact mem5 | exact mem6 | exact mem7) (by simp [leb_length, words4_length, List.length_replicate, subB_all, padB_all, ha, hb, hc, h1]) ?_
    | refine Tr.loadN _ rfl rfl rfl Try.underlying47 rfl Sz47 (by first | exact mem0 | exact mem1 | exact mem2 | exact mem3 | exact mem4 | exact mem5 | exact mem6 | exact mem7) (by exact rfl) (by simp [leb_length, words4_length, List.length_replicate, subB_all, padB_all, ha, hb, hc, h1]) ?_
  refine Tr.callV rfl rfl rfl rfl Body27 (scalar_muladd _ _ _ (by simp [leb_length, words4_length, List.length_replicate, subB_all, padB_all, ha, hb, hc, h1]) (by simp [leb_length, words4_length, List.length_replicate, subB_all, padB_all, ha, hb, hc, h1]) (by simp [leb_length, words4_length, List.length_replicate, subB_all, padB_all, ha, hb, hc, h1])) (fun _ _ => trivial) ?_
  refine Tr.callV rfl rfl rfl rfl Body28 (scalar_add _ _ (by simp [leb_length, words4_length, List.length_replicate, subB_all, padB_all, ha, hb, hc, h1]) (by simp [leb_length, words4_length, List.length_replicate, subB_all, padB_all, ha, hb, hc, h1])) (fun _ _ => trivial) ?_
  refine Tr.eql_bytes rfl rfl rfl rfl Try.eqGuardType47 Try.underlying47 Try.underlying5 Sz5 (by simp [leb_length, words4_length, List.length_replicate, subB_all, padB_all, ha, hb, hc, h1]) (by simp [leb_length, words4_length, List.length_replicate, subB_all, padB_all, ha, hb, hc, h1]) (decide_eq_true (by rw [le_leb32 (lm _), Nat.mod_add_mod])) ?_
  refine Tr.pick rfl rfl rfl rfl rfl rfl ?_
  refine Tr.move rfl rfl rfl ?_
  first
    | refine Tr.loadAll rfl rfl rfl Try.underlying47 rfl Sz47 (by first | exact mem0 | exact mem1 | exact mem2 | exact mem3 | exact mem4 | exact mem5 | exact mem6 | exact mem7) (by simp [leb_length, words4_length, List.length_replicate, subB_all, padB_all, ha, hb, hc, h1]) ?_
    | refine Tr.loadN _ rfl rfl rfl Try.underlying47 rfl Sz47 (by first | exact mem0 | exact mem1 | exact mem2 | exact mem3 | exact mem4 | exact mem5 | exact mem6 | exact mem7) (by exact rfl) (by simp [leb_length, words4_length, List.length_replicate, subB_all, padB_all, ha, hb, hc, h1]) ?_
  first
    | refine Tr.loadAll rfl rfl rfl Try.underlying47 rfl Sz47 (by first | exact mem0 | exact mem1 | exact mem2 | exact mem3 | exact mem4 | exact mem5 | exact mem6 | exact mem7) (by simp [leb_length, words4_length, List.length_replicate, subB_all, padB_all, ha, hb, hc, h1]) ?_
    | refine Tr.loadN _ rfl rfl rfl Try.underlying47 rfl Sz47 (by first | exact mem0 | exact mem1 | exact mem2 | exact mem3 | exact mem4 | exact mem5 | exact mem6 | exact mem7) (by exact rfl) (by simp [leb_length, words4_length, List.length_replicate, subB_all, padB_all, ha, hb, hc, h1]) ?_
  refine Tr.build (cs := bytesV (List.replicate 32 0)) rfl rfl rfl (fun w => by kernel_rfl) ?_
  refine Tr.callV rfl rfl rfl rfl Body24 (scalar_neg _ (by simp [leb_length, words4_length, List.length_replicate, subB_all, padB_all, ha, hb, hc, h1])) (fun _ _ => trivial) ?_
  refine Tr.callV rfl rfl rfl rfl Body28 (scalar_add _ _ (by simp [leb_length, words4_length, List.length_replicate, subB_all, padB_all, ha, hb, hc, h1]) (by simp [leb_length, words4_length, List.length_replicate, subB_all, padB_all, ha, hb, hc, h1])) (fun _ _ => trivial) ?_
  refine Tr.eql_bytes rfl rfl rfl rfl Try.eqGuardType47 Try.underlying47 Try.underlying5 Sz5 (by simp [leb_length, words4_length, List.length_replicate, subB_all, padB_all, ha, hb, hc, h1]) (by simp [leb_length, words4_length, List.length_replicate, subB_all, padB_all, ha, hb, hc, h1]) (decide_eq_true (by rw [le_leb32 (lm _), add_neg_mod]; exact leb_zero32)) ?_
  refine Tr.pick rfl rfl rfl rfl rfl rfl ?_
  refine Tr.move rfl rfl rfl ?_
  first
    | refine Tr.loadAll rfl rfl rfl Try.underlying47 rfl Sz47 (by first | exact mem0 | exact mem1 | exact mem2 | exact mem3 | exact mem4 | exact mem5 | exact mem6 | exact mem7) (by simp [leb_length, words4_length, List.length_replicate, subB_all, padB_all, ha, hb, hc, h1]) ?_
    | refine Tr.loadN _ rfl rfl rfl Try.underlying47 rfl Sz47 (by first | exact mem0 | exact mem1 | exact mem2 | exact mem3 | exact mem4 | exact mem5 | exact mem6 | exact mem7) (by exact rfl) (by simp [leb_length, words4_length, List.length_replicate, subB_all, padB_all, ha, hb, hc, h1]) ?_
  first
    | refine Tr.loadAll rfl rfl rfl Try.underlying47 rfl Sz47 (by first | exact mem0 | exact mem1 | exact mem2 | exact mem3 | exact mem4 | exact mem5 | exact mem6 | exact mem7) (by simp [leb_length, words4_length, List.length_replicate, subB_all, padB_all, ha, hb, hc, h1]) ?_
    | refine Tr.loadN _ rfl rfl rfl Try.underlying47 rfl Sz47 (by first | exact mem0 | exact mem1 | exact mem2 | exact mem3 | exact mem4 | exact mem5 | exact mem6 | exact mem7) (by exact rfl) (by simp [leb_length, words4_length, List.length_replicate, subB_all, padB_all, ha, hb, hc, h1]) ?_
  first
    | refine Tr.loadAll rfl rfl rfl Try.underlying47 rfl Sz47 (by first | exact mem0 | exact mem1 | exact mem2 | exact mem3 | exact mem4 | exact mem5 | exact mem6 | exact mem7) (by simp [leb_length, words4_length, List.length_replicate, subB_all, padB_all, ha, hb, hc, h1]) ?_
    | refine Tr.loadN _ rfl rfl rfl Try.underlying47 rfl Sz47 (by first | exact mem0 | exact mem1 | exact mem2 | exact mem3 | exact mem4 | exact mem5 | exact mem6 | exact mem7) (by exact rfl) (by simp [leb_length, words4_length, List.length_replicate, subB_all, padB_all, ha, hb, hc, h1]) ?_
  refine Tr.callV rfl rfl rfl rfl Body24 (scalar_neg _ (by simp [leb_length, words4_length, List.length_replicate, subB_all, padB_all, ha, hb, hc, h1])) (fun _ _ => trivial) ?_
  refine Tr.callV rfl rfl rfl rfl Body28 (scalar_add _ _ (by simp [leb_length, words4_length, List.length_replicate, subB_all, padB_all, ha, hb, hc, h1]) (by simp [leb_length, words4_length, List.length_replicate, subB_all, padB_all, ha, hb, hc, h1])) (fun _ _ => trivial) ?_
  refine Tr.eql_bytes rfl rfl rfl rfl Try.eqGuardType47 Try.underlying47 Try.underlying5 Sz5 (by simp [leb_length, words4_length, List.length_replicate, subB_all, padB_all, ha, hb, hc, h1]) (by simp [leb_length, words4_length, List.length_replicate, subB_all, padB_all, ha, hb, hc, h1]) (decide_eq_true (by rw [le_leb32 (lm _), le_leb32 (lm _), neg_add_add])) ?_
  refine Tr.pick rfl rfl rfl rfl rfl rfl ?_
  refine Tr.move rfl rfl rfl ?_
  first
    | refine Tr.loadAll rfl rfl rfl Try.underlying47 rfl Sz47 (by first | exact mem0 | exact mem1 | exact mem2 | exact mem3 | exact mem4 | exact mem5 | exact mem6 | exact mem7) (by simp [leb_length, words4_length, List.length_replicate, subB_all, padB_all, ha, hb, hc, h1]) ?_
    | refine Tr.loadN _ rfl rfl rfl Try.underlying47 rfl Sz47 (by first | exact mem0 | exact mem1 | exact mem2 | exact mem3 | exact mem4 | exact mem5 | exact mem6 | exact mem7) (by exact rfl) (by simp [leb_length, words4_length, List.length_replicate, subB_all, padB_all, ha, hb, hc, h1]) ?_
  refine Tr.callV rfl rfl rfl rfl Body23 (scalar_canon_t _ (Nat.mod_lt _ L_pos)) (fun _ _ => trivial) ?_
  refine Tr.pick rfl rfl rfl rfl rfl rfl ?_
  refine Tr.move rfl rfl rfl ?_
  first
    | refine Tr.loadAll rfl rfl rfl Try.underlying47 rfl Sz47 (by first | exact mem0 | exact mem1 | exact mem2 | exact mem3 | exact mem4 | exact mem5 | exact mem6 | exact mem7) (by simp [leb_length, words4_length, List.length_replicate, subB_all, padB_all, ha, hb, hc, h1]) ?_
    | refine Tr.loadN _ rfl rfl rfl Try.underlying47 rfl Sz47 (by first | exact mem0 | exact mem1 | exact mem2 | exact mem3 | exact mem4 | exact mem5 | exact mem6 | exact mem7) (by exact rfl) (by simp [leb_length, words4_length, List.length_replicate, subB_all, padB_all, ha, hb, hc, h1]) ?_
  refine Tr.callV rfl rfl rfl rfl Body23 (scalar_canon_t _ (Nat.mod_lt _ L_pos)) (fun _ _ => trivial) ?_
  refine Tr.pick rfl rfl rfl rfl rfl rfl ?_
  refine Tr.move rfl rfl rfl ?_
  first
    | refine Tr.loadAll rfl rfl rfl Try.underlying47 rfl Sz47 (by first | exact mem0 | exact mem1 | exact mem2 | exact mem3 | exact mem4 | exact mem5 | exact mem6 | exact mem7) (by simp [leb_length, words4_length, List.length_replicate, subB_all, padB_all, ha, hb, hc, h1]) ?_
    | refine Tr.loadN _ rfl rfl rfl Try.underlying47 rfl Sz47 (by first | exact mem0 | exact mem1 | exact mem2 | exact mem3 | exact mem4 | exact mem5 | exact mem6 | exact mem7) (by exact rfl) (by simp [leb_length, words4_length, List.length_replicate, subB_all, padB_all, ha, hb, hc, h1]) ?_
  refine Tr.callV rfl rfl rfl rfl Body23 (scalar_canon_t _ (Nat.mod_lt _ L_pos)) (fun _ _ => trivial) ?_
  refine Tr.pick rfl rfl rfl rfl rfl rfl ?_
  refine Tr.move rfl rfl rfl ?_
  first
    | refine Tr.loadAll rfl rfl rfl Try.underlying47 rfl Sz47 (by first | exact mem0 | exact mem1 | exact mem2 | exact mem3 | exact mem4 | exact mem5 | exact mem6 | exact mem7) (by simp [leb_length, words4_length, List.length_replicate, subB_all, padB_all, ha, hb, hc, h1]) ?_
    | refine Tr.loadN _ rfl rfl rfl Try.underlying47 rfl Sz47 (by first | exact mem0 | exact mem1 | exact mem2 | exact mem3 | exact mem4 | exact mem5 | exact mem6 | exact mem7) (by exact rfl) (by simp [leb_length, words4_length, List.length_replicate, subB_all, padB_all, ha, hb, hc, h1]) ?_
  first
    | refine Tr.loadAll rfl rfl rfl Try.underlying47 rfl Sz47 (by first | exact mem0 | exact mem1 | exact mem2 | exact mem3 | exact mem4 | exact mem5 | exact mem6 | exact mem7) (by simp [leb_length, words4_length, List.length_replicate, subB_all, padB_all, ha, hb, hc, h1]) ?_
    | refine Tr.loadN _ rfl rfl rfl Try.underlying47 rfl Sz47 (by first | exact mem0 | exact mem1 | exact mem2 | exact mem3 | exact mem4 | exact mem5 | exact mem6 | exact mem7) (by exact rfl) (by simp [leb_length, words4_length, List.length_replicate, subB_all, padB_all, ha, hb, hc, h1]) ?_
  first
    | refine Tr.loadAll rfl rfl rfl Try.underlying47 rfl Sz47 (by first | exact mem0 | exact mem1 | exact mem2 | exact mem3 | exact mem4 | exact mem5 | exact mem6 | exact mem7) (by simp [leb_length, words4_length, List.length_replicate, subB_all, padB_all, ha, hb, hc, h1]) ?_
    | refine Tr.loadN _ rfl rfl rfl Try.underlying47 rfl Sz47 (by first | exact mem0 | exact mem1 | exact mem2 | exact mem3 | exact mem4 | exact mem5 | exact mem6 | exact mem7) (by exact rfl) (by simp [leb_length, words4_length, List.length_replicate, subB_all, padB_all, ha, hb, hc, h1]) ?_
  refine Tr.callV rfl rfl rfl rfl Body28 (scalar_add _ _ (by simp [leb_length, words4_length, List.length_replicate, subB_all, padB_all, ha, hb, hc, h1]) (by simp [leb_length, words4_length, List.length_replicate, subB_all, padB_all, ha, hb, hc, h1])) (fun _ _ => trivial) ?_
  refine Tr.eql_bytes rfl rfl rfl rfl Try.eqGuardType47 Try.underlying47 Try.underlying5 Sz5 (by simp [leb_length, words4_length, List.length_replicate, subB_all, padB_all, ha, hb, hc, h1]) (by simp [leb_length, words4_length, List.length_replicate, subB_all, padB_all, ha, hb, hc, h1]) (decide_eq_true (by rw [le_leb32 (lm _), le_leb32 (lm _), ← Nat.add_mod])) ?_
  refine Tr.pick rfl rfl rfl rfl rfl rfl ?_
  refine Tr.move rfl rfl rfl ?_
  first
    | refine Tr.loadAll rfl rfl rfl Try.underlying47 rfl Sz47 (by first | exact mem0 | exact mem1 | exact mem2 | exact mem3 | exact mem4 | exact mem5 | exact mem6 | exact mem7) (by simp [leb_length, words4_length, List.length_replicate, subB_all, padB_all, ha, hb, hc, h1]) ?_
    | refine Tr.loadN _ rfl rfl rfl Try.underlying47 rfl Sz47 (by first | exact mem0 | exact mem1 | exact mem2 | exact mem3 | exact mem4 | exact mem5 | exact mem6 | exact mem7) (by exact rfl) (by simp [leb_length, words4_length, List.length_replicate, subB_all, padB_all, ha, hb, hc, h1]) ?_
  first
    | refine Tr.loadAll rfl rfl rfl Try.underlying47 rfl Sz47 (by first | exact mem0 | exact mem1 | exact mem2 | exact mem3 | exact mem4 | exact mem5 | exact mem6 | exact mem7) (by simp [leb_length, words4_length, List.length_replicate, subB_all, padB_all, ha, hb, hc, h1]) ?_
    | refine Tr.loadN _ rfl rfl rfl Try.underlying47 rfl Sz47 (by first | exact mem0 | exact mem1 | exact mem2 | exact mem3 | exact mem4 | exact mem5 | exact mem6 | exact mem7) (by exact rfl) (by simp [leb_length, words4_length, List.length_replicate, subB_all, padB_all, ha, hb, hc, h1]) ?_
  first
    | refine Tr.loadAll rfl rfl rfl Try.underlying47 rfl Sz47 (by first | exact mem0 | exact mem1 | exact mem2 | exact mem3 | exact mem4 | exact mem5 | exact mem6 | exact mem7) (by simp [leb_length, words4_length, List.length_replicate, subB_all, padB_all, ha, hb, hc, h1]) ?_
    | refine Tr.loadN _ rfl rfl rfl Try.underlying47 rfl Sz47 (by first | exact mem0 | exact mem1 | exact mem2 | exact mem3 | exact mem4 | exact mem5 | exact mem6 | exact mem7) (by exact rfl) (by simp [leb_length, words4_length, List.length_replicate, subB_all, padB_all, ha, hb, hc, h1]) ?_
  refine Tr.callV rfl rfl rfl rfl Body29 (scalar_mul _ _ (by simp [leb_length, words4_length, List.length_replicate, subB_all, padB_all, ha, hb, hc, h1]) (by simp [leb_length, words4_length, List.length_replicate, subB_all, padB_all, ha, hb, hc, h1])) (fun _ _ => trivial) ?_
  refine Tr.eql_bytes rfl rfl rfl rfl Try.eqGuardType47 Try.underlying47 Try.underlying5 Sz5 (by simp [leb_length, words4_length, List.length_replicate, subB_all, padB_all, ha, hb, hc, h1]) (by simp [leb_length, words4_length, List.length_replicate, subB_all, padB_all, ha, hb, hc, h1]) (decide_eq_true (by rw [le_leb32 (lm _), le_leb32 (lm _), ← Nat.mul_mod])) ?_
  refine Tr.pick rfl rfl rfl rfl rfl rfl ?_
  refine Tr.move rfl rfl rfl ?_
  first
    | refine Tr.loadAll rfl rfl rfl Try.underlying47 rfl Sz47 (by first | exact mem0 | exact mem1 | exact mem2 | exact mem3 | exact mem4 | exact mem5 | exact mem6 | exact mem7) (by simp [leb_length, words4_length, List.length_replicate, subB_all, padB_all, ha, hb, hc, h1]) ?_
    | refine Tr.loadN _ rfl rfl rfl Try.underlying47 rfl Sz47 (by first | exact mem0 | exact mem1 | exact mem2 | exact mem3 | exact mem4 | exact mem5 | exact mem6 | exact mem7) (by exact rfl) (by simp [leb_length, words4_length, List.length_replicate, subB_all, padB_all, ha, hb, hc, h1]) ?_
  first
    | refine Tr.loadAll rfl rfl rfl Try.underlying47 rfl Sz47 (by first | exact mem0 | exact mem1 | exact mem2 | exact mem3 | exact mem4 | exact mem5 | exact mem6 | exact mem7) (by simp [leb_length, words4_length, List.length_replicate, subB_all, padB_all, ha, hb, hc, h1]) ?_
    | refine Tr.loadN _ rfl rfl rfl Try.underlying47 rfl Sz47 (by first | exact mem0 | exact mem1 | exact mem2 | exact mem3 | exact mem4 | exact mem5 | exact mem6 | exact mem7) (by exact rfl) (by simp [leb_length, words4_length, List.length_replicate, subB_all, padB_all, ha, hb, hc, h1]) ?_
  refine Tr.callV rfl rfl rfl rfl Body25 (c1) (fun _ _ => trivial) ?_
  refine Tr.callV rfl rfl rfl rfl Body29 (scalar_mul _ _ (by simp [leb_length, words4_length, List.length_replicate, subB_all, padB_all, ha, hb, hc, h1]) (by simp [leb_length, words4_length, List.length_replicate, subB_all, padB_all, ha, hb, hc, h1])) (fun _ _ => trivial) ?_
  refine Tr.eql_bytes rfl rfl rfl rfl Try.eqGuardType47 Try.underlying47 Try.underlying5 Sz5 (by simp [leb_length, words4_length, List.length_replicate, subB_all, padB_all, ha, hb, hc, h1]) (by simp [leb_length, words4_length, List.length_replicate, subB_all, padB_all, ha, hb, hc, h1]) (decide_eq_true (by rw [l1, Nat.mul_one])) ?_
  refine Tr.pick rfl rfl rfl rfl rfl rfl ?_
  refine Tr.move rfl rfl rfl ?_
  first
    | refine Tr.loadAll rfl rfl rfl Try.underlying47 rfl Sz47 (by first | exact mem0 | exact mem1 | exact mem2 | exact mem3 | exact mem4 | exact mem5 | exact mem6 | exact mem7) (by simp [leb_length, words4_length, List.length_replicate, subB_all, padB_all, ha, hb, hc, h1]) ?_
    | refine Tr.loadN _ rfl rfl rfl Try.underlying47 rfl Sz47 (by first | exact mem0 | exact mem1 | exact mem2 | exact mem3 | exact mem4 | exact mem5 | exact mem6 | exact mem7) (by exact rfl) (by simp [leb_length, words4_length, List.length_replicate, subB_all, padB_all, ha, hb, hc, h1]) ?_
  first
    | refine Tr.loadAll rfl rfl rfl Try.underlying47 rfl Sz47 (by first | exact mem0 | exact mem1 | exact mem2 | exact mem3 | exact mem4 | exact mem5 | exact mem6 | exact mem7) (by simp [leb_length, words4_length, List.length_replicate, subB_all, padB_all, ha, hb, hc, h1]) ?_
    | refine Tr.loadN _ rfl rfl rfl Try.underlying47 rfl Sz47 (by first | exact mem0 | exact mem1 | exact mem2 | exact mem3 | exact mem4 | exact mem5 | exact mem6 | exact mem7) (by exact rfl) (by simp [leb_length, words4_length, List.length_replicate, subB_all, padB_all, ha, hb, hc, h1]) ?_
  first
    | refine Tr.loadAll rfl rfl rfl Try.underlying47 rfl Sz47 (by first | exact mem0 | exact mem1 | exact mem2 | exact mem3 | exact mem4 | exact mem5 | exact mem6 | exact mem7) (by simp [leb_length, words4_length, List.length_replicate, subB_all, padB_all, ha, hb, hc, h1]) ?_
    | refine Tr.loadN _ rfl rfl rfl Try.underlying47 rfl Sz47 (by first | exact mem0 | exact mem1 | exact mem2 | exact mem3 | exact mem4 | exact mem5 | exact mem6 | exact mem7) (by exact rfl) (by simp [leb_length, words4_length, List.length_replicate, subB_all, padB_all, ha, hb, hc, h1]) ?_
  refine Tr.eql_bytes rfl rfl rfl rfl Try.eqGuardType47 Try.underlying47 Try.underlying5 Sz5 (by simp [leb_length, words4_length, List.length_replicate, subB_all, padB_all, ha, hb, hc, h1]) (by simp [leb_length, words4_length, List.length_replicate, subB_all, padB_all, ha, hb, hc, h1]) rfl ?_
  refine Tr.callV rfl rfl rfl rfl Body23 (scalar_canon _ (by simp [leb_length, words4_length, List.length_replicate, subB_all, padB_all, ha, hb, hc, h1])) (fun _ _ => trivial) ?_
  refine Tr.eqb rfl rfl rfl rfl Try.underlying4 (canon_eq a ha) ?_
  refine Tr.pick rfl rfl rfl rfl rfl rfl ?_
  refine Tr.assign rfl rfl rfl ?_
  refine Tr.nil ?_
  refine at_n ?_
  refine Sat.ret ?_
  refine en_r ?_
  refine ⟨_, [], res_tmp rfl rfl, (by simp), (by simp), ?_, rfl⟩
  rfl

end Go.Proofs.Ytjeggfgbcafenaa
