/- What ScalarCalls returns. Conditions: the lengths of arrays and of the row. -/
import Derived.Test.YtjeggfgbcafenaaRMul
import Derived.Test.YtjeggfgbcafenaaAppend2
namespace Go.Proofs.Ytjeggfgbcafenaa
open Go Hw
set_option linter.unusedVariables false
set_option linter.unusedSimpArgs false

set_option maxRecDepth 100000 in
set_option maxHeartbeats 4000000 in
theorem law_calls_nil (a b c : List UInt8) (ha : a.length = 32) (hb : b.length = 32) (hc : c.length = 32) (i : Int) : Meets Try.prog 9 [agg (bytesV a), agg (bytesV b), agg (bytesV c), .slice none 0 0, i64 i] [] (fun _ => True) (fun v out => v = .bool true ∧ out = []) := by
  intro W hW
  refine calls_of (hp0 := []) Try.func9 rfl 92 Try.ntmps9 rfl (HRep.nil _) ?_
  refine Sat.seq ?_
  -- region 0
  refine Sat.region ?_
  refine Tr.boxA rfl rfl ?_
  intro n5 hn5 hf5
  refine Tr.boxA rfl rfl ?_
  intro n6 hn6 hf6
  refine Tr.boxA rfl rfl ?_
  intro n7 hn7 hf7
  refine Tr.assign rfl rfl rfl ?_
  refine Tr.nil ?_
  refine at_n ?_
  refine Sat.seq ?_
  refine Sat.seq ?_
  -- region 1
  refine Sat.region ?_
  refine Tr.callV rfl rfl rfl rfl Body22 (law_lives) (fun _ _ => trivial) ?_
  refine Tr.not rfl rfl rfl ?_
  refine Tr.nil ?_
  refine at_n ?_
  refine Sat.cond_f rfl (rfl) ?_
  refine Sat.skip ?_
  refine at_n ?_
  refine Sat.seq ?_
  refine Sat.seq ?_
  -- region 3
  refine Sat.region ?_
  refine Tr.move rfl rfl rfl ?_
  refine Tr.lenSl rfl rfl rfl Try.underlying27 ?_
  refine Tr.gtr rfl rfl rfl rfl (decide_eq_false (by omega)) ?_
  refine Tr.nil ?_
  refine at_n ?_
  refine Sat.cond_f rfl (rfl) ?_
  refine Sat.skip ?_
  refine at_n ?_
  refine Sat.seq ?_
  -- region 5
  refine Sat.region ?_
  refine Tr.emptySlice rfl rfl Try.underlying27 Sz5 ?_
  intro q0
  refine Tr.move rfl rfl rfl ?_
  refine Tr.appendNil (z := u8 0) (by' := 1) rfl rfl rfl rfl rfl Try.underlying27 Try.underlying27 Sz5 Zr5 (by unfold By; kernel_rfl) rfl rem_here rfl rfl (by omega) (by omega) (by omega) ?_
  intro q1 c1 hq1
  refine Tr.callV rfl rfl rfl rfl Body21 (scalar_rest q1 0 c1 0 [] rfl (by omega)) (fun W2 h => sees_own h mem0) ?_
  refine Tr.move rfl rfl rfl ?_
  refine Tr.extract rfl rfl rfl rfl ?_
  refine Tr.extract rfl rfl rfl rfl ?_
  refine Tr.alloc (cs := (bytesV (List.replicate 32 0))) rfl Zr47 rfl ?_
  intro n11 hn11 hf11
  first
    | refine Tr.storeAll rfl rfl rfl rfl (by simp [isCell]) Sz47 (by simp [leb_length, words4_length, List.length_replicate, subB_all, padB_all, natsV_length, inn_length, out_length, ha, hb, hc]) (by first | exact mem0 | exact mem1 | exact mem2 | exact mem3 | exact mem4 | exact mem5 | exact mem6 | exact mem7) (by simp [leb_length, words4_length, List.length_replicate, subB_all, padB_all, natsV_length, inn_length, out_length, ha, hb, hc]) (by first | exact upd0 | exact upd1 | exact upd2 | exact upd3 | exact upd4 | exact upd5 | exact upd6 | exact upd7) ?_
    | refine Tr.storeN _ rfl rfl rfl rfl rfl (by simp [isCell]) Sz47 (by simp [leb_length, words4_length, List.length_replicate, subB_all, padB_all, natsV_length, inn_length, out_length, ha, hb, hc]) (by first | exact mem0 | exact mem1 | exact mem2 | exact mem3 | exact mem4 | exact mem5 | exact mem6 | exact mem7) (by simp [leb_length, words4_length, List.length_replicate, subB_all, padB_all, natsV_length, inn_length, out_length, ha, hb, hc]) (by exact rfl) (by first | exact upd0 | exact upd1 | exact upd2 | exact upd3 | exact upd4 | exact upd5 | exact upd6 | exact upd7) ?_
  refine Tr.assign rfl rfl rfl ?_
  refine Tr.nil ?_
  refine at_n ?_
  refine Sat.seq ?_
  -- region 6
  refine Sat.region ?_
  refine Tr.move rfl rfl rfl ?_
  refine Tr.callV rfl rfl rfl rfl Body30 (ref_Rest_nil) (fun _ _ => trivial) ?_
  refine Tr.move rfl rfl rfl ?_
  refine Tr.extract rfl rfl rfl rfl ?_
  refine Tr.extract rfl rfl rfl rfl ?_
  refine Tr.alloc (cs := (bytesV (List.replicate 32 0))) rfl Zr47 rfl ?_
  intro n13 hn13 hf13
  first
    | refine Tr.storeAll rfl rfl rfl rfl (by simp [isCell]) Sz47 (by simp [leb_length, words4_length, List.length_replicate, subB_all, padB_all, natsV_length, inn_length, out_length, ha, hb, hc]) (by first | exact mem0 | exact mem1 | exact mem2 | exact mem3 | exact mem4 | exact mem5 | exact mem6 | exact mem7) (by simp [leb_length, words4_length, List.length_replicate, subB_all, padB_all, natsV_length, inn_length, out_length, ha, hb, hc]) (by first | exact upd0 | exact upd1 | exact upd2 | exact upd3 | exact upd4 | exact upd5 | exact upd6 | exact upd7) ?_
    | refine Tr.storeN _ rfl rfl rfl rfl rfl (by simp [isCell]) Sz47 (by simp [leb_length, words4_length, List.length_replicate, subB_all, padB_all, natsV_length, inn_length, out_length, ha, hb, hc]) (by first | exact mem0 | exact mem1 | exact mem2 | exact mem3 | exact mem4 | exact mem5 | exact mem6 | exact mem7) (by simp [leb_length, words4_length, List.length_replicate, subB_all, padB_all, natsV_length, inn_length, out_length, ha, hb, hc]) (by exact rfl) (by first | exact upd0 | exact upd1 | exact upd2 | exact upd3 | exact upd4 | exact upd5 | exact upd6 | exact upd7) ?_
  refine Tr.assign rfl rfl rfl ?_
  refine Tr.nil ?_
  refine at_n ?_
  refine Sat.seq ?_
  -- region 7
  refine Sat.draw [(1, 0), (1, 1), (0, 2), (0, 3), (0, 4), (0, 5), (0, 6), (0, 7), (0, 8), (1, 9), (1, 11), (3, 10), (3, 12), (0, 13), (0, 14), (0, 15), (1, 16), (1, 17), (1, 19), (1, 20), (3, 18), (3, 21), (0, 22), (0, 23), (0, 24), (1, 25), (1, 26), (1, 28), (1, 29), (3, 27), (3, 30), (0, 31), (0, 32), (0, 33), (1, 34), (1, 35), (1, 36), (1, 38), (1, 39), (1, 40), (3, 37), (3, 41), (0, 42), (0, 43), (0, 44), (1, 45), (1, 47), (3, 46), (3, 48), (0, 49), (0, 50), (0, 51), (1, 52), (0, 53), (1, 55), (0, 56), (3, 54), (3, 57), (0, 58), (0, 59), (0, 60)] Mixed (by kernel_rfl) ?_
  first
    | refine Tr.loadAll rfl rfl rfl Try.underlying47 rfl Sz47 (by first | exact mem0 | exact mem1 | exact mem2 | exact mem3 | exact mem4 | exact mem5 | exact mem6 | exact mem7) (by simp [leb_length, words4_length, List.length_replicate, subB_all, padB_all, natsV_length, inn_length, out_length, ha, hb, hc]) ?_
    | refine Tr.loadN _ rfl rfl rfl Try.underlying47 rfl Sz47 (by first | exact mem0 | exact mem1 | exact mem2 | exact mem3 | exact mem4 | exact mem5 | exact mem6 | exact mem7) (by exact rfl) (by simp [leb_length, words4_length, List.length_replicate, subB_all, padB_all, natsV_length, inn_length, out_length, ha, hb, hc]) ?_
  first
    | refine Tr.loadAll rfl rfl rfl Try.underlying47 rfl Sz47 (by first | exact mem0 | exact mem1 | exact mem2 | exact mem3 | exact mem4 | exact mem5 | exact mem6 | exact mem7) (by simp [leb_length, words4_length, List.length_replicate, subB_all, padB_all, natsV_length, inn_length, out_length, ha, hb, hc]) ?_
    | refine Tr.loadN _ rfl rfl rfl Try.underlying47 rfl Sz47 (by first | exact mem0 | exact mem1 | exact mem2 | exact mem3 | exact mem4 | exact mem5 | exact mem6 | exact mem7) (by exact rfl) (by simp [leb_length, words4_length, List.length_replicate, subB_all, padB_all, natsV_length, inn_length, out_length, ha, hb, hc]) ?_
  refine Tr.eql_bytes rfl rfl rfl rfl Try.eqGuardType47 Try.underlying47 Try.underlying5 Sz5 (by simp [leb_length, words4_length, List.length_replicate, subB_all, padB_all, natsV_length, inn_length, out_length, ha, hb, hc]) (by simp [leb_length, words4_length, List.length_replicate, subB_all, padB_all, natsV_length, inn_length, out_length, ha, hb, hc]) (decide_eq_true (by rw [le, zero_modL])) ?_
  refine Tr.move rfl rfl rfl ?_
  refine Tr.move rfl rfl rfl ?_
  refine Tr.move rfl rfl rfl ?_
  refine Tr.eqi rfl rfl rfl rfl (decide_eq_true (rfl)) ?_
  refine Tr.pick rfl rfl rfl rfl rfl rfl ?_
  refine Tr.move rfl rfl rfl ?_
  first
    | refine Tr.loadAll rfl rfl rfl Try.underlying47 rfl Sz47 (by first | exact mem0 | exact mem1 | exact mem2 | exact mem3 | exact mem4 | exact mem5 | exact mem6 | exact mem7) (by simp [leb_length, words4_length, List.length_replicate, subB_all, padB_all, natsV_length, inn_length, out_length, ha, hb, hc]) ?_
    | refine Tr.loadN _ rfl rfl rfl Try.underlying47 rfl Sz47 (by first | exact mem0 | exact mem1 | exact mem2 | exact mem3 | exact mem4 | exact mem5 | exact mem6 | exact mem7) (by exact rfl) (by simp [leb_length, words4_length, List.length_replicate, subB_all, padB_all, natsV_length, inn_length, out_length, ha, hb, hc]) ?_
  first
    | refine Tr.loadAll rfl rfl rfl Try.underlying47 rfl Sz47 (by first | exact mem0 | exact mem1 | exact mem2 | exact mem3 | exact mem4 | exact mem5 | exact mem6 | exact mem7) (by simp [leb_length, words4_length, List.length_replicate, subB_all, padB_all, natsV_length, inn_length, out_length, ha, hb, hc]) ?_
    | refine Tr.loadN _ rfl rfl rfl Try.underlying47 rfl Sz47 (by first | exact mem0 | exact mem1 | exact mem2 | exact mem3 | exact mem4 | exact mem5 | exact mem6 | exact mem7) (by exact rfl) (by simp [leb_length, words4_length, List.length_replicate, subB_all, padB_all, natsV_length, inn_length, out_length, ha, hb, hc]) ?_
  refine Tr.callV rfl rfl rfl rfl Body23 (scalar_canon _ (by simp [leb_length, words4_length, List.length_replicate, subB_all, padB_all, natsV_length, inn_length, out_length, ha, hb, hc])) (fun _ _ => trivial) ?_
  refine Tr.callV rfl rfl rfl rfl Body31 (ref_canon _ (by simp [leb_length, words4_length, List.length_replicate, subB_all, padB_all, natsV_length, inn_length, out_length, ha, hb, hc])) (fun _ _ => trivial) ?_
  refine Tr.eqb (r := true) rfl rfl rfl rfl Try.underlying4 (beq_self_eq_true _) ?_
  refine Tr.pick rfl rfl rfl rfl rfl rfl ?_
  refine Tr.move rfl rfl rfl ?_
  first
    | refine Tr.loadAll rfl rfl rfl Try.underlying47 rfl Sz47 (by first | exact mem0 | exact mem1 | exact mem2 | exact mem3 | exact mem4 | exact mem5 | exact mem6 | exact mem7) (by simp [leb_length, words4_length, List.length_replicate, subB_all, padB_all, natsV_length, inn_length, out_length, ha, hb, hc]) ?_
    | refine Tr.loadN _ rfl rfl rfl Try.underlying47 rfl Sz47 (by first | exact mem0 | exact mem1 | exact mem2 | exact mem3 | exact mem4 | exact mem5 | exact mem6 | exact mem7) (by exact rfl) (by simp [leb_length, words4_length, List.length_replicate, subB_all, padB_all, natsV_length, inn_length, out_length, ha, hb, hc]) ?_
  first
    | refine Tr.loadAll rfl rfl rfl Try.underlying47 rfl Sz47 (by first | exact mem0 | exact mem1 | exact mem2 | exact mem3 | exact mem4 | exact mem5 | exact mem6 | exact mem7) (by simp [leb_length, words4_length, List.length_replicate, subB_all, padB_all, natsV_length, inn_length, out_length, ha, hb, hc]) ?_
    | refine Tr.loadN _ rfl rfl rfl Try.underlying47 rfl Sz47 (by first | exact mem0 | exact mem1 | exact mem2 | exact mem3 | exact mem4 | exact mem5 | exact mem6 | exact mem7) (by exact rfl) (by simp [leb_length, words4_length, List.length_replicate, subB_all, padB_all, natsV_length, inn_length, out_length, ha, hb, hc]) ?_
  first
    | refine Tr.loadAll rfl rfl rfl Try.underlying47 rfl Sz47 (by first | exact mem0 | exact mem1 | exact mem2 | exact mem3 | exact mem4 | exact mem5 | exact mem6 | exact mem7) (by simp [leb_length, words4_length, List.length_replicate, subB_all, padB_all, natsV_length, inn_length, out_length, ha, hb, hc]) ?_
    | refine Tr.loadN _ rfl rfl rfl Try.underlying47 rfl Sz47 (by first | exact mem0 | exact mem1 | exact mem2 | exact mem3 | exact mem4 | exact mem5 | exact mem6 | exact mem7) (by exact rfl) (by simp [leb_length, words4_length, List.length_replicate, subB_all, padB_all, natsV_length, inn_length, out_length, ha, hb, hc]) ?_
  first
    | refine Tr.loadAll rfl rfl rfl Try.underlying47 rfl Sz47 (by first | exact mem0 | exact mem1 | exact mem2 | exact mem3 | exact mem4 | exact mem5 | exact mem6 | exact mem7) (by simp [leb_length, words4_length, List.length_replicate, subB_all, padB_all, natsV_length, inn_length, out_length, ha, hb, hc]) ?_
    | refine Tr.loadN _ rfl rfl rfl Try.underlying47 rfl Sz47 (by first | exact mem0 | exact mem1 | exact mem2 | exact mem3 | exact mem4 | exact mem5 | exact mem6 | exact mem7) (by exact rfl) (by simp [leb_length, words4_length, List.length_replicate, subB_all, padB_all, natsV_length, inn_length, out_length, ha, hb, hc]) ?_
  refine Tr.callV rfl rfl rfl rfl Body28 (scalar_add _ _ (by simp [leb_length, words4_length, List.length_replicate, subB_all, padB_all, natsV_length, inn_length, out_length, ha, hb, hc]) (by simp [leb_length, words4_length, List.length_replicate, subB_all, padB_all, natsV_length, inn_length, out_length, ha, hb, hc])) (fun _ _ => trivial) ?_
  refine Tr.callV rfl rfl rfl rfl Body32 (ref_add _ _ (by simp [leb_length, words4_length, List.length_replicate, subB_all, padB_all, natsV_length, inn_length, out_length, ha, hb, hc]) (by simp [leb_length, words4_length, List.length_replicate, subB_all, padB_all, natsV_length, inn_length, out_length, ha, hb, hc])) (fun _ _ => trivial) ?_
  refine Tr.eql_bytes rfl rfl rfl rfl Try.eqGuardType47 Try.underlying47 Try.underlying5 Sz5 (by simp [leb_length, words4_length, List.length_replicate, subB_all, padB_all, natsV_length, inn_length, out_length, ha, hb, hc]) (by simp [leb_length, words4_length, List.length_replicate, subB_all, padB_all, natsV_length, inn_length, out_length, ha, hb, hc]) (decide_eq_true (rfl)) ?_
  refine Tr.pick rfl rfl rfl rfl rfl rfl ?_
  refine Tr.move rfl rfl rfl ?_
  first
    | refine Tr.loadAll rfl rfl rfl Try.underlying47 rfl Sz47 (by first | exact mem0 | exact mem1 | exact mem2 | exact mem3 | exact mem4 | exact mem5 | exact mem6 | exact mem7) (by simp [leb_length, words4_length, List.length_replicate, subB_all, padB_all, natsV_length, inn_length, out_length, ha, hb, hc]) ?_
    | refine Tr.loadN _ rfl rfl rfl Try.underlying47 rfl Sz47 (by first | exact mem0 | exact mem1 | exact mem2 | exact mem3 | exact mem4 | exact mem5 | exact mem6 | exact mem7) (by exact rfl) (by simp [leb_length, words4_length, List.length_replicate, subB_all, padB_all, natsV_length, inn_length, out_length, ha, hb, hc]) ?_
  first
    | refine Tr.loadAll rfl rfl rfl Try.underlying47 rfl Sz47 (by first | exact mem0 | exact mem1 | exact mem2 | exact mem3 | exact mem4 | exact mem5 | exact mem6 | exact mem7) (by simp [leb_length, words4_length, List.length_replicate, subB_all, padB_all, natsV_length, inn_length, out_length, ha, hb, hc]) ?_
    | refine Tr.loadN _ rfl rfl rfl Try.underlying47 rfl Sz47 (by first | exact mem0 | exact mem1 | exact mem2 | exact mem3 | exact mem4 | exact mem5 | exact mem6 | exact mem7) (by exact rfl) (by simp [leb_length, words4_length, List.length_replicate, subB_all, padB_all, natsV_length, inn_length, out_length, ha, hb, hc]) ?_
  first
    | refine Tr.loadAll rfl rfl rfl Try.underlying47 rfl Sz47 (by first | exact mem0 | exact mem1 | exact mem2 | exact mem3 | exact mem4 | exact mem5 | exact mem6 | exact mem7) (by simp [leb_length, words4_length, List.length_replicate, subB_all, padB_all, natsV_length, inn_length, out_length, ha, hb, hc]) ?_
    | refine Tr.loadN _ rfl rfl rfl Try.underlying47 rfl Sz47 (by first | exact mem0 | exact mem1 | exact mem2 | exact mem3 | exact mem4 | exact mem5 | exact mem6 | exact mem7) (by exact rfl) (by simp [leb_length, words4_length, List.length_replicate, subB_all, padB_all, natsV_length, inn_length, out_length, ha, hb, hc]) ?_
  first
    | refine Tr.loadAll rfl rfl rfl Try.underlying47 rfl Sz47 (by first | exact mem0 | exact mem1 | exact mem2 | exact mem3 | exact mem4 | exact mem5 | exact mem6 | exact mem7) (by simp [leb_length, words4_length, List.length_replicate, subB_all, padB_all, natsV_length, inn_length, out_length, ha, hb, hc]) ?_
    | refine Tr.loadN _ rfl rfl rfl Try.underlying47 rfl Sz47 (by first | exact mem0 | exact mem1 | exact mem2 | exact mem3 | exact mem4 | exact mem5 | exact mem6 | exact mem7) (by exact rfl) (by simp [leb_length, words4_length, List.length_replicate, subB_all, padB_all, natsV_length, inn_length, out_length, ha, hb, hc]) ?_
  refine Tr.callV rfl rfl rfl rfl Body29 (scalar_mul _ _ (by simp [leb_length, words4_length, List.length_replicate, subB_all, padB_all, natsV_length, inn_length, out_length, ha, hb, hc]) (by simp [leb_length, words4_length, List.length_replicate, subB_all, padB_all, natsV_length, inn_length, out_length, ha, hb, hc])) (fun _ _ => trivial) ?_
  refine Tr.callV rfl rfl rfl rfl Body33 (ref_mul _ _ (by simp [leb_length, words4_length, List.length_replicate, subB_all, padB_all, natsV_length, inn_length, out_length, ha, hb, hc]) (by simp [leb_length, words4_length, List.length_replicate, subB_all, padB_all, natsV_length, inn_length, out_length, ha, hb, hc])) (fun _ _ => trivial) ?_
  refine Tr.eql_bytes rfl rfl rfl rfl Try.eqGuardType47 Try.underlying47 Try.underlying5 Sz5 (by simp [leb_length, words4_length, List.length_replicate, subB_all, padB_all, natsV_length, inn_length, out_length, ha, hb, hc]) (by simp [leb_length, words4_length, List.length_replicate, subB_all, padB_all, natsV_length, inn_length, out_length, ha, hb, hc]) (decide_eq_true (rfl)) ?_
  refine Tr.pick rfl rfl rfl rfl rfl rfl ?_
  refine Tr.move rfl rfl rfl ?_
  first
    | refine Tr.loadAll rfl rfl rfl Try.underlying47 rfl Sz47 (by first | exact mem0 | exact mem1 | exact mem2 | exact mem3 | exact mem4 | exact mem5 | exact mem6 | exact mem7) (by simp [leb_length, words4_length, List.length_replicate, subB_all, padB_all, natsV_length, inn_length, out_length, ha, hb, hc]) ?_
    | refine Tr.loadN _ rfl rfl rfl Try.underlying47 rfl Sz47 (by first | exact mem0 | exact mem1 | exact mem2 | exact mem3 | exact mem4 | exact mem5 | exact mem6 | exact mem7) (by exact rfl) (by simp [leb_length, words4_length, List.length_replicate, subB_all, padB_all, natsV_length, inn_length, out_length, ha, hb, hc]) ?_
  first
    | refine Tr.loadAll rfl rfl rfl Try.underlying47 rfl Sz47 (by first | exact mem0 | exact mem1 | exact mem2 | exact mem3 | exact mem4 | exact mem5 | exact mem6 | exact mem7) (by simp [leb_length, words4_length, List.length_replicate, subB_all, padB_all, natsV_length, inn_length, out_length, ha, hb, hc]) ?_
    | refine Tr.loadN _ rfl rfl rfl Try.underlying47 rfl Sz47 (by first | exact mem0 | exact mem1 | exact mem2 | exact mem3 | exact mem4 | exact mem5 | exact mem6 | exact mem7) (by exact rfl) (by simp [leb_length, words4_length, List.length_replicate, subB_all, padB_all, natsV_length, inn_length, out_length, ha, hb, hc]) ?_
  first
    | refine Tr.loadAll rfl rfl rfl Try.underlying47 rfl Sz47 (by first | exact mem0 | exact mem1 | exact mem2 | exact mem3 | exact mem4 | exact mem5 | exact mem6 | exact mem7) (by simp [leb_length, words4_length, List.length_replicate, subB_all, padB_all, natsV_length, inn_length, out_length, ha, hb, hc]) ?_
    | refine Tr.loadN _ rfl rfl rfl Try.underlying47 rfl Sz47 (by first | exact mem0 | exact mem1 | exact mem2 | exact mem3 | exact mem4 | exact mem5 | exact mem6 | exact mem7) (by exact rfl) (by simp [leb_length, words4_length, List.length_replicate, subB_all, padB_all, natsV_length, inn_length, out_length, ha, hb, hc]) ?_
  first
    | refine Tr.loadAll rfl rfl rfl Try.underlying47 rfl Sz47 (by first | exact mem0 | exact mem1 | exact mem2 | exact mem3 | exact mem4 | exact mem5 | exact mem6 | exact mem7) (by simp [leb_length, words4_length, List.length_replicate, subB_all, padB_all, natsV_length, inn_length, out_length, ha, hb, hc]) ?_
    | refine Tr.loadN _ rfl rfl rfl Try.underlying47 rfl Sz47 (by first | exact mem0 | exact mem1 | exact mem2 | exact mem3 | exact mem4 | exact mem5 | exact mem6 | exact mem7) (by exact rfl) (by simp [leb_length, words4_length, List.length_replicate, subB_all, padB_all, natsV_length, inn_length, out_length, ha, hb, hc]) ?_
  first
    | refine Tr.loadAll rfl rfl rfl Try.underlying47 rfl Sz47 (by first | exact mem0 | exact mem1 | exact mem2 | exact mem3 | exact mem4 | exact mem5 | exact mem6 | exact mem7) (by simp [leb_length, words4_length, List.length_replicate, subB_all, padB_all, natsV_length, inn_length, out_length, ha, hb, hc]) ?_
    | refine Tr.loadN _ rfl rfl rfl Try.underlying47 rfl Sz47 (by first | exact mem0 | exact mem1 | exact mem2 | exact mem3 | exact mem4 | exact mem5 | exact mem6 | exact mem7) (by exact rfl) (by simp [leb_length, words4_length, List.length_replicate, subB_all, padB_all, natsV_length, inn_length, out_length, ha, hb, hc]) ?_
  first
    | refine Tr.loadAll rfl rfl rfl Try.underlying47 rfl Sz47 (by first | exact mem0 | exact mem1 | exact mem2 | exact mem3 | exact mem4 | exact mem5 | exact mem6 | exact mem7) (by simp [leb_length, words4_length, List.length_replicate, subB_all, padB_all, natsV_length, inn_length, out_length, ha, hb, hc]) ?_
    | refine Tr.loadN _ rfl rfl rfl Try.underlying47 rfl Sz47 (by first | exact mem0 | exact mem1 | exact mem2 | exact mem3 | exact mem4 | exact mem5 | exact mem6 | exact mem7) (by exact rfl) (by simp [leb_length, words4_length, List.length_replicate, subB_all, padB_all, natsV_length, inn_length, out_length, ha, hb, hc]) ?_
  refine Tr.callV rfl rfl rfl rfl Body27 (scalar_muladd _ _ _ (by simp [leb_length, words4_length, List.length_replicate, subB_all, padB_all, natsV_length, inn_length, out_length, ha, hb, hc]) (by simp [leb_length, words4_length, List.length_replicate, subB_all, padB_all, natsV_length, inn_length, out_length, ha, hb, hc]) (by simp [leb_length, words4_length, List.length_replicate, subB_all, padB_all, natsV_length, inn_length, out_length, ha, hb, hc])) (fun _ _ => trivial) ?_
  refine Tr.callV rfl rfl rfl rfl Body34 (ref_muladd _ _ _ (by simp [leb_length, words4_length, List.length_replicate, subB_all, padB_all, natsV_length, inn_length, out_length, ha, hb, hc]) (by simp [leb_length, words4_length, List.length_replicate, subB_all, padB_all, natsV_length, inn_length, out_length, ha, hb, hc]) (by simp [leb_length, words4_length, List.length_replicate, subB_all, padB_all, natsV_length, inn_length, out_length, ha, hb, hc])) (fun _ _ => trivial) ?_
  refine Tr.eql_bytes rfl rfl rfl rfl Try.eqGuardType47 Try.underlying47 Try.underlying5 Sz5 (by simp [leb_length, words4_length, List.length_replicate, subB_all, padB_all, natsV_length, inn_length, out_length, ha, hb, hc]) (by simp [leb_length, words4_length, List.length_replicate, subB_all, padB_all, natsV_length, inn_length, out_length, ha, hb, hc]) (decide_eq_true (rfl)) ?_
  refine Tr.pick rfl rfl rfl rfl rfl rfl ?_
  refine Tr.move rfl rfl rfl ?_
  first
    | refine Tr.loadAll rfl rfl rfl Try.underlying47 rfl Sz47 (by first | exact mem0 | exact mem1 | exact mem2 | exact mem3 | exact mem4 | exact mem5 | exact mem6 | exact mem7) (by simp [leb_length, words4_length, List.length_replicate, subB_all, padB_all, natsV_length, inn_length, out_length, ha, hb, hc]) ?_
    | refine Tr.loadN _ rfl rfl rfl Try.underlying47 rfl Sz47 (by first | exact mem0 | exact mem1 | exact mem2 | exact mem3 | exact mem4 | exact mem5 | exact mem6 | exact mem7) (by exact rfl) (by simp [leb_length, words4_length, List.length_replicate, subB_all, padB_all, natsV_length, inn_length, out_length, ha, hb, hc]) ?_
  first
    | refine Tr.loadAll rfl rfl rfl Try.underlying47 rfl Sz47 (by first | exact mem0 | exact mem1 | exact mem2 | exact mem3 | exact mem4 | exact mem5 | exact mem6 | exact mem7) (by simp [leb_length, words4_length, List.length_replicate, subB_all, padB_all, natsV_length, inn_length, out_length, ha, hb, hc]) ?_
    | refine Tr.loadN _ rfl rfl rfl Try.underlying47 rfl Sz47 (by first | exact mem0 | exact mem1 | exact mem2 | exact mem3 | exact mem4 | exact mem5 | exact mem6 | exact mem7) (by exact rfl) (by simp [leb_length, words4_length, List.length_replicate, subB_all, padB_all, natsV_length, inn_length, out_length, ha, hb, hc]) ?_
  refine Tr.callV rfl rfl rfl rfl Body24 (scalar_neg _ (by simp [leb_length, words4_length, List.length_replicate, subB_all, padB_all, natsV_length, inn_length, out_length, ha, hb, hc])) (fun _ _ => trivial) ?_
  refine Tr.callV rfl rfl rfl rfl Body35 (ref_neg _ (by simp [leb_length, words4_length, List.length_replicate, subB_all, padB_all, natsV_length, inn_length, out_length, ha, hb, hc])) (fun _ _ => trivial) ?_
  refine Tr.eql_bytes rfl rfl rfl rfl Try.eqGuardType47 Try.underlying47 Try.underlying5 Sz5 (by simp [leb_length, words4_length, List.length_replicate, subB_all, padB_all, natsV_length, inn_length, out_length, ha, hb, hc]) (by simp [leb_length, words4_length, List.length_replicate, subB_all, padB_all, natsV_length, inn_length, out_length, ha, hb, hc]) (decide_eq_true (rfl)) ?_
  refine Tr.pick rfl rfl rfl rfl rfl rfl ?_
  refine Tr.move rfl rfl rfl ?_
  first
    | refine Tr.loadAll rfl rfl rfl Try.underlying47 rfl Sz47 (by first | exact mem0 | exact mem1 | exact mem2 | exact mem3 | exact mem4 | exact mem5 | exact mem6 | exact mem7) (by simp [leb_length, words4_length, List.length_replicate, subB_all, padB_all, natsV_length, inn_length, out_length, ha, hb, hc]) ?_
    | refine Tr.loadN _ rfl rfl rfl Try.underlying47 rfl Sz47 (by first | exact mem0 | exact mem1 | exact mem2 | exact mem3 | exact mem4 | exact mem5 | exact mem6 | exact mem7) (by exact rfl) (by simp [leb_length, words4_length, List.length_replicate, subB_all, padB_all, natsV_length, inn_length, out_length, ha, hb, hc]) ?_
  refine Tr.move rfl rfl rfl ?_
  first
    | refine Tr.loadAll rfl rfl rfl Try.underlying47 rfl Sz47 (by first | exact mem0 | exact mem1 | exact mem2 | exact mem3 | exact mem4 | exact mem5 | exact mem6 | exact mem7) (by simp [leb_length, words4_length, List.length_replicate, subB_all, padB_all, natsV_length, inn_length, out_length, ha, hb, hc]) ?_
    | refine Tr.loadN _ rfl rfl rfl Try.underlying47 rfl Sz47 (by first | exact mem0 | exact mem1 | exact mem2 | exact mem3 | exact mem4 | exact mem5 | exact mem6 | exact mem7) (by exact rfl) (by simp [leb_length, words4_length, List.length_replicate, subB_all, padB_all, natsV_length, inn_length, out_length, ha, hb, hc]) ?_
  refine Tr.move rfl rfl rfl ?_
  refine Tr.callV rfl rfl rfl rfl Body26 (scalar_bit _ (by simp [leb_length, words4_length, List.length_replicate, subB_all, padB_all, natsV_length, inn_length, out_length, ha, hb, hc]) _) (fun _ _ => trivial) ?_
  refine Tr.callV rfl rfl rfl rfl Body36 (ref_bit _ (by simp [leb_length, words4_length, List.length_replicate, subB_all, padB_all, natsV_length, inn_length, out_length, ha, hb, hc]) _) (fun _ _ => trivial) ?_
  refine Tr.eqb (r := true) rfl rfl rfl rfl Try.underlying4 (beq_self_eq_true _) ?_
  refine Tr.pick rfl rfl rfl rfl rfl rfl ?_
  refine Tr.assign rfl rfl rfl ?_
  refine Tr.nil ?_
  refine at_n ?_
  refine Sat.ret ?_
  refine en_r ?_
  refine ⟨_, [], res_tmp rfl rfl, (by simp), (by simp), ?_, rfl⟩
  rfl

set_option maxRecDepth 100000 in
set_option maxHeartbeats 4000000 in
theorem law_calls_in (a b c : List UInt8) (ha : a.length = 32) (hb : b.length = 32) (hc : c.length = 32) (i : Int) (bb o cc n : Nat) (xs : List UInt8) (hx : xs.length = n) (hn : n ≤ 100) (h64 : n ≤ 64) : Meets Try.prog 9 [agg (bytesV a), agg (bytesV b), agg (bytesV c), .slice (some ⟨bb, o, none⟩) n cc, i64 i] [] (fun W => Sees W bb o (bytesV xs)) (fun v out => v = .bool true ∧ out = []) := by
  intro W hW
  refine calls_of (hp0 := []) Try.func9 rfl 92 Try.ntmps9 rfl (HRep.nil _) ?_
  refine Sat.seq ?_
  -- region 0
  refine Sat.region ?_
  refine Tr.boxA rfl rfl ?_
  intro n5 hn5 hf5
  refine Tr.boxA rfl rfl ?_
  intro n6 hn6 hf6
  refine Tr.boxA rfl rfl ?_
  intro n7 hn7 hf7
  refine Tr.assign rfl rfl rfl ?_
  refine Tr.nil ?_
  refine at_n ?_
  refine Sat.seq ?_
  refine Sat.seq ?_
  -- region 1
  refine Sat.region ?_
  refine Tr.callV rfl rfl rfl rfl Body22 (law_lives) (fun _ _ => trivial) ?_
  refine Tr.not rfl rfl rfl ?_
  refine Tr.nil ?_
  refine at_n ?_
  refine Sat.cond_f rfl (rfl) ?_
  refine Sat.skip ?_
  refine at_n ?_
  refine Sat.seq ?_
  refine Sat.seq ?_
  -- region 3
  refine Sat.region ?_
  refine Tr.move rfl rfl rfl ?_
  refine Tr.lenSl rfl rfl rfl Try.underlying27 ?_
  refine Tr.gtr rfl rfl rfl rfl (decide_eq_false (by omega)) ?_
  refine Tr.nil ?_
  refine at_n ?_
  refine Sat.cond_f rfl (rfl) ?_
  refine Sat.skip ?_
  refine at_n ?_
  refine Sat.seq ?_
  -- region 5
  refine Sat.region ?_
  refine Tr.emptySlice rfl rfl Try.underlying27 Sz5 ?_
  intro q0
  refine Tr.move rfl rfl rfl ?_
  refine Tr.appendRow (z := u8 0) (by' := 1) (bytesV xs) rfl rfl rfl rfl rfl Try.underlying27 Try.underlying27 Sz5 Zr5 (by unfold By; kernel_rfl) rfl (fun w h => sees_ext h (by simp) hW) (by simp [bytesV, isCell, u8]) rem_here rfl rfl (by omega) (by omega) (by omega) (by simp [bytesV]; omega) ?_
  intro q1 c1 hq1
  refine Tr.callV rfl rfl rfl rfl Body21 (scalar_rest q1 0 c1 (0 + n) xs (by omega) (by omega)) (fun W2 h => sees_own h mem0) ?_
  refine Tr.move rfl rfl rfl ?_
  refine Tr.extract rfl rfl rfl rfl ?_
  refine Tr.extract rfl rfl rfl rfl ?_
  refine Tr.alloc (cs := (bytesV (List.replicate 32 0))) rfl Zr47 rfl ?_
  intro n11 hn11 hf11
  first
    | refine Tr.storeAll rfl rfl rfl rfl (by simp [isCell]) Sz47 (by simp [leb_length, words4_length, List.length_replicate, subB_all, padB_all, natsV_length, inn_length, out_length, ha, hb, hc, hx]) (by first | exact mem0 | exact mem1 | exact mem2 | exact mem3 | exact mem4 | exact mem5 | exact mem6 | exact mem7) (by simp [leb_length, words4_length, List.length_replicate, subB_all, padB_all, natsV_length, inn_length, out_length, ha, hb, hc, hx]) (by first | exact upd0 | exact upd1 | exact upd2 | exact upd3 | exact upd4 | exact upd5 | exact upd6 | exact upd7) ?_
    | refine Tr.storeN _ rfl rfl rfl rfl rfl (by simp [isCell]) Sz47 (by simp [leb_length, words4_length, List.length_replicate, subB_all, padB_all, natsV_length, inn_length, out_length, ha, hb, hc, hx]) (by first | exact mem0 | exact mem1 | exact mem2 | exact mem3 | exact mem4 | exact mem5 | exact mem6 | exact mem7) (by simp [leb_length, words4_length, List.length_replicate, subB_all, padB_all, natsV_length, inn_length, out_length, ha, hb, hc, hx]) (by exact rfl) (by first | exact upd0 | exact upd1 | exact upd2 | exact upd3 | exact upd4 | exact upd5 | exact upd6 | exact upd7) ?_
  refine Tr.assign rfl rfl rfl ?_
  refine Tr.nil ?_
  refine at_n ?_
  refine Sat.seq ?_
  -- region 6
  refine Sat.region ?_
  refine Tr.move rfl rfl rfl ?_
  refine Tr.callV rfl rfl rfl rfl Body30 (ref_Rest bb o cc n xs hx h64) (fun W2 h => sees_ext h (by simp) hW) ?_
  refine Tr.move rfl rfl rfl ?_
  refine Tr.extract rfl rfl rfl rfl ?_
  refine Tr.extract rfl rfl rfl rfl ?_
  refine Tr.alloc (cs := (bytesV (List.replicate 32 0))) rfl Zr47 rfl ?_
  intro n13 hn13 hf13
  first
    | refine Tr.storeAll rfl rfl rfl rfl (by simp [isCell]) Sz47 (by simp [leb_length, words4_length, List.length_replicate, subB_all, padB_all, natsV_length, inn_length, out_length, ha, hb, hc, hx]) (by first | exact mem0 | exact mem1 | exact mem2 | exact mem3 | exact mem4 | exact mem5 | exact mem6 | exact mem7) (by simp [leb_length, words4_length, List.length_replicate, subB_all, padB_all, natsV_length, inn_length, out_length, ha, hb, hc, hx]) (by first | exact upd0 | exact upd1 | exact upd2 | exact upd3 | exact upd4 | exact upd5 | exact upd6 | exact upd7) ?_
    | refine Tr.storeN _ rfl rfl rfl rfl rfl (by simp [isCell]) Sz47 (by simp [leb_length, words4_length, List.length_replicate, subB_all, padB_all, natsV_length, inn_length, out_length, ha, hb, hc, hx]) (by first | exact mem0 | exact mem1 | exact mem2 | exact mem3 | exact mem4 | exact mem5 | exact mem6 | exact mem7) (by simp [leb_length, words4_length, List.length_replicate, subB_all, padB_all, natsV_length, inn_length, out_length, ha, hb, hc, hx]) (by exact rfl) (by first | exact upd0 | exact upd1 | exact upd2 | exact upd3 | exact upd4 | exact upd5 | exact upd6 | exact upd7) ?_
  refine Tr.assign rfl rfl rfl ?_
  refine Tr.nil ?_
  refine at_n ?_
  refine Sat.seq ?_
  -- region 7
  refine Sat.draw [(1, 0), (1, 1), (0, 2), (0, 3), (0, 4), (0, 5), (0, 6), (0, 7), (0, 8), (1, 9), (1, 11), (3, 10), (3, 12), (0, 13), (0, 14), (0, 15), (1, 16), (1, 17), (1, 19), (1, 20), (3, 18), (3, 21), (0, 22), (0, 23), (0, 24), (1, 25), (1, 26), (1, 28), (1, 29), (3, 27), (3, 30), (0, 31), (0, 32), (0, 33), (1, 34), (1, 35), (1, 36), (1, 38), (1, 39), (1, 40), (3, 37), (3, 41), (0, 42), (0, 43), (0, 44), (1, 45), (1, 47), (3, 46), (3, 48), (0, 49), (0, 50), (0, 51), (1, 52), (0, 53), (1, 55), (0, 56), (3, 54), (3, 57), (0, 58), (0, 59), (0, 60)] Mixed (by kernel_rfl) ?_
  first
    | refine Tr.loadAll rfl rfl rfl Try.underlying47 rfl Sz47 (by first | exact mem0 | exact mem1 | exact mem2 | exact mem3 | exact mem4 | exact mem5 | exact mem6 | exact mem7) (by simp [leb_length, words4_length, List.length_replicate, subB_all, padB_all, natsV_length, inn_length, out_length, ha, hb, hc, hx]) ?_
    | refine Tr.loadN _ rfl rfl rfl Try.underlying47 rfl Sz47 (by first | exact mem0 | exact mem1 | exact mem2 | exact mem3 | exact mem4 | exact mem5 | exact mem6 | exact mem7) (by exact rfl) (by simp [leb_length, words4_length, List.length_replicate, subB_all, padB_all, natsV_length, inn_length, out_length, ha, hb, hc, hx]) ?_
  first
    | refine Tr.loadAll rfl rfl rfl Try.underlying47 rfl Sz47 (by first | exact mem0 | exact mem1 | exact mem2 | exact mem3 | exact mem4 | exact mem5 | exact mem6 | exact mem7) (by simp [leb_length, words4_length, List.length_replicate, subB_all, padB_all, natsV_length, inn_length, out_length, ha, hb, hc, hx]) ?_
    | refine Tr.loadN _ rfl rfl rfl Try.underlying47 rfl Sz47 (by first | exact mem0 | exact mem1 | exact mem2 | exact mem3 | exact mem4 | exact mem5 | exact mem6 | exact mem7) (by exact rfl) (by simp [leb_length, words4_length, List.length_replicate, subB_all, padB_all, natsV_length, inn_length, out_length, ha, hb, hc, hx]) ?_
  refine Tr.eql_bytes rfl rfl rfl rfl Try.eqGuardType47 Try.underlying47 Try.underlying5 Sz5 (by simp [leb_length, words4_length, List.length_replicate, subB_all, padB_all, natsV_length, inn_length, out_length, ha, hb, hc, hx]) (by simp [leb_length, words4_length, List.length_replicate, subB_all, padB_all, natsV_length, inn_length, out_length, ha, hb, hc, hx]) (decide_eq_true (rfl)) ?_
  refine Tr.move rfl rfl rfl ?_
  refine Tr.move rfl rfl rfl ?_
  refine Tr.move rfl rfl rfl ?_
  refine Tr.eqi rfl rfl rfl rfl (decide_eq_true (rfl)) ?_
  refine Tr.pick rfl rfl rfl rfl rfl rfl ?_
  refine Tr.move rfl rfl rfl ?_
  first
    | refine Tr.loadAll rfl rfl rfl Try.underlying47 rfl Sz47 (by first | exact mem0 | exact mem1 | exact mem2 | exact mem3 | exact mem4 | exact mem5 | exact mem6 | exact mem7) (by simp [leb_length, words4_length, List.length_replicate, subB_all, padB_all, natsV_length, inn_length, out_length, ha, hb, hc, hx]) ?_
    | refine Tr.loadN _ rfl rfl rfl Try.underlying47 rfl Sz47 (by first | exact mem0 | exact mem1 | exact mem2 | exact mem3 | exact mem4 | exact mem5 | exact mem6 | exact mem7) (by exact rfl) (by simp [leb_length, words4_length, List.length_replicate, subB_all, padB_all, natsV_length, inn_length, out_length, ha, hb, hc, hx]) ?_
  first
    | refine Tr.loadAll rfl rfl rfl Try.underlying47 rfl Sz47 (by first | exact mem0 | exact mem1 | exact mem2 | exact mem3 | exact mem4 | exact mem5 | exact mem6 | exact mem7) (by simp [leb_length, words4_length, List.length_replicate, subB_all, padB_all, natsV_length, inn_length, out_length, ha, hb, hc, hx]) ?_
    | refine Tr.loadN _ rfl rfl rfl Try.underlying47 rfl Sz47 (by first | exact mem0 | exact mem1 | exact mem2 | exact mem3 | exact mem4 | exact mem5 | exact mem6 | exact mem7) (by exact rfl) (by simp [leb_length, words4_length, List.length_replicate, subB_all, padB_all, natsV_length, inn_length, out_length, ha, hb, hc, hx]) ?_
  refine Tr.callV rfl rfl rfl rfl Body23 (scalar_canon _ (by simp [leb_length, words4_length, List.length_replicate, subB_all, padB_all, natsV_length, inn_length, out_length, ha, hb, hc, hx])) (fun _ _ => trivial) ?_
  refine Tr.callV rfl rfl rfl rfl Body31 (ref_canon _ (by simp [leb_length, words4_length, List.length_replicate, subB_all, padB_all, natsV_length, inn_length, out_length, ha, hb, hc, hx])) (fun _ _ => trivial) ?_
  refine Tr.eqb (r := true) rfl rfl rfl rfl Try.underlying4 (beq_self_eq_true _) ?_
  refine Tr.pick rfl rfl rfl rfl rfl rfl ?_
  refine Tr.move rfl rfl rfl ?_
  first
    | refine Tr.loadAll rfl rfl rfl Try.underlying47 rfl Sz47 (by first | exact mem0 | exact mem1 | exact mem2 | exact mem3 | exact mem4 | exact mem5 | exact mem6 | exact mem7) (by simp [leb_length, words4_length, List.length_replicate, subB_all, padB_all, natsV_length, inn_length, out_length, ha, hb, hc, hx]) ?_
    | refine Tr.loadN _ rfl rfl rfl Try.underlying47 rfl Sz47 (by first | exact mem0 | exact mem1 | exact mem2 | exact mem3 | exact mem4 | exact mem5 | exact mem6 | exact mem7) (by exact rfl) (by simp [leb_length, words4_length, List.length_replicate, subB_all, padB_all, natsV_length, inn_length, out_length, ha, hb, hc, hx]) ?_
  first
    | refine Tr.loadAll rfl rfl rfl Try.underlying47 rfl Sz47 (by first | exact mem0 | exact mem1 | exact mem2 | exact mem3 | exact mem4 | exact mem5 | exact mem6 | exact mem7) (by simp [leb_length, words4_length, List.length_replicate, subB_all, padB_all, natsV_length, inn_length, out_length, ha, hb, hc, hx]) ?_
    | refine Tr.loadN _ rfl rfl rfl Try.underlying47 rfl Sz47 (by first | exact mem0 | exact mem1 | exact mem2 | exact mem3 | exact mem4 | exact mem5 | exact mem6 | exact mem7) (by exact rfl) (by simp [leb_length, words4_length, List.length_replicate, subB_all, padB_all, natsV_length, inn_length, out_length, ha, hb, hc, hx]) ?_
  first
    | refine Tr.loadAll rfl rfl rfl Try.underlying47 rfl Sz47 (by first | exact mem0 | exact mem1 | exact mem2 | exact mem3 | exact mem4 | exact mem5 | exact mem6 | exact mem7) (by simp [leb_length, words4_length, List.length_replicate, subB_all, padB_all, natsV_length, inn_length, out_length, ha, hb, hc, hx]) ?_
    | refine Tr.loadN _ rfl rfl rfl Try.underlying47 rfl Sz47 (by first | exact mem0 | exact mem1 | exact mem2 | exact mem3 | exact mem4 | exact mem5 | exact mem6 | exact mem7) (by exact rfl) (by simp [leb_length, words4_length, List.length_replicate, subB_all, padB_all, natsV_length, inn_length, out_length, ha, hb, hc, hx]) ?_
  first
    | refine Tr.loadAll rfl rfl rfl Try.underlying47 rfl Sz47 (by first | exact mem0 | exact mem1 | exact mem2 | exact mem3 | exact mem4 | exact mem5 | exact mem6 | exact mem7) (by simp [leb_length, words4_length, List.length_replicate, subB_all, padB_all, natsV_length, inn_length, out_length, ha, hb, hc, hx]) ?_
    | refine Tr.loadN _ rfl rfl rfl Try.underlying47 rfl Sz47 (by first | exact mem0 | exact mem1 | exact mem2 | exact mem3 | exact mem4 | exact mem5 | exact mem6 | exact mem7) (by exact rfl) (by simp [leb_length, words4_length, List.length_replicate, subB_all, padB_all, natsV_length, inn_length, out_length, ha, hb, hc, hx]) ?_
  refine Tr.callV rfl rfl rfl rfl Body28 (scalar_add _ _ (by simp [leb_length, words4_length, List.length_replicate, subB_all, padB_all, natsV_length, inn_length, out_length, ha, hb, hc, hx]) (by simp [leb_length, words4_length, List.length_replicate, subB_all, padB_all, natsV_length, inn_length, out_length, ha, hb, hc, hx])) (fun _ _ => trivial) ?_
  refine Tr.callV rfl rfl rfl rfl Body32 (ref_add _ _ (by simp [leb_length, words4_length, List.length_replicate, subB_all, padB_all, natsV_length, inn_length, out_length, ha, hb, hc, hx]) (by simp [leb_length, words4_length, List.length_replicate, subB_all, padB_all, natsV_length, inn_length, out_length, ha, hb, hc, hx])) (fun _ _ => trivial) ?_
  refine Tr.eql_bytes rfl rfl rfl rfl Try.eqGuardType47 Try.underlying47 Try.underlying5 Sz5 (by simp [leb_length, words4_length, List.length_replicate, subB_all, padB_all, natsV_length, inn_length, out_length, ha, hb, hc, hx]) (by simp [leb_length, words4_length, List.length_replicate, subB_all, padB_all, natsV_length, inn_length, out_length, ha, hb, hc, hx]) (decide_eq_true (rfl)) ?_
  refine Tr.pick rfl rfl rfl rfl rfl rfl ?_
  refine Tr.move rfl rfl rfl ?_
  first
    | refine Tr.loadAll rfl rfl rfl Try.underlying47 rfl Sz47 (by first | exact mem0 | exact mem1 | exact mem2 | exact mem3 | exact mem4 | exact mem5 | exact mem6 | exact mem7) (by simp [leb_length, words4_length, List.length_replicate, subB_all, padB_all, natsV_length, inn_length, out_length, ha, hb, hc, hx]) ?_
    | refine Tr.loadN _ rfl rfl rfl Try.underlying47 rfl Sz47 (by first | exact mem0 | exact mem1 | exact mem2 | exact mem3 | exact mem4 | exact mem5 | exact mem6 | exact mem7) (by exact rfl) (by simp [leb_length, words4_length, List.length_replicate, subB_all, padB_all, natsV_length, inn_length, out_length, ha, hb, hc, hx]) ?_
  first
    | refine Tr.loadAll rfl rfl rfl Try.underlying47 rfl Sz47 (by first | exact mem0 | exact mem1 | exact mem2 | exact mem3 | exact mem4 | exact mem5 | exact mem6 | exact mem7) (by simp [leb_length, words4_length, List.length_replicate, subB_all, padB_all, natsV_length, inn_length, out_length, ha, hb, hc, hx]) ?_
    | refine Tr.loadN _ rfl rfl rfl Try.underlying47 rfl Sz47 (by first | exact mem0 | exact mem1 | exact mem2 | exact mem3 | exact mem4 | exact mem5 | exact mem6 | exact mem7) (by exact rfl) (by simp [leb_length, words4_length, List.length_replicate, subB_all, padB_all, natsV_length, inn_length, out_length, ha, hb, hc, hx]) ?_
  first
    | refine Tr.loadAll rfl rfl rfl Try.underlying47 rfl Sz47 (by first | exact mem0 | exact mem1 | exact mem2 | exact mem3 | exact mem4 | exact mem5 | exact mem6 | exact mem7) (by simp [leb_length, words4_length, List.length_replicate, subB_all, padB_all, natsV_length, inn_length, out_length, ha, hb, hc, hx]) ?_
    | refine Tr.loadN _ rfl rfl rfl Try.underlying47 rfl Sz47 (by first | exact mem0 | exact mem1 | exact mem2 | exact mem3 | exact mem4 | exact mem5 | exact mem6 | exact mem7) (by exact rfl) (by simp [leb_length, words4_length, List.length_replicate, subB_all, padB_all, natsV_length, inn_length, out_length, ha, hb, hc, hx]) ?_
  first
    | refine Tr.loadAll rfl rfl rfl Try.underlying47 rfl Sz47 (by first | exact mem0 | exact mem1 | exact mem2 | exact mem3 | exact mem4 | exact mem5 | exact mem6 | exact mem7) (by simp [leb_length, words4_length, List.length_replicate, subB_all, padB_all, natsV_length, inn_length, out_length, ha, hb, hc, hx]) ?_
    | refine Tr.loadN _ rfl rfl rfl Try.underlying47 rfl Sz47 (by first | exact mem0 | exact mem1 | exact mem2 | exact mem3 | exact mem4 | exact mem5 | exact mem6 | exact mem7) (by exact rfl) (by simp [leb_length, words4_length, List.length_replicate, subB_all, padB_all, natsV_length, inn_length, out_length, ha, hb, hc, hx]) ?_
  refine Tr.callV rfl rfl rfl rfl Body29 (scalar_mul _ _ (by simp [leb_length, words4_length, List.length_replicate, subB_all, padB_all, natsV_length, inn_length, out_length, ha, hb, hc, hx]) (by simp [leb_length, words4_length, List.length_replicate, subB_all, padB_all, natsV_length, inn_length, out_length, ha, hb, hc, hx])) (fun _ _ => trivial) ?_
  refine Tr.callV rfl rfl rfl rfl Body33 (ref_mul _ _ (by simp [leb_length, words4_length, List.length_replicate, subB_all, padB_all, natsV_length, inn_length, out_length, ha, hb, hc, hx]) (by simp [leb_length, words4_length, List.length_replicate, subB_all, padB_all, natsV_length, inn_length, out_length, ha, hb, hc, hx])) (fun _ _ => trivial) ?_
  refine Tr.eql_bytes rfl rfl rfl rfl Try.eqGuardType47 Try.underlying47 Try.underlying5 Sz5 (by simp [leb_length, words4_length, List.length_replicate, subB_all, padB_all, natsV_length, inn_length, out_length, ha, hb, hc, hx]) (by simp [leb_length, words4_length, List.length_replicate, subB_all, padB_all, natsV_length, inn_length, out_length, ha, hb, hc, hx]) (decide_eq_true (rfl)) ?_
  refine Tr.pick rfl rfl rfl rfl rfl rfl ?_
  refine Tr.move rfl rfl rfl ?_
  first
    | refine Tr.loadAll rfl rfl rfl Try.underlying47 rfl Sz47 (by first | exact mem0 | exact mem1 | exact mem2 | exact mem3 | exact mem4 | exact mem5 | exact mem6 | exact mem7) (by simp [leb_length, words4_length, List.length_replicate, subB_all, padB_all, natsV_length, inn_length, out_length, ha, hb, hc, hx]) ?_
    | refine Tr.loadN _ rfl rfl rfl Try.underlying47 rfl Sz47 (by first | exact mem0 | exact mem1 | exact mem2 | exact mem3 | exact mem4 | exact mem5 | exact mem6 | exact mem7) (by exact rfl) (by simp [leb_length, words4_length, List.length_replicate, subB_all, padB_all, natsV_length, inn_length, out_length, ha, hb, hc, hx]) ?_
  first
    | refine Tr.loadAll rfl rfl rfl Try.underlying47 rfl Sz47 (by first | exact mem0 | exact mem1 | exact mem2 | exact mem3 | exact mem4 | exact mem5 | exact mem6 | exact mem7) (by simp [leb_length, words4_length, List.length_replicate, subB_all, padB_all, natsV_length, inn_length, out_length, ha, hb, hc, hx]) ?_
    | refine Tr.loadN _ rfl rfl rfl Try.underlying47 rfl Sz47 (by first | exact mem0 | exact mem1 | exact mem2 | exact mem3 | exact mem4 | exact mem5 | exact mem6 | exact mem7) (by exact rfl) (by simp [leb_length, words4_length, List.length_replicate, subB_all, padB_all, natsV_length, inn_length, out_length, ha, hb, hc, hx]) ?_
  first
    | refine Tr.loadAll rfl rfl rfl Try.underlying47 rfl Sz47 (by first | exact mem0 | exact mem1 | exact mem2 | exact mem3 | exact mem4 | exact mem5 | exact mem6 | exact mem7) (by simp [leb_length, words4_length, List.length_replicate, subB_all, padB_all, natsV_length, inn_length, out_length, ha, hb, hc, hx]) ?_
    | refine Tr.loadN _ rfl rfl rfl Try.underlying47 rfl Sz47 (by first | exact mem0 | exact mem1 | exact mem2 | exact mem3 | exact mem4 | exact mem5 | exact mem6 | exact mem7) (by exact rfl) (by simp [leb_length, words4_length, List.length_replicate, subB_all, padB_all, natsV_length, inn_length, out_length, ha, hb, hc, hx]) ?_
  first
    | refine Tr.loadAll rfl rfl rfl Try.underlying47 rfl Sz47 (by first | exact mem0 | exact mem1 | exact mem2 | exact mem3 | exact mem4 | exact mem5 | exact mem6 | exact mem7) (by simp [leb_length, words4_length, List.length_replicate, subB_all, padB_all, natsV_length, inn_length, out_length, ha, hb, hc, hx]) ?_
    | refine Tr.loadN _ rfl rfl rfl Try.underlying47 rfl Sz47 (by first | exact mem0 | exact mem1 | exact mem2 | exact mem3 | exact mem4 | exact mem5 | exact mem6 | exact mem7) (by exact rfl) (by simp [leb_length, words4_length, List.length_replicate, subB_all, padB_all, natsV_length, inn_length, out_length, ha, hb, hc, hx]) ?_
  first
    | refine Tr.loadAll rfl rfl rfl Try.underlying47 rfl Sz47 (by first | exact mem0 | exact mem1 | exact mem2 | exact mem3 | exact mem4 | exact mem5 | exact mem6 | exact mem7) (by simp [leb_length, words4_length, List.length_replicate, subB_all, padB_all, natsV_length, inn_length, out_length, ha, hb, hc, hx]) ?_
    | refine Tr.loadN _ rfl rfl rfl Try.underlying47 rfl Sz47 (by first | exact mem0 | exact mem1 | exact mem2 | exact mem3 | exact mem4 | exact mem5 | exact mem6 | exact mem7) (by exact rfl) (by simp [leb_length, words4_length, List.length_replicate, subB_all, padB_all, natsV_length, inn_length, out_length, ha, hb, hc, hx]) ?_
  first
    | refine Tr.loadAll rfl rfl rfl Try.underlying47 rfl Sz47 (by first | exact mem0 | exact mem1 | exact mem2 | exact mem3 | exact mem4 | exact mem5 | exact mem6 | exact mem7) (by simp [leb_length, words4_length, List.length_replicate, subB_all, padB_all, natsV_length, inn_length, out_length, ha, hb, hc, hx]) ?_
    | refine Tr.loadN _ rfl rfl rfl Try.underlying47 rfl Sz47 (by first | exact mem0 | exact mem1 | exact mem2 | exact mem3 | exact mem4 | exact mem5 | exact mem6 | exact mem7) (by exact rfl) (by simp [leb_length, words4_length, List.length_replicate, subB_all, padB_all, natsV_length, inn_length, out_length, ha, hb, hc, hx]) ?_
  refine Tr.callV rfl rfl rfl rfl Body27 (scalar_muladd _ _ _ (by simp [leb_length, words4_length, List.length_replicate, subB_all, padB_all, natsV_length, inn_length, out_length, ha, hb, hc, hx]) (by simp [leb_length, words4_length, List.length_replicate, subB_all, padB_all, natsV_length, inn_length, out_length, ha, hb, hc, hx]) (by simp [leb_length, words4_length, List.length_replicate, subB_all, padB_all, natsV_length, inn_length, out_length, ha, hb, hc, hx])) (fun _ _ => trivial) ?_
  refine Tr.callV rfl rfl rfl rfl Body34 (ref_muladd _ _ _ (by simp [leb_length, words4_length, List.length_replicate, subB_all, padB_all, natsV_length, inn_length, out_length, ha, hb, hc, hx]) (by simp [leb_length, words4_length, List.length_replicate, subB_all, padB_all, natsV_length, inn_length, out_length, ha, hb, hc, hx]) (by simp [leb_length, words4_length, List.length_replicate, subB_all, padB_all, natsV_length, inn_length, out_length, ha, hb, hc, hx])) (fun _ _ => trivial) ?_
  refine Tr.eql_bytes rfl rfl rfl rfl Try.eqGuardType47 Try.underlying47 Try.underlying5 Sz5 (by simp [leb_length, words4_length, List.length_replicate, subB_all, padB_all, natsV_length, inn_length, out_length, ha, hb, hc, hx]) (by simp [leb_length, words4_length, List.length_replicate, subB_all, padB_all, natsV_length, inn_length, out_length, ha, hb, hc, hx]) (decide_eq_true (rfl)) ?_
  refine Tr.pick rfl rfl rfl rfl rfl rfl ?_
  refine Tr.move rfl rfl rfl ?_
  first
    | refine Tr.loadAll rfl rfl rfl Try.underlying47 rfl Sz47 (by first | exact mem0 | exact mem1 | exact mem2 | exact mem3 | exact mem4 | exact mem5 | exact mem6 | exact mem7) (by simp [leb_length, words4_length, List.length_replicate, subB_all, padB_all, natsV_length, inn_length, out_length, ha, hb, hc, hx]) ?_
    | refine Tr.loadN _ rfl rfl rfl Try.underlying47 rfl Sz47 (by first | exact mem0 | exact mem1 | exact mem2 | exact mem3 | exact mem4 | exact mem5 | exact mem6 | exact mem7) (by exact rfl) (by simp [leb_length, words4_length, List.length_replicate, subB_all, padB_all, natsV_length, inn_length, out_length, ha, hb, hc, hx]) ?_
  first
    | refine Tr.loadAll rfl rfl rfl Try.underlying47 rfl Sz47 (by first | exact mem0 | exact mem1 | exact mem2 | exact mem3 | exact mem4 | exact mem5 | exact mem6 | exact mem7) (by simp [leb_length, words4_length, List.length_replicate, subB_all, padB_all, natsV_length, inn_length, out_length, ha, hb, hc, hx]) ?_
    | refine Tr.loadN _ rfl rfl rfl Try.underlying47 rfl Sz47 (by first | exact mem0 | exact mem1 | exact mem2 | exact mem3 | exact mem4 | exact mem5 | exact mem6 | exact mem7) (by exact rfl) (by simp [leb_length, words4_length, List.length_replicate, subB_all, padB_all, natsV_length, inn_length, out_length, ha, hb, hc, hx]) ?_
  refine Tr.callV rfl rfl rfl rfl Body24 (scalar_neg _ (by simp [leb_length, words4_length, List.length_replicate, subB_all, padB_all, natsV_length, inn_length, out_length, ha, hb, hc, hx])) (fun _ _ => trivial) ?_
  refine Tr.callV rfl rfl rfl rfl Body35 (ref_neg _ (by simp [leb_length, words4_length, List.length_replicate, subB_all, padB_all, natsV_length, inn_length, out_length, ha, hb, hc, hx])) (fun _ _ => trivial) ?_
  refine Tr.eql_bytes rfl rfl rfl rfl Try.eqGuardType47 Try.underlying47 Try.underlying5 Sz5 (by simp [leb_length, words4_length, List.length_replicate, subB_all, padB_all, natsV_length, inn_length, out_length, ha, hb, hc, hx]) (by simp [leb_length, words4_length, List.length_replicate, subB_all, padB_all, natsV_length, inn_length, out_length, ha, hb, hc, hx]) (decide_eq_true (rfl)) ?_
  refine Tr.pick rfl rfl rfl rfl rfl rfl ?_
  refine Tr.move rfl rfl rfl ?_
  first
    | refine Tr.loadAll rfl rfl rfl Try.underlying47 rfl Sz47 (by first | exact mem0 | exact mem1 | exact mem2 | exact mem3 | exact mem4 | exact mem5 | exact mem6 | exact mem7) (by simp [leb_length, words4_length, List.length_replicate, subB_all, padB_all, natsV_length, inn_length, out_length, ha, hb, hc, hx]) ?_
    | refine Tr.loadN _ rfl rfl rfl Try.underlying47 rfl Sz47 (by first | exact mem0 | exact mem1 | exact mem2 | exact mem3 | exact mem4 | exact mem5 | exact mem6 | exact mem7) (by exact rfl) (by simp [leb_length, words4_length, List.length_replicate, subB_all, padB_all, natsV_length, inn_length, out_length, ha, hb, hc, hx]) ?_
  refine Tr.move rfl rfl rfl ?_
  first
    | refine Tr.loadAll rfl rfl rfl Try.underlying47 rfl Sz47 (by first | exact mem0 | exact mem1 | exact mem2 | exact mem3 | exact mem4 | exact mem5 | exact mem6 | exact mem7) (by simp [leb_length, words4_length, List.length_replicate, subB_all, padB_all, natsV_length, inn_length, out_length, ha, hb, hc, hx]) ?_
    | refine Tr.loadN _ rfl rfl rfl Try.underlying47 rfl Sz47 (by first | exact mem0 | exact mem1 | exact mem2 | exact mem3 | exact mem4 | exact mem5 | exact mem6 | exact mem7) (by exact rfl) (by simp [leb_length, words4_length, List.length_replicate, subB_all, padB_all, natsV_length, inn_length, out_length, ha, hb, hc, hx]) ?_
  refine Tr.move rfl rfl rfl ?_
  refine Tr.callV rfl rfl rfl rfl Body26 (scalar_bit _ (by simp [leb_length, words4_length, List.length_replicate, subB_all, padB_all, natsV_length, inn_length, out_length, ha, hb, hc, hx]) _) (fun _ _ => trivial) ?_
  refine Tr.callV rfl rfl rfl rfl Body36 (ref_bit _ (by simp [leb_length, words4_length, List.length_replicate, subB_all, padB_all, natsV_length, inn_length, out_length, ha, hb, hc, hx]) _) (fun _ _ => trivial) ?_
  refine Tr.eqb (r := true) rfl rfl rfl rfl Try.underlying4 (beq_self_eq_true _) ?_
  refine Tr.pick rfl rfl rfl rfl rfl rfl ?_
  refine Tr.assign rfl rfl rfl ?_
  refine Tr.nil ?_
  refine at_n ?_
  refine Sat.ret ?_
  refine en_r ?_
  refine ⟨_, [], res_tmp rfl rfl, (by simp), (by simp), ?_, rfl⟩
  rfl

set_option maxRecDepth 100000 in
set_option maxHeartbeats 4000000 in
theorem law_calls_big (a b c : List UInt8) (ha : a.length = 32) (hb : b.length = 32) (hc : c.length = 32) (i : Int) (bb o cc n : Nat) (xs : List UInt8) (hx : xs.length = n) (hn : n ≤ 100) (h64 : 64 < n) : Meets Try.prog 9 [agg (bytesV a), agg (bytesV b), agg (bytesV c), .slice (some ⟨bb, o, none⟩) n cc, i64 i] [] (fun W => Sees W bb o (bytesV xs)) (fun v out => v = .bool true ∧ out = []) := by
  intro W hW
  refine calls_of (hp0 := []) Try.func9 rfl 92 Try.ntmps9 rfl (HRep.nil _) ?_
  refine Sat.seq ?_
  -- region 0
  refine Sat.region ?_
  refine Tr.boxA rfl rfl ?_
  intro n5 hn5 hf5
  refine Tr.boxA rfl rfl ?_
  intro n6 hn6 hf6
  refine Tr.boxA rfl rfl ?_
  intro n7 hn7 hf7
  refine Tr.assign rfl rfl rfl ?_
  refine Tr.nil ?_
  refine at_n ?_
  refine Sat.seq ?_
  refine Sat.seq ?_
  -- region 1
  refine Sat.region ?_
  refine Tr.callV rfl rfl rfl rfl Body22 (law_lives) (fun _ _ => trivial) ?_
  refine Tr.not rfl rfl rfl ?_
  refine Tr.nil ?_
  refine at_n ?_
  refine Sat.cond_f rfl (rfl) ?_
  refine Sat.skip ?_
  refine at_n ?_
  refine Sat.seq ?_
  refine Sat.seq ?_
  -- region 3
  refine Sat.region ?_
  refine Tr.move rfl rfl rfl ?_
  refine Tr.lenSl rfl rfl rfl Try.underlying27 ?_
  refine Tr.gtr rfl rfl rfl rfl (decide_eq_false (by omega)) ?_
  refine Tr.nil ?_
  refine at_n ?_
  refine Sat.cond_f rfl (rfl) ?_
  refine Sat.skip ?_
  refine at_n ?_
  refine Sat.seq ?_
  -- region 5
  refine Sat.region ?_
  refine Tr.emptySlice rfl rfl Try.underlying27 Sz5 ?_
  intro q0
  refine Tr.move rfl rfl rfl ?_
  refine Tr.appendRow (z := u8 0) (by' := 1) (bytesV xs) rfl rfl rfl rfl rfl Try.underlying27 Try.underlying27 Sz5 Zr5 (by unfold By; kernel_rfl) rfl (fun w h => sees_ext h (by simp) hW) (by simp [bytesV, isCell, u8]) rem_here rfl rfl (by omega) (by omega) (by omega) (by simp [bytesV]; omega) ?_
  intro q1 c1 hq1
  refine Tr.callV rfl rfl rfl rfl Body21 (scalar_rest_big q1 0 c1 (0 + n) (by omega)) (fun _ _ => trivial) ?_
  refine Tr.move rfl rfl rfl ?_
  refine Tr.extract rfl rfl rfl rfl ?_
  refine Tr.extract rfl rfl rfl rfl ?_
  refine Tr.alloc (cs := (bytesV (List.replicate 32 0))) rfl Zr47 rfl ?_
  intro n11 hn11 hf11
  first
    | refine Tr.storeAll rfl rfl rfl rfl (by simp [isCell]) Sz47 (by simp [leb_length, words4_length, List.length_replicate, subB_all, padB_all, natsV_length, inn_length, out_length, ha, hb, hc, hx]) (by first | exact mem0 | exact mem1 | exact mem2 | exact mem3 | exact mem4 | exact mem5 | exact mem6 | exact mem7) (by simp [leb_length, words4_length, List.length_replicate, subB_all, padB_all, natsV_length, inn_length, out_length, ha, hb, hc, hx]) (by first | exact upd0 | exact upd1 | exact upd2 | exact upd3 | exact upd4 | exact upd5 | exact upd6 | exact upd7) ?_
    | refine Tr.storeN _ rfl rfl rfl rfl rfl (by simp [isCell]) Sz47 (by simp [leb_length, words4_length, List.length_replicate, subB_all, padB_all, natsV_length, inn_length, out_length, ha, hb, hc, hx]) (by first | exact mem0 | exact mem1 | exact mem2 | exact mem3 | exact mem4 | exact mem5 | exact mem6 | exact mem7) (by simp [leb_length, words4_length, List.length_replicate, subB_all, padB_all, natsV_length, inn_length, out_length, ha, hb, hc, hx]) (by exact rfl) (by first | exact upd0 | exact upd1 | exact upd2 | exact upd3 | exact upd4 | exact upd5 | exact upd6 | exact upd7) ?_
  refine Tr.assign rfl rfl rfl ?_
  refine Tr.nil ?_
  refine at_n ?_
  refine Sat.seq ?_
  -- region 6
  refine Sat.region ?_
  refine Tr.move rfl rfl rfl ?_
  refine Tr.callV rfl rfl rfl rfl Body30 (ref_Rest_big bb o cc n h64) (fun _ _ => trivial) ?_
  refine Tr.move rfl rfl rfl ?_
  refine Tr.extract rfl rfl rfl rfl ?_
  refine Tr.extract rfl rfl rfl rfl ?_
  refine Tr.alloc (cs := (bytesV (List.replicate 32 0))) rfl Zr47 rfl ?_
  intro n13 hn13 hf13
  first
    | refine Tr.storeAll rfl rfl rfl rfl (by simp [isCell]) Sz47 (by simp [leb_length, words4_length, List.length_replicate, subB_all, padB_all, natsV_length, inn_length, out_length, ha, hb, hc, hx]) (by first | exact mem0 | exact mem1 | exact mem2 | exact mem3 | exact mem4 | exact mem5 | exact mem6 | exact mem7) (by simp [leb_length, words4_length, List.length_replicate, subB_all, padB_all, natsV_length, inn_length, out_length, ha, hb, hc, hx]) (by first | exact upd0 | exact upd1 | exact upd2 | exact upd3 | exact upd4 | exact upd5 | exact upd6 | exact upd7) ?_
    | refine Tr.storeN _ rfl rfl rfl rfl rfl (by simp [isCell]) Sz47 (by simp [leb_length, words4_length, List.length_replicate, subB_all, padB_all, natsV_length, inn_length, out_length, ha, hb, hc, hx]) (by first | exact mem0 | exact mem1 | exact mem2 | exact mem3 | exact mem4 | exact mem5 | exact mem6 | exact mem7) (by simp [leb_length, words4_length, List.length_replicate, subB_all, padB_all, natsV_length, inn_length, out_length, ha, hb, hc, hx]) (by exact rfl) (by first | exact upd0 | exact upd1 | exact upd2 | exact upd3 | exact upd4 | exact upd5 | exact upd6 | exact upd7) ?_
  refine Tr.assign rfl rfl rfl ?_
  refine Tr.nil ?_
  refine at_n ?_
  refine Sat.seq ?_
  -- region 7
  refine Sat.draw [(1, 0), (1, 1), (0, 2), (0, 3), (0, 4), (0, 5), (0, 6), (0, 7), (0, 8), (1, 9), (1, 11), (3, 10), (3, 12), (0, 13), (0, 14), (0, 15), (1, 16), (1, 17), (1, 19), (1, 20), (3, 18), (3, 21), (0, 22), (0, 23), (0, 24), (1, 25), (1, 26), (1, 28), (1, 29), (3, 27), (3, 30), (0, 31), (0, 32), (0, 33), (1, 34), (1, 35), (1, 36), (1, 38), (1, 39), (1, 40), (3, 37), (3, 41), (0, 42), (0, 43), (0, 44), (1, 45), (1, 47), (3, 46), (3, 48), (0, 49), (0, 50), (0, 51), (1, 52), (0, 53), (1, 55), (0, 56), (3, 54), (3, 57), (0, 58), (0, 59), (0, 60)] Mixed (by kernel_rfl) ?_
  first
    | refine Tr.loadAll rfl rfl rfl Try.underlying47 rfl Sz47 (by first | exact mem0 | exact mem1 | exact mem2 | exact mem3 | exact mem4 | exact mem5 | exact mem6 | exact mem7) (by simp [leb_length, words4_length, List.length_replicate, subB_all, padB_all, natsV_length, inn_length, out_length, ha, hb, hc, hx]) ?_
    | refine Tr.loadN _ rfl rfl rfl Try.underlying47 rfl Sz47 (by first | exact mem0 | exact mem1 | exact mem2 | exact mem3 | exact mem4 | exact mem5 | exact mem6 | exact mem7) (by exact rfl) (by simp [leb_length, words4_length, List.length_replicate, subB_all, padB_all, natsV_length, inn_length, out_length, ha, hb, hc, hx]) ?_
  first
    | refine Tr.loadAll rfl rfl rfl Try.underlying47 rfl Sz47 (by first | exact mem0 | exact mem1 | exact mem2 | exact mem3 | exact mem4 | exact mem5 | exact mem6 | exact mem7) (by simp [leb_length, words4_length, List.length_replicate, subB_all, padB_all, natsV_length, inn_length, out_length, ha, hb, hc, hx]) ?_
    | refine Tr.loadN _ rfl rfl rfl Try.underlying47 rfl Sz47 (by first | exact mem0 | exact mem1 | exact mem2 | exact mem3 | exact mem4 | exact mem5 | exact mem6 | exact mem7) (by exact rfl) (by simp [leb_length, words4_length, List.length_replicate, subB_all, padB_all, natsV_length, inn_length, out_length, ha, hb, hc, hx]) ?_
  refine Tr.eql_bytes rfl rfl rfl rfl Try.eqGuardType47 Try.underlying47 Try.underlying5 Sz5 (by simp [leb_length, words4_length, List.length_replicate, subB_all, padB_all, natsV_length, inn_length, out_length, ha, hb, hc, hx]) (by simp [leb_length, words4_length, List.length_replicate, subB_all, padB_all, natsV_length, inn_length, out_length, ha, hb, hc, hx]) (decide_eq_true (rfl)) ?_
  refine Tr.move rfl rfl rfl ?_
  refine Tr.move rfl rfl rfl ?_
  refine Tr.move rfl rfl rfl ?_
  refine Tr.eqi rfl rfl rfl rfl (decide_eq_true (rfl)) ?_
  refine Tr.pick rfl rfl rfl rfl rfl rfl ?_
  refine Tr.move rfl rfl rfl ?_
  first
    | refine Tr.loadAll rfl rfl rfl Try.underlying47 rfl Sz47 (by first | exact mem0 | exact mem1 | exact mem2 | exact mem3 | exact mem4 | exact mem5 | exact mem6 | exact mem7) (by simp [leb_length, words4_length, List.length_replicate, subB_all, padB_all, natsV_length, inn_length, out_length, ha, hb, hc, hx]) ?_
    | refine Tr.loadN _ rfl rfl rfl Try.underlying47 rfl Sz47 (by first | exact mem0 | exact mem1 | exact mem2 | exact mem3 | exact mem4 | exact mem5 | exact mem6 | exact mem7) (by exact rfl) (by simp [leb_length, words4_length, List.length_replicate, subB_all, padB_all, natsV_length, inn_length, out_length, ha, hb, hc, hx]) ?_
  first
    | refine Tr.loadAll rfl rfl rfl Try.underlying47 rfl Sz47 (by first | exact mem0 | exact mem1 | exact mem2 | exact mem3 | exact mem4 | exact mem5 | exact mem6 | exact mem7) (by simp [leb_length, words4_length, List.length_replicate, subB_all, padB_all, natsV_length, inn_length, out_length, ha, hb, hc, hx]) ?_
    | refine Tr.loadN _ rfl rfl rfl Try.underlying47 rfl Sz47 (by first | exact mem0 | exact mem1 | exact mem2 | exact mem3 | exact mem4 | exact mem5 | exact mem6 | exact mem7) (by exact rfl) (by simp [leb_length, words4_length, List.length_replicate, subB_all, padB_all, natsV_length, inn_length, out_length, ha, hb, hc, hx]) ?_
  refine Tr.callV rfl rfl rfl rfl Body23 (scalar_canon _ (by simp [leb_length, words4_length, List.length_replicate, subB_all, padB_all, natsV_length, inn_length, out_length, ha, hb, hc, hx])) (fun _ _ => trivial) ?_
  refine Tr.callV rfl rfl rfl rfl Body31 (ref_canon _ (by simp [leb_length, words4_length, List.length_replicate, subB_all, padB_all, natsV_length, inn_length, out_length, ha, hb, hc, hx])) (fun _ _ => trivial) ?_
  refine Tr.eqb (r := true) rfl rfl rfl rfl Try.underlying4 (beq_self_eq_true _) ?_
  refine Tr.pick rfl rfl rfl rfl rfl rfl ?_
  refine Tr.move rfl rfl rfl ?_
  first
    | refine Tr.loadAll rfl rfl rfl Try.underlying47 rfl Sz47 (by first | exact mem0 | exact mem1 | exact mem2 | exact mem3 | exact mem4 | exact mem5 | exact mem6 | exact mem7) (by simp [leb_length, words4_length, List.length_replicate, subB_all, padB_all, natsV_length, inn_length, out_length, ha, hb, hc, hx]) ?_
    | refine Tr.loadN _ rfl rfl rfl Try.underlying47 rfl Sz47 (by first | exact mem0 | exact mem1 | exact mem2 | exact mem3 | exact mem4 | exact mem5 | exact mem6 | exact mem7) (by exact rfl) (by simp [leb_length, words4_length, List.length_replicate, subB_all, padB_all, natsV_length, inn_length, out_length, ha, hb, hc, hx]) ?_
  first
    | refine Tr.loadAll rfl rfl rfl Try.underlying47 rfl Sz47 (by first | exact mem0 | exact mem1 | exact mem2 | exact mem3 | exact mem4 | exact mem5 | exact mem6 | exact mem7) (by simp [leb_length, words4_length, List.length_replicate, subB_all, padB_all, natsV_length, inn_length, out_length, ha, hb, hc, hx]) ?_
    | refine Tr.loadN _ rfl rfl rfl Try.underlying47 rfl Sz47 (by first | exact mem0 | exact mem1 | exact mem2 | exact mem3 | exact mem4 | exact mem5 | exact mem6 | exact mem7) (by exact rfl) (by simp [leb_length, words4_length, List.length_replicate, subB_all, padB_all, natsV_length, inn_length, out_length, ha, hb, hc, hx]) ?_
  first
    | refine Tr.loadAll rfl rfl rfl Try.underlying47 rfl Sz47 (by first | exact mem0 | exact mem1 | exact mem2 | exact mem3 | exact mem4 | exact mem5 | exact mem6 | exact mem7) (by simp [leb_length, words4_length, List.length_replicate, subB_all, padB_all, natsV_length, inn_length, out_length, ha, hb, hc, hx]) ?_
    | refine Tr.loadN _ rfl rfl rfl Try.underlying47 rfl Sz47 (by first | exact mem0 | exact mem1 | exact mem2 | exact mem3 | exact mem4 | exact mem5 | exact mem6 | exact mem7) (by exact rfl) (by simp [leb_length, words4_length, List.length_replicate, subB_all, padB_all, natsV_length, inn_length, out_length, ha, hb, hc, hx]) ?_
  first
    | refine Tr.loadAll rfl rfl rfl Try.underlying47 rfl Sz47 (by first | exact mem0 | exact mem1 | exact mem2 | exact mem3 | exact mem4 | exact mem5 | exact mem6 | exact mem7) (by simp [leb_length, words4_length, List.length_replicate, subB_all, padB_all, natsV_length, inn_length, out_length, ha, hb, hc, hx]) ?_
    | refine Tr.loadN _ rfl rfl rfl Try.underlying47 rfl Sz47 (by first | exact mem0 | exact mem1 | exact mem2 | exact mem3 | exact mem4 | exact mem5 | exact mem6 | exact mem7) (by exact rfl) (by simp [leb_length, words4_length, List.length_replicate, subB_all, padB_all, natsV_length, inn_length, out_length, ha, hb, hc, hx]) ?_
  refine Tr.callV rfl rfl rfl rfl Body28 (scalar_add _ _ (by simp [leb_length, words4_length, List.length_replicate, subB_all, padB_all, natsV_length, inn_length, out_length, ha, hb, hc, hx]) (by simp [leb_length, words4_length, List.length_replicate, subB_all, padB_all, natsV_length, inn_length, out_length, ha, hb, hc, hx])) (fun _ _ => trivial) ?_
  refine Tr.callV rfl rfl rfl rfl Body32 (ref_add _ _ (by simp [leb_length, words4_length, List.length_replicate, subB_all, padB_all, natsV_length, inn_length, out_length, ha, hb, hc, hx]) (by simp [leb_length, words4_length, List.length_replicate, subB_all, padB_all, natsV_length, inn_length, out_length, ha, hb, hc, hx])) (fun _ _ => trivial) ?_
  refine Tr.eql_bytes rfl rfl rfl rfl Try.eqGuardType47 Try.underlying47 Try.underlying5 Sz5 (by simp [leb_length, words4_length, List.length_replicate, subB_all, padB_all, natsV_length, inn_length, out_length, ha, hb, hc, hx]) (by simp [leb_length, words4_length, List.length_replicate, subB_all, padB_all, natsV_length, inn_length, out_length, ha, hb, hc, hx]) (decide_eq_true (rfl)) ?_
  refine Tr.pick rfl rfl rfl rfl rfl rfl ?_
  refine Tr.move rfl rfl rfl ?_
  first
    | refine Tr.loadAll rfl rfl rfl Try.underlying47 rfl Sz47 (by first | exact mem0 | exact mem1 | exact mem2 | exact mem3 | exact mem4 | exact mem5 | exact mem6 | exact mem7) (by simp [leb_length, words4_length, List.length_replicate, subB_all, padB_all, natsV_length, inn_length, out_length, ha, hb, hc, hx]) ?_
    | refine Tr.loadN _ rfl rfl rfl Try.underlying47 rfl Sz47 (by first | exact mem0 | exact mem1 | exact mem2 | exact mem3 | exact mem4 | exact mem5 | exact mem6 | exact mem7) (by exact rfl) (by simp [leb_length, words4_length, List.length_replicate, subB_all, padB_all, natsV_length, inn_length, out_length, ha, hb, hc, hx]) ?_
  first
    | refine Tr.loadAll rfl rfl rfl Try.underlying47 rfl Sz47 (by first | exact mem0 | exact mem1 | exact mem2 | exact mem3 | exact mem4 | exact mem5 | exact mem6 | exact mem7) (by simp [leb_length, words4_length, List.length_replicate, subB_all, padB_all, natsV_length, inn_length, out_length, ha, hb, hc, hx]) ?_
    | refine Tr.loadN _ rfl rfl rfl Try.underlying47 rfl Sz47 (by first | exact mem0 | exact mem1 | exact mem2 | exact mem3 | exact mem4 | exact mem5 | exact mem6 | exact mem7) (by exact rfl) (by simp [leb_length, words4_length, List.length_replicate, subB_all, padB_all, natsV_length, inn_length, out_length, ha, hb, hc, hx]) ?_
  first
    | refine Tr.loadAll rfl rfl rfl Try.underlying47 rfl Sz47 (by first | exact mem0 | exact mem1 | exact mem2 | exact mem3 | exact mem4 | exact mem5 | exact mem6 | exact mem7) (by simp [leb_length, words4_length, List.length_replicate, subB_all, padB_all, natsV_length, inn_length, out_length, ha, hb, hc, hx]) ?_
    | refine Tr.loadN _ rfl rfl rfl Try.underlying47 rfl Sz47 (by first | exact mem0 | exact mem1 | exact mem2 | exact mem3 | exact mem4 | exact mem5 | exact mem6 | exact mem7) (by exact rfl) (by simp [leb_length, words4_length, List.length_replicate, subB_all, padB_all, natsV_length, inn_length, out_length, ha, hb, hc, hx]) ?_
  first
    | refine Tr.loadAll rfl rfl rfl Try.underlying47 rfl Sz47 (by first | exact mem0 | exact mem1 | exact mem2 | exact mem3 | exact mem4 | exact mem5 | exact mem6 | exact mem7) (by simp [leb_length, words4_length, List.length_replicate, subB_all, padB_all, natsV_length, inn_length, out_length, ha, hb, hc, hx]) ?_
    | refine Tr.loadN _ rfl rfl rfl Try.underlying47 rfl Sz47 (by first | exact mem0 | exact mem1 | exact mem2 | exact mem3 | exact mem4 | exact mem5 | exact mem6 | exact mem7) (by exact rfl) (by simp [leb_length, words4_length, List.length_replicate, subB_all, padB_all, natsV_length, inn_length, out_length, ha, hb, hc, hx]) ?_
  refine Tr.callV rfl rfl rfl rfl Body29 (scalar_mul _ _ (by simp [leb_length, words4_length, List.length_replicate, subB_all, padB_all, natsV_length, inn_length, out_length, ha, hb, hc, hx]) (by simp [leb_length, words4_length, List.length_replicate, subB_all, padB_all, natsV_length, inn_length, out_length, ha, hb, hc, hx])) (fun _ _ => trivial) ?_
  refine Tr.callV rfl rfl rfl rfl Body33 (ref_mul _ _ (by simp [leb_length, words4_length, List.length_replicate, subB_all, padB_all, natsV_length, inn_length, out_length, ha, hb, hc, hx]) (by simp [leb_length, words4_length, List.length_replicate, subB_all, padB_all, natsV_length, inn_length, out_length, ha, hb, hc, hx])) (fun _ _ => trivial) ?_
  refine Tr.eql_bytes rfl rfl rfl rfl Try.eqGuardType47 Try.underlying47 Try.underlying5 Sz5 (by simp [leb_length, words4_length, List.length_replicate, subB_all, padB_all, natsV_length, inn_length, out_length, ha, hb, hc, hx]) (by simp [leb_length, words4_length, List.length_replicate, subB_all, padB_all, natsV_length, inn_length, out_length, ha, hb, hc, hx]) (decide_eq_true (rfl)) ?_
  refine Tr.pick rfl rfl rfl rfl rfl rfl ?_
  refine Tr.move rfl rfl rfl ?_
  first
    | refine Tr.loadAll rfl rfl rfl Try.underlying47 rfl Sz47 (by first | exact mem0 | exact mem1 | exact mem2 | exact mem3 | exact mem4 | exact mem5 | exact mem6 | exact mem7) (by simp [leb_length, words4_length, List.length_replicate, subB_all, padB_all, natsV_length, inn_length, out_length, ha, hb, hc, hx]) ?_
    | refine Tr.loadN _ rfl rfl rfl Try.underlying47 rfl Sz47 (by first | exact mem0 | exact mem1 | exact mem2 | exact mem3 | exact mem4 | exact mem5 | exact mem6 | exact mem7) (by exact rfl) (by simp [leb_length, words4_length, List.length_replicate, subB_all, padB_all, natsV_length, inn_length, out_length, ha, hb, hc, hx]) ?_
  first
    | refine Tr.loadAll rfl rfl rfl Try.underlying47 rfl Sz47 (by first | exact mem0 | exact mem1 | exact mem2 | exact mem3 | exact mem4 | exact mem5 | exact mem6 | exact mem7) (by simp [leb_length, words4_length, List.length_replicate, subB_all, padB_all, natsV_length, inn_length, out_length, ha, hb, hc, hx]) ?_
    | refine Tr.loadN _ rfl rfl rfl Try.underlying47 rfl Sz47 (by first | exact mem0 | exact mem1 | exact mem2 | exact mem3 | exact mem4 | exact mem5 | exact mem6 | exact mem7) (by exact rfl) (by simp [leb_length, words4_length, List.length_replicate, subB_all, padB_all, natsV_length, inn_length, out_length, ha, hb, hc, hx]) ?_
  first
    | refine Tr.loadAll rfl rfl rfl Try.underlying47 rfl Sz47 (by first | exact mem0 | exact mem1 | exact mem2 | exact mem3 | exact mem4 | exact mem5 | exact mem6 | exact mem7) (by simp [leb_length, words4_length, List.length_replicate, subB_all, padB_all, natsV_length, inn_length, out_length, ha, hb, hc, hx]) ?_
    | refine Tr.loadN _ rfl rfl rfl Try.underlying47 rfl Sz47 (by first | exact mem0 | exact mem1 | exact mem2 | exact mem3 | exact mem4 | exact mem5 | exact mem6 | exact mem7) (by exact rfl) (by simp [leb_length, words4_length, List.length_replicate, subB_all, padB_all, natsV_length, inn_length, out_length, ha, hb, hc, hx]) ?_
  first
    | refine Tr.loadAll rfl rfl rfl Try.underlying47 rfl Sz47 (by first | exact mem0 | exact mem1 | exact mem2 | exact mem3 | exact mem4 | exact mem5 | exact mem6 | exact mem7) (by simp [leb_length, words4_length, List.length_replicate, subB_all, padB_all, natsV_length, inn_length, out_length, ha, hb, hc, hx]) ?_
    | refine Tr.loadN _ rfl rfl rfl Try.underlying47 rfl Sz47 (by first | exact mem0 | exact mem1 | exact mem2 | exact mem3 | exact mem4 | exact mem5 | exact mem6 | exact mem7) (by exact rfl) (by simp [leb_length, words4_length, List.length_replicate, subB_all, padB_all, natsV_length, inn_length, out_length, ha, hb, hc, hx]) ?_
  first
    | refine Tr.loadAll rfl rfl rfl Try.underlying47 rfl Sz47 (by first | exact mem0 | exact mem1 | exact mem2 | exact mem3 | exact mem4 | exact mem5 | exact mem6 | exact mem7) (by simp [leb_length, words4_length, List.length_replicate, subB_all, padB_all, natsV_length, inn_length, out_length, ha, hb, hc, hx]) ?_
    | refine Tr.loadN _ rfl rfl rfl Try.underlying47 rfl Sz47 (by first | exact mem0 | exact mem1 | exact mem2 | exact mem3 | exact mem4 | exact mem5 | exact mem6 | exact mem7) (by exact rfl) (by simp [leb_length, words4_length, List.length_replicate, subB_all, padB_all, natsV_length, inn_length, out_length, ha, hb, hc, hx]) ?_
  first
    | refine Tr.loadAll rfl rfl rfl Try.underlying47 rfl Sz47 (by first | exact mem0 | exact mem1 | exact mem2 | exact mem3 | exact mem4 | exact mem5 | exact mem6 | exact mem7) (by simp [leb_length, words4_length, List.length_replicate, subB_all, padB_all, natsV_length, inn_length, out_length, ha, hb, hc, hx]) ?_
    | refine Tr.loadN _ rfl rfl rfl Try.underlying47 rfl Sz47 (by first | exact mem0 | exact mem1 | exact mem2 | exact mem3 | exact mem4 | exact mem5 | exact mem6 | exact mem7) (by exact rfl) (by simp [leb_length, words4_length, List.length_replicate, subB_all, padB_all, natsV_length, inn_length, out_length, ha, hb, hc, hx]) ?_
  refine Tr.callV rfl rfl rfl rfl Body27 (scalar_muladd _ _ _ (by simp [leb_length, words4_length, List.length_replicate, subB_all, padB_all, natsV_length, inn_length, out_length, ha, hb, hc, hx]) (by simp [leb_length, words4_length, List.length_replicate, subB_all, padB_all, natsV_length, inn_length, out_length, ha, hb, hc, hx]) (by simp [leb_length, words4_length, List.length_replicate, subB_all, padB_all, natsV_length, inn_length, out_length, ha, hb, hc, hx])) (fun _ _ => trivial) ?_
  refine Tr.callV rfl rfl rfl rfl Body34 (ref_muladd _ _ _ (by simp [leb_length, words4_length, List.length_replicate, subB_all, padB_all, natsV_length, inn_length, out_length, ha, hb, hc, hx]) (by simp [leb_length, words4_length, List.length_replicate, subB_all, padB_all, natsV_length, inn_length, out_length, ha, hb, hc, hx]) (by simp [leb_length, words4_length, List.length_replicate, subB_all, padB_all, natsV_length, inn_length, out_length, ha, hb, hc, hx])) (fun _ _ => trivial) ?_
  refine Tr.eql_bytes rfl rfl rfl rfl Try.eqGuardType47 Try.underlying47 Try.underlying5 Sz5 (by simp [leb_length, words4_length, List.length_replicate, subB_all, padB_all, natsV_length, inn_length, out_length, ha, hb, hc, hx]) (by simp [leb_length, words4_length, List.length_replicate, subB_all, padB_all, natsV_length, inn_length, out_length, ha, hb, hc, hx]) (decide_eq_true (rfl)) ?_
  refine Tr.pick rfl rfl rfl rfl rfl rfl ?_
  refine Tr.move rfl rfl rfl ?_
  first
    | refine Tr.loadAll rfl rfl rfl Try.underlying47 rfl Sz47 (by first | exact mem0 | exact mem1 | exact mem2 | exact mem3 | exact mem4 | exact mem5 | exact mem6 | exact mem7) (by simp [leb_length, words4_length, List.length_replicate, subB_all, padB_all, natsV_length, inn_length, out_length, ha, hb, hc, hx]) ?_
    | refine Tr.loadN _ rfl rfl rfl Try.underlying47 rfl Sz47 (by first | exact mem0 | exact mem1 | exact mem2 | exact mem3 | exact mem4 | exact mem5 | exact mem6 | exact mem7) (by exact rfl) (by simp [leb_length, words4_length, List.length_replicate, subB_all, padB_all, natsV_length, inn_length, out_length, ha, hb, hc, hx]) ?_
  first
    | refine Tr.loadAll rfl rfl rfl Try.underlying47 rfl Sz47 (by first | exact mem0 | exact mem1 | exact mem2 | exact mem3 | exact mem4 | exact mem5 | exact mem6 | exact mem7) (by simp [leb_length, words4_length, List.length_replicate, subB_all, padB_all, natsV_length, inn_length, out_length, ha, hb, hc, hx]) ?_
    | refine Tr.loadN _ rfl rfl rfl Try.underlying47 rfl Sz47 (by first | exact mem0 | exact mem1 | exact mem2 | exact mem3 | exact mem4 | exact mem5 | exact mem6 | exact mem7) (by exact rfl) (by simp [leb_length, words4_length, List.length_replicate, subB_all, padB_all, natsV_length, inn_length, out_length, ha, hb, hc, hx]) ?_
  refine Tr.callV rfl rfl rfl rfl Body24 (scalar_neg _ (by simp [leb_length, words4_length, List.length_replicate, subB_all, padB_all, natsV_length, inn_length, out_length, ha, hb, hc, hx])) (fun _ _ => trivial) ?_
  refine Tr.callV rfl rfl rfl rfl Body35 (ref_neg _ (by simp [leb_length, words4_length, List.length_replicate, subB_all, padB_all, natsV_length, inn_length, out_length, ha, hb, hc, hx])) (fun _ _ => trivial) ?_
  refine Tr.eql_bytes rfl rfl rfl rfl Try.eqGuardType47 Try.underlying47 Try.underlying5 Sz5 (by simp [leb_length, words4_length, List.length_replicate, subB_all, padB_all, natsV_length, inn_length, out_length, ha, hb, hc, hx]) (by simp [leb_length, words4_length, List.length_replicate, subB_all, padB_all, natsV_length, inn_length, out_length, ha, hb, hc, hx]) (decide_eq_true (rfl)) ?_
  refine Tr.pick rfl rfl rfl rfl rfl rfl ?_
  refine Tr.move rfl rfl rfl ?_
  first
    | refine Tr.loadAll rfl rfl rfl Try.underlying47 rfl Sz47 (by first | exact mem0 | exact mem1 | exact mem2 | exact mem3 | exact mem4 | exact mem5 | exact mem6 | exact mem7) (by simp [leb_length, words4_length, List.length_replicate, subB_all, padB_all, natsV_length, inn_length, out_length, ha, hb, hc, hx]) ?_
    | refine Tr.loadN _ rfl rfl rfl Try.underlying47 rfl Sz47 (by first | exact mem0 | exact mem1 | exact mem2 | exact mem3 | exact mem4 | exact mem5 | exact mem6 | exact mem7) (by exact rfl) (by simp [leb_length, words4_length, List.length_replicate, subB_all, padB_all, natsV_length, inn_length, out_length, ha, hb, hc, hx]) ?_
  refine Tr.move rfl rfl rfl ?_
  first
    | refine Tr.loadAll rfl rfl rfl Try.underlying47 rfl Sz47 (by first | exact mem0 | exact mem1 | exact mem2 | exact mem3 | exact mem4 | exact mem5 | exact mem6 | exact mem7) (by simp [leb_length, words4_length, List.length_replicate, subB_all, padB_all, natsV_length, inn_length, out_length, ha, hb, hc, hx]) ?_
    | refine Tr.loadN _ rfl rfl rfl Try.underlying47 rfl Sz47 (by first | exact mem0 | exact mem1 | exact mem2 | exact mem3 | exact mem4 | exact mem5 | exact mem6 | exact mem7) (by exact rfl) (by simp [leb_length, words4_length, List.length_replicate, subB_all, padB_all, natsV_length, inn_length, out_length, ha, hb, hc, hx]) ?_
  refine Tr.move rfl rfl rfl ?_
  refine Tr.callV rfl rfl rfl rfl Body26 (scalar_bit _ (by simp [leb_length, words4_length, List.length_replicate, subB_all, padB_all, natsV_length, inn_length, out_length, ha, hb, hc, hx]) _) (fun _ _ => trivial) ?_
  refine Tr.callV rfl rfl rfl rfl Body36 (ref_bit _ (by simp [leb_length, words4_length, List.length_replicate, subB_all, padB_all, natsV_length, inn_length, out_length, ha, hb, hc, hx]) _) (fun _ _ => trivial) ?_
  refine Tr.eqb (r := true) rfl rfl rfl rfl Try.underlying4 (beq_self_eq_true _) ?_
  refine Tr.pick rfl rfl rfl rfl rfl rfl ?_
  refine Tr.assign rfl rfl rfl ?_
  refine Tr.nil ?_
  refine at_n ?_
  refine Sat.ret ?_
  refine en_r ?_
  refine ⟨_, [], res_tmp rfl rfl, (by simp), (by simp), ?_, rfl⟩
  rfl

set_option maxRecDepth 100000 in
set_option maxHeartbeats 1000000 in
theorem law_calls_long (a b c : List UInt8) (ha : a.length = 32) (hb : b.length = 32) (hc : c.length = 32) (i : Int)(bb o cc n : Nat) (hn : 100 < n) : Meets Try.prog 9 [agg (bytesV a), agg (bytesV b), agg (bytesV c), .slice (some ⟨bb, o, none⟩) n cc, i64 i] [] (fun _ => True) (fun v out => v = .bool true ∧ out = []) := by
  intro W hW
  refine calls_of (hp0 := []) Try.func9 rfl 92 Try.ntmps9 rfl (HRep.nil _) ?_
  refine Sat.seq ?_
  -- region 0
  refine Sat.region ?_
  refine Tr.boxA rfl rfl ?_
  intro n5 hn5 hf5
  refine Tr.boxA rfl rfl ?_
  intro n6 hn6 hf6
  refine Tr.boxA rfl rfl ?_
  intro n7 hn7 hf7
  refine Tr.assign rfl rfl rfl ?_
  refine Tr.nil ?_
  refine at_n ?_
  refine Sat.seq ?_
  refine Sat.seq ?_
  -- region 1
  refine Sat.region ?_
  refine Tr.callV rfl rfl rfl rfl Body22 (law_lives) (fun _ _ => trivial) ?_
  refine Tr.not rfl rfl rfl ?_
  refine Tr.nil ?_
  refine at_n ?_
  refine Sat.cond_f rfl (rfl) ?_
  refine Sat.skip ?_
  refine at_n ?_
  refine Sat.seq ?_
  refine Sat.seq ?_
  -- region 3
  refine Sat.region ?_
  refine Tr.move rfl rfl rfl ?_
  refine Tr.lenSl rfl rfl rfl Try.underlying27 ?_
  refine Tr.gtr rfl rfl rfl rfl (decide_eq_true (by omega)) ?_
  refine Tr.nil ?_
  refine at_n ?_
  refine Sat.cond_t rfl (rfl) ?_
  refine Sat.seq ?_
  -- region 4
  refine Sat.region ?_
  refine Tr.assign rfl rfl rfl ?_
  refine Tr.nil ?_
  refine at_n ?_
  refine Sat.ret ?_
  refine at_r ?_
  refine en_r ?_
  refine ⟨_, [], res_tmp rfl rfl, (by simp), (by simp), ?_, rfl⟩
  rfl

end Go.Proofs.Ytjeggfgbcafenaa
