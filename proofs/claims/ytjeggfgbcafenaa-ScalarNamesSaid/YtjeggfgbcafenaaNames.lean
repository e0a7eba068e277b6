/- What ScalarNames returns. Conditions: none. -/
import Derived.Test.YtjeggfgbcafenaaLaw04
namespace Go.Proofs.Ytjeggfgbcafenaa
open Go Hw
set_option linter.unusedVariables false
set_option linter.unusedSimpArgs false

set_option maxRecDepth 100000 in
set_option maxHeartbeats 1000000 in
theorem law_names  : Meets Try.prog 5 [] [] (fun _ => True) (fun v out => v = .bool true ∧ out = []) := by
  intro W hW
  obtain ⟨l, cl, hl, el⟩ := scalar_L_ex
  have ll : le l = L := by rw [el]; exact le_leb32 L_lt
  obtain ⟨z, cz, hz, ez⟩ := scalar_rest_nil_ex
  obtain ⟨s1, c1, h1, e1⟩ := law_small_ex 1
  have l1 : le s1 = 1 := by rw [e1]; decide
  obtain ⟨s3, c3, h3, e3⟩ := law_small_ex 3
  have l3 : le s3 = 3 := by rw [e3]; decide
  obtain ⟨s4, c4, h4, e4⟩ := law_small_ex 4
  have l4 : le s4 = 4 := by rw [e4]; decide
  obtain ⟨s5, c5, h5, e5⟩ := law_small_ex 5
  have l5 : le s5 = 5 := by rw [e5]; decide
  obtain ⟨s17, c17, h17, e17⟩ := law_small_ex 17
  have l17 : le s17 = 17 := by rw [e17]; decide
  have cL := scalar_canon l hl
  rw [ll, decide_eq_false (Nat.lt_irrefl _)] at cL
  have cN := scalar_canon (leb 32 ((L - le s1 % L) % L)) (leb_length 32 _)
  rw [le_leb32 (lm _), decide_eq_true (Nat.mod_lt _ L_pos)] at cN
  have b2 := scalar_bit s4 h4 2
  rw [l4, show bitV 4 2 = true by decide] at b2
  have b3 := scalar_bit s4 h4 3
  rw [l4, show bitV 4 3 = false by decide] at b3
  have bm := scalar_bit s4 h4 (-1)
  rw [l4, show bitV 4 (-1) = false by decide] at bm
  have bb := scalar_bit s4 h4 256
  rw [l4, show bitV 4 256 = false by decide] at bb
  refine calls_of (hp0 := []) Try.func5 rfl 72 Try.ntmps5 rfl (HRep.nil _) ?_
  refine Sat.seq ?_
  -- region 0
  refine Sat.region ?_
  refine Tr.assign rfl rfl rfl ?_
  refine Tr.nil ?_
  refine at_n ?_
  refine Sat.seq ?_
  -- region 1
  refine Sat.region ?_
  refine Tr.callV rfl rfl rfl rfl Body20 (cl) (fun _ _ => trivial) ?_
  refine Tr.alloc (cs := (bytesV (List.replicate 32 0))) rfl Zr47 rfl ?_
  intro n1 hn1 hf1
  first
    | refine Tr.storeAll rfl rfl rfl rfl (by simp [isCell]) Sz47 (by simp [leb_length, words4_length, List.length_replicate, subB_all, padB_all, hl, h1, h3, h4, h5, h17, hz]) (by first | exact mem0 | exact mem1 | exact mem2 | exact mem3 | exact mem4 | exact mem5 | exact mem6 | exact mem7) (by simp [leb_length, words4_length, List.length_replicate, subB_all, padB_all, hl, h1, h3, h4, h5, h17, hz]) (by first | exact upd0 | exact upd1 | exact upd2 | exact upd3 | exact upd4 | exact upd5 | exact upd6 | exact upd7) ?_
    | refine Tr.storeN _ rfl rfl rfl rfl rfl (by simp [isCell]) Sz47 (by simp [leb_length, words4_length, List.length_replicate, subB_all, padB_all, hl, h1, h3, h4, h5, h17, hz]) (by first | exact mem0 | exact mem1 | exact mem2 | exact mem3 | exact mem4 | exact mem5 | exact mem6 | exact mem7) (by simp [leb_length, words4_length, List.length_replicate, subB_all, padB_all, hl, h1, h3, h4, h5, h17, hz]) (by exact rfl) (by first | exact upd0 | exact upd1 | exact upd2 | exact upd3 | exact upd4 | exact upd5 | exact upd6 | exact upd7) ?_
  refine Tr.nil ?_
  refine at_n ?_
  refine Sat.seq ?_
  -- region 2
  refine Sat.region ?_
  refine Tr.callV rfl rfl rfl rfl Body21 (cz) (fun _ _ => trivial) ?_
  refine Tr.move rfl rfl rfl ?_
  refine Tr.extract rfl rfl rfl rfl ?_
  refine Tr.extract rfl rfl rfl rfl ?_
  refine Tr.alloc (cs := (bytesV (List.replicate 32 0))) rfl Zr47 rfl ?_
  intro n2 hn2 hf2
  first
    | refine Tr.storeAll rfl rfl rfl rfl (by simp [isCell]) Sz47 (by simp [leb_length, words4_length, List.length_replicate, subB_all, padB_all, hl, h1, h3, h4, h5, h17, hz]) (by first | exact mem0 | exact mem1 | exact mem2 | exact mem3 | exact mem4 | exact mem5 | exact mem6 | exact mem7) (by simp [leb_length, words4_length, List.length_replicate, subB_all, padB_all, hl, h1, h3, h4, h5, h17, hz]) (by first | exact upd0 | exact upd1 | exact upd2 | exact upd3 | exact upd4 | exact upd5 | exact upd6 | exact upd7) ?_
    | refine Tr.storeN _ rfl rfl rfl rfl rfl (by simp [isCell]) Sz47 (by simp [leb_length, words4_length, List.length_replicate, subB_all, padB_all, hl, h1, h3, h4, h5, h17, hz]) (by first | exact mem0 | exact mem1 | exact mem2 | exact mem3 | exact mem4 | exact mem5 | exact mem6 | exact mem7) (by simp [leb_length, words4_length, List.length_replicate, subB_all, padB_all, hl, h1, h3, h4, h5, h17, hz]) (by exact rfl) (by first | exact upd0 | exact upd1 | exact upd2 | exact upd3 | exact upd4 | exact upd5 | exact upd6 | exact upd7) ?_
  refine Tr.assign rfl rfl rfl ?_
  refine Tr.nil ?_
  refine at_n ?_
  refine Sat.seq ?_
  -- region 3
  refine Sat.region ?_
  refine Tr.callV rfl rfl rfl rfl Body22 (law_lives) (fun _ _ => trivial) ?_
  refine Tr.move rfl rfl rfl ?_
  first
    | refine Tr.idxArr1 rfl rfl rfl rfl Try.underlying47 Sz5 0 rfl (by decide) ?_
    | refine Tr.idxArrO rfl rfl rfl rfl Try.underlying47 Sz5 0 rfl (by decide) ?_
  refine Tr.load1 rfl rfl rfl Try.underlying5 rfl (by first | exact mem0 | exact mem1 | exact mem2 | exact mem3 | exact mem4 | exact mem5 | exact mem6 | exact mem7) (by first | rfl | exact get_words (by first | omega | (simp [leb_length, words4_length, List.length_replicate, subB_all, padB_all, hl, h1, h3, h4, h5, h17, hz]; done) | (simp [leb_length, words4_length, List.length_replicate, subB_all, padB_all, hl, h1, h3, h4, h5, h17, hz]; omega)) | exact get_bytes (by first | omega | (simp [leb_length, words4_length, List.length_replicate, subB_all, padB_all, hl, h1, h3, h4, h5, h17, hz]; done) | (simp [leb_length, words4_length, List.length_replicate, subB_all, padB_all, hl, h1, h3, h4, h5, h17, hz]; omega)) | exact get_ints (by first | omega | (simp [leb_length, words4_length, List.length_replicate, subB_all, padB_all, hl, h1, h3, h4, h5, h17, hz]; done) | (simp [leb_length, words4_length, List.length_replicate, subB_all, padB_all, hl, h1, h3, h4, h5, h17, hz]; omega))) ?_
  refine Tr.eqi rfl rfl rfl rfl (decide_eq_true (by rw [el]; decide)) ?_
  refine Tr.pick rfl rfl rfl rfl rfl rfl ?_
  refine Tr.move rfl rfl rfl ?_
  first
    | refine Tr.idxArr1 rfl rfl rfl rfl Try.underlying47 Sz5 31 rfl (by decide) ?_
    | refine Tr.idxArrO rfl rfl rfl rfl Try.underlying47 Sz5 31 rfl (by decide) ?_
  refine Tr.load1 rfl rfl rfl Try.underlying5 rfl (by first | exact mem0 | exact mem1 | exact mem2 | exact mem3 | exact mem4 | exact mem5 | exact mem6 | exact mem7) (by first | rfl | exact get_words (by first | omega | (simp [leb_length, words4_length, List.length_replicate, subB_all, padB_all, hl, h1, h3, h4, h5, h17, hz]; done) | (simp [leb_length, words4_length, List.length_replicate, subB_all, padB_all, hl, h1, h3, h4, h5, h17, hz]; omega)) | exact get_bytes (by first | omega | (simp [leb_length, words4_length, List.length_replicate, subB_all, padB_all, hl, h1, h3, h4, h5, h17, hz]; done) | (simp [leb_length, words4_length, List.length_replicate, subB_all, padB_all, hl, h1, h3, h4, h5, h17, hz]; omega)) | exact get_ints (by first | omega | (simp [leb_length, words4_length, List.length_replicate, subB_all, padB_all, hl, h1, h3, h4, h5, h17, hz]; done) | (simp [leb_length, words4_length, List.length_replicate, subB_all, padB_all, hl, h1, h3, h4, h5, h17, hz]; omega))) ?_
  refine Tr.eqi rfl rfl rfl rfl (decide_eq_true (by rw [el]; decide)) ?_
  refine Tr.pick rfl rfl rfl rfl rfl rfl ?_
  refine Tr.move rfl rfl rfl ?_
  first
    | refine Tr.loadAll rfl rfl rfl Try.underlying47 rfl Sz47 (by first | exact mem0 | exact mem1 | exact mem2 | exact mem3 | exact mem4 | exact mem5 | exact mem6 | exact mem7) (by simp [leb_length, words4_length, List.length_replicate, subB_all, padB_all, hl, h1, h3, h4, h5, h17, hz]) ?_
    | refine Tr.loadN _ rfl rfl rfl Try.underlying47 rfl Sz47 (by first | exact mem0 | exact mem1 | exact mem2 | exact mem3 | exact mem4 | exact mem5 | exact mem6 | exact mem7) (by exact rfl) (by simp [leb_length, words4_length, List.length_replicate, subB_all, padB_all, hl, h1, h3, h4, h5, h17, hz]) ?_
  refine Tr.callV rfl rfl rfl rfl Body23 (cL) (fun _ _ => trivial) ?_
  refine Tr.not rfl rfl rfl ?_
  refine Tr.pick rfl rfl rfl rfl rfl rfl ?_
  refine Tr.move rfl rfl rfl ?_
  refine Tr.callV rfl rfl rfl rfl Body25 (c1) (fun _ _ => trivial) ?_
  refine Tr.callV rfl rfl rfl rfl Body24 (scalar_neg _ (by simp [leb_length, words4_length, List.length_replicate, subB_all, padB_all, hl, h1, h3, h4, h5, h17, hz])) (fun _ _ => trivial) ?_
  refine Tr.callV rfl rfl rfl rfl Body23 (cN) (fun _ _ => trivial) ?_
  refine Tr.pick rfl rfl rfl rfl rfl rfl ?_
  refine Tr.move rfl rfl rfl ?_
  refine Tr.move rfl rfl rfl ?_
  refine Tr.eqi rfl rfl rfl rfl (decide_eq_true (rfl)) ?_
  refine Tr.pick rfl rfl rfl rfl rfl rfl ?_
  refine Tr.move rfl rfl rfl ?_
  first
    | refine Tr.loadAll rfl rfl rfl Try.underlying47 rfl Sz47 (by first | exact mem0 | exact mem1 | exact mem2 | exact mem3 | exact mem4 | exact mem5 | exact mem6 | exact mem7) (by simp [leb_length, words4_length, List.length_replicate, subB_all, padB_all, hl, h1, h3, h4, h5, h17, hz]) ?_
    | refine Tr.loadN _ rfl rfl rfl Try.underlying47 rfl Sz47 (by first | exact mem0 | exact mem1 | exact mem2 | exact mem3 | exact mem4 | exact mem5 | exact mem6 | exact mem7) (by exact rfl) (by simp [leb_length, words4_length, List.length_replicate, subB_all, padB_all, hl, h1, h3, h4, h5, h17, hz]) ?_
  refine Tr.build (cs := bytesV (List.replicate 32 0)) rfl rfl rfl (fun w => by kernel_rfl) ?_
  refine Tr.eql_bytes rfl rfl rfl rfl Try.eqGuardType47 Try.underlying47 Try.underlying5 Sz5 (by simp [leb_length, words4_length, List.length_replicate, subB_all, padB_all, hl, h1, h3, h4, h5, h17, hz]) (by simp [leb_length, words4_length, List.length_replicate, subB_all, padB_all, hl, h1, h3, h4, h5, h17, hz]) (decide_eq_true (by rw [ez]; decide)) ?_
  refine Tr.pick rfl rfl rfl rfl rfl rfl ?_
  refine Tr.move rfl rfl rfl ?_
  refine Tr.callV rfl rfl rfl rfl Body25 (c4) (fun _ _ => trivial) ?_
  refine Tr.callV rfl rfl rfl rfl Body26 (b2) (fun _ _ => trivial) ?_
  refine Tr.pick rfl rfl rfl rfl rfl rfl ?_
  refine Tr.move rfl rfl rfl ?_
  refine Tr.callV rfl rfl rfl rfl Body25 (c4) (fun _ _ => trivial) ?_
  refine Tr.callV rfl rfl rfl rfl Body26 (b3) (fun _ _ => trivial) ?_
  refine Tr.not rfl rfl rfl ?_
  refine Tr.pick rfl rfl rfl rfl rfl rfl ?_
  refine Tr.move rfl rfl rfl ?_
  refine Tr.callV rfl rfl rfl rfl Body25 (c4) (fun _ _ => trivial) ?_
  refine Tr.callV rfl rfl rfl rfl Body26 (bm) (fun _ _ => trivial) ?_
  refine Tr.not rfl rfl rfl ?_
  refine Tr.pick rfl rfl rfl rfl rfl rfl ?_
  refine Tr.move rfl rfl rfl ?_
  refine Tr.callV rfl rfl rfl rfl Body25 (c4) (fun _ _ => trivial) ?_
  refine Tr.callV rfl rfl rfl rfl Body26 (bb) (fun _ _ => trivial) ?_
  refine Tr.not rfl rfl rfl ?_
  refine Tr.pick rfl rfl rfl rfl rfl rfl ?_
  refine Tr.move rfl rfl rfl ?_
  refine Tr.callV rfl rfl rfl rfl Body25 (c3) (fun _ _ => trivial) ?_
  refine Tr.callV rfl rfl rfl rfl Body25 (c4) (fun _ _ => trivial) ?_
  refine Tr.callV rfl rfl rfl rfl Body25 (c5) (fun _ _ => trivial) ?_
  refine Tr.callV rfl rfl rfl rfl Body27 (scalar_muladd _ _ _ (by simp [leb_length, words4_length, List.length_replicate, subB_all, padB_all, hl, h1, h3, h4, h5, h17, hz]) (by simp [leb_length, words4_length, List.length_replicate, subB_all, padB_all, hl, h1, h3, h4, h5, h17, hz]) (by simp [leb_length, words4_length, List.length_replicate, subB_all, padB_all, hl, h1, h3, h4, h5, h17, hz])) (fun _ _ => trivial) ?_
  refine Tr.callV rfl rfl rfl rfl Body25 (c17) (fun _ _ => trivial) ?_
  refine Tr.eql_bytes rfl rfl rfl rfl Try.eqGuardType47 Try.underlying47 Try.underlying5 Sz5 (by simp [leb_length, words4_length, List.length_replicate, subB_all, padB_all, hl, h1, h3, h4, h5, h17, hz]) (by simp [leb_length, words4_length, List.length_replicate, subB_all, padB_all, hl, h1, h3, h4, h5, h17, hz]) (decide_eq_true (by rw [l3, l4, l5, e17]; decide)) ?_
  refine Tr.pick rfl rfl rfl rfl rfl rfl ?_
  refine Tr.move rfl rfl rfl ?_
  first
    | refine Tr.loadAll rfl rfl rfl Try.underlying47 rfl Sz47 (by first | exact mem0 | exact mem1 | exact mem2 | exact mem3 | exact mem4 | exact mem5 | exact mem6 | exact mem7) (by simp [leb_length, words4_length, List.length_replicate, subB_all, padB_all, hl, h1, h3, h4, h5, h17, hz]) ?_
    | refine Tr.loadN _ rfl rfl rfl Try.underlying47 rfl Sz47 (by first | exact mem0 | exact mem1 | exact mem2 | exact mem3 | exact mem4 | exact mem5 | exact mem6 | exact mem7) (by exact rfl) (by simp [leb_length, words4_length, List.length_replicate, subB_all, padB_all, hl, h1, h3, h4, h5, h17, hz]) ?_
  refine Tr.callV rfl rfl rfl rfl Body24 (scalar_neg _ (by simp [leb_length, words4_length, List.length_replicate, subB_all, padB_all, hl, h1, h3, h4, h5, h17, hz])) (fun _ _ => trivial) ?_
  refine Tr.build (cs := bytesV (List.replicate 32 0)) rfl rfl rfl (fun w => by kernel_rfl) ?_
  refine Tr.eql_bytes rfl rfl rfl rfl Try.eqGuardType47 Try.underlying47 Try.underlying5 Sz5 (by simp [leb_length, words4_length, List.length_replicate, subB_all, padB_all, hl, h1, h3, h4, h5, h17, hz]) (by simp [leb_length, words4_length, List.length_replicate, subB_all, padB_all, hl, h1, h3, h4, h5, h17, hz]) (decide_eq_true (by rw [ll, Nat.mod_self, Nat.sub_zero, Nat.mod_self]; decide)) ?_
  refine Tr.pick rfl rfl rfl rfl rfl rfl ?_
  refine Tr.assign rfl rfl rfl ?_
  refine Tr.nil ?_
  refine at_n ?_
  refine Sat.ret ?_
  refine en_r ?_
  refine ⟨_, [], res_tmp rfl rfl, (by simp), (by simp), ?_, rfl⟩
  rfl

end Go.Proofs.Ytjeggfgbcafenaa
