/- Contracts of package scalar: L, Canon, Add, Mul, Neg, Rest, Bit. Conditions: the lengths of arrays. -/
import Derived.Test.YtjeggfgbcafenaaScal2
import Derived.Test.YtjeggfgbcafenaaSDef2
namespace Go.Proofs.Ytjeggfgbcafenaa
open Go Hw
set_option linter.unusedVariables false
set_option linter.unusedSimpArgs false

set_option maxRecDepth 100000 in
set_option maxHeartbeats 1000000 in
theorem scalar_L  : Meets Try.prog 20 [] [] (fun _ => True) (fun v out => v = agg (bytesV (leb 32 L)) ∧ out = []) := by
  intro W hW
  refine calls_of (hp0 := []) Try.func20 rfl 3 Try.ntmps20 rfl (HRep.nil _) ?_
  refine Sat.seq ?_
  -- region 0
  refine Sat.region ?_
  refine Tr.alloc (cs := (bytesV (List.replicate 32 0))) rfl Zr47 rfl ?_
  intro n0 hn0 hf0
  refine Tr.nil ?_
  refine at_n ?_
  refine Sat.seq ?_
  -- region 1
  refine Sat.region ?_
  refine Tr.callV rfl rfl rfl rfl Body44 (scalar_modulus_n) (fun _ _ => trivial) ?_
  refine Tr.callV rfl rfl rfl rfl Body45 (scalar_store_n _) (fun _ _ => trivial) ?_
  first
    | refine Tr.storeAll rfl rfl rfl rfl (by simp [isCell]) Sz47 (by simp [leb_length, words4_length, words8_length, List.length_replicate]) (by first | exact mem0 | exact mem1 | exact mem2 | exact mem3 | exact mem4 | exact mem5 | exact mem6 | exact mem7) (by simp [leb_length, words4_length, words8_length, List.length_replicate]) (by first | exact upd0 | exact upd1 | exact upd2 | exact upd3 | exact upd4 | exact upd5 | exact upd6 | exact upd7) ?_
    | refine Tr.storeN _ rfl rfl rfl rfl rfl (by simp [isCell]) Sz47 (by simp [leb_length, words4_length, words8_length, List.length_replicate]) (by first | exact mem0 | exact mem1 | exact mem2 | exact mem3 | exact mem4 | exact mem5 | exact mem6 | exact mem7) (by simp [leb_length, words4_length, words8_length, List.length_replicate]) (by exact rfl) (by first | exact upd0 | exact upd1 | exact upd2 | exact upd3 | exact upd4 | exact upd5 | exact upd6 | exact upd7) ?_
  refine Tr.nil ?_
  refine at_n ?_
  refine Sat.ret ?_
  refine en_r ?_
  refine ⟨_, [], res_cell rfl rfl Try.underlying47 rfl Sz47 (by first | exact mem0 | exact mem1 | exact mem2 | exact mem3 | exact mem4 | exact mem5 | exact mem6 | exact mem7) (by simp [leb_length, words4_length, words8_length, List.length_replicate]), (by simp), (by simp), ?_, rfl⟩
  rfl

set_option maxRecDepth 100000 in
set_option maxHeartbeats 1000000 in
theorem scalar_canon (a : List UInt8) (ha : a.length = 32) : Meets Try.prog 23 [agg (bytesV a)] [] (fun _ => True) (fun v out => v = .bool (decide (le a < L)) ∧ out = []) := by
  intro W hW
  refine calls_of (hp0 := []) Try.func23 rfl 7 Try.ntmps23 rfl (HRep.nil _) ?_
  refine Sat.seq ?_
  -- region 0
  refine Sat.region ?_
  refine Tr.boxA rfl rfl ?_
  intro n1 hn1 hf1
  refine Tr.assign rfl rfl rfl ?_
  refine Tr.nil ?_
  refine at_n ?_
  refine Sat.seq ?_
  -- region 1
  refine Sat.region ?_
  first
    | refine Tr.loadAll rfl rfl rfl Try.underlying47 rfl Sz47 (by first | exact mem0 | exact mem1 | exact mem2 | exact mem3 | exact mem4 | exact mem5 | exact mem6 | exact mem7) (by simp [leb_length, words4_length, words8_length, List.length_replicate, ha]) ?_
    | refine Tr.loadN _ rfl rfl rfl Try.underlying47 rfl Sz47 (by first | exact mem0 | exact mem1 | exact mem2 | exact mem3 | exact mem4 | exact mem5 | exact mem6 | exact mem7) (by exact rfl) (by simp [leb_length, words4_length, words8_length, List.length_replicate, ha]) ?_
  refine Tr.callV rfl rfl rfl rfl Body47 (scalar_load_n _ (by simp [leb_length, words4_length, words8_length, List.length_replicate, ha])) (fun _ _ => trivial) ?_
  refine Tr.callV rfl rfl rfl rfl Body44 (scalar_modulus_n) (fun _ _ => trivial) ?_
  refine Tr.callV rfl rfl rfl rfl Body48 (scalar_below_n _ _ (le32 ha) L_lt) (fun _ _ => trivial) ?_
  refine Tr.assign rfl rfl rfl ?_
  refine Tr.nil ?_
  refine at_n ?_
  refine Sat.ret ?_
  refine en_r ?_
  refine ⟨_, [], res_tmp rfl rfl, (by simp), (by simp), ?_, rfl⟩
  rfl

set_option maxRecDepth 100000 in
set_option maxHeartbeats 1000000 in
theorem scalar_add (a b : List UInt8) (ha : a.length = 32) (hb : b.length = 32) : Meets Try.prog 28 [agg (bytesV a), agg (bytesV b)] [] (fun _ => True) (fun v out => v = agg (bytesV (leb 32 ((le a + le b) % L))) ∧ out = []) := by
  intro W hW
  refine calls_of (hp0 := []) Try.func28 rfl 9 Try.ntmps28 rfl (HRep.nil _) ?_
  refine Sat.seq ?_
  -- region 0
  refine Sat.region ?_
  refine Tr.boxA rfl rfl ?_
  intro n2 hn2 hf2
  refine Tr.boxA rfl rfl ?_
  intro n3 hn3 hf3
  refine Tr.alloc (cs := (bytesV (List.replicate 32 0))) rfl Zr47 rfl ?_
  intro n4 hn4 hf4
  refine Tr.nil ?_
  refine at_n ?_
  refine Sat.seq ?_
  -- region 1
  refine Sat.region ?_
  first
    | refine Tr.loadAll rfl rfl rfl Try.underlying47 rfl Sz47 (by first | exact mem0 | exact mem1 | exact mem2 | exact mem3 | exact mem4 | exact mem5 | exact mem6 | exact mem7) (by simp [leb_length, words4_length, words8_length, List.length_replicate, ha, hb]) ?_
    | refine Tr.loadN _ rfl rfl rfl Try.underlying47 rfl Sz47 (by first | exact mem0 | exact mem1 | exact mem2 | exact mem3 | exact mem4 | exact mem5 | exact mem6 | exact mem7) (by exact rfl) (by simp [leb_length, words4_length, words8_length, List.length_replicate, ha, hb]) ?_
  refine Tr.build (cs := bytesV (1 :: List.replicate 31 0)) rfl rfl rfl (fun w => by kernel_rfl) ?_
  first
    | refine Tr.loadAll rfl rfl rfl Try.underlying47 rfl Sz47 (by first | exact mem0 | exact mem1 | exact mem2 | exact mem3 | exact mem4 | exact mem5 | exact mem6 | exact mem7) (by simp [leb_length, words4_length, words8_length, List.length_replicate, ha, hb]) ?_
    | refine Tr.loadN _ rfl rfl rfl Try.underlying47 rfl Sz47 (by first | exact mem0 | exact mem1 | exact mem2 | exact mem3 | exact mem4 | exact mem5 | exact mem6 | exact mem7) (by exact rfl) (by simp [leb_length, words4_length, words8_length, List.length_replicate, ha, hb]) ?_
  refine Tr.callV rfl rfl rfl rfl Body27 (scalar_muladd _ (1 :: List.replicate 31 0) _ ha rfl hb) (fun _ _ => trivial) ?_
  first
    | refine Tr.storeAll rfl rfl rfl rfl (by simp [isCell]) Sz47 (by simp [leb_length, words4_length, words8_length, List.length_replicate, ha, hb]) (by first | exact mem0 | exact mem1 | exact mem2 | exact mem3 | exact mem4 | exact mem5 | exact mem6 | exact mem7) (by simp [leb_length, words4_length, words8_length, List.length_replicate, ha, hb]) (by first | exact upd0 | exact upd1 | exact upd2 | exact upd3 | exact upd4 | exact upd5 | exact upd6 | exact upd7) ?_
    | refine Tr.storeN _ rfl rfl rfl rfl rfl (by simp [isCell]) Sz47 (by simp [leb_length, words4_length, words8_length, List.length_replicate, ha, hb]) (by first | exact mem0 | exact mem1 | exact mem2 | exact mem3 | exact mem4 | exact mem5 | exact mem6 | exact mem7) (by simp [leb_length, words4_length, words8_length, List.length_replicate, ha, hb]) (by exact rfl) (by first | exact upd0 | exact upd1 | exact upd2 | exact upd3 | exact upd4 | exact upd5 | exact upd6 | exact upd7) ?_
  refine Tr.nil ?_
  refine at_n ?_
  refine Sat.ret ?_
  refine en_r ?_
  refine ⟨_, [], res_cell rfl rfl Try.underlying47 rfl Sz47 (by first | exact mem0 | exact mem1 | exact mem2 | exact mem3 | exact mem4 | exact mem5 | exact mem6 | exact mem7) (by simp [leb_length, words4_length, words8_length, List.length_replicate, ha, hb]), (by simp), (by simp), ?_, rfl⟩
  rw [le_one, Nat.mul_one]

set_option maxRecDepth 100000 in
set_option maxHeartbeats 1000000 in
theorem scalar_mul (a b : List UInt8) (ha : a.length = 32) (hb : b.length = 32) : Meets Try.prog 29 [agg (bytesV a), agg (bytesV b)] [] (fun _ => True) (fun v out => v = agg (bytesV (leb 32 (le a * le b % L))) ∧ out = []) := by
  intro W hW
  refine calls_of (hp0 := []) Try.func29 rfl 9 Try.ntmps29 rfl (HRep.nil _) ?_
  refine Sat.seq ?_
  -- region 0
  refine Sat.region ?_
  refine Tr.boxA rfl rfl ?_
  intro n2 hn2 hf2
  refine Tr.boxA rfl rfl ?_
  intro n3 hn3 hf3
  refine Tr.alloc (cs := (bytesV (List.replicate 32 0))) rfl Zr47 rfl ?_
  intro n4 hn4 hf4
  refine Tr.nil ?_
  refine at_n ?_
  refine Sat.seq ?_
  -- region 1
  refine Sat.region ?_
  first
    | refine Tr.loadAll rfl rfl rfl Try.underlying47 rfl Sz47 (by first | exact mem0 | exact mem1 | exact mem2 | exact mem3 | exact mem4 | exact mem5 | exact mem6 | exact mem7) (by simp [leb_length, words4_length, words8_length, List.length_replicate, ha, hb]) ?_
    | refine Tr.loadN _ rfl rfl rfl Try.underlying47 rfl Sz47 (by first | exact mem0 | exact mem1 | exact mem2 | exact mem3 | exact mem4 | exact mem5 | exact mem6 | exact mem7) (by exact rfl) (by simp [leb_length, words4_length, words8_length, List.length_replicate, ha, hb]) ?_
  first
    | refine Tr.loadAll rfl rfl rfl Try.underlying47 rfl Sz47 (by first | exact mem0 | exact mem1 | exact mem2 | exact mem3 | exact mem4 | exact mem5 | exact mem6 | exact mem7) (by simp [leb_length, words4_length, words8_length, List.length_replicate, ha, hb]) ?_
    | refine Tr.loadN _ rfl rfl rfl Try.underlying47 rfl Sz47 (by first | exact mem0 | exact mem1 | exact mem2 | exact mem3 | exact mem4 | exact mem5 | exact mem6 | exact mem7) (by exact rfl) (by simp [leb_length, words4_length, words8_length, List.length_replicate, ha, hb]) ?_
  refine Tr.build (cs := bytesV (List.replicate 32 0)) rfl rfl rfl (fun w => by kernel_rfl) ?_
  refine Tr.callV rfl rfl rfl rfl Body27 (scalar_muladd _ _ (List.replicate 32 0) ha hb rfl) (fun _ _ => trivial) ?_
  first
    | refine Tr.storeAll rfl rfl rfl rfl (by simp [isCell]) Sz47 (by simp [leb_length, words4_length, words8_length, List.length_replicate, ha, hb]) (by first | exact mem0 | exact mem1 | exact mem2 | exact mem3 | exact mem4 | exact mem5 | exact mem6 | exact mem7) (by simp [leb_length, words4_length, words8_length, List.length_replicate, ha, hb]) (by first | exact upd0 | exact upd1 | exact upd2 | exact upd3 | exact upd4 | exact upd5 | exact upd6 | exact upd7) ?_
    | refine Tr.storeN _ rfl rfl rfl rfl rfl (by simp [isCell]) Sz47 (by simp [leb_length, words4_length, words8_length, List.length_replicate, ha, hb]) (by first | exact mem0 | exact mem1 | exact mem2 | exact mem3 | exact mem4 | exact mem5 | exact mem6 | exact mem7) (by simp [leb_length, words4_length, words8_length, List.length_replicate, ha, hb]) (by exact rfl) (by first | exact upd0 | exact upd1 | exact upd2 | exact upd3 | exact upd4 | exact upd5 | exact upd6 | exact upd7) ?_
  refine Tr.nil ?_
  refine at_n ?_
  refine Sat.ret ?_
  refine en_r ?_
  refine ⟨_, [], res_cell rfl rfl Try.underlying47 rfl Sz47 (by first | exact mem0 | exact mem1 | exact mem2 | exact mem3 | exact mem4 | exact mem5 | exact mem6 | exact mem7) (by simp [leb_length, words4_length, words8_length, List.length_replicate, ha, hb]), (by simp), (by simp), ?_, rfl⟩
  rw [le_zeros, Nat.add_zero]


theorem scalar_add_z (a : List UInt8) (ha : a.length = 32) : Meets Try.prog 28 [agg (bytesV a), agg (bytesV (List.replicate 32 0))] [] (fun _ => True) (fun v out => v = agg (bytesV (leb 32 (le a % L))) ∧ out = []) := by
  have := scalar_add a (List.replicate 32 0) ha rfl
  rw [le_zeros, Nat.add_zero] at this
  exact this
theorem scalar_load_leb (n : Nat) (h : n < 2 ^ 256) : Meets Try.prog 47 [agg (bytesV (leb 32 n))] [] (fun _ => True) (fun v out => v = agg (wordsV (words4 n)) ∧ out = []) := by
  have := scalar_load_n (leb 32 n) (leb_length 32 n)
  rw [le_leb32 h] at this
  exact this


set_option maxRecDepth 100000 in
set_option maxHeartbeats 1000000 in
theorem scalar_neg (a : List UInt8) (ha : a.length = 32) : Meets Try.prog 24 [agg (bytesV a)] [] (fun _ => True) (fun v out => v = agg (bytesV (leb 32 ((L - le a % L) % L))) ∧ out = []) := by
  intro W hW
  refine calls_of (hp0 := []) Try.func24 rfl 16 Try.ntmps24 rfl (HRep.nil _) ?_
  refine Sat.seq ?_
  -- region 0
  refine Sat.region ?_
  refine Tr.boxA rfl rfl ?_
  intro n1 hn1 hf1
  refine Tr.alloc (cs := (bytesV (List.replicate 32 0))) rfl Zr47 rfl ?_
  intro n2 hn2 hf2
  refine Tr.nil ?_
  refine at_n ?_
  refine Sat.seq ?_
  -- region 1
  refine Sat.region ?_
  first
    | refine Tr.loadAll rfl rfl rfl Try.underlying47 rfl Sz47 (by first | exact mem0 | exact mem1 | exact mem2 | exact mem3 | exact mem4 | exact mem5 | exact mem6 | exact mem7) (by simp [leb_length, words4_length, words8_length, List.length_replicate, ha]) ?_
    | refine Tr.loadN _ rfl rfl rfl Try.underlying47 rfl Sz47 (by first | exact mem0 | exact mem1 | exact mem2 | exact mem3 | exact mem4 | exact mem5 | exact mem6 | exact mem7) (by exact rfl) (by simp [leb_length, words4_length, words8_length, List.length_replicate, ha]) ?_
  refine Tr.build (cs := bytesV (List.replicate 32 0)) rfl rfl rfl (fun w => by kernel_rfl) ?_
  refine Tr.callV rfl rfl rfl rfl Body28 (scalar_add_z _ ha) (fun _ _ => trivial) ?_
  refine Tr.callV rfl rfl rfl rfl Body47 (scalar_load_leb _ (lm _)) (fun _ _ => trivial) ?_
  refine Tr.alloc (cs := (wordsV (List.replicate 4 0))) rfl Zr72 rfl ?_
  intro n3 hn3 hf3
  first
    | refine Tr.storeAll rfl rfl rfl rfl (by simp [isCell]) Sz72 (by simp [leb_length, words4_length, words8_length, List.length_replicate, ha]) (by first | exact mem0 | exact mem1 | exact mem2 | exact mem3 | exact mem4 | exact mem5 | exact mem6 | exact mem7) (by simp [leb_length, words4_length, words8_length, List.length_replicate, ha]) (by first | exact upd0 | exact upd1 | exact upd2 | exact upd3 | exact upd4 | exact upd5 | exact upd6 | exact upd7) ?_
    | refine Tr.storeN _ rfl rfl rfl rfl rfl (by simp [isCell]) Sz72 (by simp [leb_length, words4_length, words8_length, List.length_replicate, ha]) (by first | exact mem0 | exact mem1 | exact mem2 | exact mem3 | exact mem4 | exact mem5 | exact mem6 | exact mem7) (by simp [leb_length, words4_length, words8_length, List.length_replicate, ha]) (by exact rfl) (by first | exact upd0 | exact upd1 | exact upd2 | exact upd3 | exact upd4 | exact upd5 | exact upd6 | exact upd7) ?_
  refine Tr.nil ?_
  refine at_n ?_
  refine Sat.seq ?_
  refine Sat.seq ?_
  -- region 2
  refine Sat.region ?_
  first
    | refine Tr.loadAll rfl rfl rfl Try.underlying72 rfl Sz72 (by first | exact mem0 | exact mem1 | exact mem2 | exact mem3 | exact mem4 | exact mem5 | exact mem6 | exact mem7) (by simp [leb_length, words4_length, words8_length, List.length_replicate, ha]) ?_
    | refine Tr.loadN _ rfl rfl rfl Try.underlying72 rfl Sz72 (by first | exact mem0 | exact mem1 | exact mem2 | exact mem3 | exact mem4 | exact mem5 | exact mem6 | exact mem7) (by exact rfl) (by simp [leb_length, words4_length, words8_length, List.length_replicate, ha]) ?_
  refine Tr.build (cs := wordsV (List.replicate 4 0)) rfl rfl rfl (fun w => by kernel_rfl) ?_
  refine Tr.eql_words rfl rfl rfl rfl Try.eqGuardType72 Try.underlying72 Try.underlying24 Sz24 (by simp [leb_length, words4_length, words8_length, List.length_replicate, ha]) (by simp [leb_length, words4_length, words8_length, List.length_replicate, ha]) rfl ?_
  refine Tr.nil ?_
  refine at_n ?_
  first
    | refine Sat.condP rfl (fun hc0 => ?_) (fun hc0 => ?_)
    | refine Sat.condNP rfl (fun hc0 => ?_) (fun hc0 => ?_)
    | refine Sat.cond rfl (fun hc0 => ?_) (fun hc0 => ?_)
  ·
    have hz := (words4_eq_zero (lm _)).1 hc0
    refine Sat.seq ?_
    -- region 3
    refine Sat.region ?_
    refine Tr.build (cs := bytesV (List.replicate 32 0)) rfl rfl rfl (fun w => by kernel_rfl) ?_
    first
      | refine Tr.storeAll rfl rfl rfl rfl (by simp [isCell]) Sz47 (by simp [leb_length, words4_length, words8_length, List.length_replicate, ha]) (by first | exact mem0 | exact mem1 | exact mem2 | exact mem3 | exact mem4 | exact mem5 | exact mem6 | exact mem7) (by simp [leb_length, words4_length, words8_length, List.length_replicate, ha]) (by first | exact upd0 | exact upd1 | exact upd2 | exact upd3 | exact upd4 | exact upd5 | exact upd6 | exact upd7) ?_
      | refine Tr.storeN _ rfl rfl rfl rfl rfl (by simp [isCell]) Sz47 (by simp [leb_length, words4_length, words8_length, List.length_replicate, ha]) (by first | exact mem0 | exact mem1 | exact mem2 | exact mem3 | exact mem4 | exact mem5 | exact mem6 | exact mem7) (by simp [leb_length, words4_length, words8_length, List.length_replicate, ha]) (by exact rfl) (by first | exact upd0 | exact upd1 | exact upd2 | exact upd3 | exact upd4 | exact upd5 | exact upd6 | exact upd7) ?_
    refine Tr.nil ?_
    refine at_n ?_
    refine Sat.ret ?_
    refine at_r ?_
    refine en_r ?_
    refine ⟨_, [], res_cell rfl rfl Try.underlying47 rfl Sz47 (by first | exact mem0 | exact mem1 | exact mem2 | exact mem3 | exact mem4 | exact mem5 | exact mem6 | exact mem7) (by simp [leb_length, words4_length, words8_length, List.length_replicate, ha]), (by simp), (by simp), ?_, rfl⟩
    first
      | (rw [hz, Nat.sub_zero, Nat.mod_self]; rfl)
      | (rw [Nat.mod_eq_of_lt (a := L - le a % L) (Nat.sub_lt L_pos (Nat.pos_of_ne_zero hz))])
  ·
    have hz : ¬ le a % L = 0 := fun e => hc0 ((words4_eq_zero (lm _)).2 e)
    refine Sat.skip ?_
    refine at_n ?_
    refine Sat.seq ?_
    -- region 4
    refine Sat.draw [(1, 1), (3, 0), (3, 2), (3, 3), (4, 4)] Mixed (by kernel_rfl) ?_
    first
      | refine Tr.loadAll rfl rfl rfl Try.underlying72 rfl Sz72 (by first | exact mem0 | exact mem1 | exact mem2 | exact mem3 | exact mem4 | exact mem5 | exact mem6 | exact mem7) (by simp [leb_length, words4_length, words8_length, List.length_replicate, ha]) ?_
      | refine Tr.loadN _ rfl rfl rfl Try.underlying72 rfl Sz72 (by first | exact mem0 | exact mem1 | exact mem2 | exact mem3 | exact mem4 | exact mem5 | exact mem6 | exact mem7) (by exact rfl) (by simp [leb_length, words4_length, words8_length, List.length_replicate, ha]) ?_
    refine Tr.callV rfl rfl rfl rfl Body44 (scalar_modulus_n) (fun _ _ => trivial) ?_
    refine Tr.callV rfl rfl rfl rfl Body49 (scalar_minus_n _ _ L_lt (Nat.le_of_lt (Nat.mod_lt _ L_pos))) (fun _ _ => trivial) ?_
    refine Tr.callV rfl rfl rfl rfl Body45 (scalar_store_n _) (fun _ _ => trivial) ?_
    first
      | refine Tr.storeAll rfl rfl rfl rfl (by simp [isCell]) Sz47 (by simp [leb_length, words4_length, words8_length, List.length_replicate, ha]) (by first | exact mem0 | exact mem1 | exact mem2 | exact mem3 | exact mem4 | exact mem5 | exact mem6 | exact mem7) (by simp [leb_length, words4_length, words8_length, List.length_replicate, ha]) (by first | exact upd0 | exact upd1 | exact upd2 | exact upd3 | exact upd4 | exact upd5 | exact upd6 | exact upd7) ?_
      | refine Tr.storeN _ rfl rfl rfl rfl rfl (by simp [isCell]) Sz47 (by simp [leb_length, words4_length, words8_length, List.length_replicate, ha]) (by first | exact mem0 | exact mem1 | exact mem2 | exact mem3 | exact mem4 | exact mem5 | exact mem6 | exact mem7) (by simp [leb_length, words4_length, words8_length, List.length_replicate, ha]) (by exact rfl) (by first | exact upd0 | exact upd1 | exact upd2 | exact upd3 | exact upd4 | exact upd5 | exact upd6 | exact upd7) ?_
    refine Tr.nil ?_
    refine at_n ?_
    refine Sat.ret ?_
    refine en_r ?_
    refine ⟨_, [], res_cell rfl rfl Try.underlying47 rfl Sz47 (by first | exact mem0 | exact mem1 | exact mem2 | exact mem3 | exact mem4 | exact mem5 | exact mem6 | exact mem7) (by simp [leb_length, words4_length, words8_length, List.length_replicate, ha]), (by simp), (by simp), ?_, rfl⟩
    first
      | (rw [hz, Nat.sub_zero, Nat.mod_self]; rfl)
      | (rw [Nat.mod_eq_of_lt (a := L - le a % L) (Nat.sub_lt L_pos (Nat.pos_of_ne_zero hz))])

set_option maxRecDepth 100000 in
set_option maxHeartbeats 1000000 in
theorem scalar_rest (b o c n : Nat) (xs : List UInt8) (hx : xs.length = n) (hn : n ≤ 64) : Meets Try.prog 21 [.slice (some ⟨b, o, none⟩) n c] [] (fun W => Sees W b o (bytesV xs)) (fun v out => v = .tuple #[agg (bytesV (leb 32 (le xs % L))), i64 0] ∧ out = []) := by
  intro W hW
  refine calls_of (hp0 := []) Try.func21 rfl 34 Try.ntmps21 rfl (HRep.nil _) ?_
  refine Sat.seq ?_
  -- region 0
  refine Sat.region ?_
  refine Tr.alloc (cs := (bytesV (List.replicate 32 0))) rfl Zr47 rfl ?_
  intro n2 hn2 hf2
  refine Tr.assign rfl rfl rfl ?_
  refine Tr.nil ?_
  refine at_n ?_
  refine Sat.seq ?_
  refine Sat.seq ?_
  -- region 1
  refine Sat.region ?_
  refine Tr.move rfl rfl rfl ?_
  refine Tr.lenSl rfl rfl rfl Try.underlying27 ?_
  refine Tr.gtr rfl rfl rfl rfl (decide_eq_false (by omega)) ?_
  refine Tr.nil ?_
  refine at_n ?_
  refine Sat.cond_f rfl (rfl) ?_
  refine Sat.skip ?_
  refine at_n ?_
  refine Sat.seq ?_
  -- region 3
  refine Sat.region ?_
  refine Tr.alloc (cs := (wordsV (List.replicate 8 0))) rfl Zr74 rfl ?_
  intro n4 hn4 hf4
  refine Tr.nil ?_
  refine at_n ?_
  refine Sat.seq ?_
  refine Sat.seq ?_
  -- region 4
  refine Sat.region ?_
  refine Tr.move rfl rfl rfl ?_
  refine Tr.lenSl rfl rfl rfl Try.underlying27 ?_
  refine Tr.move rfl rfl rfl ?_
  refine Tr.nil ?_
  refine at_n ?_
  refine Sat.block ?_
  refine Sat.loop (ι := Nat) (fun k => ⟨[(2, ptr n2 0), (4, ptr n4 0), (11, .slice (some ⟨b, o, none⟩) n c), (12, i64 (n : Int)), (13, i64 (k : Int))], [⟨n4, wordsV (words8 (le (xs.take k))), 74, 8⟩, ⟨n2, bytesV (List.replicate 32 0), 47, 32⟩]⟩) (fun k => k ≤ n) (fun k => n - k) (0) ?_ ?_ ?_
  · omega
  · exact weak_of (wk1 rfl (wk1 rfl (wk1 rfl (wk1 rfl (wk1 rfl wk0))))) (wh1 (by rw [List.take_zero, show le [] = 0 from rfl, words8_zero]; exact mem0) (wh1 (by first | exact mem0 | exact mem1 | exact mem2 | exact mem3 | exact mem4 | exact mem5 | exact mem6 | exact mem7) wh0)) (by repeat (first | exact ns_nil | refine ns_keep rfl ?_ | refine ns_skip ?_))
  ·
    rintro k hi
    refine Sat.seq ?_
    -- region 5
    refine Sat.region ?_
    refine Tr.lss rfl rfl rfl rfl rfl ?_
    refine Tr.nil ?_
    refine at_n ?_
    refine Sat.seq ?_
    first
      | refine Sat.condP rfl (fun hc1 => ?_) (fun hc1 => ?_)
      | refine Sat.condNP rfl (fun hc1 => ?_) (fun hc1 => ?_)
      | refine Sat.cond rfl (fun hc1 => ?_) (fun hc1 => ?_)
    ·
      refine Sat.skip ?_
      refine at_n ?_
      refine Sat.seq ?_
      refine Sat.block ?_
      refine Sat.seq ?_
      -- region 6
      refine Sat.region ?_
      refine Tr.move rfl rfl rfl ?_
      first
        | refine Tr.idxSl1 rfl rfl rfl rfl Try.underlying27 Sz5 _ rfl (by omega) ?_
        | refine Tr.idxSlO rfl rfl rfl rfl Try.underlying27 Sz5 _ rfl (by omega) ?_
        | refine Tr.idxSl1 rfl rfl rfl rfl Try.underlying27 Sz5 _ (toNat_back (by omega)) (by omega) ?_
        | refine Tr.idxSlO rfl rfl rfl rfl Try.underlying27 Sz5 _ (toNat_back (by omega)) (by omega) ?_
      refine Tr.loadE rfl rfl rfl Try.underlying5 rfl (by simp) (hW _ _ (get_bytes (by omega))) ?_
      refine Tr.assign rfl rfl rfl ?_
      refine Tr.assign rfl rfl rfl ?_
      refine Tr.nil ?_
      refine at_n ?_
      -- region 7
      refine Sat.draw [(0, 0), (0, 1), (0, 2), (0, 3), (1, 4), (0, 5), (0, 6), (0, 7), (0, 8), (0, 9), (0, 10), (0, 11), (0, 12), (4, 13)] Mixed (by kernel_rfl) ?_
      refine Tr.move rfl rfl rfl ?_
      refine Tr.quo_i64 rfl rfl rfl rfl (by omega) ?_
      refine Tr.sub_i64 rfl rfl rfl rfl (by omega) ?_
      first
        | refine Tr.idxArr1 rfl rfl rfl rfl Try.underlying74 Sz24 (7 - k / 8) (by omega) (by omega) ?_
        | refine Tr.idxArrO rfl rfl rfl rfl Try.underlying74 Sz24 (7 - k / 8) (by omega) (by omega) ?_
      refine Tr.load1 rfl rfl rfl Try.underlying24 rfl (by first | exact mem0 | exact mem1 | exact mem2 | exact mem3 | exact mem4 | exact mem5 | exact mem6 | exact mem7) (by first | rfl | exact get_words (by first | omega | (simp [leb_length, words4_length, words8_length, List.length_replicate, hx]; done) | (simp [leb_length, words4_length, words8_length, List.length_replicate, hx]; omega)) | exact get_bytes (by first | omega | (simp [leb_length, words4_length, words8_length, List.length_replicate, hx]; done) | (simp [leb_length, words4_length, words8_length, List.length_replicate, hx]; omega)) | exact get_ints (by first | omega | (simp [leb_length, words4_length, words8_length, List.length_replicate, hx]; done) | (simp [leb_length, words4_length, words8_length, List.length_replicate, hx]; omega))) ?_
      refine Tr.move rfl rfl rfl ?_
      refine Tr.conv rfl rfl rfl Try.underlying5 Try.underlying24 (cv_u8_u64 _) ?_
      refine Tr.move rfl rfl rfl ?_
      refine Tr.rem_i64 rfl rfl rfl rfl (by omega) ?_
      refine Tr.mul_i64 rfl rfl rfl rfl (by omega) ?_
      refine Tr.shl_u64 rfl rfl rfl rfl (8 * (k % 8)) (by omega) (by omega) ?_
      refine Tr.or_u64 rfl rfl rfl rfl ?_
      first
        | refine Tr.idxArr1 rfl rfl rfl rfl Try.underlying74 Sz24 (7 - k / 8) (by omega) (by omega) ?_
        | refine Tr.idxArrO rfl rfl rfl rfl Try.underlying74 Sz24 (7 - k / 8) (by omega) (by omega) ?_
      refine Tr.store1 rfl rfl rfl rfl rfl Sz24 (by first | exact mem0 | exact mem1 | exact mem2 | exact mem3 | exact mem4 | exact mem5 | exact mem6 | exact mem7) (by first | (simp [leb_length, words4_length, words8_length, List.length_replicate, hx]; done) | (simp [leb_length, words4_length, words8_length, List.length_replicate, hx]; omega)) (by first | exact set_words _ _ _ | exact set_bytes _ _ _ | exact set_ints _ _ _ | rfl) (by first | exact upd0 | exact upd1 | exact upd2 | exact upd3 | exact upd4 | exact upd5 | exact upd6 | exact upd7) ?_
      refine Tr.nil ?_
      refine bl_n ?_
      refine at_n ?_
      -- region 8
      refine Sat.region ?_
      refine Tr.add_i64 rfl rfl rfl rfl (by omega) ?_
      refine Tr.move rfl rfl rfl ?_
      refine Tr.nil ?_
      refine at_n ?_
      exact ⟨k + 1, by omega, by omega, weak_of (wk1 rfl (wk1 rfl (wk1 rfl (wk1 rfl (wk1 rfl wk0))))) (wh1 (by rw [le_take_succ xs k (by omega), words8_step _ _ _ (le_take_lt xs k) (by omega)]; exact mem0) (wh1 (by first | exact mem0 | exact mem1 | exact mem2 | exact mem3 | exact mem4 | exact mem5 | exact mem6 | exact mem7) wh0)) (by repeat (first | exact ns_nil | refine ns_keep rfl ?_ | refine ns_skip ?_))⟩
    ·
      obtain rfl : k = n := by omega
      refine Sat.exit ?_
      refine at_x ?_
      refine at_x ?_
      refine bl_h ?_
      refine at_n ?_
      refine Sat.seq ?_
      -- region 9
      refine Sat.region ?_
      refine Tr.sliceArr rfl rfl rfl Try.underlying74 Sz24 ?_
      refine Tr.callV rfl rfl rfl rfl Body46 (scalar_residue _ _ _ 8 (words8 (le (xs.take k))) rfl (by omega)) (fun W h => sees_own h (by first | exact mem0 | exact mem1 | exact mem2 | exact mem3 | exact mem4 | exact mem5 | exact mem6 | exact mem7)) ?_
      first
        | refine Tr.storeAll rfl rfl rfl rfl (by simp [isCell]) Sz47 (by simp [leb_length, words4_length, words8_length, List.length_replicate, hx]) (by first | exact mem0 | exact mem1 | exact mem2 | exact mem3 | exact mem4 | exact mem5 | exact mem6 | exact mem7) (by simp [leb_length, words4_length, words8_length, List.length_replicate, hx]) (by first | exact upd0 | exact upd1 | exact upd2 | exact upd3 | exact upd4 | exact upd5 | exact upd6 | exact upd7) ?_
        | refine Tr.storeN _ rfl rfl rfl rfl rfl (by simp [isCell]) Sz47 (by simp [leb_length, words4_length, words8_length, List.length_replicate, hx]) (by first | exact mem0 | exact mem1 | exact mem2 | exact mem3 | exact mem4 | exact mem5 | exact mem6 | exact mem7) (by simp [leb_length, words4_length, words8_length, List.length_replicate, hx]) (by exact rfl) (by first | exact upd0 | exact upd1 | exact upd2 | exact upd3 | exact upd4 | exact upd5 | exact upd6 | exact upd7) ?_
      refine Tr.assign rfl rfl rfl ?_
      refine Tr.nil ?_
      refine at_n ?_
      refine Sat.ret ?_
      refine en_r ?_
      refine ⟨_, [], res_cell_tmp rfl rfl rfl Try.underlying47 rfl Sz47 (by first | exact mem0 | exact mem1 | exact mem2 | exact mem3 | exact mem4 | exact mem5 | exact mem6 | exact mem7) (by simp [leb_length, words4_length, words8_length, List.length_replicate, hx]), (by simp), (by simp), ?_, rfl⟩
      rw [wv_words8 (take_512 xs k (by omega)), List.take_of_length_le (by omega)]

set_option maxRecDepth 100000 in
set_option maxHeartbeats 1000000 in
theorem scalar_rest_nil  : Meets Try.prog 21 [.slice none 0 0] [] (fun _ => True) (fun v out => v = .tuple #[agg (bytesV (leb 32 0)), i64 0] ∧ out = []) := by
  intro W hW
  refine calls_of (hp0 := []) Try.func21 rfl 34 Try.ntmps21 rfl (HRep.nil _) ?_
  refine Sat.seq ?_
  -- region 0
  refine Sat.region ?_
  refine Tr.alloc (cs := (bytesV (List.replicate 32 0))) rfl Zr47 rfl ?_
  intro n2 hn2 hf2
  refine Tr.assign rfl rfl rfl ?_
  refine Tr.nil ?_
  refine at_n ?_
  refine Sat.seq ?_
  refine Sat.seq ?_
  -- region 1
  refine Sat.region ?_
  refine Tr.move rfl rfl rfl ?_
  refine Tr.lenSl rfl rfl rfl Try.underlying27 ?_
  refine Tr.gtr rfl rfl rfl rfl (decide_eq_false (by decide)) ?_
  refine Tr.nil ?_
  refine at_n ?_
  refine Sat.cond_f rfl (rfl) ?_
  refine Sat.skip ?_
  refine at_n ?_
  refine Sat.seq ?_
  -- region 3
  refine Sat.region ?_
  refine Tr.alloc (cs := (wordsV (List.replicate 8 0))) rfl Zr74 rfl ?_
  intro n4 hn4 hf4
  refine Tr.nil ?_
  refine at_n ?_
  refine Sat.seq ?_
  refine Sat.seq ?_
  -- region 4
  refine Sat.region ?_
  refine Tr.move rfl rfl rfl ?_
  refine Tr.lenSl rfl rfl rfl Try.underlying27 ?_
  refine Tr.move rfl rfl rfl ?_
  refine Tr.nil ?_
  refine at_n ?_
  refine Sat.block ?_
  refine Sat.loop (ι := Unit) (fun _u => ⟨[(2, ptr n2 0), (4, ptr n4 0), (12, i64 0), (13, i64 0)], [⟨n4, wordsV (words8 0), 74, 8⟩, ⟨n2, bytesV (List.replicate 32 0), 47, 32⟩]⟩) (fun _u => True) (fun _u => 0) (()) ?_ ?_ ?_
  · trivial
  · exact weak_of (wk1 rfl (wk1 rfl (wk1 rfl (wk1 rfl wk0)))) (wh1 (by rw [words8_zero]; exact mem0) (wh1 (by first | exact mem0 | exact mem1 | exact mem2 | exact mem3 | exact mem4 | exact mem5 | exact mem6 | exact mem7) wh0)) (by repeat (first | exact ns_nil | refine ns_keep rfl ?_ | refine ns_skip ?_))
  ·
    rintro _ _
    refine Sat.seq ?_
    -- region 5
    refine Sat.region ?_
    refine Tr.lss rfl rfl rfl rfl rfl ?_
    refine Tr.nil ?_
    refine at_n ?_
    refine Sat.seq ?_
    refine Sat.cond_f rfl (rfl) ?_
    refine Sat.exit ?_
    refine at_x ?_
    refine at_x ?_
    refine bl_h ?_
    refine at_n ?_
    refine Sat.seq ?_
    -- region 9
    refine Sat.region ?_
    refine Tr.sliceArr rfl rfl rfl Try.underlying74 Sz24 ?_
    refine Tr.callV rfl rfl rfl rfl Body46 (scalar_residue _ _ _ 8 (words8 0) rfl (by omega)) (fun W h => sees_own h (by first | exact mem0 | exact mem1 | exact mem2 | exact mem3 | exact mem4 | exact mem5 | exact mem6 | exact mem7)) ?_
    first
      | refine Tr.storeAll rfl rfl rfl rfl (by simp [isCell]) Sz47 (by simp [leb_length, words4_length, words8_length, List.length_replicate]) (by first | exact mem0 | exact mem1 | exact mem2 | exact mem3 | exact mem4 | exact mem5 | exact mem6 | exact mem7) (by simp [leb_length, words4_length, words8_length, List.length_replicate]) (by first | exact upd0 | exact upd1 | exact upd2 | exact upd3 | exact upd4 | exact upd5 | exact upd6 | exact upd7) ?_
      | refine Tr.storeN _ rfl rfl rfl rfl rfl (by simp [isCell]) Sz47 (by simp [leb_length, words4_length, words8_length, List.length_replicate]) (by first | exact mem0 | exact mem1 | exact mem2 | exact mem3 | exact mem4 | exact mem5 | exact mem6 | exact mem7) (by simp [leb_length, words4_length, words8_length, List.length_replicate]) (by exact rfl) (by first | exact upd0 | exact upd1 | exact upd2 | exact upd3 | exact upd4 | exact upd5 | exact upd6 | exact upd7) ?_
    refine Tr.assign rfl rfl rfl ?_
    refine Tr.nil ?_
    refine at_n ?_
    refine Sat.ret ?_
    refine en_r ?_
    refine ⟨_, [], res_cell_tmp rfl rfl rfl Try.underlying47 rfl Sz47 (by first | exact mem0 | exact mem1 | exact mem2 | exact mem3 | exact mem4 | exact mem5 | exact mem6 | exact mem7) (by simp [leb_length, words4_length, words8_length, List.length_replicate]), (by simp), (by simp), ?_, rfl⟩
    rw [wv_words8 zero_512]; rfl

set_option maxRecDepth 100000 in
set_option maxHeartbeats 1000000 in
theorem scalar_rest_big (b o c n : Nat) (hn : 64 < n) : Meets Try.prog 21 [.slice (some ⟨b, o, none⟩) n c] [] (fun _ => True) (fun v out => v = .tuple #[agg (bytesV (List.replicate 32 0)), i64 3] ∧ out = []) := by
  intro W hW
  refine calls_of (hp0 := []) Try.func21 rfl 34 Try.ntmps21 rfl (HRep.nil _) ?_
  refine Sat.seq ?_
  -- region 0
  refine Sat.region ?_
  refine Tr.alloc (cs := (bytesV (List.replicate 32 0))) rfl Zr47 rfl ?_
  intro n2 hn2 hf2
  refine Tr.assign rfl rfl rfl ?_
  refine Tr.nil ?_
  refine at_n ?_
  refine Sat.seq ?_
  refine Sat.seq ?_
  -- region 1
  refine Sat.region ?_
  refine Tr.move rfl rfl rfl ?_
  refine Tr.lenSl rfl rfl rfl Try.underlying27 ?_
  refine Tr.gtr rfl rfl rfl rfl (decide_eq_true (by omega)) ?_
  refine Tr.nil ?_
  refine at_n ?_
  refine Sat.cond_t rfl (rfl) ?_
  refine Sat.seq ?_
  -- region 2
  refine Sat.region ?_
  refine Tr.build (cs := bytesV (List.replicate 32 0)) rfl rfl rfl (fun w => by kernel_rfl) ?_
  first
    | refine Tr.storeAll rfl rfl rfl rfl (by simp [isCell]) Sz47 (by simp [leb_length, words4_length, words8_length, List.length_replicate]) (by first | exact mem0 | exact mem1 | exact mem2 | exact mem3 | exact mem4 | exact mem5 | exact mem6 | exact mem7) (by simp [leb_length, words4_length, words8_length, List.length_replicate]) (by first | exact upd0 | exact upd1 | exact upd2 | exact upd3 | exact upd4 | exact upd5 | exact upd6 | exact upd7) ?_
    | refine Tr.storeN _ rfl rfl rfl rfl rfl (by simp [isCell]) Sz47 (by simp [leb_length, words4_length, words8_length, List.length_replicate]) (by first | exact mem0 | exact mem1 | exact mem2 | exact mem3 | exact mem4 | exact mem5 | exact mem6 | exact mem7) (by simp [leb_length, words4_length, words8_length, List.length_replicate]) (by exact rfl) (by first | exact upd0 | exact upd1 | exact upd2 | exact upd3 | exact upd4 | exact upd5 | exact upd6 | exact upd7) ?_
  refine Tr.assign rfl rfl rfl ?_
  refine Tr.nil ?_
  refine at_n ?_
  refine Sat.ret ?_
  refine at_r ?_
  refine en_r ?_
  refine ⟨_, [], res_cell_tmp rfl rfl rfl Try.underlying47 rfl Sz47 (by first | exact mem0 | exact mem1 | exact mem2 | exact mem3 | exact mem4 | exact mem5 | exact mem6 | exact mem7) (by simp [leb_length, words4_length, words8_length, List.length_replicate]), (by simp), (by simp), ?_, rfl⟩
  rfl

set_option maxRecDepth 100000 in
set_option maxHeartbeats 1000000 in
theorem scalar_bit_neg (a : List UInt8) (ha : a.length = 32) (i : Int) (hi : i < 0) : Meets Try.prog 26 [agg (bytesV a), i64 i] [] (fun _ => True) (fun v out => v = .bool false ∧ out = []) := by
  intro W hW
  refine calls_of (hp0 := []) Try.func26 rfl 22 Try.ntmps26 rfl (HRep.nil _) ?_
  refine Sat.seq ?_
  -- region 0
  refine Sat.region ?_
  refine Tr.boxA rfl rfl ?_
  intro n2 hn2 hf2
  refine Tr.assign rfl rfl rfl ?_
  refine Tr.nil ?_
  refine at_n ?_
  refine Sat.seq ?_
  -- region 1
  refine Sat.region ?_
  refine Tr.move rfl rfl rfl ?_
  refine Tr.geq rfl rfl rfl rfl (decide_eq_false (by omega)) ?_
  refine Tr.move rfl rfl rfl ?_
  refine Tr.skp rfl rfl ?_
  refine Tr.skp rfl rfl ?_
  refine Tr.pick rfl rfl rfl rfl rfl rfl ?_
  refine Tr.move rfl rfl rfl ?_
  refine Tr.skp rfl rfl ?_
  refine Tr.skp rfl rfl ?_
  refine Tr.skp rfl rfl ?_
  refine Tr.skp rfl rfl ?_
  refine Tr.skp rfl rfl ?_
  refine Tr.skp rfl rfl ?_
  refine Tr.skp rfl rfl ?_
  refine Tr.skp rfl rfl ?_
  refine Tr.skp rfl rfl ?_
  refine Tr.pick rfl rfl rfl rfl rfl rfl ?_
  refine Tr.assign rfl rfl rfl ?_
  refine Tr.nil ?_
  refine at_n ?_
  refine Sat.ret ?_
  refine en_r ?_
  refine ⟨_, [], res_tmp rfl rfl, (by simp), (by simp), ?_, rfl⟩
  rfl

set_option maxRecDepth 100000 in
set_option maxHeartbeats 1000000 in
theorem scalar_bit_big (a : List UInt8) (ha : a.length = 32) (i : Int) (hi : 256 ≤ i) : Meets Try.prog 26 [agg (bytesV a), i64 i] [] (fun _ => True) (fun v out => v = .bool false ∧ out = []) := by
  intro W hW
  refine calls_of (hp0 := []) Try.func26 rfl 22 Try.ntmps26 rfl (HRep.nil _) ?_
  refine Sat.seq ?_
  -- region 0
  refine Sat.region ?_
  refine Tr.boxA rfl rfl ?_
  intro n2 hn2 hf2
  refine Tr.assign rfl rfl rfl ?_
  refine Tr.nil ?_
  refine at_n ?_
  refine Sat.seq ?_
  -- region 1
  refine Sat.region ?_
  refine Tr.move rfl rfl rfl ?_
  refine Tr.geq rfl rfl rfl rfl (decide_eq_true (by omega)) ?_
  refine Tr.move rfl rfl rfl ?_
  refine Tr.move rfl rfl rfl ?_
  refine Tr.lss rfl rfl rfl rfl (decide_eq_false (by omega)) ?_
  refine Tr.pick rfl rfl rfl rfl rfl rfl ?_
  refine Tr.move rfl rfl rfl ?_
  refine Tr.skp rfl rfl ?_
  refine Tr.skp rfl rfl ?_
  refine Tr.skp rfl rfl ?_
  refine Tr.skp rfl rfl ?_
  refine Tr.skp rfl rfl ?_
  refine Tr.skp rfl rfl ?_
  refine Tr.skp rfl rfl ?_
  refine Tr.skp rfl rfl ?_
  refine Tr.skp rfl rfl ?_
  refine Tr.pick rfl rfl rfl rfl rfl rfl ?_
  refine Tr.assign rfl rfl rfl ?_
  refine Tr.nil ?_
  refine at_n ?_
  refine Sat.ret ?_
  refine en_r ?_
  refine ⟨_, [], res_tmp rfl rfl, (by simp), (by simp), ?_, rfl⟩
  rfl

set_option maxRecDepth 100000 in
set_option maxHeartbeats 1000000 in
theorem scalar_bit_at (a : List UInt8) (ha : a.length = 32) (k : Nat) (hk : k < 256) : Meets Try.prog 26 [agg (bytesV a), i64 (k : Int)] [] (fun _ => True) (fun v out => v = .bool ((le a).testBit k) ∧ out = []) := by
  intro W hW
  refine calls_of (hp0 := []) Try.func26 rfl 22 Try.ntmps26 rfl (HRep.nil _) ?_
  refine Sat.seq ?_
  -- region 0
  refine Sat.region ?_
  refine Tr.boxA rfl rfl ?_
  intro n2 hn2 hf2
  refine Tr.assign rfl rfl rfl ?_
  refine Tr.nil ?_
  refine at_n ?_
  refine Sat.seq ?_
  -- region 1
  refine Sat.region ?_
  refine Tr.move rfl rfl rfl ?_
  refine Tr.geq rfl rfl rfl rfl (decide_eq_true (by omega)) ?_
  refine Tr.move rfl rfl rfl ?_
  refine Tr.move rfl rfl rfl ?_
  refine Tr.lss rfl rfl rfl rfl (decide_eq_true (by omega)) ?_
  refine Tr.pick rfl rfl rfl rfl rfl rfl ?_
  refine Tr.move rfl rfl rfl ?_
  refine Tr.move rfl rfl rfl ?_
  refine Tr.quo_i64 rfl rfl rfl rfl (by omega) ?_
  first
    | refine Tr.idxArr1 rfl rfl rfl rfl Try.underlying47 Sz5 (k / 8) (by omega) (by omega) ?_
    | refine Tr.idxArrO rfl rfl rfl rfl Try.underlying47 Sz5 (k / 8) (by omega) (by omega) ?_
  refine Tr.load1 rfl rfl rfl Try.underlying5 rfl (by first | exact mem0 | exact mem1 | exact mem2 | exact mem3 | exact mem4 | exact mem5 | exact mem6 | exact mem7) (by first | rfl | exact get_words (by first | omega | (simp [leb_length, words4_length, words8_length, List.length_replicate, ha]; done) | (simp [leb_length, words4_length, words8_length, List.length_replicate, ha]; omega)) | exact get_bytes (by first | omega | (simp [leb_length, words4_length, words8_length, List.length_replicate, ha]; done) | (simp [leb_length, words4_length, words8_length, List.length_replicate, ha]; omega)) | exact get_ints (by first | omega | (simp [leb_length, words4_length, words8_length, List.length_replicate, ha]; done) | (simp [leb_length, words4_length, words8_length, List.length_replicate, ha]; omega))) ?_
  refine Tr.move rfl rfl rfl ?_
  refine Tr.rem_i64 rfl rfl rfl rfl (by omega) ?_
  refine Tr.shr_u8 rfl rfl rfl rfl (k % 8) (by omega) (by omega) ?_
  refine Tr.and_u8 rfl rfl rfl (show evIn _ _ = some (u8 1) from rfl) ?_
  refine Tr.eqi rfl rfl rfl rfl rfl ?_
  refine Tr.pick rfl rfl rfl rfl rfl rfl ?_
  refine Tr.assign rfl rfl rfl ?_
  refine Tr.nil ?_
  refine at_n ?_
  refine Sat.ret ?_
  refine en_r ?_
  refine ⟨_, [], res_tmp rfl rfl, (by simp), (by simp), ?_, rfl⟩
  rw [← bit_and a k]; rfl


theorem scalar_bit (a : List UInt8) (ha : a.length = 32) (i : Int) : Meets Try.prog 26 [agg (bytesV a), i64 i] [] (fun _ => True) (fun v out => v = .bool (bitV (le a) i) ∧ out = []) := by
  unfold bitV
  by_cases h : 0 ≤ i ∧ i < 256
  · obtain ⟨k, rfl⟩ := Int.eq_ofNat_of_zero_le h.1
    rw [decide_eq_true h, Bool.true_and, Int.toNat_natCast]
    exact scalar_bit_at a ha k (by omega)
  · rw [decide_eq_false h, Bool.false_and]
    rcases Int.lt_or_le i 0 with h0 | h0
    · exact scalar_bit_neg a ha i h0
    · exact scalar_bit_big a ha i (by omega)


end Go.Proofs.Ytjeggfgbcafenaa
