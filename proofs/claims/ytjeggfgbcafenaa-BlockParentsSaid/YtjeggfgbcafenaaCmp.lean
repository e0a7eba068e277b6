/- Contracts of cmp.Compare, cmp.Or, bytes.Compare. Conditions: what the rows hold. -/
import Derived.Test.YtjeggfgbcafenaaRecs
import Derived.Laws.Externs
namespace Go.Proofs.Ytjeggfgbcafenaa
open Go Hw
set_option linter.unusedVariables false
set_option linter.unusedSimpArgs false


def cmpI (a b : Int) : Int := if a < b then -1 else if b < a then 1 else 0
def orI : List Int → Int
  | [] => 0
  | x :: l => if x = 0 then orI l else x
theorem orI_drop (xs : List Int) (k : Nat) (hk : k < xs.length) : orI (xs.drop k) = if xs.getD k 0 = 0 then orI (xs.drop (k + 1)) else xs.getD k 0 := by
  rw [List.drop_eq_getElem_cons hk, orI]
  simp [List.getD, hk]


set_option maxRecDepth 100000 in
set_option maxHeartbeats 1000000 in
theorem nan_uint64 (x : UInt64) : Meets Try.prog 57 [u64 x] [] (fun _ => True) (fun v out => v = .bool false ∧ out = []) := by
  intro W hW
  refine calls_of (hp0 := []) Try.func57 rfl 6 Try.ntmps57 rfl (HRep.nil _) ?_
  refine Sat.seq ?_
  -- region 0
  refine Sat.region ?_
  refine Tr.assign rfl rfl rfl ?_
  refine Tr.nil ?_
  refine at_n ?_
  refine Sat.seq ?_
  -- region 1
  refine Sat.region ?_
  refine Tr.move rfl rfl rfl ?_
  refine Tr.move rfl rfl rfl ?_
  refine Tr.nei rfl rfl rfl rfl (show (!decide _) = false from congrArg not (decide_eq_true (rfl))) ?_
  refine Tr.assign rfl rfl rfl ?_
  refine Tr.nil ?_
  refine at_n ?_
  refine Sat.ret ?_
  refine en_r ?_
  refine ⟨_, [], res_tmp rfl rfl, (by simp), (by simp), ?_, rfl⟩
  rfl

set_option maxRecDepth 100000 in
set_option maxHeartbeats 1000000 in
theorem cmp_uint64 (x y : UInt64) : Meets Try.prog 41 [u64 x, u64 y] [] (fun _ => True) (fun v out => v = i64 (cmpI (x.toNat : Int) (y.toNat : Int)) ∧ out = []) := by
  intro W hW
  refine calls_of (hp0 := []) Try.func41 rfl 20 Try.ntmps41 rfl (HRep.nil _) ?_
  refine Sat.seq ?_
  -- region 0
  refine Sat.region ?_
  refine Tr.assign rfl rfl rfl ?_
  refine Tr.nil ?_
  refine at_n ?_
  refine Sat.seq ?_
  -- region 1
  refine Sat.region ?_
  refine Tr.move rfl rfl rfl ?_
  refine Tr.callV rfl rfl rfl rfl Body57 (nan_uint64 _) (fun _ _ => trivial) ?_
  refine Tr.assign rfl rfl rfl ?_
  refine Tr.nil ?_
  refine at_n ?_
  refine Sat.seq ?_
  -- region 2
  refine Sat.region ?_
  refine Tr.move rfl rfl rfl ?_
  refine Tr.callV rfl rfl rfl rfl Body57 (nan_uint64 _) (fun _ _ => trivial) ?_
  refine Tr.assign rfl rfl rfl ?_
  refine Tr.nil ?_
  refine at_n ?_
  refine Sat.seq ?_
  refine Sat.seq ?_
  -- region 3
  refine Sat.region ?_
  refine Tr.move rfl rfl rfl ?_
  refine Tr.nil ?_
  refine at_n ?_
  refine Sat.cond_f rfl (rfl) ?_
  refine Sat.skip ?_
  refine at_n ?_
  refine Sat.seq ?_
  refine Sat.seq ?_
  -- region 7
  refine Sat.region ?_
  refine Tr.move rfl rfl rfl ?_
  refine Tr.nil ?_
  refine at_n ?_
  refine Sat.cond_f rfl (rfl) ?_
  refine Sat.skip ?_
  refine at_n ?_
  refine Sat.seq ?_
  refine Sat.seq ?_
  -- region 9
  refine Sat.region ?_
  refine Tr.move rfl rfl rfl ?_
  refine Tr.move rfl rfl rfl ?_
  refine Tr.lss rfl rfl rfl rfl rfl ?_
  refine Tr.nil ?_
  refine at_n ?_
  first
    | refine Sat.condP rfl (fun hc3 => ?_) (fun hc3 => ?_)
    | refine Sat.condNP rfl (fun hc3 => ?_) (fun hc3 => ?_)
    | refine Sat.cond rfl (fun hc3 => ?_) (fun hc3 => ?_)
  ·
    refine Sat.seq ?_
    -- region 10
    refine Sat.region ?_
    refine Tr.assign rfl rfl rfl ?_
    refine Tr.nil ?_
    refine at_n ?_
    refine Sat.ret ?_
    refine at_r ?_
    refine en_r ?_
    refine ⟨_, [], res_tmp rfl rfl, (by simp), (by simp), ?_, rfl⟩
    simp [cmpI, *]
  ·
    refine Sat.skip ?_
    refine at_n ?_
    refine Sat.seq ?_
    refine Sat.seq ?_
    -- region 11
    refine Sat.region ?_
    refine Tr.move rfl rfl rfl ?_
    refine Tr.move rfl rfl rfl ?_
    refine Tr.gtr rfl rfl rfl rfl rfl ?_
    refine Tr.nil ?_
    refine at_n ?_
    first
      | refine Sat.condP rfl (fun hc4 => ?_) (fun hc4 => ?_)
      | refine Sat.condNP rfl (fun hc4 => ?_) (fun hc4 => ?_)
      | refine Sat.cond rfl (fun hc4 => ?_) (fun hc4 => ?_)
    ·
      refine Sat.seq ?_
      -- region 12
      refine Sat.region ?_
      refine Tr.assign rfl rfl rfl ?_
      refine Tr.nil ?_
      refine at_n ?_
      refine Sat.ret ?_
      refine at_r ?_
      refine en_r ?_
      refine ⟨_, [], res_tmp rfl rfl, (by simp), (by simp), ?_, rfl⟩
      simp [cmpI, *]
    ·
      refine Sat.skip ?_
      refine at_n ?_
      refine Sat.seq ?_
      -- region 13
      refine Sat.region ?_
      refine Tr.assign rfl rfl rfl ?_
      refine Tr.nil ?_
      refine at_n ?_
      refine Sat.ret ?_
      refine en_r ?_
      refine ⟨_, [], res_tmp rfl rfl, (by simp), (by simp), ?_, rfl⟩
      simp [cmpI, *]

set_option maxRecDepth 100000 in
set_option maxHeartbeats 1000000 in
theorem nan_int (x : Int) : Meets Try.prog 58 [i64 x] [] (fun _ => True) (fun v out => v = .bool false ∧ out = []) := by
  intro W hW
  refine calls_of (hp0 := []) Try.func58 rfl 6 Try.ntmps58 rfl (HRep.nil _) ?_
  refine Sat.seq ?_
  -- region 0
  refine Sat.region ?_
  refine Tr.assign rfl rfl rfl ?_
  refine Tr.nil ?_
  refine at_n ?_
  refine Sat.seq ?_
  -- region 1
  refine Sat.region ?_
  refine Tr.move rfl rfl rfl ?_
  refine Tr.move rfl rfl rfl ?_
  refine Tr.nei rfl rfl rfl rfl (show (!decide _) = false from congrArg not (decide_eq_true (rfl))) ?_
  refine Tr.assign rfl rfl rfl ?_
  refine Tr.nil ?_
  refine at_n ?_
  refine Sat.ret ?_
  refine en_r ?_
  refine ⟨_, [], res_tmp rfl rfl, (by simp), (by simp), ?_, rfl⟩
  rfl

set_option maxRecDepth 100000 in
set_option maxHeartbeats 1000000 in
theorem cmp_int (x y : Int) : Meets Try.prog 42 [i64 x, i64 y] [] (fun _ => True) (fun v out => v = i64 (cmpI x y) ∧ out = []) := by
  intro W hW
  refine calls_of (hp0 := []) Try.func42 rfl 20 Try.ntmps42 rfl (HRep.nil _) ?_
  refine Sat.seq ?_
  -- region 0
  refine Sat.region ?_
  refine Tr.assign rfl rfl rfl ?_
  refine Tr.nil ?_
  refine at_n ?_
  refine Sat.seq ?_
  -- region 1
  refine Sat.region ?_
  refine Tr.move rfl rfl rfl ?_
  refine Tr.callV rfl rfl rfl rfl Body58 (nan_int _) (fun _ _ => trivial) ?_
  refine Tr.assign rfl rfl rfl ?_
  refine Tr.nil ?_
  refine at_n ?_
  refine Sat.seq ?_
  -- region 2
  refine Sat.region ?_
  refine Tr.move rfl rfl rfl ?_
  refine Tr.callV rfl rfl rfl rfl Body58 (nan_int _) (fun _ _ => trivial) ?_
  refine Tr.assign rfl rfl rfl ?_
  refine Tr.nil ?_
  refine at_n ?_
  refine Sat.seq ?_
  refine Sat.seq ?_
  -- region 3
  refine Sat.region ?_
  refine Tr.move rfl rfl rfl ?_
  refine Tr.nil ?_
  refine at_n ?_
  refine Sat.cond_f rfl (rfl) ?_
  refine Sat.skip ?_
  refine at_n ?_
  refine Sat.seq ?_
  refine Sat.seq ?_
  -- region 7
  refine Sat.region ?_
  refine Tr.move rfl rfl rfl ?_
  refine Tr.nil ?_
  refine at_n ?_
  refine Sat.cond_f rfl (rfl) ?_
  refine Sat.skip ?_
  refine at_n ?_
  refine Sat.seq ?_
  refine Sat.seq ?_
  -- region 9
  refine Sat.region ?_
  refine Tr.move rfl rfl rfl ?_
  refine Tr.move rfl rfl rfl ?_
  refine Tr.lss rfl rfl rfl rfl rfl ?_
  refine Tr.nil ?_
  refine at_n ?_
  first
    | refine Sat.condP rfl (fun hc3 => ?_) (fun hc3 => ?_)
    | refine Sat.condNP rfl (fun hc3 => ?_) (fun hc3 => ?_)
    | refine Sat.cond rfl (fun hc3 => ?_) (fun hc3 => ?_)
  ·
    refine Sat.seq ?_
    -- region 10
    refine Sat.region ?_
    refine Tr.assign rfl rfl rfl ?_
    refine Tr.nil ?_
    refine at_n ?_
    refine Sat.ret ?_
    refine at_r ?_
    refine en_r ?_
    refine ⟨_, [], res_tmp rfl rfl, (by simp), (by simp), ?_, rfl⟩
    simp [cmpI, *]
  ·
    refine Sat.skip ?_
    refine at_n ?_
    refine Sat.seq ?_
    refine Sat.seq ?_
    -- region 11
    refine Sat.region ?_
    refine Tr.move rfl rfl rfl ?_
    refine Tr.move rfl rfl rfl ?_
    refine Tr.gtr rfl rfl rfl rfl rfl ?_
    refine Tr.nil ?_
    refine at_n ?_
    first
      | refine Sat.condP rfl (fun hc4 => ?_) (fun hc4 => ?_)
      | refine Sat.condNP rfl (fun hc4 => ?_) (fun hc4 => ?_)
      | refine Sat.cond rfl (fun hc4 => ?_) (fun hc4 => ?_)
    ·
      refine Sat.seq ?_
      -- region 12
      refine Sat.region ?_
      refine Tr.assign rfl rfl rfl ?_
      refine Tr.nil ?_
      refine at_n ?_
      refine Sat.ret ?_
      refine at_r ?_
      refine en_r ?_
      refine ⟨_, [], res_tmp rfl rfl, (by simp), (by simp), ?_, rfl⟩
      simp [cmpI, *]
    ·
      refine Sat.skip ?_
      refine at_n ?_
      refine Sat.seq ?_
      -- region 13
      refine Sat.region ?_
      refine Tr.assign rfl rfl rfl ?_
      refine Tr.nil ?_
      refine at_n ?_
      refine Sat.ret ?_
      refine en_r ?_
      refine ⟨_, [], res_tmp rfl rfl, (by simp), (by simp), ?_, rfl⟩
      simp [cmpI, *]

set_option maxRecDepth 100000 in
set_option maxHeartbeats 1000000 in
theorem cmp_or (b o c n : Nat) (xs : List Int) (hx : xs.length = n) (hn : n ≤ 1000000) : Meets Try.prog 43 [.slice (some ⟨b, o, none⟩) n c] [] (fun W => Sees W b o (intsV xs)) (fun v out => v = i64 (orI xs) ∧ out = []) := by
  intro W hW
  refine calls_of (hp0 := []) Try.func43 rfl 18 Try.ntmps43 rfl (HRep.nil _) ?_
  refine Sat.seq ?_
  -- region 0
  refine Sat.region ?_
  refine Tr.assign rfl rfl rfl ?_
  refine Tr.nil ?_
  refine at_n ?_
  refine Sat.seq ?_
  -- region 1
  refine Sat.region ?_
  refine Tr.assign rfl rfl rfl ?_
  refine Tr.nil ?_
  refine at_n ?_
  refine Sat.seq ?_
  refine Sat.seq ?_
  -- region 2
  refine Sat.region ?_
  refine Tr.move rfl rfl rfl ?_
  refine Tr.lenSl rfl rfl rfl Try.underlying70 ?_
  refine Tr.move rfl rfl rfl ?_
  refine Tr.nil ?_
  refine at_n ?_
  refine Sat.block ?_
  refine Sat.loop (ι := Nat) (fun k => ⟨[(3, i64 0), (6, .slice (some ⟨b, o, none⟩) n c), (7, i64 (n : Int)), (8, i64 (k : Int))], []⟩) (fun k => k ≤ n ∧ orI xs = orI (xs.drop k)) (fun k => n - k) (0) ?_ ?_ ?_
  · exact ⟨by omega, by rw [List.drop_zero]⟩
  · exact weak_of (wk1 rfl (wk1 rfl (wk1 rfl (wk1 rfl wk0)))) wh0 (by repeat (first | exact ns_nil | refine ns_keep rfl ?_ | refine ns_skip ?_))
  ·
    rintro k ⟨hk, ho⟩
    refine Sat.seq ?_
    -- region 3
    refine Sat.region ?_
    refine Tr.lss rfl rfl rfl rfl rfl ?_
    refine Tr.nil ?_
    refine at_n ?_
    refine Sat.seq ?_
    first
      | refine Sat.condP rfl (fun hc0 => ?_) (fun hc0 => ?_)
      | refine Sat.condNP rfl (fun hc0 => ?_) (fun hc0 => ?_)
      | refine Sat.cond rfl (fun hc0 => ?_) (fun hc0 => ?_)
    ·
      have hk2 : k < n := by omega
      have hd := orI_drop xs k (by omega)
      refine Sat.skip ?_
      refine at_n ?_
      refine Sat.seq ?_
      refine Sat.block ?_
      refine Sat.seq ?_
      -- region 4
      refine Sat.region ?_
      first
        | refine Tr.idxSl1 rfl rfl rfl rfl Try.underlying70 Sz3 _ rfl (by omega) ?_
        | refine Tr.idxSlO rfl rfl rfl rfl Try.underlying70 Sz3 _ rfl (by omega) ?_
        | refine Tr.idxSl1 rfl rfl rfl rfl Try.underlying70 Sz3 _ (toNat_back (by omega)) (by omega) ?_
        | refine Tr.idxSlO rfl rfl rfl rfl Try.underlying70 Sz3 _ (toNat_back (by omega)) (by omega) ?_
      refine Tr.loadE rfl rfl rfl Try.underlying3 rfl (by simp) (hW _ _ (get_ints (by omega))) ?_
      refine Tr.assign rfl rfl rfl ?_
      refine Tr.nil ?_
      refine at_n ?_
      refine Sat.seq ?_
      -- region 5
      refine Sat.region ?_
      refine Tr.move rfl rfl rfl ?_
      refine Tr.move rfl rfl rfl ?_
      refine Tr.nei rfl rfl rfl rfl rfl ?_
      refine Tr.nil ?_
      refine at_n ?_
      first
        | refine Sat.condP rfl (fun hc1 => ?_) (fun hc1 => ?_)
        | refine Sat.condNP rfl (fun hc1 => ?_) (fun hc1 => ?_)
        | refine Sat.cond rfl (fun hc1 => ?_) (fun hc1 => ?_)
      ·
        refine Sat.seq ?_
        -- region 6
        refine Sat.region ?_
        refine Tr.move rfl rfl rfl ?_
        refine Tr.assign rfl rfl rfl ?_
        refine Tr.nil ?_
        refine at_n ?_
        refine Sat.ret ?_
        refine bl_r ?_
        refine at_r ?_
        refine at_r ?_
        refine bl_r ?_
        refine at_r ?_
        refine en_r ?_
        refine ⟨_, [], res_tmp rfl rfl, (by simp), (by simp), ?_, rfl⟩
        first
          | (rw [ho, hd, if_neg hc1])
          | (rw [ho, List.drop_of_length_le (by omega)]; rfl)
      ·
        refine Sat.skip ?_
        refine bl_n ?_
        refine at_n ?_
        -- region 7
        refine Sat.region ?_
        refine Tr.add_i64 rfl rfl rfl rfl (by omega) ?_
        refine Tr.move rfl rfl rfl ?_
        refine Tr.nil ?_
        refine at_n ?_
        exact ⟨k + 1, ⟨by omega, by rw [ho, hd, if_pos hc1]⟩, by omega, weak_of (wk1 rfl (wk1 rfl (wk1 rfl (wk1 rfl wk0)))) wh0 (by repeat (first | exact ns_nil | refine ns_keep rfl ?_ | refine ns_skip ?_))⟩
    ·
      obtain rfl : k = n := by omega
      refine Sat.exit ?_
      refine at_x ?_
      refine at_x ?_
      refine bl_h ?_
      refine at_n ?_
      refine Sat.seq ?_
      -- region 8
      refine Sat.region ?_
      refine Tr.move rfl rfl rfl ?_
      refine Tr.assign rfl rfl rfl ?_
      refine Tr.nil ?_
      refine at_n ?_
      refine Sat.ret ?_
      refine en_r ?_
      refine ⟨_, [], res_tmp rfl rfl, (by simp), (by simp), ?_, rfl⟩
      first
        | (rw [ho, hd, if_neg hc1])
        | (rw [ho, List.drop_of_length_le (by omega)]; rfl)


theorem bytealg_run {w : World} {p q : Option Addr} {n m c1 c2 : Nat} {a b : List UInt8} (ha : a.length = n) (hb : b.length = m) (h1 : SeesP w p (bytesV a)) (h2 : SeesP w q (bytesV b)) :
    (callFunc 56 [.slice p n c1, .slice q m c2].toArray).run Try.prog w = .ok (.value (i64 (cmpB a b))) w := by
  rw [run_callFunc_extern Try.func56 (by kernel_rfl) (by kernel_rfl) (by kernel_rfl) (e := Extern.BytealgCompare.compare) (by kernel_rfl)]
  rw [show [Value.slice p n c1, Value.slice q m c2].toArray = #[.slice p n c1, .slice q m c2] from rfl, run_compareB ha hb h1 h2]
  rfl


set_option maxRecDepth 100000 in
set_option maxHeartbeats 1000000 in
theorem bytes_cmp (p q : Option Addr) (c1 c2 n m : Nat) (a b : List UInt8) (ha : a.length = n) (hb : b.length = m) : Meets Try.prog 37 [.slice p n c1, .slice q m c2] [] (fun W => SeesP W p (bytesV a) ∧ SeesP W q (bytesV b)) (fun v out => v = i64 (cmpB a b) ∧ out = []) := by
  intro W hW
  refine calls_of (hp0 := []) Try.func37 rfl 8 Try.ntmps37 rfl (HRep.nil _) ?_
  refine Sat.seq ?_
  -- region 0
  refine Sat.region ?_
  refine Tr.assign rfl rfl rfl ?_
  refine Tr.nil ?_
  refine at_n ?_
  refine Sat.seq ?_
  -- region 1
  refine Sat.region ?_
  refine Tr.move rfl rfl rfl ?_
  refine Tr.move rfl rfl rfl ?_
  refine Tr.extL rfl rfl rfl rfl (fun w h => bytealg_run ha hb (seesP_ext h rfl hW.1) (seesP_ext h rfl hW.2)) ?_
  refine Tr.assign rfl rfl rfl ?_
  refine Tr.nil ?_
  refine at_n ?_
  refine Sat.ret ?_
  refine en_r ?_
  refine ⟨_, [], res_tmp rfl rfl, (by simp), (by simp), ?_, rfl⟩
  rfl

end Go.Proofs.Ytjeggfgbcafenaa
