/- Contracts of package octet: what it writes, and what it reads. Conditions: what the rows hold, and that they are not too long. -/
import Derived.Test.YtejjamifnombhaaRecs
import Derived.Test.YtejjamifnombhaaMisc
import Derived.Test.YtejjamifnombhaaOct
import Derived.Laws.Externs
namespace Go.Proofs.Ytejjamifnombhaa
open Go Hw
set_option linter.unusedVariables false
set_option linter.unusedSimpArgs false


def len8S : ByteArray := ⟨#[0, 1, 2, 2, 3, 3, 3, 3, 4, 4, 4, 4, 4, 4, 4, 4, 5, 5, 5, 5, 5, 5, 5, 5, 5, 5, 5, 5, 5, 5, 5, 5, 6, 6, 6, 6, 6, 6, 6, 6, 6, 6, 6, 6, 6, 6, 6, 6, 6, 6, 6, 6, 6, 6, 6, 6, 6, 6, 6, 6, 6, 6, 6, 6, 7, 7, 7, 7, 7, 7, 7, 7, 7, 7, 7, 7, 7, 7, 7, 7, 7, 7, 7, 7, 7, 7, 7, 7, 7, 7, 7, 7, 7, 7, 7, 7, 7, 7, 7, 7, 7, 7, 7, 7, 7, 7, 7, 7, 7, 7, 7, 7, 7, 7, 7, 7, 7, 7, 7, 7, 7, 7, 7, 7, 7, 7, 7, 7, 8, 8, 8, 8, 8, 8, 8, 8, 8, 8, 8, 8, 8, 8, 8, 8, 8, 8, 8, 8, 8, 8, 8, 8, 8, 8, 8, 8, 8, 8, 8, 8, 8, 8, 8, 8, 8, 8, 8, 8, 8, 8, 8, 8, 8, 8, 8, 8, 8, 8, 8, 8, 8, 8, 8, 8, 8, 8, 8, 8, 8, 8, 8, 8, 8, 8, 8, 8, 8, 8, 8, 8, 8, 8, 8, 8, 8, 8, 8, 8, 8, 8, 8, 8, 8, 8, 8, 8, 8, 8, 8, 8, 8, 8, 8, 8, 8, 8, 8, 8, 8, 8, 8, 8, 8, 8, 8, 8, 8, 8, 8, 8, 8, 8, 8, 8, 8, 8, 8, 8, 8, 8, 8, 8, 8, 8, 8, 8]⟩
set_option maxRecDepth 100000 in
theorem len8_all : ∀ n, n < 256 → len8S.data.toList[n]? = some (UInt8.ofNat (bLen n)) := by decide
set_option maxRecDepth 100000 in
theorem len8_get (x : UInt8) : len8S[x.toNat]? = some (UInt8.ofNat (bLen x.toNat)) := by
  have h := len8_all x.toNat x.toNat_lt
  have h2 : x.toNat < len8S.size := x.toNat_lt
  have e : len8S[x.toNat]? = len8S.data.toList[x.toNat]? := by
    rw [getElem?_pos len8S x.toNat h2, List.getElem?_eq_getElem (by exact x.toNat_lt)]
    rfl
  rw [e]; exact h
theorem len8_nat (x : UInt8) : (UInt8.ofNat (bLen x.toNat)).toNat = bLen x.toNat := by
  have : bLen x.toNat ≤ 8 := bLen_le.2 x.toNat_lt
  rw [UInt8.toNat_ofNat', Nat.mod_eq_of_lt (by omega)]


set_option maxRecDepth 100000 in
set_option maxHeartbeats 1000000 in
theorem bits_len8 (x : UInt8) : Meets Try.prog 151 [u8 x] [] (fun _ => True) (fun v out => v = i64 ((bLen x.toNat : Nat) : Int) ∧ out = []) := by
  intro W hW
  refine calls_of (hp0 := []) Try.func151 rfl 6 Try.ntmps151 rfl (HRep.nil _) ?_
  refine Sat.seq ?_
  -- region 0
  refine Sat.region ?_
  refine Tr.assign rfl rfl rfl ?_
  refine Tr.nil ?_
  refine at_n ?_
  refine Sat.seq ?_
  -- region 1
  refine Sat.region ?_
  refine Tr.move rfl rfl rfl ?_
  refine Tr.idxStr (s := len8S) rfl rfl rfl rfl Try.underlying9 _ rfl (len8_get x) ?_
  refine Tr.conv rfl rfl rfl Try.underlying5 Try.underlying3 (cv_u8_i64 _) ?_
  refine Tr.assign rfl rfl rfl ?_
  refine Tr.nil ?_
  refine at_n ?_
  refine Sat.ret ?_
  refine en_r ?_
  refine ⟨_, [], res_tmp rfl rfl, (by simp), (by simp), ?_, rfl⟩
  rw [len8_nat]

set_option maxRecDepth 100000 in
set_option maxHeartbeats 1000000 in
theorem bits_lz8 (x : UInt8) : Meets Try.prog 128 [u8 x] [] (fun _ => True) (fun v out => v = i64 (8 - ((bLen x.toNat : Nat) : Int)) ∧ out = []) := by
  intro W hW
  have hb : bLen x.toNat ≤ 8 := bLen_le.2 x.toNat_lt
  refine calls_of (hp0 := []) Try.func128 rfl 6 Try.ntmps128 rfl (HRep.nil _) ?_
  refine Sat.seq ?_
  -- region 0
  refine Sat.region ?_
  refine Tr.assign rfl rfl rfl ?_
  refine Tr.nil ?_
  refine at_n ?_
  refine Sat.seq ?_
  -- region 1
  refine Sat.region ?_
  refine Tr.move rfl rfl rfl ?_
  refine Tr.callV rfl rfl rfl rfl Body151 (bits_len8 _) (fun _ _ => trivial) ?_
  refine Tr.sub_i64 rfl rfl rfl rfl (by omega) ?_
  refine Tr.assign rfl rfl rfl ?_
  refine Tr.nil ?_
  refine at_n ?_
  refine Sat.ret ?_
  refine en_r ?_
  refine ⟨_, [], res_tmp rfl rfl, (by simp), (by simp), ?_, rfl⟩
  rfl


theorem shr64_nat (x : UInt64) (n : Nat) : (shr64 x n).toNat = x.toNat / 2 ^ n := by
  have h : x.toNat / 2 ^ n ≤ x.toNat := Nat.div_le_self _ _
  have := x.toNat_lt
  rw [shr64, UInt64.toNat_ofNat', Nat.mod_eq_of_lt (by omega)]


set_option maxRecDepth 100000 in
set_option maxHeartbeats 1000000 in
theorem bits_len64 (x : UInt64) : Meets Try.prog 152 [u64 x] [] (fun _ => True) (fun v out => v = i64 ((bLen x.toNat : Nat) : Int) ∧ out = []) := by
  intro W hW
  have hx := x.toNat_lt
  refine calls_of (hp0 := []) Try.func152 rfl 25 Try.ntmps152 rfl (HRep.nil _) ?_
  refine Sat.seq ?_
  -- region 0
  refine Sat.region ?_
  refine Tr.assign rfl rfl rfl ?_
  refine Tr.nil ?_
  refine at_n ?_
  refine Sat.join (ι := UInt64 × Nat) (fun p => ⟨[(0, u64 p.1), (2, i64 (p.2 : Int))], []⟩) (fun p => bLen x.toNat = p.2 + bLen p.1.toNat ∧ p.1.toNat < 2 ^ 32 ∧ p.2 ≤ 32) ?_ ?_
  ·
    refine Sat.seq ?_
    -- region 1
    refine Sat.region ?_
    refine Tr.move rfl rfl rfl ?_
    refine Tr.geq rfl rfl rfl rfl rfl ?_
    refine Tr.nil ?_
    refine at_n ?_
    first
      | refine Sat.condP rfl (fun hc0 => ?_) (fun hc0 => ?_)
      | refine Sat.condNP rfl (fun hc0 => ?_) (fun hc0 => ?_)
      | refine Sat.cond rfl (fun hc0 => ?_) (fun hc0 => ?_)
    ·
      refine Sat.seq ?_
      -- region 2
      refine Sat.region ?_
      refine Tr.move rfl rfl rfl ?_
      refine Tr.shr_u64 rfl rfl rfl rfl 32 rfl (by decide) ?_
      refine Tr.assign rfl rfl rfl ?_
      refine Tr.nil ?_
      refine at_n ?_
      -- region 3
      refine Sat.region ?_
      refine Tr.assign rfl rfl rfl ?_
      refine Tr.nil ?_
      refine at_n ?_
      first
        | exact ⟨(shr64 x 32, 0 + 32), ⟨by simp only [shr64_nat]; have := bLen_shr (n := x.toNat) (k := 32) (by omega); omega, by simp only [shr64_nat]; omega, by simp only []; omega⟩, weak_of (wk1 rfl (wk1 (by first | rfl | (simp only [Int.natCast_add]; rfl)) wk0)) wh0 (by repeat (first | exact ns_nil | refine ns_keep rfl ?_ | refine ns_skip ?_))⟩
        | exact ⟨(x, 0), ⟨by simp only []; omega, by simp only []; omega, by simp only []; omega⟩, weak_of (wk1 rfl (wk1 (by first | rfl | (simp only [Int.natCast_add]; rfl)) wk0)) wh0 (by repeat (first | exact ns_nil | refine ns_keep rfl ?_ | refine ns_skip ?_))⟩
    ·
      refine Sat.skip ?_
      refine at_n ?_
      first
        | exact ⟨(shr64 x 32, 0 + 32), ⟨by simp only [shr64_nat]; have := bLen_shr (n := x.toNat) (k := 32) (by omega); omega, by simp only [shr64_nat]; omega, by simp only []; omega⟩, weak_of (wk1 rfl (wk1 (by first | rfl | (simp only [Int.natCast_add]; rfl)) wk0)) wh0 (by repeat (first | exact ns_nil | refine ns_keep rfl ?_ | refine ns_skip ?_))⟩
        | exact ⟨(x, 0), ⟨by simp only []; omega, by simp only []; omega, by simp only []; omega⟩, weak_of (wk1 rfl (wk1 (by first | rfl | (simp only [Int.natCast_add]; rfl)) wk0)) wh0 (by repeat (first | exact ns_nil | refine ns_keep rfl ?_ | refine ns_skip ?_))⟩
  ·
    intro p hj
    obtain ⟨y, n⟩ := p
    obtain ⟨hb, hy, hn⟩ := hj
    simp only at hb hy hn ⊢
    refine Sat.join (ι := UInt64 × Nat) (fun p => ⟨[(0, u64 p.1), (2, i64 (p.2 : Int))], []⟩) (fun p => bLen x.toNat = p.2 + bLen p.1.toNat ∧ p.1.toNat < 2 ^ 16 ∧ p.2 ≤ 48) ?_ ?_
    ·
      refine Sat.seq ?_
      -- region 4
      refine Sat.region ?_
      refine Tr.move rfl rfl rfl ?_
      refine Tr.geq rfl rfl rfl rfl rfl ?_
      refine Tr.nil ?_
      refine at_n ?_
      first
        | refine Sat.condP rfl (fun hc1 => ?_) (fun hc1 => ?_)
        | refine Sat.condNP rfl (fun hc1 => ?_) (fun hc1 => ?_)
        | refine Sat.cond rfl (fun hc1 => ?_) (fun hc1 => ?_)
      ·
        refine Sat.seq ?_
        -- region 5
        refine Sat.region ?_
        refine Tr.move rfl rfl rfl ?_
        refine Tr.shr_u64 rfl rfl rfl rfl 16 rfl (by decide) ?_
        refine Tr.assign rfl rfl rfl ?_
        refine Tr.nil ?_
        refine at_n ?_
        -- region 6
        refine Sat.region ?_
        refine Tr.move rfl rfl rfl ?_
        refine Tr.add_i64 rfl rfl rfl rfl (by omega) ?_
        refine Tr.assign rfl rfl rfl ?_
        refine Tr.nil ?_
        refine at_n ?_
        first
          | exact ⟨(shr64 y 16, n + 16), ⟨by simp only [shr64_nat]; have := bLen_shr (n := y.toNat) (k := 16) (by omega); omega, by simp only [shr64_nat]; omega, by simp only []; omega⟩, weak_of (wk1 rfl (wk1 (by first | rfl | (simp only [Int.natCast_add]; rfl)) wk0)) wh0 (by repeat (first | exact ns_nil | refine ns_keep rfl ?_ | refine ns_skip ?_))⟩
          | exact ⟨(y, n), ⟨by simp only []; omega, by simp only []; omega, by simp only []; omega⟩, weak_of (wk1 rfl (wk1 (by first | rfl | (simp only [Int.natCast_add]; rfl)) wk0)) wh0 (by repeat (first | exact ns_nil | refine ns_keep rfl ?_ | refine ns_skip ?_))⟩
      ·
        refine Sat.skip ?_
        refine at_n ?_
        first
          | exact ⟨(shr64 y 16, n + 16), ⟨by simp only [shr64_nat]; have := bLen_shr (n := y.toNat) (k := 16) (by omega); omega, by simp only [shr64_nat]; omega, by simp only []; omega⟩, weak_of (wk1 rfl (wk1 (by first | rfl | (simp only [Int.natCast_add]; rfl)) wk0)) wh0 (by repeat (first | exact ns_nil | refine ns_keep rfl ?_ | refine ns_skip ?_))⟩
          | exact ⟨(y, n), ⟨by simp only []; omega, by simp only []; omega, by simp only []; omega⟩, weak_of (wk1 rfl (wk1 (by first | rfl | (simp only [Int.natCast_add]; rfl)) wk0)) wh0 (by repeat (first | exact ns_nil | refine ns_keep rfl ?_ | refine ns_skip ?_))⟩
    ·
      intro p hj
      obtain ⟨y, n⟩ := p
      obtain ⟨hb, hy, hn⟩ := hj
      simp only at hb hy hn ⊢
      refine Sat.join (ι := UInt64 × Nat) (fun p => ⟨[(0, u64 p.1), (2, i64 (p.2 : Int))], []⟩) (fun p => bLen x.toNat = p.2 + bLen p.1.toNat ∧ p.1.toNat < 2 ^ 8 ∧ p.2 ≤ 56) ?_ ?_
      ·
        refine Sat.seq ?_
        -- region 7
        refine Sat.region ?_
        refine Tr.move rfl rfl rfl ?_
        refine Tr.geq rfl rfl rfl rfl rfl ?_
        refine Tr.nil ?_
        refine at_n ?_
        first
          | refine Sat.condP rfl (fun hc2 => ?_) (fun hc2 => ?_)
          | refine Sat.condNP rfl (fun hc2 => ?_) (fun hc2 => ?_)
          | refine Sat.cond rfl (fun hc2 => ?_) (fun hc2 => ?_)
        ·
          refine Sat.seq ?_
          -- region 8
          refine Sat.region ?_
          refine Tr.move rfl rfl rfl ?_
          refine Tr.shr_u64 rfl rfl rfl rfl 8 rfl (by decide) ?_
          refine Tr.assign rfl rfl rfl ?_
          refine Tr.nil ?_
          refine at_n ?_
          -- region 9
          refine Sat.region ?_
          refine Tr.move rfl rfl rfl ?_
          refine Tr.add_i64 rfl rfl rfl rfl (by omega) ?_
          refine Tr.assign rfl rfl rfl ?_
          refine Tr.nil ?_
          refine at_n ?_
          first
            | exact ⟨(shr64 y 8, n + 8), ⟨by simp only [shr64_nat]; have := bLen_shr (n := y.toNat) (k := 8) (by omega); omega, by simp only [shr64_nat]; omega, by simp only []; omega⟩, weak_of (wk1 rfl (wk1 (by first | rfl | (simp only [Int.natCast_add]; rfl)) wk0)) wh0 (by repeat (first | exact ns_nil | refine ns_keep rfl ?_ | refine ns_skip ?_))⟩
            | exact ⟨(y, n), ⟨by simp only []; omega, by simp only []; omega, by simp only []; omega⟩, weak_of (wk1 rfl (wk1 (by first | rfl | (simp only [Int.natCast_add]; rfl)) wk0)) wh0 (by repeat (first | exact ns_nil | refine ns_keep rfl ?_ | refine ns_skip ?_))⟩
        ·
          refine Sat.skip ?_
          refine at_n ?_
          first
            | exact ⟨(shr64 y 8, n + 8), ⟨by simp only [shr64_nat]; have := bLen_shr (n := y.toNat) (k := 8) (by omega); omega, by simp only [shr64_nat]; omega, by simp only []; omega⟩, weak_of (wk1 rfl (wk1 (by first | rfl | (simp only [Int.natCast_add]; rfl)) wk0)) wh0 (by repeat (first | exact ns_nil | refine ns_keep rfl ?_ | refine ns_skip ?_))⟩
            | exact ⟨(y, n), ⟨by simp only []; omega, by simp only []; omega, by simp only []; omega⟩, weak_of (wk1 rfl (wk1 (by first | rfl | (simp only [Int.natCast_add]; rfl)) wk0)) wh0 (by repeat (first | exact ns_nil | refine ns_keep rfl ?_ | refine ns_skip ?_))⟩
      ·
        intro p hj
        obtain ⟨y, n⟩ := p
        obtain ⟨hb, hy, hn⟩ := hj
        simp only at hb hy hn ⊢
        refine Sat.seq ?_
        -- region 10
        refine Sat.region ?_
        refine Tr.move rfl rfl rfl ?_
        refine Tr.move rfl rfl rfl ?_
        refine Tr.conv rfl rfl rfl Try.underlying24 Try.underlying5 (cv_u64_u8 _) ?_
        refine Tr.idxStr (s := len8S) rfl rfl rfl rfl Try.underlying9 _ rfl (len8_get y.toUInt8) ?_
        have h8 : y.toUInt8.toNat = y.toNat := by simp; omega
        have h9 := len8_nat y.toUInt8
        have h10 : bLen y.toUInt8.toNat ≤ 8 := bLen_le.2 (by rw [h8]; omega)
        refine Tr.conv rfl rfl rfl Try.underlying5 Try.underlying3 (cv_u8_i64 _) ?_
        refine Tr.add_i64 rfl rfl rfl rfl (by omega) ?_
        refine Tr.assign rfl rfl rfl ?_
        refine Tr.nil ?_
        refine at_n ?_
        refine Sat.ret ?_
        refine en_r ?_
        refine ⟨_, [], res_tmp rfl rfl, (by simp), (by simp), ?_, rfl⟩
        rw [h9, h8, hb, Int.natCast_add]

set_option maxRecDepth 100000 in
set_option maxHeartbeats 1000000 in
theorem oct_size (x : UInt64) : Meets Try.prog 130 [u64 x] [] (fun _ => True) (fun v out => v = i64 ((szN x.toNat : Nat) : Int) ∧ out = []) := by
  intro W hW
  have hb : bLen (x ||| 1).toNat ≤ 64 := bLen_le.2 (x ||| 1).toNat_lt
  have ho : (x ||| 1).toNat = x.toNat ||| 1 := by rw [UInt64.toNat_or]; rfl
  refine calls_of (hp0 := []) Try.func130 rfl 9 Try.ntmps130 rfl (HRep.nil _) ?_
  refine Sat.seq ?_
  -- region 0
  refine Sat.region ?_
  refine Tr.assign rfl rfl rfl ?_
  refine Tr.nil ?_
  refine at_n ?_
  refine Sat.seq ?_
  -- region 1
  refine Sat.region ?_
  refine Tr.move rfl rfl rfl ?_
  refine Tr.or_u64 rfl rfl rfl (show evIn _ _ = some (u64 1) from rfl) ?_
  refine Tr.callV rfl rfl rfl rfl Body152 (bits_len64 _) (fun _ _ => trivial) ?_
  refine Tr.add_i64 rfl rfl rfl rfl (by omega) ?_
  refine Tr.quo_i64 rfl rfl rfl rfl (by omega) ?_
  refine Tr.min2 rfl rfl rfl rfl (rfl) ?_
  refine Tr.assign rfl rfl rfl ?_
  refine Tr.nil ?_
  refine at_n ?_
  refine Sat.ret ?_
  refine en_r ?_
  refine ⟨_, [], res_tmp rfl rfl, (by simp), (by simp), ?_, rfl⟩
  rw [szN, ← ho]; congr 1; split <;> omega

set_option maxRecDepth 100000 in
set_option maxHeartbeats 1000000 in
theorem oct_grown (p : Option Addr) (n c m : Nat) (l : List UInt8) (hl : l.length = n) (hp : p = none → n = 0) (hn : n ≤ 100000) (hm : m ≤ 100000) : Meets Try.prog 79 [.slice p n c, i64 (m : Int)] [] (fun W => SeesP W p (bytesV l)) (fun v out => FreshRow v out (bytesV l) 5 n 1) := by
  intro W hW
  refine calls_of (hp0 := []) Try.func79 rfl 12 Try.ntmps79 rfl (HRep.nil _) ?_
  refine Sat.seq ?_
  -- region 0
  refine Sat.region ?_
  refine Tr.assign rfl rfl rfl ?_
  refine Tr.nil ?_
  refine at_n ?_
  refine Sat.seq ?_
  -- region 1
  refine Sat.region ?_
  refine Tr.move rfl rfl rfl ?_
  refine Tr.lenSl rfl rfl rfl Try.underlying27 ?_
  refine Tr.move rfl rfl rfl ?_
  refine Tr.add_i64 rfl rfl rfl rfl (by omega) ?_
  refine Tr.mkRoom (z := u8 0) (by' := 1) (n + m) rfl rfl rfl rfl (by omega) Try.underlying27 Sz5 Zr5 (by unfold By; kernel_rfl) rfl (by omega) (by omega) ?_
  intro n9
  refine Tr.move rfl rfl rfl ?_
  refine Tr.appendSl (z := u8 0) (by' := 1) (bytesV l) rfl rfl rfl rfl rfl Try.underlying27 Try.underlying27 Sz5 Zr5 (by unfold By; kernel_rfl) rfl (fun w h => seesP_ext h rfl hW) hp (by simp [bytesV, isCell, u8]) rem_here (by omega) rfl (by omega) (by omega) (by omega) (by simp [bytesV, hl]) ?_
  intro q1 c1 hq1
  refine Tr.assign rfl rfl rfl ?_
  refine Tr.nil ?_
  refine at_n ?_
  refine Sat.ret ?_
  refine en_r ?_
  refine ⟨_, [⟨q1, [] ++ bytesV l, 5, c1 * 1⟩], res_tmp rfl rfl, (by intro b hb; rw [List.mem_singleton.1 hb]; exact mem0), nodup1, ⟨q1, c1, by rw [Nat.zero_add], by omega, rfl⟩⟩

set_option maxRecDepth 100000 in
set_option maxHeartbeats 1000000 in
theorem oct_number (q n c : Nat) (l : List UInt8) (x : UInt64) (hl : l.length = n) (hnc : n ≤ c) (hn : n ≤ 200000) : Meets Try.prog 132 [.slice (some ⟨q, 0, none⟩) n c, u64 x] [q] (fun W => BlkOk W ⟨q, bytesV (l), 5, c * 1⟩) (fun v out => FreshRow v out (bytesV (l ++ numB x)) 5 (n + szN x.toNat) 1) := by
  intro W hW
  have hz := szN_pos x.toNat
  refine calls_of (hp0 := [⟨q, bytesV (l), 5, c * 1⟩]) Try.func132 rfl 37 Try.ntmps132 rfl (HRep.one hW) ?_
  refine Sat.seq ?_
  -- region 0
  refine Sat.region ?_
  refine Tr.assign rfl rfl rfl ?_
  refine Tr.nil ?_
  refine at_n ?_
  refine Sat.seq ?_
  -- region 1
  refine Sat.region ?_
  refine Tr.move rfl rfl rfl ?_
  refine Tr.callV rfl rfl rfl rfl Body130 (oct_size _) (fun _ _ => trivial) ?_
  refine Tr.assign rfl rfl rfl ?_
  refine Tr.nil ?_
  refine at_n ?_
  refine Sat.seq ?_
  -- region 2
  refine Sat.draw [(0, 0), (0, 1), (0, 2), (0, 3), (0, 4), (0, 5), (0, 6), (0, 7), (0, 8), (0, 9), (0, 10), (4, 11), (4, 12), (0, 13)] Mixed (by kernel_rfl) ?_
  refine Tr.move rfl rfl rfl ?_
  refine Tr.move rfl rfl rfl ?_
  refine Tr.sub_i64 rfl rfl rfl rfl (by omega) ?_
  refine Tr.shl_u8 rfl rfl (show evIn _ _ = some (u8 255) from rfl) rfl (9 - szN x.toNat) (by omega) (by omega) ?_
  refine Tr.move rfl rfl rfl ?_
  refine Tr.move rfl rfl rfl ?_
  refine Tr.sub_i64 rfl rfl rfl rfl (by omega) ?_
  refine Tr.mul_i64 rfl rfl rfl rfl (by omega) ?_
  refine Tr.shr_u64 rfl rfl rfl rfl (8 * (szN x.toNat - 1)) (by omega) (by omega) ?_
  refine Tr.conv rfl rfl rfl Try.underlying24 Try.underlying5 (cv_u64_u8 _) ?_
  refine Tr.or_u8 rfl rfl rfl rfl ?_
  refine Tr.mkRow (z := u8 0) [u8 (headB x)] (bytesV [headB x]) rfl rfl rfl Try.underlying27 Sz5 Zr5 rfl rfl (by intro v hv; rw [List.mem_singleton.1 hv]; rfl) (by decide) rfl ?_
  intro q20
  refine Tr.appendSl (z := u8 0) (by' := 1) (bytesV [headB x]) rfl rfl rfl rfl rfl Try.underlying27 Try.underlying27 Sz5 Zr5 (by unfold By; kernel_rfl) rfl (fun w h => SeesP.of (sees_own h mem0)) (fun e => by cases e) (by simp [bytesV, isCell, u8]) (rem_there rem_here) rfl (by simp [bytesV, hl]) (by omega) (by omega) (by omega) (by rfl) ?_
  intro q1 c1 hq1
  refine Tr.assign rfl rfl rfl ?_
  refine Tr.nil ?_
  refine at_n ?_
  refine Sat.seq ?_
  refine Sat.seq ?_
  -- region 3
  refine Sat.region ?_
  refine Tr.move rfl rfl rfl ?_
  refine Tr.sub_i64 rfl rfl rfl rfl (by omega) ?_
  refine Tr.assign rfl rfl rfl ?_
  refine Tr.nil ?_
  refine at_n ?_
  refine Sat.block ?_
  refine Sat.loop (ι := Nat × Nat × Nat) (fun p => ⟨[(0, .slice (some ⟨p.2.1, 0, none⟩) (n + 1 + p.1) p.2.2), (1, u64 x), (5, i64 ((szN x.toNat : Nat) : Int)), (6, i64 (((szN x.toNat : Nat) : Int) - 2 - (p.1 : Int)))], [⟨p.2.1, bytesV (l ++ numUp x p.1), 5, p.2.2 * 1⟩]⟩) (fun p => p.1 ≤ szN x.toNat - 1 ∧ n + 1 + p.1 ≤ p.2.2) (fun p => szN x.toNat - 1 - p.1) ((0, q1, c1)) ?_ ?_ ?_
  · exact ⟨Nat.zero_le _, hq1⟩
  · exact weak_of (wk1 rfl (wk1 rfl (wk1 rfl (wk1 (by rw [show (((szN x.toNat : Nat) : Int) - 2 - ((0 : Nat) : Int)) = ((szN x.toNat : Nat) : Int) - 2 by omega]; rfl) wk0)))) (wh1 (by rw [numUp_zero]; simp only [bytesV, List.map_append]; exact mem0) wh0) (by repeat (first | exact ns_nil | refine ns_keep rfl ?_ | refine ns_skip ?_))
  ·
    rintro p ⟨hp1, hp2⟩
    refine Sat.seq ?_
    refine Sat.seq ?_
    -- region 4
    refine Sat.region ?_
    refine Tr.move rfl rfl rfl ?_
    refine Tr.geq rfl rfl rfl rfl rfl ?_
    refine Tr.nil ?_
    refine at_n ?_
    first
      | refine Sat.condP rfl (fun hc0 => ?_) (fun hc0 => ?_)
      | refine Sat.condNP rfl (fun hc0 => ?_) (fun hc0 => ?_)
      | refine Sat.cond rfl (fun hc0 => ?_) (fun hc0 => ?_)
    ·
      have hp3 : p.1 < szN x.toNat - 1 := by omega
      refine Sat.skip ?_
      refine at_n ?_
      refine Sat.seq ?_
      refine Sat.block ?_
      -- region 6
      refine Sat.region ?_
      refine Tr.move rfl rfl rfl ?_
      refine Tr.move rfl rfl rfl ?_
      refine Tr.move rfl rfl rfl ?_
      refine Tr.mul_i64 rfl rfl rfl rfl (by omega) ?_
      refine Tr.shr_u64 rfl rfl rfl rfl (8 * (szN x.toNat - 2 - p.1)) (by omega) (by omega) ?_
      refine Tr.conv rfl rfl rfl Try.underlying24 Try.underlying5 (cv_u64_u8 _) ?_
      refine Tr.mkRow (z := u8 0) [u8 ((shr64 x (8 * (szN x.toNat - 2 - p.1))).toUInt8)] (bytesV [(shr64 x (8 * (szN x.toNat - 2 - p.1))).toUInt8]) rfl rfl rfl Try.underlying27 Sz5 Zr5 rfl rfl (by intro v hv; rw [List.mem_singleton.1 hv]; rfl) (by decide) rfl ?_
      intro q34
      refine Tr.appendSl (z := u8 0) (by' := 1) (bytesV [(shr64 x (8 * (szN x.toNat - 2 - p.1))).toUInt8]) rfl rfl rfl rfl rfl Try.underlying27 Try.underlying27 Sz5 Zr5 (by unfold By; kernel_rfl) rfl (fun w h => SeesP.of (sees_own h mem0)) (fun e => by cases e) (by simp [bytesV, isCell, u8]) (rem_there rem_here) rfl (by rw [bytesV, List.length_map, List.length_append, hl, numUp_length x p.1 (by omega)]; omega) (by omega) (by omega) (by omega) (by rfl) ?_
      intro q2 c2 hq2
      refine Tr.assign rfl rfl rfl ?_
      refine Tr.nil ?_
      refine bl_n ?_
      refine at_n ?_
      -- region 5
      refine Sat.region ?_
      refine Tr.move rfl rfl rfl ?_
      refine Tr.sub_i64 rfl rfl rfl rfl (by omega) ?_
      refine Tr.assign rfl rfl rfl ?_
      refine Tr.nil ?_
      refine at_n ?_
      exact ⟨(p.1 + 1, q2, c2), ⟨by simp only []; omega, by simp only []; omega⟩, by simp only []; omega, weak_of (wk1 (by rw [show n + 1 + (p.1 + 1) = n + 1 + p.1 + 1 by omega]; rfl) (wk1 rfl (wk1 rfl (wk1 (by rw [show (((szN x.toNat : Nat) : Int) - 2 - ((p.1 + 1 : Nat) : Int)) = ((szN x.toNat : Nat) : Int) - 2 - (p.1 : Int) - 1 by omega]; rfl) wk0)))) (wh1 (by rw [numUp_step x p.1 (by omega), ← List.append_assoc]; simp only [bytesV, List.map_append]; exact mem0) wh0) (by repeat (first | exact ns_nil | refine ns_keep rfl ?_ | refine ns_skip ?_))⟩
    ·
      have hp3 : p.1 = szN x.toNat - 1 := by omega
      refine Sat.exit ?_
      refine at_x ?_
      refine at_x ?_
      refine bl_h ?_
      refine at_n ?_
      refine Sat.seq ?_
      -- region 7
      refine Sat.region ?_
      refine Tr.move rfl rfl rfl ?_
      refine Tr.assign rfl rfl rfl ?_
      refine Tr.nil ?_
      refine at_n ?_
      refine Sat.ret ?_
      refine en_r ?_
      refine ⟨_, [⟨p.2.1, bytesV (l ++ numB x), 5, p.2.2 * 1⟩], res_tmp rfl rfl, (by intro b hb; rw [List.mem_singleton.1 hb, ← numUp_all, ← hp3]; exact mem0), nodup1, ⟨p.2.1, p.2.2, by rw [show n + 1 + p.1 = n + szN x.toNat by omega], by omega, rfl⟩⟩

set_option maxRecDepth 100000 in
set_option maxHeartbeats 1000000 in
theorem oct_Number (p : Option Addr) (n c : Nat) (l : List UInt8) (x : UInt64) (hl : l.length = n) (hp : p = none → n = 0) (hn : n ≤ 90000) : Meets Try.prog 90 [.slice p n c, u64 x] [] (fun W => SeesP W p (bytesV l)) (fun v out => FreshRow v out (bytesV (l ++ numB x)) 5 (n + szN x.toNat) 1) := by
  intro W hW
  have hz := szN_pos x.toNat
  refine calls_of (hp0 := []) Try.func90 rfl 11 Try.ntmps90 rfl (HRep.nil _) ?_
  refine Sat.seq ?_
  -- region 0
  refine Sat.region ?_
  refine Tr.assign rfl rfl rfl ?_
  refine Tr.nil ?_
  refine at_n ?_
  refine Sat.seq ?_
  -- region 1
  refine Sat.region ?_
  refine Tr.move rfl rfl rfl ?_
  refine Tr.move rfl rfl rfl ?_
  refine Tr.callV rfl rfl rfl rfl Body130 (oct_size _) (fun _ _ => trivial) ?_
  refine Tr.call rfl rfl rfl rfl Body79 (oct_grown p n c (szN x.toNat) l hl hp (by omega) (by omega)) (FreshRow.loose _ _ _ _) (fun w h => seesP_ext h rfl hW) ?_
  rintro v1 out1 ⟨q1, c1, rfl, hc1, rfl⟩
  refine Tr.move rfl rfl rfl ?_
  refine Tr.callL (L := [⟨q1, bytesV (l), 5, c1 * 1⟩]) rfl rfl rfl rfl rfl Body132 (oct_number q1 (n) c1 (l) x (by simp [hl]) hc1 (by omega)) rem_here (by intro m hm; exact ⟨_, List.mem_singleton.2 rfl, (List.mem_singleton.1 hm).symm⟩) (fun w h => own_blk h (by first | exact mem0 | exact mem1 | exact mem2 | exact mem3 | exact mem4 | exact mem5 | exact mem6 | exact mem7 | (repeat (first | exact List.mem_cons_self | refine List.mem_cons_of_mem _ ?_ | refine mem_seg ?_)))) ?_
  rintro v2 out2 ⟨q2, c2, rfl, hc2, rfl⟩
  refine Tr.assign rfl rfl rfl ?_
  refine Tr.nil ?_
  refine at_n ?_
  refine Sat.ret ?_
  refine en_r ?_
  refine ⟨_, [⟨q2, bytesV (l ++ numB x), 5, c2 * 1⟩], res_tmp rfl rfl, (by intro b hb; rw [List.mem_singleton.1 hb]; exact mem0), nodup1, ⟨q2, c2, rfl, hc2, rfl⟩⟩

set_option maxRecDepth 100000 in
set_option maxHeartbeats 1000000 in
theorem oct_Block (p r : Option Addr) (n c m d : Nat) (l ys : List UInt8) (hl : l.length = n) (hy : ys.length = m) (hp : p = none → n = 0) (hr : r = none → m = 0) (hn : n ≤ 40000) (hm : m ≤ 40000) : Meets Try.prog 91 [.slice p n c, .slice r m d] [] (fun W => SeesP W p (bytesV l) ∧ SeesP W r (bytesV ys)) (fun v out => FreshRow v out (bytesV (l ++ numB (UInt64.ofNat m) ++ ys)) 5 (n + szN m + m) 1) := by
  intro W hW
  have hz := szN_pos m
  have hw : wordOf (m : Int) = UInt64.ofNat m := by simp only [wordOf]; congr 1; omega
  have hmn : (UInt64.ofNat m).toNat = m := by rw [UInt64.toNat_ofNat', Nat.mod_eq_of_lt (by omega)]
  refine calls_of (hp0 := []) Try.func91 rfl 20 Try.ntmps91 rfl (HRep.nil _) ?_
  refine Sat.seq ?_
  -- region 0
  refine Sat.region ?_
  refine Tr.assign rfl rfl rfl ?_
  refine Tr.nil ?_
  refine at_n ?_
  refine Sat.seq ?_
  -- region 1
  refine Sat.region ?_
  refine Tr.move rfl rfl rfl ?_
  refine Tr.lenSl rfl rfl rfl Try.underlying27 ?_
  refine Tr.conv rfl rfl rfl Try.underlying3 Try.underlying24 (cv_i64_u64 _) ?_
  rw [hw]
  refine Tr.assign rfl rfl rfl ?_
  refine Tr.nil ?_
  refine at_n ?_
  refine Sat.seq ?_
  -- region 2
  refine Sat.region ?_
  refine Tr.move rfl rfl rfl ?_
  refine Tr.move rfl rfl rfl ?_
  refine Tr.callV rfl rfl rfl rfl Body130 (oct_size _) (fun _ _ => trivial) ?_
  rw [hmn]
  refine Tr.move rfl rfl rfl ?_
  refine Tr.lenSl rfl rfl rfl Try.underlying27 ?_
  refine Tr.add_i64 rfl rfl rfl rfl (by omega) ?_
  refine Tr.call rfl rfl rfl rfl Body79 (oct_grown p n c (szN m + m) l hl hp (by omega) (by omega)) (FreshRow.loose _ _ _ _) (fun w h => seesP_ext h rfl hW.1) ?_
  rintro v1 out1 ⟨q1, c1, rfl, hc1, rfl⟩
  refine Tr.move rfl rfl rfl ?_
  refine Tr.callL (L := [⟨q1, bytesV (l), 5, c1 * 1⟩]) rfl rfl rfl rfl rfl Body132 (oct_number q1 n c1 l (UInt64.ofNat m) hl hc1 (by omega)) rem_here (by intro m hm; exact ⟨_, List.mem_singleton.2 rfl, (List.mem_singleton.1 hm).symm⟩) (fun w h => own_blk h (by first | exact mem0 | exact mem1 | exact mem2 | exact mem3 | exact mem4 | exact mem5 | exact mem6 | exact mem7 | (repeat (first | exact List.mem_cons_self | refine List.mem_cons_of_mem _ ?_ | refine mem_seg ?_)))) ?_
  rintro v2 out2 ⟨q2, c2, rfl, hc2, rfl⟩
  rw [hmn] at hc2 ⊢
  refine Tr.move rfl rfl rfl ?_
  refine Tr.appendSl (z := u8 0) (by' := 1) (bytesV ys) rfl rfl rfl rfl rfl Try.underlying27 Try.underlying27 Sz5 Zr5 (by unfold By; kernel_rfl) rfl (fun w h => seesP_ext h rfl hW.2) hr (by simp [bytesV, isCell, u8]) rem_here rfl (by rw [bytesV, List.length_map, List.length_append, numB_length, hl, hmn, Nat.mul_one]) (by omega) (by omega) (by omega) (by simp [bytesV, hy]) ?_
  intro q3 c3 hq3
  refine Tr.assign rfl rfl rfl ?_
  refine Tr.nil ?_
  refine at_n ?_
  refine Sat.ret ?_
  refine en_r ?_
  refine ⟨_, [⟨q3, bytesV (l ++ numB (UInt64.ofNat m) ++ ys), 5, c3 * 1⟩], res_tmp rfl rfl, (by intro b hb; rw [List.mem_singleton.1 hb]; simp only [bytesV, List.map_append]; exact mem0), nodup1, ⟨q3, c3, rfl, hq3, rfl⟩⟩

end Go.Proofs.Ytejjamifnombhaa
