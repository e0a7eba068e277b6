/- What the law VoteOrders returns. Conditions: the lengths of arrays. -/
import Derived.Test.YtjeggfgbcafenaaVote
import Derived.Laws.Externs
namespace Go.Proofs.Ytjeggfgbcafenaa
open Go Hw
set_option linter.unusedVariables false
set_option linter.unusedSimpArgs false


def or2 (x u : Int) : Int := if x = 0 then u else x
theorem orI_cons (x : Int) (l : List Int) : orI (x :: l) = or2 x (orI l) := rfl
def T3 (x y z : Int) : Prop := (x ≤ 0 → y ≤ 0 → z ≤ 0 ∧ (x < 0 ∨ y < 0 → z < 0)) ∧ (0 ≤ x → 0 ≤ y → 0 ≤ z ∧ (0 < x ∨ 0 < y → 0 < z))
theorem T3.or2 {x y z u v w : Int} (h : T3 x y z) (k : T3 u v w) : T3 (or2 x u) (or2 y v) (or2 z w) := by
  unfold T3 at *
  unfold Go.Proofs.Ytjeggfgbcafenaa.or2
  by_cases hx : x = 0 <;> by_cases hy : y = 0 <;> by_cases hz : z = 0 <;> simp only [hx, hy, hz, if_true, if_false] <;> omega
theorem T3.cmpI (a b c : Int) : T3 (cmpI a b) (cmpI b c) (cmpI a c) := by
  unfold T3 Go.Proofs.Ytjeggfgbcafenaa.cmpI
  by_cases h1 : a < b <;> by_cases h2 : b < a <;> by_cases h3 : b < c <;> by_cases h4 : c < b <;> by_cases h5 : a < c <;> by_cases h6 : c < a <;> simp [h1, h2, h3, h4, h5, h6] <;> omega
theorem T3.cmpB (a b c : List UInt8) : T3 (cmpB a b) (cmpB b c) (cmpB a c) := by
  refine ⟨cmpB_trans a b c, fun h1 h2 => ?_⟩
  have := cmpB_trans c b a (by rw [cmpB_neg]; omega) (by rw [cmpB_neg]; omega)
  rw [cmpB_neg a c, cmpB_neg b c, cmpB_neg a b] at this
  omega
theorem vcmp_T3 (a b c : Vote) : T3 (vcmp a b) (vcmp b c) (vcmp a c) := by
  simp only [vcmp, orI_cons]
  exact (T3.cmpI _ _ _).or2 ((T3.cmpI _ _ _).or2 ((T3.cmpI _ _ _).or2 ((T3.cmpB _ _ _).or2 ((T3.cmpB _ _ _).or2 ((T3.cmpI _ _ _).or2 (by unfold T3; simp [orI]))))))
theorem cmpI_neg (a b : Int) : cmpI b a = - cmpI a b := by unfold cmpI; split <;> split <;> omega
theorem cmpI_rng (a b : Int) : -1 ≤ cmpI a b ∧ cmpI a b ≤ 1 := by unfold cmpI; split <;> (try split) <;> omega
theorem cmpI_zero (a b : Int) : cmpI a b = 0 ↔ a = b := by unfold cmpI; split <;> (try split) <;> omega
theorem cmpI_lt (a b : Int) : cmpI a b < 0 ↔ a < b := by unfold cmpI; split <;> (try split) <;> omega
theorem cmpB_rng (a b : List UInt8) : -1 ≤ cmpB a b ∧ cmpB a b ≤ 1 := by rcases cmpB_cases a b with h | h | h <;> omega
theorem vcmp_neg (a b : Vote) : vcmp b a = - vcmp a b := by
  simp only [vcmp, orI_cons, cmpI_neg (a.fHeight.toNat : Int), cmpI_neg (a.fRound.toNat : Int), cmpI_neg a.fPhase, cmpI_neg (a.fProof.toNat : Int), cmpB_neg a.fVoter, cmpB_neg a.fValue]
  simp only [or2, orI]
  repeat' split
  all_goals omega
theorem vcmp_rng (a b : Vote) : -1 ≤ vcmp a b ∧ vcmp a b ≤ 1 := by
  simp only [vcmp, orI_cons, or2, orI]
  have h1 := cmpI_rng (a.fHeight.toNat : Int) (b.fHeight.toNat : Int)
  have h2 := cmpI_rng (a.fRound.toNat : Int) (b.fRound.toNat : Int)
  have h3 := cmpI_rng a.fPhase b.fPhase
  have h4 := cmpB_rng a.fVoter b.fVoter
  have h5 := cmpB_rng a.fValue b.fValue
  have h6 := cmpI_rng (a.fProof.toNat : Int) (b.fProof.toNat : Int)
  repeat' split
  all_goals omega
theorem vcmp_zero (a b : Vote) : vcmp a b = 0 ↔ ({ a with fSig := List.replicate 64 0 } : Vote) = { b with fSig := List.replicate 64 0 } := by
  have e : ∀ x u : Int, or2 x u = 0 ↔ x = 0 ∧ u = 0 := fun x u => by unfold or2; split <;> omega
  have eu : ∀ a b : UInt64, ((a.toNat : Int) = (b.toNat : Int)) ↔ a = b := fun a b => ⟨fun h => UInt64.toNat_inj.1 (by omega), fun h => by rw [h]⟩
  have e0 : orI [] = 0 := rfl
  simp only [vcmp, orI_cons, e, e0, cmpI_zero, cmpB_zero, eu, Vote.mk.injEq]
  constructor
  · rintro ⟨h1, h2, h3, h4, h5, h6, _⟩
    exact ⟨h1, h2, h3, h5, h6, h4, trivial⟩
  · rintro ⟨h1, h2, h3, h5, h6, h4, _⟩
    exact ⟨h1, h2, h3, h4, h5, h6, trivial⟩
theorem vcmp_h (a b : Vote) (h : ¬ (a.fHeight.toNat : Int) = b.fHeight.toNat) : vcmp a b < 0 ↔ (a.fHeight.toNat : Int) < b.fHeight.toNat := by
  rw [vcmp, orI_cons, or2, if_neg (by rw [cmpI_zero]; exact h), cmpI_lt]
theorem vcmp_r (a b : Vote) (h : (a.fHeight.toNat : Int) = b.fHeight.toNat) (h2 : ¬ (a.fRound.toNat : Int) = b.fRound.toNat) : vcmp a b < 0 ↔ (a.fRound.toNat : Int) < b.fRound.toNat := by
  rw [vcmp, orI_cons, or2, if_pos (by rw [cmpI_zero]; exact h), orI_cons, or2, if_neg (by rw [cmpI_zero]; exact h2), cmpI_lt]
theorem vcmp_p (a b : Vote) (h : (a.fHeight.toNat : Int) = b.fHeight.toNat) (h2 : (a.fRound.toNat : Int) = b.fRound.toNat) (h3 : ¬ a.fPhase = b.fPhase) : vcmp a b < 0 ↔ a.fPhase < b.fPhase := by
  rw [vcmp, orI_cons, or2, if_pos (by rw [cmpI_zero]; exact h), orI_cons, or2, if_pos (by rw [cmpI_zero]; exact h2), orI_cons, or2, if_neg (by rw [cmpI_zero]; exact h3), cmpI_lt]
theorem against_symm (a b : Vote) : against a b = against b a := by
  simp only [against, same4, eq_comm (a := b.fVoter), eq_comm (a := (b.fHeight.toNat : Int)), eq_comm (a := (b.fRound.toNat : Int)), eq_comm (a := b.fPhase), eq_comm (a := b.fValue), eq_comm (a := (b.fProof.toNat : Int))]
theorem beq_of_iff {p q : Prop} {ip : Decidable p} {iq : Decidable q} (h : p ↔ q) : (decide p == decide q) = true := by rw [decide_eq_decide.2 h]; exact beq_self_eq_true _


set_option maxRecDepth 100000 in
set_option maxHeartbeats 1000000 in
theorem law20_lives  : Meets Try.prog 17 [] [] (fun _ => True) (fun v out => v = .bool true ∧ out = []) := by
  intro W hW
  refine calls_of (hp0 := []) Try.func17 rfl 26 Try.ntmps17 rfl (HRep.nil _) ?_
  refine Sat.seq ?_
  -- region 0
  refine Sat.region ?_
  refine Tr.assign rfl rfl rfl ?_
  refine Tr.nil ?_
  refine at_n ?_
  refine Sat.seq ?_
  -- region 1
  refine Sat.region ?_
  refine Tr.build (cs := (⟨1, 0, 2, List.replicate 32 0, 0, List.replicate 32 0, List.replicate 64 0⟩ : Vote).cells) rfl rfl rfl (fun w => by kernel_rfl) ?_
  refine Tr.callV rfl rfl rfl rfl Body40 (vote_check (⟨1, 0, 2, List.replicate 32 0, 0, List.replicate 32 0, List.replicate 64 0⟩ : Vote) ⟨rfl, rfl, rfl⟩) (fun _ _ => trivial) ?_
  refine Tr.eqi rfl rfl rfl rfl (decide_eq_true (by decide)) ?_
  refine Tr.move rfl rfl rfl ?_
  refine Tr.build (cs := (⟨1, 0, 1, List.replicate 32 0, 0, List.replicate 32 0, List.replicate 64 0⟩ : Vote).cells) rfl rfl rfl (fun w => by kernel_rfl) ?_
  refine Tr.callV rfl rfl rfl rfl Body40 (vote_check (⟨1, 0, 1, List.replicate 32 0, 0, List.replicate 32 0, List.replicate 64 0⟩ : Vote) ⟨rfl, rfl, rfl⟩) (fun _ _ => trivial) ?_
  refine Tr.eqi rfl rfl rfl rfl (decide_eq_true (by decide)) ?_
  refine Tr.pick rfl rfl rfl rfl rfl rfl ?_
  refine Tr.move rfl rfl rfl ?_
  refine Tr.build (cs := (⟨1, 0, 2, List.replicate 32 0, 1, List.replicate 32 0, List.replicate 64 0⟩ : Vote).cells) rfl rfl rfl (fun w => by kernel_rfl) ?_
  refine Tr.callV rfl rfl rfl rfl Body40 (vote_check (⟨1, 0, 2, List.replicate 32 0, 1, List.replicate 32 0, List.replicate 64 0⟩ : Vote) ⟨rfl, rfl, rfl⟩) (fun _ _ => trivial) ?_
  refine Tr.eqi rfl rfl rfl rfl (decide_eq_true (by decide)) ?_
  refine Tr.pick rfl rfl rfl rfl rfl rfl ?_
  refine Tr.move rfl rfl rfl ?_
  refine Tr.build (cs := bytesV (1 :: List.replicate 31 0)) rfl rfl rfl (fun w => by kernel_rfl) ?_
  refine Tr.build (cs := (⟨1, 1, 1, (1 :: List.replicate 31 0), 2, List.replicate 32 0, List.replicate 64 0⟩ : Vote).cells) rfl rfl rfl (fun w => by kernel_rfl) ?_
  refine Tr.callV rfl rfl rfl rfl Body40 (vote_check (⟨1, 1, 1, (1 :: List.replicate 31 0), 2, List.replicate 32 0, List.replicate 64 0⟩ : Vote) ⟨rfl, rfl, rfl⟩) (fun _ _ => trivial) ?_
  refine Tr.eqi rfl rfl rfl rfl (decide_eq_true (by decide)) ?_
  refine Tr.pick rfl rfl rfl rfl rfl rfl ?_
  refine Tr.move rfl rfl rfl ?_
  refine Tr.build (cs := (⟨1, 0, 0, List.replicate 32 0, 0, List.replicate 32 0, List.replicate 64 0⟩ : Vote).cells) rfl rfl rfl (fun w => by kernel_rfl) ?_
  refine Tr.build (cs := (⟨2, 0, 0, List.replicate 32 0, 0, List.replicate 32 0, List.replicate 64 0⟩ : Vote).cells) rfl rfl rfl (fun w => by kernel_rfl) ?_
  refine Tr.callV rfl rfl rfl rfl Body18 (vote_cmp (⟨1, 0, 0, List.replicate 32 0, 0, List.replicate 32 0, List.replicate 64 0⟩ : Vote) (⟨2, 0, 0, List.replicate 32 0, 0, List.replicate 32 0, List.replicate 64 0⟩ : Vote) ⟨rfl, rfl, rfl⟩ ⟨rfl, rfl, rfl⟩) (fun _ _ => trivial) ?_
  refine Tr.eqi rfl rfl rfl rfl (decide_eq_true (by decide)) ?_
  refine Tr.pick rfl rfl rfl rfl rfl rfl ?_
  refine Tr.assign rfl rfl rfl ?_
  refine Tr.nil ?_
  refine at_n ?_
  refine Sat.ret ?_
  refine en_r ?_
  refine ⟨_, [], res_tmp rfl rfl, (by simp), (by simp), ?_, rfl⟩
  rfl

set_option maxRecDepth 100000 in
set_option maxHeartbeats 4000000 in
theorem law_orders (a b c : Vote) (ha : a.ok) (hb : b.ok) (hc : c.ok) : Meets Try.prog 4 [agg a.cells, agg b.cells, agg c.cells] [] (fun _ => True) (fun v out => v = .bool true ∧ out = []) := by
  intro W hW
  have hza := Vote.zero_ok
  have hax : ({ a with fSig := List.replicate 64 0 } : Vote).ok := ⟨ha.l_fValue, ha.l_fVoter, rfl⟩
  have hbx : ({ b with fSig := List.replicate 64 0 } : Vote).ok := ⟨hb.l_fValue, hb.l_fVoter, rfl⟩
  have hrg := vcmp_rng a b
  have hrg2 := vcmp_rng b a
  have hla := Vote.length ha
  have hlb := Vote.length hb
  have hlc := Vote.length hc
  refine calls_of (hp0 := []) Try.func4 rfl 156 Try.ntmps4 rfl (HRep.nil _) ?_
  refine Sat.seq ?_
  -- region 0
  refine Sat.region ?_
  refine Tr.boxA rfl rfl ?_
  intro n3 hn3 hf3
  refine Tr.boxA rfl rfl ?_
  intro n4 hn4 hf4
  refine Tr.boxA rfl rfl ?_
  intro n5 hn5 hf5
  refine Tr.assign rfl rfl rfl ?_
  refine Tr.nil ?_
  refine at_n ?_
  refine Sat.seq ?_
  refine Sat.seq ?_
  -- region 1
  refine Sat.region ?_
  refine Tr.callV rfl rfl rfl rfl Body17 (law20_lives) (fun _ _ => trivial) ?_
  refine Tr.not rfl rfl rfl ?_
  refine Tr.nil ?_
  refine at_n ?_
  refine Sat.cond_f rfl (rfl) ?_
  refine Sat.skip ?_
  refine at_n ?_
  refine Sat.seq ?_
  -- region 3
  refine Sat.withK (sp_k (sp_k (sp_k sp_n))) rfl ?_
  refine Sat.draw [(0, 0), (0, 1), (2, 2), (2, 3), (4, 4), (4, 5)] Mixed (by kernel_rfl) ?_
  refine Tr.kloadAll rfl rfl rfl Try.underlying43 rfl Sz43 (by first | exact mem0 | exact mem1 | exact mem2 | exact mem3 | exact mem4 | exact mem5 | exact mem6 | exact mem7) (Vote.length (by first | assumption | (simp [ha.l_fVoter, hb.l_fVoter, ha.l_fValue, hb.l_fValue]; done))) ?_
  refine Tr.kloadAll rfl rfl rfl Try.underlying43 rfl Sz43 (by first | exact mem0 | exact mem1 | exact mem2 | exact mem3 | exact mem4 | exact mem5 | exact mem6 | exact mem7) (Vote.length (by first | assumption | (simp [ha.l_fVoter, hb.l_fVoter, ha.l_fValue, hb.l_fValue]; done))) ?_
  refine Tr.alloc (cs := Vote.zero.cells) rfl Vote.zr rfl ?_
  intro n7 hn7 hf7
  refine Tr.alloc (cs := Vote.zero.cells) rfl Vote.zr rfl ?_
  intro n8 hn8 hf8
  refine Tr.storeAll rfl rfl rfl rfl (Vote.isCell (by first | assumption | (simp [ha.l_fVoter, hb.l_fVoter, ha.l_fValue, hb.l_fValue]; done))) Sz43 (Vote.length (by first | assumption | (simp [ha.l_fVoter, hb.l_fVoter, ha.l_fValue, hb.l_fValue]; done))) (by first | exact mem0 | exact mem1 | exact mem2 | exact mem3 | exact mem4 | exact mem5 | exact mem6 | exact mem7) (Vote.length (by first | assumption | (simp [ha.l_fVoter, hb.l_fVoter, ha.l_fValue, hb.l_fValue]; done))) (by first | exact upd0 | exact upd1 | exact upd2 | exact upd3 | exact upd4 | exact upd5 | exact upd6 | exact upd7) ?_
  refine Tr.storeAll rfl rfl rfl rfl (Vote.isCell (by first | assumption | (simp [ha.l_fVoter, hb.l_fVoter, ha.l_fValue, hb.l_fValue]; done))) Sz43 (Vote.length (by first | assumption | (simp [ha.l_fVoter, hb.l_fVoter, ha.l_fValue, hb.l_fValue]; done))) (by first | exact mem0 | exact mem1 | exact mem2 | exact mem3 | exact mem4 | exact mem5 | exact mem6 | exact mem7) (Vote.length (by first | assumption | (simp [ha.l_fVoter, hb.l_fVoter, ha.l_fValue, hb.l_fValue]; done))) (by first | exact upd0 | exact upd1 | exact upd2 | exact upd3 | exact upd4 | exact upd5 | exact upd6 | exact upd7) ?_
  refine Tr.nil ?_
  refine at_n ?_
  refine Sat.seq ?_
  -- region 4
  refine Sat.region ?_
  refine Tr.build (cs := bytesV (List.replicate 64 0)) rfl rfl rfl (fun w => by kernel_rfl) ?_
  refine Tr.build (cs := bytesV (List.replicate 64 0)) rfl rfl rfl (fun w => by kernel_rfl) ?_
  refine Tr.fld rfl rfl rfl Try.underlying43 rfl Sz29 (by decide) _ rfl ?_
  refine Tr.storeN (bytesV _) rfl rfl rfl rfl rfl (by simp [isCell]) Sz29 (by simp [ha.l_fVoter, hb.l_fVoter, ha.l_fValue, hb.l_fValue]) (by first | exact mem0 | exact mem1 | exact mem2 | exact mem3 | exact mem4 | exact mem5 | exact mem6 | exact mem7) (by rw [Vote.length (by first | assumption | (simp [ha.l_fVoter, hb.l_fVoter, ha.l_fValue, hb.l_fValue]; done))]; simp [ha.l_fVoter, hb.l_fVoter, ha.l_fValue, hb.l_fValue]) (Vote.upd_fSig (by first | assumption | (simp [ha.l_fVoter, hb.l_fVoter, ha.l_fValue, hb.l_fValue]; done)) _ (by simp [ha.l_fVoter, hb.l_fVoter, ha.l_fValue, hb.l_fValue])) (by first | exact upd0 | exact upd1 | exact upd2 | exact upd3 | exact upd4 | exact upd5 | exact upd6 | exact upd7) ?_
  refine Tr.fld rfl rfl rfl Try.underlying43 rfl Sz29 (by decide) _ rfl ?_
  refine Tr.storeN (bytesV _) rfl rfl rfl rfl rfl (by simp [isCell]) Sz29 (by simp [ha.l_fVoter, hb.l_fVoter, ha.l_fValue, hb.l_fValue]) (by first | exact mem0 | exact mem1 | exact mem2 | exact mem3 | exact mem4 | exact mem5 | exact mem6 | exact mem7) (by rw [Vote.length (by first | assumption | (simp [ha.l_fVoter, hb.l_fVoter, ha.l_fValue, hb.l_fValue]; done))]; simp [ha.l_fVoter, hb.l_fVoter, ha.l_fValue, hb.l_fValue]) (Vote.upd_fSig (by first | assumption | (simp [ha.l_fVoter, hb.l_fVoter, ha.l_fValue, hb.l_fValue]; done)) _ (by simp [ha.l_fVoter, hb.l_fVoter, ha.l_fValue, hb.l_fValue])) (by first | exact upd0 | exact upd1 | exact upd2 | exact upd3 | exact upd4 | exact upd5 | exact upd6 | exact upd7) ?_
  refine Tr.nil ?_
  refine at_n ?_
  refine Sat.seq ?_
  -- region 5
  refine Sat.region ?_
  refine Tr.loadAll rfl rfl rfl Try.underlying43 rfl Sz43 (by first | exact mem0 | exact mem1 | exact mem2 | exact mem3 | exact mem4 | exact mem5 | exact mem6 | exact mem7) (Vote.length (by first | assumption | (simp [ha.l_fVoter, hb.l_fVoter, ha.l_fValue, hb.l_fValue]; done))) ?_
  refine Tr.loadAll rfl rfl rfl Try.underlying43 rfl Sz43 (by first | exact mem0 | exact mem1 | exact mem2 | exact mem3 | exact mem4 | exact mem5 | exact mem6 | exact mem7) (Vote.length (by first | assumption | (simp [ha.l_fVoter, hb.l_fVoter, ha.l_fValue, hb.l_fValue]; done))) ?_
  refine Tr.callV rfl rfl rfl rfl Body18 (vote_cmp _ _ (by assumption) (by assumption)) (fun _ _ => trivial) ?_
  refine Tr.assign rfl rfl rfl ?_
  refine Tr.nil ?_
  refine at_n ?_
  refine Sat.seq ?_
  refine Sat.join (ι := Unit) (fun _u => ⟨[(3, ptr n3 0), (4, ptr n4 0), (5, ptr n5 0), (9, i64 (vcmp a b)), (59, .bool false)], [⟨n5, c.cells, 43, c.cells.length⟩, ⟨n4, b.cells, 43, b.cells.length⟩, ⟨n3, a.cells, 43, a.cells.length⟩]⟩) (fun _u => True) ?_ ?_
  ·
    -- region 6
    refine Sat.region ?_
    refine Tr.move rfl rfl rfl ?_
    refine Tr.loadAll rfl rfl rfl Try.underlying43 rfl Sz43 (by first | exact mem0 | exact mem1 | exact mem2 | exact mem3 | exact mem4 | exact mem5 | exact mem6 | exact mem7) (Vote.length (by first | assumption | (simp [ha.l_fVoter, hb.l_fVoter, ha.l_fValue, hb.l_fValue]; done))) ?_
    refine Tr.loadAll rfl rfl rfl Try.underlying43 rfl Sz43 (by first | exact mem0 | exact mem1 | exact mem2 | exact mem3 | exact mem4 | exact mem5 | exact mem6 | exact mem7) (Vote.length (by first | assumption | (simp [ha.l_fVoter, hb.l_fVoter, ha.l_fValue, hb.l_fValue]; done))) ?_
    refine Tr.callV rfl rfl rfl rfl Body18 (vote_cmp _ _ (by assumption) (by assumption)) (fun _ _ => trivial) ?_
    refine Tr.neg_i64 rfl rfl rfl (by omega) ?_
    refine Tr.nei rfl rfl rfl rfl (show (!decide _) = false from congrArg not (decide_eq_true (by rw [vcmp_neg a b]; omega))) ?_
    refine Tr.move rfl rfl rfl ?_
    refine Tr.move rfl rfl rfl ?_
    refine Tr.lss rfl rfl rfl rfl (decide_eq_false (by omega)) ?_
    refine Tr.pick rfl rfl rfl rfl rfl rfl ?_
    refine Tr.move rfl rfl rfl ?_
    refine Tr.move rfl rfl rfl ?_
    refine Tr.gtr rfl rfl rfl rfl (decide_eq_false (by omega)) ?_
    refine Tr.pick rfl rfl rfl rfl rfl rfl ?_
    refine Tr.move rfl rfl rfl ?_
    refine Tr.move rfl rfl rfl ?_
    refine Tr.eqi rfl rfl rfl rfl rfl ?_
    refine Tr.loadAll rfl rfl rfl Try.underlying43 rfl Sz43 (by first | exact mem0 | exact mem1 | exact mem2 | exact mem3 | exact mem4 | exact mem5 | exact mem6 | exact mem7) (Vote.length (by first | assumption | (simp [ha.l_fVoter, hb.l_fVoter, ha.l_fValue, hb.l_fValue]; done))) ?_
    refine Tr.loadAll rfl rfl rfl Try.underlying43 rfl Sz43 (by first | exact mem0 | exact mem1 | exact mem2 | exact mem3 | exact mem4 | exact mem5 | exact mem6 | exact mem7) (Vote.length (by first | assumption | (simp [ha.l_fVoter, hb.l_fVoter, ha.l_fValue, hb.l_fValue]; done))) ?_
    refine Tr.eql_rec rfl rfl rfl rfl Vote.eg (fun w => Vote.eq_runC (by first | assumption | (simp [ha.l_fVoter, hb.l_fVoter, ha.l_fValue, hb.l_fValue]; done)) (by first | assumption | (simp [ha.l_fVoter, hb.l_fVoter, ha.l_fValue, hb.l_fValue]; done)) w) rfl ?_
    refine Tr.neb (r := false) rfl rfl rfl rfl Try.underlying4 (by rw [beq_of_iff (vcmp_zero a b)]; rfl) ?_
    refine Tr.pick rfl rfl rfl rfl rfl rfl ?_
    refine Tr.move rfl rfl rfl ?_
    refine Tr.move rfl rfl rfl ?_
    refine two (fun r hr k => Tr.lss rfl rfl rfl rfl hr k) (fun hs6_240 => ?_) (fun hs6_240 => ?_)
    ·
      first | have hs6_24 := of_decide_eq_true hs6_240 | have hs6_24 := of_decide_eq_false hs6_240 | have hs6_24 := nd_t hs6_240 | have hs6_24 := nd_f hs6_240 | have hs6_24 := hs6_240
      refine Tr.move rfl rfl rfl ?_
      refine Tr.loadAll rfl rfl rfl Try.underlying43 rfl Sz43 (by first | exact mem0 | exact mem1 | exact mem2 | exact mem3 | exact mem4 | exact mem5 | exact mem6 | exact mem7) (Vote.length (by first | assumption | (simp [ha.l_fVoter, hb.l_fVoter, ha.l_fValue, hb.l_fValue]; done))) ?_
      refine Tr.loadAll rfl rfl rfl Try.underlying43 rfl Sz43 (by first | exact mem0 | exact mem1 | exact mem2 | exact mem3 | exact mem4 | exact mem5 | exact mem6 | exact mem7) (Vote.length (by first | assumption | (simp [ha.l_fVoter, hb.l_fVoter, ha.l_fValue, hb.l_fValue]; done))) ?_
      refine Tr.callV rfl rfl rfl rfl Body18 (vote_cmp _ _ (by assumption) (by assumption)) (fun _ _ => trivial) ?_
      refine two (fun r hr k => Tr.lss rfl rfl rfl rfl hr k) (fun hs6_290 => ?_) (fun hs6_290 => ?_)
      ·
        first | have hs6_29 := of_decide_eq_true hs6_290 | have hs6_29 := of_decide_eq_false hs6_290 | have hs6_29 := nd_t hs6_290 | have hs6_29 := nd_f hs6_290 | have hs6_29 := hs6_290
        refine Tr.pick rfl rfl rfl rfl rfl rfl ?_
        refine Tr.move rfl rfl rfl ?_
        refine Tr.loadAll rfl rfl rfl Try.underlying43 rfl Sz43 (by first | exact mem0 | exact mem1 | exact mem2 | exact mem3 | exact mem4 | exact mem5 | exact mem6 | exact mem7) (Vote.length (by first | assumption | (simp [ha.l_fVoter, hb.l_fVoter, ha.l_fValue, hb.l_fValue]; done))) ?_
        refine Tr.loadAll rfl rfl rfl Try.underlying43 rfl Sz43 (by first | exact mem0 | exact mem1 | exact mem2 | exact mem3 | exact mem4 | exact mem5 | exact mem6 | exact mem7) (Vote.length (by first | assumption | (simp [ha.l_fVoter, hb.l_fVoter, ha.l_fValue, hb.l_fValue]; done))) ?_
        refine Tr.callV rfl rfl rfl rfl Body18 (vote_cmp _ _ (by assumption) (by assumption)) (fun _ _ => trivial) ?_
        refine Tr.geq rfl rfl rfl rfl (decide_eq_false (by have := (vcmp_T3 a b c).1; omega)) ?_
        refine Tr.pick rfl rfl rfl rfl rfl rfl ?_
        refine Tr.pick rfl rfl rfl rfl rfl rfl ?_
        refine Tr.nil ?_
        refine at_n ?_
        refine ⟨(), trivial, weak_of (wk1 rfl (wk1 rfl (wk1 rfl (wk1 rfl (wk1 rfl wk0))))) (wh1 (by first | exact mem0 | exact mem1 | exact mem2 | exact mem3 | exact mem4 | exact mem5 | exact mem6 | exact mem7) (wh1 (by first | exact mem0 | exact mem1 | exact mem2 | exact mem3 | exact mem4 | exact mem5 | exact mem6 | exact mem7) (wh1 (by first | exact mem0 | exact mem1 | exact mem2 | exact mem3 | exact mem4 | exact mem5 | exact mem6 | exact mem7) wh0))) (by repeat (first | exact ns_nil | refine ns_keep rfl ?_ | refine ns_skip ?_))⟩
      ·
        first | have hs6_29 := of_decide_eq_true hs6_290 | have hs6_29 := of_decide_eq_false hs6_290 | have hs6_29 := nd_t hs6_290 | have hs6_29 := nd_f hs6_290 | have hs6_29 := hs6_290
        refine Tr.pick rfl rfl rfl rfl rfl rfl ?_
        refine Tr.move rfl rfl rfl ?_
        refine Tr.skp rfl rfl ?_
        refine Tr.skp rfl rfl ?_
        refine Tr.skp rfl rfl ?_
        refine Tr.skp rfl rfl ?_
        refine Tr.pick rfl rfl rfl rfl rfl rfl ?_
        refine Tr.pick rfl rfl rfl rfl rfl rfl ?_
        refine Tr.nil ?_
        refine at_n ?_
        refine ⟨(), trivial, weak_of (wk1 rfl (wk1 rfl (wk1 rfl (wk1 rfl (wk1 rfl wk0))))) (wh1 (by first | exact mem0 | exact mem1 | exact mem2 | exact mem3 | exact mem4 | exact mem5 | exact mem6 | exact mem7) (wh1 (by first | exact mem0 | exact mem1 | exact mem2 | exact mem3 | exact mem4 | exact mem5 | exact mem6 | exact mem7) (wh1 (by first | exact mem0 | exact mem1 | exact mem2 | exact mem3 | exact mem4 | exact mem5 | exact mem6 | exact mem7) wh0))) (by repeat (first | exact ns_nil | refine ns_keep rfl ?_ | refine ns_skip ?_))⟩
    ·
      first | have hs6_24 := of_decide_eq_true hs6_240 | have hs6_24 := of_decide_eq_false hs6_240 | have hs6_24 := nd_t hs6_240 | have hs6_24 := nd_f hs6_240 | have hs6_24 := hs6_240
      refine Tr.move rfl rfl rfl ?_
      refine Tr.skp rfl rfl ?_
      refine Tr.skp rfl rfl ?_
      refine Tr.skp rfl rfl ?_
      refine Tr.skp rfl rfl ?_
      refine Tr.pick rfl rfl rfl rfl rfl rfl ?_
      refine Tr.move rfl rfl rfl ?_
      refine Tr.skp rfl rfl ?_
      refine Tr.skp rfl rfl ?_
      refine Tr.skp rfl rfl ?_
      refine Tr.skp rfl rfl ?_
      refine Tr.pick rfl rfl rfl rfl rfl rfl ?_
      refine Tr.pick rfl rfl rfl rfl rfl rfl ?_
      refine Tr.nil ?_
      refine at_n ?_
      refine ⟨(), trivial, weak_of (wk1 rfl (wk1 rfl (wk1 rfl (wk1 rfl (wk1 rfl wk0))))) (wh1 (by first | exact mem0 | exact mem1 | exact mem2 | exact mem3 | exact mem4 | exact mem5 | exact mem6 | exact mem7) (wh1 (by first | exact mem0 | exact mem1 | exact mem2 | exact mem3 | exact mem4 | exact mem5 | exact mem6 | exact mem7) (wh1 (by first | exact mem0 | exact mem1 | exact mem2 | exact mem3 | exact mem4 | exact mem5 | exact mem6 | exact mem7) wh0))) (by repeat (first | exact ns_nil | refine ns_keep rfl ?_ | refine ns_skip ?_))⟩
  ·
    intro _u hj
    skip
    refine Sat.cond_f rfl (rfl) ?_
    refine Sat.skip ?_
    refine at_n ?_
    refine Sat.seq ?_
    -- region 8
    refine Sat.region ?_
    refine Tr.fld rfl rfl rfl Try.underlying43 rfl Sz23 (by decide) _ rfl ?_
    first
      | refine Tr.loadN (bytesV _) rfl rfl rfl Try.underlying23 rfl Sz23 (by first | exact mem0 | exact mem1 | exact mem2 | exact mem3 | exact mem4 | exact mem5 | exact mem6 | exact mem7) (Vote.row_fVoter (by first | assumption | (simp [ha.l_fVoter, hb.l_fVoter, ha.l_fValue, hb.l_fValue]; done))) (Vote.rl_fVoter (by first | assumption | (simp [ha.l_fVoter, hb.l_fVoter, ha.l_fValue, hb.l_fValue]; done))) ?_
    refine Tr.fld rfl rfl rfl Try.underlying43 rfl Sz23 (by decide) _ rfl ?_
    first
      | refine Tr.loadN (bytesV _) rfl rfl rfl Try.underlying23 rfl Sz23 (by first | exact mem0 | exact mem1 | exact mem2 | exact mem3 | exact mem4 | exact mem5 | exact mem6 | exact mem7) (Vote.row_fVoter (by first | assumption | (simp [ha.l_fVoter, hb.l_fVoter, ha.l_fValue, hb.l_fValue]; done))) (Vote.rl_fVoter (by first | assumption | (simp [ha.l_fVoter, hb.l_fVoter, ha.l_fValue, hb.l_fValue]; done))) ?_
    refine two (fun r hr k => Tr.eql_bytes rfl rfl rfl rfl Try.eqGuardType23 Try.underlying23 Try.underlying5 Sz5 (by simp [ha.l_fVoter, hb.l_fVoter, ha.l_fValue, hb.l_fValue]) (by simp [ha.l_fVoter, hb.l_fVoter, ha.l_fValue, hb.l_fValue]) hr k) (fun hs8_40 => ?_) (fun hs8_40 => ?_)
    ·
      first | have hs8_4 := of_decide_eq_true hs8_40 | have hs8_4 := of_decide_eq_false hs8_40 | have hs8_4 := nd_t hs8_40 | have hs8_4 := nd_f hs8_40 | have hs8_4 := hs8_40
      refine Tr.move rfl rfl rfl ?_
      refine Tr.fld rfl rfl rfl Try.underlying43 rfl Sz24 (by decide) _ rfl ?_
      refine Tr.load1 rfl rfl rfl Try.underlying24 rfl (by first | exact mem0 | exact mem1 | exact mem2 | exact mem3 | exact mem4 | exact mem5 | exact mem6 | exact mem7) (by first | exact Vote.get_fHeight (by first | assumption | (simp [ha.l_fVoter, hb.l_fVoter, ha.l_fValue, hb.l_fValue]; done)) | exact (by first | rfl | exact get_words (by first | omega | (simp [ha.l_fVoter, hb.l_fVoter, ha.l_fValue, hb.l_fValue]; done) | (simp [ha.l_fVoter, hb.l_fVoter, ha.l_fValue, hb.l_fValue]; omega)) | exact get_bytes (by first | omega | (simp [ha.l_fVoter, hb.l_fVoter, ha.l_fValue, hb.l_fValue]; done) | (simp [ha.l_fVoter, hb.l_fVoter, ha.l_fValue, hb.l_fValue]; omega)) | exact get_ints (by first | omega | (simp [ha.l_fVoter, hb.l_fVoter, ha.l_fValue, hb.l_fValue]; done) | (simp [ha.l_fVoter, hb.l_fVoter, ha.l_fValue, hb.l_fValue]; omega)))) ?_
      refine Tr.fld rfl rfl rfl Try.underlying43 rfl Sz24 (by decide) _ rfl ?_
      refine Tr.load1 rfl rfl rfl Try.underlying24 rfl (by first | exact mem0 | exact mem1 | exact mem2 | exact mem3 | exact mem4 | exact mem5 | exact mem6 | exact mem7) (by first | exact Vote.get_fHeight (by first | assumption | (simp [ha.l_fVoter, hb.l_fVoter, ha.l_fValue, hb.l_fValue]; done)) | exact (by first | rfl | exact get_words (by first | omega | (simp [ha.l_fVoter, hb.l_fVoter, ha.l_fValue, hb.l_fValue]; done) | (simp [ha.l_fVoter, hb.l_fVoter, ha.l_fValue, hb.l_fValue]; omega)) | exact get_bytes (by first | omega | (simp [ha.l_fVoter, hb.l_fVoter, ha.l_fValue, hb.l_fValue]; done) | (simp [ha.l_fVoter, hb.l_fVoter, ha.l_fValue, hb.l_fValue]; omega)) | exact get_ints (by first | omega | (simp [ha.l_fVoter, hb.l_fVoter, ha.l_fValue, hb.l_fValue]; done) | (simp [ha.l_fVoter, hb.l_fVoter, ha.l_fValue, hb.l_fValue]; omega)))) ?_
      refine two (fun r hr k => Tr.eqi rfl rfl rfl rfl hr k) (fun hs8_100 => ?_) (fun hs8_100 => ?_)
      ·
        first | have hs8_10 := of_decide_eq_true hs8_100 | have hs8_10 := of_decide_eq_false hs8_100 | have hs8_10 := nd_t hs8_100 | have hs8_10 := nd_f hs8_100 | have hs8_10 := hs8_100
        refine Tr.pick rfl rfl rfl rfl rfl rfl ?_
        refine Tr.move rfl rfl rfl ?_
        refine Tr.fld rfl rfl rfl Try.underlying43 rfl Sz24 (by decide) _ rfl ?_
        refine Tr.load1 rfl rfl rfl Try.underlying24 rfl (by first | exact mem0 | exact mem1 | exact mem2 | exact mem3 | exact mem4 | exact mem5 | exact mem6 | exact mem7) (by first | exact Vote.get_fRound (by first | assumption | (simp [ha.l_fVoter, hb.l_fVoter, ha.l_fValue, hb.l_fValue]; done)) | exact (by first | rfl | exact get_words (by first | omega | (simp [ha.l_fVoter, hb.l_fVoter, ha.l_fValue, hb.l_fValue]; done) | (simp [ha.l_fVoter, hb.l_fVoter, ha.l_fValue, hb.l_fValue]; omega)) | exact get_bytes (by first | omega | (simp [ha.l_fVoter, hb.l_fVoter, ha.l_fValue, hb.l_fValue]; done) | (simp [ha.l_fVoter, hb.l_fVoter, ha.l_fValue, hb.l_fValue]; omega)) | exact get_ints (by first | omega | (simp [ha.l_fVoter, hb.l_fVoter, ha.l_fValue, hb.l_fValue]; done) | (simp [ha.l_fVoter, hb.l_fVoter, ha.l_fValue, hb.l_fValue]; omega)))) ?_
        refine Tr.fld rfl rfl rfl Try.underlying43 rfl Sz24 (by decide) _ rfl ?_
        refine Tr.load1 rfl rfl rfl Try.underlying24 rfl (by first | exact mem0 | exact mem1 | exact mem2 | exact mem3 | exact mem4 | exact mem5 | exact mem6 | exact mem7) (by first | exact Vote.get_fRound (by first | assumption | (simp [ha.l_fVoter, hb.l_fVoter, ha.l_fValue, hb.l_fValue]; done)) | exact (by first | rfl | exact get_words (by first | omega | (simp [ha.l_fVoter, hb.l_fVoter, ha.l_fValue, hb.l_fValue]; done) | (simp [ha.l_fVoter, hb.l_fVoter, ha.l_fValue, hb.l_fValue]; omega)) | exact get_bytes (by first | omega | (simp [ha.l_fVoter, hb.l_fVoter, ha.l_fValue, hb.l_fValue]; done) | (simp [ha.l_fVoter, hb.l_fVoter, ha.l_fValue, hb.l_fValue]; omega)) | exact get_ints (by first | omega | (simp [ha.l_fVoter, hb.l_fVoter, ha.l_fValue, hb.l_fValue]; done) | (simp [ha.l_fVoter, hb.l_fVoter, ha.l_fValue, hb.l_fValue]; omega)))) ?_
        refine two (fun r hr k => Tr.eqi rfl rfl rfl rfl hr k) (fun hs8_170 => ?_) (fun hs8_170 => ?_)
        ·
          first | have hs8_17 := of_decide_eq_true hs8_170 | have hs8_17 := of_decide_eq_false hs8_170 | have hs8_17 := nd_t hs8_170 | have hs8_17 := nd_f hs8_170 | have hs8_17 := hs8_170
          refine Tr.pick rfl rfl rfl rfl rfl rfl ?_
          refine Tr.move rfl rfl rfl ?_
          refine Tr.fld rfl rfl rfl Try.underlying43 rfl Sz3 (by decide) _ rfl ?_
          refine Tr.load1 rfl rfl rfl Try.underlying3 rfl (by first | exact mem0 | exact mem1 | exact mem2 | exact mem3 | exact mem4 | exact mem5 | exact mem6 | exact mem7) (by first | exact Vote.get_fPhase (by first | assumption | (simp [ha.l_fVoter, hb.l_fVoter, ha.l_fValue, hb.l_fValue]; done)) | exact (by first | rfl | exact get_words (by first | omega | (simp [ha.l_fVoter, hb.l_fVoter, ha.l_fValue, hb.l_fValue]; done) | (simp [ha.l_fVoter, hb.l_fVoter, ha.l_fValue, hb.l_fValue]; omega)) | exact get_bytes (by first | omega | (simp [ha.l_fVoter, hb.l_fVoter, ha.l_fValue, hb.l_fValue]; done) | (simp [ha.l_fVoter, hb.l_fVoter, ha.l_fValue, hb.l_fValue]; omega)) | exact get_ints (by first | omega | (simp [ha.l_fVoter, hb.l_fVoter, ha.l_fValue, hb.l_fValue]; done) | (simp [ha.l_fVoter, hb.l_fVoter, ha.l_fValue, hb.l_fValue]; omega)))) ?_
          refine Tr.fld rfl rfl rfl Try.underlying43 rfl Sz3 (by decide) _ rfl ?_
          refine Tr.load1 rfl rfl rfl Try.underlying3 rfl (by first | exact mem0 | exact mem1 | exact mem2 | exact mem3 | exact mem4 | exact mem5 | exact mem6 | exact mem7) (by first | exact Vote.get_fPhase (by first | assumption | (simp [ha.l_fVoter, hb.l_fVoter, ha.l_fValue, hb.l_fValue]; done)) | exact (by first | rfl | exact get_words (by first | omega | (simp [ha.l_fVoter, hb.l_fVoter, ha.l_fValue, hb.l_fValue]; done) | (simp [ha.l_fVoter, hb.l_fVoter, ha.l_fValue, hb.l_fValue]; omega)) | exact get_bytes (by first | omega | (simp [ha.l_fVoter, hb.l_fVoter, ha.l_fValue, hb.l_fValue]; done) | (simp [ha.l_fVoter, hb.l_fVoter, ha.l_fValue, hb.l_fValue]; omega)) | exact get_ints (by first | omega | (simp [ha.l_fVoter, hb.l_fVoter, ha.l_fValue, hb.l_fValue]; done) | (simp [ha.l_fVoter, hb.l_fVoter, ha.l_fValue, hb.l_fValue]; omega)))) ?_
          refine two (fun r hr k => Tr.eqi rfl rfl rfl rfl hr k) (fun hs8_240 => ?_) (fun hs8_240 => ?_)
          ·
            first | have hs8_24 := of_decide_eq_true hs8_240 | have hs8_24 := of_decide_eq_false hs8_240 | have hs8_24 := nd_t hs8_240 | have hs8_24 := nd_f hs8_240 | have hs8_24 := hs8_240
            refine Tr.pick rfl rfl rfl rfl rfl rfl ?_
            refine Tr.assign rfl rfl rfl ?_
            refine Tr.nil ?_
            refine at_n ?_
            refine Sat.seq ?_
            refine Sat.join (ι := Unit) (fun _u => ⟨[(3, ptr n3 0), (4, ptr n4 0), (5, ptr n5 0), (9, i64 (vcmp a b)), (113, .bool false)], [⟨n5, c.cells, 43, c.cells.length⟩, ⟨n4, b.cells, 43, b.cells.length⟩, ⟨n3, a.cells, 43, a.cells.length⟩]⟩) (fun _u => True) ?_ ?_
            ·
              -- region 9
              refine Sat.draw [(1, 0), (1, 1), (0, 3), (3, 2), (0, 4), (0, 5), (1, 6), (0, 7), (1, 8), (0, 9), (0, 10), (0, 11), (1, 12), (0, 13), (1, 14), (0, 15), (0, 16), (0, 17), (0, 18), (0, 19), (1, 20), (1, 21), (1, 23), (1, 24), (3, 22), (3, 25), (0, 26), (0, 27)] Mixed (by kernel_rfl) ?_
              refine Tr.loadAll rfl rfl rfl Try.underlying43 rfl Sz43 (by first | exact mem0 | exact mem1 | exact mem2 | exact mem3 | exact mem4 | exact mem5 | exact mem6 | exact mem7) (Vote.length (by first | assumption | (simp [ha.l_fVoter, hb.l_fVoter, ha.l_fValue, hb.l_fValue]; done))) ?_
              refine Tr.loadAll rfl rfl rfl Try.underlying43 rfl Sz43 (by first | exact mem0 | exact mem1 | exact mem2 | exact mem3 | exact mem4 | exact mem5 | exact mem6 | exact mem7) (Vote.length (by first | assumption | (simp [ha.l_fVoter, hb.l_fVoter, ha.l_fValue, hb.l_fValue]; done))) ?_
              refine Tr.move rfl rfl rfl ?_
              refine Tr.callV rfl rfl rfl rfl Body19 (vote_against _ _ (by assumption) (by assumption)) (fun _ _ => trivial) ?_
              refine Tr.move rfl rfl rfl ?_
              refine Tr.fld rfl rfl rfl Try.underlying43 rfl Sz25 (by decide) _ rfl ?_
              first
                | refine Tr.loadN (bytesV _) rfl rfl rfl Try.underlying25 rfl Sz25 (by first | exact mem0 | exact mem1 | exact mem2 | exact mem3 | exact mem4 | exact mem5 | exact mem6 | exact mem7) (Vote.row_fValue (by first | assumption | (simp [ha.l_fVoter, hb.l_fVoter, ha.l_fValue, hb.l_fValue]; done))) (Vote.rl_fValue (by first | assumption | (simp [ha.l_fVoter, hb.l_fVoter, ha.l_fValue, hb.l_fValue]; done))) ?_
              refine Tr.fld rfl rfl rfl Try.underlying43 rfl Sz25 (by decide) _ rfl ?_
              first
                | refine Tr.loadN (bytesV _) rfl rfl rfl Try.underlying25 rfl Sz25 (by first | exact mem0 | exact mem1 | exact mem2 | exact mem3 | exact mem4 | exact mem5 | exact mem6 | exact mem7) (Vote.row_fValue (by first | assumption | (simp [ha.l_fVoter, hb.l_fVoter, ha.l_fValue, hb.l_fValue]; done))) (Vote.rl_fValue (by first | assumption | (simp [ha.l_fVoter, hb.l_fVoter, ha.l_fValue, hb.l_fValue]; done))) ?_
              refine two (fun r hr k => Tr.neq_bytes rfl rfl rfl rfl Try.eqGuardType25 Try.underlying25 Try.underlying5 Sz5 (by simp [ha.l_fVoter, hb.l_fVoter, ha.l_fValue, hb.l_fValue]) (by simp [ha.l_fVoter, hb.l_fVoter, ha.l_fValue, hb.l_fValue]) hr k) (fun hs9_90 => ?_) (fun hs9_90 => ?_)
              ·
                first | have hs9_9 := of_decide_eq_true hs9_90 | have hs9_9 := of_decide_eq_false hs9_90 | have hs9_9 := nd_t hs9_90 | have hs9_9 := nd_f hs9_90 | have hs9_9 := hs9_90
                refine Tr.move rfl rfl rfl ?_
                refine Tr.skp rfl rfl ?_
                refine Tr.skp rfl rfl ?_
                refine Tr.skp rfl rfl ?_
                refine Tr.skp rfl rfl ?_
                refine Tr.skp rfl rfl ?_
                refine Tr.pick rfl rfl rfl rfl rfl rfl ?_
                refine Tr.pick rfl rfl rfl rfl rfl rfl ?_
                refine Tr.neb (r := false) rfl rfl rfl rfl Try.underlying4 (by simp [against, same4, *]) ?_
                refine Tr.move rfl rfl rfl ?_
                refine Tr.loadAll rfl rfl rfl Try.underlying43 rfl Sz43 (by first | exact mem0 | exact mem1 | exact mem2 | exact mem3 | exact mem4 | exact mem5 | exact mem6 | exact mem7) (Vote.length (by first | assumption | (simp [ha.l_fVoter, hb.l_fVoter, ha.l_fValue, hb.l_fValue]; done))) ?_
                refine Tr.loadAll rfl rfl rfl Try.underlying43 rfl Sz43 (by first | exact mem0 | exact mem1 | exact mem2 | exact mem3 | exact mem4 | exact mem5 | exact mem6 | exact mem7) (Vote.length (by first | assumption | (simp [ha.l_fVoter, hb.l_fVoter, ha.l_fValue, hb.l_fValue]; done))) ?_
                refine Tr.loadAll rfl rfl rfl Try.underlying43 rfl Sz43 (by first | exact mem0 | exact mem1 | exact mem2 | exact mem3 | exact mem4 | exact mem5 | exact mem6 | exact mem7) (Vote.length (by first | assumption | (simp [ha.l_fVoter, hb.l_fVoter, ha.l_fValue, hb.l_fValue]; done))) ?_
                refine Tr.loadAll rfl rfl rfl Try.underlying43 rfl Sz43 (by first | exact mem0 | exact mem1 | exact mem2 | exact mem3 | exact mem4 | exact mem5 | exact mem6 | exact mem7) (Vote.length (by first | assumption | (simp [ha.l_fVoter, hb.l_fVoter, ha.l_fValue, hb.l_fValue]; done))) ?_
                refine Tr.callV rfl rfl rfl rfl Body19 (vote_against _ _ (by assumption) (by assumption)) (fun _ _ => trivial) ?_
                refine Tr.callV rfl rfl rfl rfl Body19 (vote_against _ _ (by assumption) (by assumption)) (fun _ _ => trivial) ?_
                refine Tr.neb (r := false) rfl rfl rfl rfl Try.underlying4 (by rw [against_symm a b]; simp) ?_
                refine Tr.pick rfl rfl rfl rfl rfl rfl ?_
                refine Tr.nil ?_
                refine at_n ?_
                refine ⟨(), trivial, weak_of (wk1 rfl (wk1 rfl (wk1 rfl (wk1 rfl (wk1 rfl wk0))))) (wh1 (by first | exact mem0 | exact mem1 | exact mem2 | exact mem3 | exact mem4 | exact mem5 | exact mem6 | exact mem7) (wh1 (by first | exact mem0 | exact mem1 | exact mem2 | exact mem3 | exact mem4 | exact mem5 | exact mem6 | exact mem7) (wh1 (by first | exact mem0 | exact mem1 | exact mem2 | exact mem3 | exact mem4 | exact mem5 | exact mem6 | exact mem7) wh0))) (by repeat (first | exact ns_nil | refine ns_keep rfl ?_ | refine ns_skip ?_))⟩
              ·
                first | have hs9_9 := of_decide_eq_true hs9_90 | have hs9_9 := of_decide_eq_false hs9_90 | have hs9_9 := nd_t hs9_90 | have hs9_9 := nd_f hs9_90 | have hs9_9 := hs9_90
                refine Tr.move rfl rfl rfl ?_
                refine Tr.fld rfl rfl rfl Try.underlying43 rfl Sz24 (by decide) _ rfl ?_
                refine Tr.load1 rfl rfl rfl Try.underlying24 rfl (by first | exact mem0 | exact mem1 | exact mem2 | exact mem3 | exact mem4 | exact mem5 | exact mem6 | exact mem7) (by first | exact Vote.get_fProof (by first | assumption | (simp [ha.l_fVoter, hb.l_fVoter, ha.l_fValue, hb.l_fValue]; done)) | exact (by first | rfl | exact get_words (by first | omega | (simp [ha.l_fVoter, hb.l_fVoter, ha.l_fValue, hb.l_fValue]; done) | (simp [ha.l_fVoter, hb.l_fVoter, ha.l_fValue, hb.l_fValue]; omega)) | exact get_bytes (by first | omega | (simp [ha.l_fVoter, hb.l_fVoter, ha.l_fValue, hb.l_fValue]; done) | (simp [ha.l_fVoter, hb.l_fVoter, ha.l_fValue, hb.l_fValue]; omega)) | exact get_ints (by first | omega | (simp [ha.l_fVoter, hb.l_fVoter, ha.l_fValue, hb.l_fValue]; done) | (simp [ha.l_fVoter, hb.l_fVoter, ha.l_fValue, hb.l_fValue]; omega)))) ?_
                refine Tr.fld rfl rfl rfl Try.underlying43 rfl Sz24 (by decide) _ rfl ?_
                refine Tr.load1 rfl rfl rfl Try.underlying24 rfl (by first | exact mem0 | exact mem1 | exact mem2 | exact mem3 | exact mem4 | exact mem5 | exact mem6 | exact mem7) (by first | exact Vote.get_fProof (by first | assumption | (simp [ha.l_fVoter, hb.l_fVoter, ha.l_fValue, hb.l_fValue]; done)) | exact (by first | rfl | exact get_words (by first | omega | (simp [ha.l_fVoter, hb.l_fVoter, ha.l_fValue, hb.l_fValue]; done) | (simp [ha.l_fVoter, hb.l_fVoter, ha.l_fValue, hb.l_fValue]; omega)) | exact get_bytes (by first | omega | (simp [ha.l_fVoter, hb.l_fVoter, ha.l_fValue, hb.l_fValue]; done) | (simp [ha.l_fVoter, hb.l_fVoter, ha.l_fValue, hb.l_fValue]; omega)) | exact get_ints (by first | omega | (simp [ha.l_fVoter, hb.l_fVoter, ha.l_fValue, hb.l_fValue]; done) | (simp [ha.l_fVoter, hb.l_fVoter, ha.l_fValue, hb.l_fValue]; omega)))) ?_
                refine Tr.nei rfl rfl rfl rfl rfl ?_
                refine Tr.pick rfl rfl rfl rfl rfl rfl ?_
                refine Tr.pick rfl rfl rfl rfl rfl rfl ?_
                refine Tr.neb (r := false) rfl rfl rfl rfl Try.underlying4 (by simp [against, same4, *]) ?_
                refine Tr.move rfl rfl rfl ?_
                refine Tr.loadAll rfl rfl rfl Try.underlying43 rfl Sz43 (by first | exact mem0 | exact mem1 | exact mem2 | exact mem3 | exact mem4 | exact mem5 | exact mem6 | exact mem7) (Vote.length (by first | assumption | (simp [ha.l_fVoter, hb.l_fVoter, ha.l_fValue, hb.l_fValue]; done))) ?_
                refine Tr.loadAll rfl rfl rfl Try.underlying43 rfl Sz43 (by first | exact mem0 | exact mem1 | exact mem2 | exact mem3 | exact mem4 | exact mem5 | exact mem6 | exact mem7) (Vote.length (by first | assumption | (simp [ha.l_fVoter, hb.l_fVoter, ha.l_fValue, hb.l_fValue]; done))) ?_
                refine Tr.loadAll rfl rfl rfl Try.underlying43 rfl Sz43 (by first | exact mem0 | exact mem1 | exact mem2 | exact mem3 | exact mem4 | exact mem5 | exact mem6 | exact mem7) (Vote.length (by first | assumption | (simp [ha.l_fVoter, hb.l_fVoter, ha.l_fValue, hb.l_fValue]; done))) ?_
                refine Tr.loadAll rfl rfl rfl Try.underlying43 rfl Sz43 (by first | exact mem0 | exact mem1 | exact mem2 | exact mem3 | exact mem4 | exact mem5 | exact mem6 | exact mem7) (Vote.length (by first | assumption | (simp [ha.l_fVoter, hb.l_fVoter, ha.l_fValue, hb.l_fValue]; done))) ?_
                refine Tr.callV rfl rfl rfl rfl Body19 (vote_against _ _ (by assumption) (by assumption)) (fun _ _ => trivial) ?_
                refine Tr.callV rfl rfl rfl rfl Body19 (vote_against _ _ (by assumption) (by assumption)) (fun _ _ => trivial) ?_
                refine Tr.neb (r := false) rfl rfl rfl rfl Try.underlying4 (by rw [against_symm a b]; simp) ?_
                refine Tr.pick rfl rfl rfl rfl rfl rfl ?_
                refine Tr.nil ?_
                refine at_n ?_
                refine ⟨(), trivial, weak_of (wk1 rfl (wk1 rfl (wk1 rfl (wk1 rfl (wk1 rfl wk0))))) (wh1 (by first | exact mem0 | exact mem1 | exact mem2 | exact mem3 | exact mem4 | exact mem5 | exact mem6 | exact mem7) (wh1 (by first | exact mem0 | exact mem1 | exact mem2 | exact mem3 | exact mem4 | exact mem5 | exact mem6 | exact mem7) (wh1 (by first | exact mem0 | exact mem1 | exact mem2 | exact mem3 | exact mem4 | exact mem5 | exact mem6 | exact mem7) wh0))) (by repeat (first | exact ns_nil | refine ns_keep rfl ?_ | refine ns_skip ?_))⟩
            ·
              intro _u hj
              skip
              refine Sat.cond_f rfl (rfl) ?_
              refine Sat.skip ?_
              refine at_n ?_
              refine Sat.seq ?_
              refine Sat.block ?_
              refine Sat.seq ?_
              -- region 11
              refine Sat.region ?_
              refine Tr.fld rfl rfl rfl Try.underlying43 rfl Sz24 (by decide) _ rfl ?_
              refine Tr.load1 rfl rfl rfl Try.underlying24 rfl (by first | exact mem0 | exact mem1 | exact mem2 | exact mem3 | exact mem4 | exact mem5 | exact mem6 | exact mem7) (by first | exact Vote.get_fHeight (by first | assumption | (simp [ha.l_fVoter, hb.l_fVoter, ha.l_fValue, hb.l_fValue]; done)) | exact (by first | rfl | exact get_words (by first | omega | (simp [ha.l_fVoter, hb.l_fVoter, ha.l_fValue, hb.l_fValue]; done) | (simp [ha.l_fVoter, hb.l_fVoter, ha.l_fValue, hb.l_fValue]; omega)) | exact get_bytes (by first | omega | (simp [ha.l_fVoter, hb.l_fVoter, ha.l_fValue, hb.l_fValue]; done) | (simp [ha.l_fVoter, hb.l_fVoter, ha.l_fValue, hb.l_fValue]; omega)) | exact get_ints (by first | omega | (simp [ha.l_fVoter, hb.l_fVoter, ha.l_fValue, hb.l_fValue]; done) | (simp [ha.l_fVoter, hb.l_fVoter, ha.l_fValue, hb.l_fValue]; omega)))) ?_
              refine Tr.fld rfl rfl rfl Try.underlying43 rfl Sz24 (by decide) _ rfl ?_
              refine Tr.load1 rfl rfl rfl Try.underlying24 rfl (by first | exact mem0 | exact mem1 | exact mem2 | exact mem3 | exact mem4 | exact mem5 | exact mem6 | exact mem7) (by first | exact Vote.get_fHeight (by first | assumption | (simp [ha.l_fVoter, hb.l_fVoter, ha.l_fValue, hb.l_fValue]; done)) | exact (by first | rfl | exact get_words (by first | omega | (simp [ha.l_fVoter, hb.l_fVoter, ha.l_fValue, hb.l_fValue]; done) | (simp [ha.l_fVoter, hb.l_fVoter, ha.l_fValue, hb.l_fValue]; omega)) | exact get_bytes (by first | omega | (simp [ha.l_fVoter, hb.l_fVoter, ha.l_fValue, hb.l_fValue]; done) | (simp [ha.l_fVoter, hb.l_fVoter, ha.l_fValue, hb.l_fValue]; omega)) | exact get_ints (by first | omega | (simp [ha.l_fVoter, hb.l_fVoter, ha.l_fValue, hb.l_fValue]; done) | (simp [ha.l_fVoter, hb.l_fVoter, ha.l_fValue, hb.l_fValue]; omega)))) ?_
              refine Tr.nei rfl rfl rfl rfl rfl ?_
              refine Tr.assign rfl rfl rfl ?_
              refine Tr.nil ?_
              refine at_n ?_
              first
                | refine Sat.condP rfl (fun hc3 => ?_) (fun hc3 => ?_)
                | refine Sat.condNP rfl (fun hc3 => ?_) (fun hc3 => ?_)
                | refine Sat.cond rfl (fun hc3 => ?_) (fun hc3 => ?_)
              ·
                refine Sat.seq ?_
                -- region 12
                refine Sat.region ?_
                refine Tr.move rfl rfl rfl ?_
                refine Tr.lss rfl rfl rfl rfl rfl ?_
                refine Tr.fld rfl rfl rfl Try.underlying43 rfl Sz24 (by decide) _ rfl ?_
                refine Tr.load1 rfl rfl rfl Try.underlying24 rfl (by first | exact mem0 | exact mem1 | exact mem2 | exact mem3 | exact mem4 | exact mem5 | exact mem6 | exact mem7) (by first | exact Vote.get_fHeight (by first | assumption | (simp [ha.l_fVoter, hb.l_fVoter, ha.l_fValue, hb.l_fValue]; done)) | exact (by first | rfl | exact get_words (by first | omega | (simp [ha.l_fVoter, hb.l_fVoter, ha.l_fValue, hb.l_fValue]; done) | (simp [ha.l_fVoter, hb.l_fVoter, ha.l_fValue, hb.l_fValue]; omega)) | exact get_bytes (by first | omega | (simp [ha.l_fVoter, hb.l_fVoter, ha.l_fValue, hb.l_fValue]; done) | (simp [ha.l_fVoter, hb.l_fVoter, ha.l_fValue, hb.l_fValue]; omega)) | exact get_ints (by first | omega | (simp [ha.l_fVoter, hb.l_fVoter, ha.l_fValue, hb.l_fValue]; done) | (simp [ha.l_fVoter, hb.l_fVoter, ha.l_fValue, hb.l_fValue]; omega)))) ?_
                refine Tr.fld rfl rfl rfl Try.underlying43 rfl Sz24 (by decide) _ rfl ?_
                refine Tr.load1 rfl rfl rfl Try.underlying24 rfl (by first | exact mem0 | exact mem1 | exact mem2 | exact mem3 | exact mem4 | exact mem5 | exact mem6 | exact mem7) (by first | exact Vote.get_fHeight (by first | assumption | (simp [ha.l_fVoter, hb.l_fVoter, ha.l_fValue, hb.l_fValue]; done)) | exact (by first | rfl | exact get_words (by first | omega | (simp [ha.l_fVoter, hb.l_fVoter, ha.l_fValue, hb.l_fValue]; done) | (simp [ha.l_fVoter, hb.l_fVoter, ha.l_fValue, hb.l_fValue]; omega)) | exact get_bytes (by first | omega | (simp [ha.l_fVoter, hb.l_fVoter, ha.l_fValue, hb.l_fValue]; done) | (simp [ha.l_fVoter, hb.l_fVoter, ha.l_fValue, hb.l_fValue]; omega)) | exact get_ints (by first | omega | (simp [ha.l_fVoter, hb.l_fVoter, ha.l_fValue, hb.l_fValue]; done) | (simp [ha.l_fVoter, hb.l_fVoter, ha.l_fValue, hb.l_fValue]; omega)))) ?_
                refine Tr.lss rfl rfl rfl rfl rfl ?_
                refine Tr.eqb (r := true) rfl rfl rfl rfl Try.underlying4 (beq_of_iff (vcmp_h a b hc3)) ?_
                refine Tr.assign rfl rfl rfl ?_
                refine Tr.nil ?_
                refine at_n ?_
                refine Sat.ret ?_
                refine bl_r ?_
                refine at_r ?_
                refine en_r ?_
                refine ⟨_, [], res_tmp rfl rfl, (by simp), (by simp), ?_, rfl⟩
                rfl
              ·
                refine Sat.seq ?_
                -- region 13
                refine Sat.region ?_
                refine Tr.fld rfl rfl rfl Try.underlying43 rfl Sz24 (by decide) _ rfl ?_
                refine Tr.load1 rfl rfl rfl Try.underlying24 rfl (by first | exact mem0 | exact mem1 | exact mem2 | exact mem3 | exact mem4 | exact mem5 | exact mem6 | exact mem7) (by first | exact Vote.get_fRound (by first | assumption | (simp [ha.l_fVoter, hb.l_fVoter, ha.l_fValue, hb.l_fValue]; done)) | exact (by first | rfl | exact get_words (by first | omega | (simp [ha.l_fVoter, hb.l_fVoter, ha.l_fValue, hb.l_fValue]; done) | (simp [ha.l_fVoter, hb.l_fVoter, ha.l_fValue, hb.l_fValue]; omega)) | exact get_bytes (by first | omega | (simp [ha.l_fVoter, hb.l_fVoter, ha.l_fValue, hb.l_fValue]; done) | (simp [ha.l_fVoter, hb.l_fVoter, ha.l_fValue, hb.l_fValue]; omega)) | exact get_ints (by first | omega | (simp [ha.l_fVoter, hb.l_fVoter, ha.l_fValue, hb.l_fValue]; done) | (simp [ha.l_fVoter, hb.l_fVoter, ha.l_fValue, hb.l_fValue]; omega)))) ?_
                refine Tr.fld rfl rfl rfl Try.underlying43 rfl Sz24 (by decide) _ rfl ?_
                refine Tr.load1 rfl rfl rfl Try.underlying24 rfl (by first | exact mem0 | exact mem1 | exact mem2 | exact mem3 | exact mem4 | exact mem5 | exact mem6 | exact mem7) (by first | exact Vote.get_fRound (by first | assumption | (simp [ha.l_fVoter, hb.l_fVoter, ha.l_fValue, hb.l_fValue]; done)) | exact (by first | rfl | exact get_words (by first | omega | (simp [ha.l_fVoter, hb.l_fVoter, ha.l_fValue, hb.l_fValue]; done) | (simp [ha.l_fVoter, hb.l_fVoter, ha.l_fValue, hb.l_fValue]; omega)) | exact get_bytes (by first | omega | (simp [ha.l_fVoter, hb.l_fVoter, ha.l_fValue, hb.l_fValue]; done) | (simp [ha.l_fVoter, hb.l_fVoter, ha.l_fValue, hb.l_fValue]; omega)) | exact get_ints (by first | omega | (simp [ha.l_fVoter, hb.l_fVoter, ha.l_fValue, hb.l_fValue]; done) | (simp [ha.l_fVoter, hb.l_fVoter, ha.l_fValue, hb.l_fValue]; omega)))) ?_
                refine Tr.nei rfl rfl rfl rfl rfl ?_
                refine Tr.assign rfl rfl rfl ?_
                refine Tr.nil ?_
                refine at_n ?_
                first
                  | refine Sat.condP rfl (fun hc4 => ?_) (fun hc4 => ?_)
                  | refine Sat.condNP rfl (fun hc4 => ?_) (fun hc4 => ?_)
                  | refine Sat.cond rfl (fun hc4 => ?_) (fun hc4 => ?_)
                ·
                  refine Sat.seq ?_
                  -- region 14
                  refine Sat.region ?_
                  refine Tr.move rfl rfl rfl ?_
                  refine Tr.lss rfl rfl rfl rfl rfl ?_
                  refine Tr.fld rfl rfl rfl Try.underlying43 rfl Sz24 (by decide) _ rfl ?_
                  refine Tr.load1 rfl rfl rfl Try.underlying24 rfl (by first | exact mem0 | exact mem1 | exact mem2 | exact mem3 | exact mem4 | exact mem5 | exact mem6 | exact mem7) (by first | exact Vote.get_fRound (by first | assumption | (simp [ha.l_fVoter, hb.l_fVoter, ha.l_fValue, hb.l_fValue]; done)) | exact (by first | rfl | exact get_words (by first | omega | (simp [ha.l_fVoter, hb.l_fVoter, ha.l_fValue, hb.l_fValue]; done) | (simp [ha.l_fVoter, hb.l_fVoter, ha.l_fValue, hb.l_fValue]; omega)) | exact get_bytes (by first | omega | (simp [ha.l_fVoter, hb.l_fVoter, ha.l_fValue, hb.l_fValue]; done) | (simp [ha.l_fVoter, hb.l_fVoter, ha.l_fValue, hb.l_fValue]; omega)) | exact get_ints (by first | omega | (simp [ha.l_fVoter, hb.l_fVoter, ha.l_fValue, hb.l_fValue]; done) | (simp [ha.l_fVoter, hb.l_fVoter, ha.l_fValue, hb.l_fValue]; omega)))) ?_
                  refine Tr.fld rfl rfl rfl Try.underlying43 rfl Sz24 (by decide) _ rfl ?_
                  refine Tr.load1 rfl rfl rfl Try.underlying24 rfl (by first | exact mem0 | exact mem1 | exact mem2 | exact mem3 | exact mem4 | exact mem5 | exact mem6 | exact mem7) (by first | exact Vote.get_fRound (by first | assumption | (simp [ha.l_fVoter, hb.l_fVoter, ha.l_fValue, hb.l_fValue]; done)) | exact (by first | rfl | exact get_words (by first | omega | (simp [ha.l_fVoter, hb.l_fVoter, ha.l_fValue, hb.l_fValue]; done) | (simp [ha.l_fVoter, hb.l_fVoter, ha.l_fValue, hb.l_fValue]; omega)) | exact get_bytes (by first | omega | (simp [ha.l_fVoter, hb.l_fVoter, ha.l_fValue, hb.l_fValue]; done) | (simp [ha.l_fVoter, hb.l_fVoter, ha.l_fValue, hb.l_fValue]; omega)) | exact get_ints (by first | omega | (simp [ha.l_fVoter, hb.l_fVoter, ha.l_fValue, hb.l_fValue]; done) | (simp [ha.l_fVoter, hb.l_fVoter, ha.l_fValue, hb.l_fValue]; omega)))) ?_
                  refine Tr.lss rfl rfl rfl rfl rfl ?_
                  refine Tr.eqb (r := true) rfl rfl rfl rfl Try.underlying4 (beq_of_iff (vcmp_r a b hc3 hc4)) ?_
                  refine Tr.assign rfl rfl rfl ?_
                  refine Tr.nil ?_
                  refine at_n ?_
                  refine Sat.ret ?_
                  refine bl_r ?_
                  refine at_r ?_
                  refine en_r ?_
                  refine ⟨_, [], res_tmp rfl rfl, (by simp), (by simp), ?_, rfl⟩
                  rfl
                ·
                  refine Sat.seq ?_
                  -- region 15
                  refine Sat.region ?_
                  refine Tr.fld rfl rfl rfl Try.underlying43 rfl Sz3 (by decide) _ rfl ?_
                  refine Tr.load1 rfl rfl rfl Try.underlying3 rfl (by first | exact mem0 | exact mem1 | exact mem2 | exact mem3 | exact mem4 | exact mem5 | exact mem6 | exact mem7) (by first | exact Vote.get_fPhase (by first | assumption | (simp [ha.l_fVoter, hb.l_fVoter, ha.l_fValue, hb.l_fValue]; done)) | exact (by first | rfl | exact get_words (by first | omega | (simp [ha.l_fVoter, hb.l_fVoter, ha.l_fValue, hb.l_fValue]; done) | (simp [ha.l_fVoter, hb.l_fVoter, ha.l_fValue, hb.l_fValue]; omega)) | exact get_bytes (by first | omega | (simp [ha.l_fVoter, hb.l_fVoter, ha.l_fValue, hb.l_fValue]; done) | (simp [ha.l_fVoter, hb.l_fVoter, ha.l_fValue, hb.l_fValue]; omega)) | exact get_ints (by first | omega | (simp [ha.l_fVoter, hb.l_fVoter, ha.l_fValue, hb.l_fValue]; done) | (simp [ha.l_fVoter, hb.l_fVoter, ha.l_fValue, hb.l_fValue]; omega)))) ?_
                  refine Tr.fld rfl rfl rfl Try.underlying43 rfl Sz3 (by decide) _ rfl ?_
                  refine Tr.load1 rfl rfl rfl Try.underlying3 rfl (by first | exact mem0 | exact mem1 | exact mem2 | exact mem3 | exact mem4 | exact mem5 | exact mem6 | exact mem7) (by first | exact Vote.get_fPhase (by first | assumption | (simp [ha.l_fVoter, hb.l_fVoter, ha.l_fValue, hb.l_fValue]; done)) | exact (by first | rfl | exact get_words (by first | omega | (simp [ha.l_fVoter, hb.l_fVoter, ha.l_fValue, hb.l_fValue]; done) | (simp [ha.l_fVoter, hb.l_fVoter, ha.l_fValue, hb.l_fValue]; omega)) | exact get_bytes (by first | omega | (simp [ha.l_fVoter, hb.l_fVoter, ha.l_fValue, hb.l_fValue]; done) | (simp [ha.l_fVoter, hb.l_fVoter, ha.l_fValue, hb.l_fValue]; omega)) | exact get_ints (by first | omega | (simp [ha.l_fVoter, hb.l_fVoter, ha.l_fValue, hb.l_fValue]; done) | (simp [ha.l_fVoter, hb.l_fVoter, ha.l_fValue, hb.l_fValue]; omega)))) ?_
                  refine Tr.nei rfl rfl rfl rfl rfl ?_
                  refine Tr.assign rfl rfl rfl ?_
                  refine Tr.nil ?_
                  refine at_n ?_
                  first
                    | refine Sat.condP rfl (fun hc5 => ?_) (fun hc5 => ?_)
                    | refine Sat.condNP rfl (fun hc5 => ?_) (fun hc5 => ?_)
                    | refine Sat.cond rfl (fun hc5 => ?_) (fun hc5 => ?_)
                  ·
                    refine Sat.seq ?_
                    -- region 16
                    refine Sat.region ?_
                    refine Tr.move rfl rfl rfl ?_
                    refine Tr.lss rfl rfl rfl rfl rfl ?_
                    refine Tr.fld rfl rfl rfl Try.underlying43 rfl Sz3 (by decide) _ rfl ?_
                    refine Tr.load1 rfl rfl rfl Try.underlying3 rfl (by first | exact mem0 | exact mem1 | exact mem2 | exact mem3 | exact mem4 | exact mem5 | exact mem6 | exact mem7) (by first | exact Vote.get_fPhase (by first | assumption | (simp [ha.l_fVoter, hb.l_fVoter, ha.l_fValue, hb.l_fValue]; done)) | exact (by first | rfl | exact get_words (by first | omega | (simp [ha.l_fVoter, hb.l_fVoter, ha.l_fValue, hb.l_fValue]; done) | (simp [ha.l_fVoter, hb.l_fVoter, ha.l_fValue, hb.l_fValue]; omega)) | exact get_bytes (by first | omega | (simp [ha.l_fVoter, hb.l_fVoter, ha.l_fValue, hb.l_fValue]; done) | (simp [ha.l_fVoter, hb.l_fVoter, ha.l_fValue, hb.l_fValue]; omega)) | exact get_ints (by first | omega | (simp [ha.l_fVoter, hb.l_fVoter, ha.l_fValue, hb.l_fValue]; done) | (simp [ha.l_fVoter, hb.l_fVoter, ha.l_fValue, hb.l_fValue]; omega)))) ?_
                    refine Tr.fld rfl rfl rfl Try.underlying43 rfl Sz3 (by decide) _ rfl ?_
                    refine Tr.load1 rfl rfl rfl Try.underlying3 rfl (by first | exact mem0 | exact mem1 | exact mem2 | exact mem3 | exact mem4 | exact mem5 | exact mem6 | exact mem7) (by first | exact Vote.get_fPhase (by first | assumption | (simp [ha.l_fVoter, hb.l_fVoter, ha.l_fValue, hb.l_fValue]; done)) | exact (by first | rfl | exact get_words (by first | omega | (simp [ha.l_fVoter, hb.l_fVoter, ha.l_fValue, hb.l_fValue]; done) | (simp [ha.l_fVoter, hb.l_fVoter, ha.l_fValue, hb.l_fValue]; omega)) | exact get_bytes (by first | omega | (simp [ha.l_fVoter, hb.l_fVoter, ha.l_fValue, hb.l_fValue]; done) | (simp [ha.l_fVoter, hb.l_fVoter, ha.l_fValue, hb.l_fValue]; omega)) | exact get_ints (by first | omega | (simp [ha.l_fVoter, hb.l_fVoter, ha.l_fValue, hb.l_fValue]; done) | (simp [ha.l_fVoter, hb.l_fVoter, ha.l_fValue, hb.l_fValue]; omega)))) ?_
                    refine Tr.lss rfl rfl rfl rfl rfl ?_
                    refine Tr.eqb (r := true) rfl rfl rfl rfl Try.underlying4 (beq_of_iff (vcmp_p a b hc3 hc4 hc5)) ?_
                    refine Tr.assign rfl rfl rfl ?_
                    refine Tr.nil ?_
                    refine at_n ?_
                    refine Sat.ret ?_
                    refine bl_r ?_
                    refine at_r ?_
                    refine en_r ?_
                    refine ⟨_, [], res_tmp rfl rfl, (by simp), (by simp), ?_, rfl⟩
                    rfl
                  ·
                    refine Sat.skip ?_
                    refine bl_n ?_
                    refine at_n ?_
                    refine Sat.seq ?_
                    -- region 17
                    refine Sat.region ?_
                    refine Tr.assign rfl rfl rfl ?_
                    refine Tr.nil ?_
                    refine at_n ?_
                    refine Sat.ret ?_
                    refine en_r ?_
                    refine ⟨_, [], res_tmp rfl rfl, (by simp), (by simp), ?_, rfl⟩
                    rfl
          ·
            first | have hs8_24 := of_decide_eq_true hs8_240 | have hs8_24 := of_decide_eq_false hs8_240 | have hs8_24 := nd_t hs8_240 | have hs8_24 := nd_f hs8_240 | have hs8_24 := hs8_240
            refine Tr.pick rfl rfl rfl rfl rfl rfl ?_
            refine Tr.assign rfl rfl rfl ?_
            refine Tr.nil ?_
            refine at_n ?_
            refine Sat.seq ?_
            refine Sat.join (ι := Unit) (fun _u => ⟨[(3, ptr n3 0), (4, ptr n4 0), (5, ptr n5 0), (9, i64 (vcmp a b)), (113, .bool false)], [⟨n5, c.cells, 43, c.cells.length⟩, ⟨n4, b.cells, 43, b.cells.length⟩, ⟨n3, a.cells, 43, a.cells.length⟩]⟩) (fun _u => True) ?_ ?_
            ·
              -- region 9
              refine Sat.draw [(1, 0), (1, 1), (0, 3), (3, 2), (0, 4), (0, 5), (1, 6), (0, 7), (1, 8), (0, 9), (0, 10), (0, 11), (1, 12), (0, 13), (1, 14), (0, 15), (0, 16), (0, 17), (0, 18), (0, 19), (1, 20), (1, 21), (1, 23), (1, 24), (3, 22), (3, 25), (0, 26), (0, 27)] Mixed (by kernel_rfl) ?_
              refine Tr.loadAll rfl rfl rfl Try.underlying43 rfl Sz43 (by first | exact mem0 | exact mem1 | exact mem2 | exact mem3 | exact mem4 | exact mem5 | exact mem6 | exact mem7) (Vote.length (by first | assumption | (simp [ha.l_fVoter, hb.l_fVoter, ha.l_fValue, hb.l_fValue]; done))) ?_
              refine Tr.loadAll rfl rfl rfl Try.underlying43 rfl Sz43 (by first | exact mem0 | exact mem1 | exact mem2 | exact mem3 | exact mem4 | exact mem5 | exact mem6 | exact mem7) (Vote.length (by first | assumption | (simp [ha.l_fVoter, hb.l_fVoter, ha.l_fValue, hb.l_fValue]; done))) ?_
              refine Tr.move rfl rfl rfl ?_
              refine Tr.callV rfl rfl rfl rfl Body19 (vote_against _ _ (by assumption) (by assumption)) (fun _ _ => trivial) ?_
              refine Tr.move rfl rfl rfl ?_
              refine Tr.skp rfl rfl ?_
              refine Tr.skp rfl rfl ?_
              refine Tr.skp rfl rfl ?_
              refine Tr.skp rfl rfl ?_
              refine Tr.skp rfl rfl ?_
              refine Tr.skp rfl rfl ?_
              refine Tr.skp rfl rfl ?_
              refine Tr.skp rfl rfl ?_
              refine Tr.skp rfl rfl ?_
              refine Tr.skp rfl rfl ?_
              refine Tr.skp rfl rfl ?_
              refine Tr.skp rfl rfl ?_
              refine Tr.pick rfl rfl rfl rfl rfl rfl ?_
              refine Tr.neb (r := false) rfl rfl rfl rfl Try.underlying4 (by simp [against, same4, *]) ?_
              refine Tr.move rfl rfl rfl ?_
              refine Tr.loadAll rfl rfl rfl Try.underlying43 rfl Sz43 (by first | exact mem0 | exact mem1 | exact mem2 | exact mem3 | exact mem4 | exact mem5 | exact mem6 | exact mem7) (Vote.length (by first | assumption | (simp [ha.l_fVoter, hb.l_fVoter, ha.l_fValue, hb.l_fValue]; done))) ?_
              refine Tr.loadAll rfl rfl rfl Try.underlying43 rfl Sz43 (by first | exact mem0 | exact mem1 | exact mem2 | exact mem3 | exact mem4 | exact mem5 | exact mem6 | exact mem7) (Vote.length (by first | assumption | (simp [ha.l_fVoter, hb.l_fVoter, ha.l_fValue, hb.l_fValue]; done))) ?_
              refine Tr.loadAll rfl rfl rfl Try.underlying43 rfl Sz43 (by first | exact mem0 | exact mem1 | exact mem2 | exact mem3 | exact mem4 | exact mem5 | exact mem6 | exact mem7) (Vote.length (by first | assumption | (simp [ha.l_fVoter, hb.l_fVoter, ha.l_fValue, hb.l_fValue]; done))) ?_
              refine Tr.loadAll rfl rfl rfl Try.underlying43 rfl Sz43 (by first | exact mem0 | exact mem1 | exact mem2 | exact mem3 | exact mem4 | exact mem5 | exact mem6 | exact mem7) (Vote.length (by first | assumption | (simp [ha.l_fVoter, hb.l_fVoter, ha.l_fValue, hb.l_fValue]; done))) ?_
              refine Tr.callV rfl rfl rfl rfl Body19 (vote_against _ _ (by assumption) (by assumption)) (fun _ _ => trivial) ?_
              refine Tr.callV rfl rfl rfl rfl Body19 (vote_against _ _ (by assumption) (by assumption)) (fun _ _ => trivial) ?_
              refine Tr.neb (r := false) rfl rfl rfl rfl Try.underlying4 (by rw [against_symm a b]; simp) ?_
              refine Tr.pick rfl rfl rfl rfl rfl rfl ?_
              refine Tr.nil ?_
              refine at_n ?_
              refine ⟨(), trivial, weak_of (wk1 rfl (wk1 rfl (wk1 rfl (wk1 rfl (wk1 rfl wk0))))) (wh1 (by first | exact mem0 | exact mem1 | exact mem2 | exact mem3 | exact mem4 | exact mem5 | exact mem6 | exact mem7) (wh1 (by first | exact mem0 | exact mem1 | exact mem2 | exact mem3 | exact mem4 | exact mem5 | exact mem6 | exact mem7) (wh1 (by first | exact mem0 | exact mem1 | exact mem2 | exact mem3 | exact mem4 | exact mem5 | exact mem6 | exact mem7) wh0))) (by repeat (first | exact ns_nil | refine ns_keep rfl ?_ | refine ns_skip ?_))⟩
            ·
              intro _u hj
              skip
              refine Sat.cond_f rfl (rfl) ?_
              refine Sat.skip ?_
              refine at_n ?_
              refine Sat.seq ?_
              refine Sat.block ?_
              refine Sat.seq ?_
              -- region 11
              refine Sat.region ?_
              refine Tr.fld rfl rfl rfl Try.underlying43 rfl Sz24 (by decide) _ rfl ?_
              refine Tr.load1 rfl rfl rfl Try.underlying24 rfl (by first | exact mem0 | exact mem1 | exact mem2 | exact mem3 | exact mem4 | exact mem5 | exact mem6 | exact mem7) (by first | exact Vote.get_fHeight (by first | assumption | (simp [ha.l_fVoter, hb.l_fVoter, ha.l_fValue, hb.l_fValue]; done)) | exact (by first | rfl | exact get_words (by first | omega | (simp [ha.l_fVoter, hb.l_fVoter, ha.l_fValue, hb.l_fValue]; done) | (simp [ha.l_fVoter, hb.l_fVoter, ha.l_fValue, hb.l_fValue]; omega)) | exact get_bytes (by first | omega | (simp [ha.l_fVoter, hb.l_fVoter, ha.l_fValue, hb.l_fValue]; done) | (simp [ha.l_fVoter, hb.l_fVoter, ha.l_fValue, hb.l_fValue]; omega)) | exact get_ints (by first | omega | (simp [ha.l_fVoter, hb.l_fVoter, ha.l_fValue, hb.l_fValue]; done) | (simp [ha.l_fVoter, hb.l_fVoter, ha.l_fValue, hb.l_fValue]; omega)))) ?_
              refine Tr.fld rfl rfl rfl Try.underlying43 rfl Sz24 (by decide) _ rfl ?_
              refine Tr.load1 rfl rfl rfl Try.underlying24 rfl (by first | exact mem0 | exact mem1 | exact mem2 | exact mem3 | exact mem4 | exact mem5 | exact mem6 | exact mem7) (by first | exact Vote.get_fHeight (by first | assumption | (simp [ha.l_fVoter, hb.l_fVoter, ha.l_fValue, hb.l_fValue]; done)) | exact (by first | rfl | exact get_words (by first | omega | (simp [ha.l_fVoter, hb.l_fVoter, ha.l_fValue, hb.l_fValue]; done) | (simp [ha.l_fVoter, hb.l_fVoter, ha.l_fValue, hb.l_fValue]; omega)) | exact get_bytes (by first | omega | (simp [ha.l_fVoter, hb.l_fVoter, ha.l_fValue, hb.l_fValue]; done) | (simp [ha.l_fVoter, hb.l_fVoter, ha.l_fValue, hb.l_fValue]; omega)) | exact get_ints (by first | omega | (simp [ha.l_fVoter, hb.l_fVoter, ha.l_fValue, hb.l_fValue]; done) | (simp [ha.l_fVoter, hb.l_fVoter, ha.l_fValue, hb.l_fValue]; omega)))) ?_
              refine Tr.nei rfl rfl rfl rfl rfl ?_
              refine Tr.assign rfl rfl rfl ?_
              refine Tr.nil ?_
              refine at_n ?_
              first
                | refine Sat.condP rfl (fun hc3 => ?_) (fun hc3 => ?_)
                | refine Sat.condNP rfl (fun hc3 => ?_) (fun hc3 => ?_)
                | refine Sat.cond rfl (fun hc3 => ?_) (fun hc3 => ?_)
              ·
                refine Sat.seq ?_
                -- region 12
                refine Sat.region ?_
                refine Tr.move rfl rfl rfl ?_
                refine Tr.lss rfl rfl rfl rfl rfl ?_
                refine Tr.fld rfl rfl rfl Try.underlying43 rfl Sz24 (by decide) _ rfl ?_
                refine Tr.load1 rfl rfl rfl Try.underlying24 rfl (by first | exact mem0 | exact mem1 | exact mem2 | exact mem3 | exact mem4 | exact mem5 | exact mem6 | exact mem7) (by first | exact Vote.get_fHeight (by first | assumption | (simp [ha.l_fVoter, hb.l_fVoter, ha.l_fValue, hb.l_fValue]; done)) | exact (by first | rfl | exact get_words (by first | omega | (simp [ha.l_fVoter, hb.l_fVoter, ha.l_fValue, hb.l_fValue]; done) | (simp [ha.l_fVoter, hb.l_fVoter, ha.l_fValue, hb.l_fValue]; omega)) | exact get_bytes (by first | omega | (simp [ha.l_fVoter, hb.l_fVoter, ha.l_fValue, hb.l_fValue]; done) | (simp [ha.l_fVoter, hb.l_fVoter, ha.l_fValue, hb.l_fValue]; omega)) | exact get_ints (by first | omega | (simp [ha.l_fVoter, hb.l_fVoter, ha.l_fValue, hb.l_fValue]; done) | (simp [ha.l_fVoter, hb.l_fVoter, ha.l_fValue, hb.l_fValue]; omega)))) ?_
                refine Tr.fld rfl rfl rfl Try.underlying43 rfl Sz24 (by decide) _ rfl ?_
                refine Tr.load1 rfl rfl rfl Try.underlying24 rfl (by first | exact mem0 | exact mem1 | exact mem2 | exact mem3 | exact mem4 | exact mem5 | exact mem6 | exact mem7) (by first | exact Vote.get_fHeight (by first | assumption | (simp [ha.l_fVoter, hb.l_fVoter, ha.l_fValue, hb.l_fValue]; done)) | exact (by first | rfl | exact get_words (by first | omega | (simp [ha.l_fVoter, hb.l_fVoter, ha.l_fValue, hb.l_fValue]; done) | (simp [ha.l_fVoter, hb.l_fVoter, ha.l_fValue, hb.l_fValue]; omega)) | exact get_bytes (by first | omega | (simp [ha.l_fVoter, hb.l_fVoter, ha.l_fValue, hb.l_fValue]; done) | (simp [ha.l_fVoter, hb.l_fVoter, ha.l_fValue, hb.l_fValue]; omega)) | exact get_ints (by first | omega | (simp [ha.l_fVoter, hb.l_fVoter, ha.l_fValue, hb.l_fValue]; done) | (simp [ha.l_fVoter, hb.l_fVoter, ha.l_fValue, hb.l_fValue]; omega)))) ?_
                refine Tr.lss rfl rfl rfl rfl rfl ?_
                refine Tr.eqb (r := true) rfl rfl rfl rfl Try.underlying4 (beq_of_iff (vcmp_h a b hc3)) ?_
                refine Tr.assign rfl rfl rfl ?_
                refine Tr.nil ?_
                refine at_n ?_
                refine Sat.ret ?_
                refine bl_r ?_
                refine at_r ?_
                refine en_r ?_
                refine ⟨_, [], res_tmp rfl rfl, (by simp), (by simp), ?_, rfl⟩
                rfl
              ·
                refine Sat.seq ?_
                -- region 13
                refine Sat.region ?_
                refine Tr.fld rfl rfl rfl Try.underlying43 rfl Sz24 (by decide) _ rfl ?_
                refine Tr.load1 rfl rfl rfl Try.underlying24 rfl (by first | exact mem0 | exact mem1 | exact mem2 | exact mem3 | exact mem4 | exact mem5 | exact mem6 | exact mem7) (by first | exact Vote.get_fRound (by first | assumption | (simp [ha.l_fVoter, hb.l_fVoter, ha.l_fValue, hb.l_fValue]; done)) | exact (by first | rfl | exact get_words (by first | omega | (simp [ha.l_fVoter, hb.l_fVoter, ha.l_fValue, hb.l_fValue]; done) | (simp [ha.l_fVoter, hb.l_fVoter, ha.l_fValue, hb.l_fValue]; omega)) | exact get_bytes (by first | omega | (simp [ha.l_fVoter, hb.l_fVoter, ha.l_fValue, hb.l_fValue]; done) | (simp [ha.l_fVoter, hb.l_fVoter, ha.l_fValue, hb.l_fValue]; omega)) | exact get_ints (by first | omega | (simp [ha.l_fVoter, hb.l_fVoter, ha.l_fValue, hb.l_fValue]; done) | (simp [ha.l_fVoter, hb.l_fVoter, ha.l_fValue, hb.l_fValue]; omega)))) ?_
                refine Tr.fld rfl rfl rfl Try.underlying43 rfl Sz24 (by decide) _ rfl ?_
                refine Tr.load1 rfl rfl rfl Try.underlying24 rfl (by first | exact mem0 | exact mem1 | exact mem2 | exact mem3 | exact mem4 | exact mem5 | exact mem6 | exact mem7) (by first | exact Vote.get_fRound (by first | assumption | (simp [ha.l_fVoter, hb.l_fVoter, ha.l_fValue, hb.l_fValue]; done)) | exact (by first | rfl | exact get_words (by first | omega | (simp [ha.l_fVoter, hb.l_fVoter, ha.l_fValue, hb.l_fValue]; done) | (simp [ha.l_fVoter, hb.l_fVoter, ha.l_fValue, hb.l_fValue]; omega)) | exact get_bytes (by first | omega | (simp [ha.l_fVoter, hb.l_fVoter, ha.l_fValue, hb.l_fValue]; done) | (simp [ha.l_fVoter, hb.l_fVoter, ha.l_fValue, hb.l_fValue]; omega)) | exact get_ints (by first | omega | (simp [ha.l_fVoter, hb.l_fVoter, ha.l_fValue, hb.l_fValue]; done) | (simp [ha.l_fVoter, hb.l_fVoter, ha.l_fValue, hb.l_fValue]; omega)))) ?_
                refine Tr.nei rfl rfl rfl rfl rfl ?_
                refine Tr.assign rfl rfl rfl ?_
                refine Tr.nil ?_
                refine at_n ?_
                first
                  | refine Sat.condP rfl (fun hc4 => ?_) (fun hc4 => ?_)
                  | refine Sat.condNP rfl (fun hc4 => ?_) (fun hc4 => ?_)
                  | refine Sat.cond rfl (fun hc4 => ?_) (fun hc4 => ?_)
                ·
                  refine Sat.seq ?_
                  -- region 14
                  refine Sat.region ?_
                  refine Tr.move rfl rfl rfl ?_
                  refine Tr.lss rfl rfl rfl rfl rfl ?_
                  refine Tr.fld rfl rfl rfl Try.underlying43 rfl Sz24 (by decide) _ rfl ?_
                  refine Tr.load1 rfl rfl rfl Try.underlying24 rfl (by first | exact mem0 | exact mem1 | exact mem2 | exact mem3 | exact mem4 | exact mem5 | exact mem6 | exact mem7) (by first | exact Vote.get_fRound (by first | assumption | (simp [ha.l_fVoter, hb.l_fVoter, ha.l_fValue, hb.l_fValue]; done)) | exact (by first | rfl | exact get_words (by first | omega | (simp [ha.l_fVoter, hb.l_fVoter, ha.l_fValue, hb.l_fValue]; done) | (simp [ha.l_fVoter, hb.l_fVoter, ha.l_fValue, hb.l_fValue]; omega)) | exact get_bytes (by first | omega | (simp [ha.l_fVoter, hb.l_fVoter, ha.l_fValue, hb.l_fValue]; done) | (simp [ha.l_fVoter, hb.l_fVoter, ha.l_fValue, hb.l_fValue]; omega)) | exact get_ints (by first | omega | (simp [ha.l_fVoter, hb.l_fVoter, ha.l_fValue, hb.l_fValue]; done) | (simp [ha.l_fVoter, hb.l_fVoter, ha.l_fValue, hb.l_fValue]; omega)))) ?_
                  refine Tr.fld rfl rfl rfl Try.underlying43 rfl Sz24 (by decide) _ rfl ?_
                  refine Tr.load1 rfl rfl rfl Try.underlying24 rfl (by first | exact mem0 | exact mem1 | exact mem2 | exact mem3 | exact mem4 | exact mem5 | exact mem6 | exact mem7) (by first | exact Vote.get_fRound (by first | assumption | (simp [ha.l_fVoter, hb.l_fVoter, ha.l_fValue, hb.l_fValue]; done)) | exact (by first | rfl | exact get_words (by first | omega | (simp [ha.l_fVoter, hb.l_fVoter, ha.l_fValue, hb.l_fValue]; done) | (simp [ha.l_fVoter, hb.l_fVoter, ha.l_fValue, hb.l_fValue]; omega)) | exact get_bytes (by first | omega | (simp [ha.l_fVoter, hb.l_fVoter, ha.l_fValue, hb.l_fValue]; done) | (simp [ha.l_fVoter, hb.l_fVoter, ha.l_fValue, hb.l_fValue]; omega)) | exact get_ints (by first | omega | (simp [ha.l_fVoter, hb.l_fVoter, ha.l_fValue, hb.l_fValue]; done) | (simp [ha.l_fVoter, hb.l_fVoter, ha.l_fValue, hb.l_fValue]; omega)))) ?_
                  refine Tr.lss rfl rfl rfl rfl rfl ?_
                  refine Tr.eqb (r := true) rfl rfl rfl rfl Try.underlying4 (beq_of_iff (vcmp_r a b hc3 hc4)) ?_
                  refine Tr.assign rfl rfl rfl ?_
                  refine Tr.nil ?_
                  refine at_n ?_
                  refine Sat.ret ?_
                  refine bl_r ?_
                  refine at_r ?_
                  refine en_r ?_
                  refine ⟨_, [], res_tmp rfl rfl, (by simp), (by simp), ?_, rfl⟩
                  rfl
                ·
                  refine Sat.seq ?_
                  -- region 15
                  refine Sat.region ?_
                  refine Tr.fld rfl rfl rfl Try.underlying43 rfl Sz3 (by decide) _ rfl ?_
                  refine Tr.load1 rfl rfl rfl Try.underlying3 rfl (by first | exact mem0 | exact mem1 | exact mem2 | exact mem3 | exact mem4 | exact mem5 | exact mem6 | exact mem7) (by first | exact Vote.get_fPhase (by first | assumption | (simp [ha.l_fVoter, hb.l_fVoter, ha.l_fValue, hb.l_fValue]; done)) | exact (by first | rfl | exact get_words (by first | omega | (simp [ha.l_fVoter, hb.l_fVoter, ha.l_fValue, hb.l_fValue]; done) | (simp [ha.l_fVoter, hb.l_fVoter, ha.l_fValue, hb.l_fValue]; omega)) | exact get_bytes (by first | omega | (simp [ha.l_fVoter, hb.l_fVoter, ha.l_fValue, hb.l_fValue]; done) | (simp [ha.l_fVoter, hb.l_fVoter, ha.l_fValue, hb.l_fValue]; omega)) | exact get_ints (by first | omega | (simp [ha.l_fVoter, hb.l_fVoter, ha.l_fValue, hb.l_fValue]; done) | (simp [ha.l_fVoter, hb.l_fVoter, ha.l_fValue, hb.l_fValue]; omega)))) ?_
                  refine Tr.fld rfl rfl rfl Try.underlying43 rfl Sz3 (by decide) _ rfl ?_
                  refine Tr.load1 rfl rfl rfl Try.underlying3 rfl (by first | exact mem0 | exact mem1 | exact mem2 | exact mem3 | exact mem4 | exact mem5 | exact mem6 | exact mem7) (by first | exact Vote.get_fPhase (by first | assumption | (simp [ha.l_fVoter, hb.l_fVoter, ha.l_fValue, hb.l_fValue]; done)) | exact (by first | rfl | exact get_words (by first | omega | (simp [ha.l_fVoter, hb.l_fVoter, ha.l_fValue, hb.l_fValue]; done) | (simp [ha.l_fVoter, hb.l_fVoter, ha.l_fValue, hb.l_fValue]; omega)) | exact get_bytes (by first | omega | (simp [ha.l_fVoter, hb.l_fVoter, ha.l_fValue, hb.l_fValue]; done) | (simp [ha.l_fVoter, hb.l_fVoter, ha.l_fValue, hb.l_fValue]; omega)) | exact get_ints (by first | omega | (simp [ha.l_fVoter, hb.l_fVoter, ha.l_fValue, hb.l_fValue]; done) | (simp [ha.l_fVoter, hb.l_fVoter, ha.l_fValue, hb.l_fValue]; omega)))) ?_
                  refine Tr.nei rfl rfl rfl rfl rfl ?_
                  refine Tr.assign rfl rfl rfl ?_
                  refine Tr.nil ?_
                  refine at_n ?_
                  first
                    | refine Sat.condP rfl (fun hc5 => ?_) (fun hc5 => ?_)
                    | refine Sat.condNP rfl (fun hc5 => ?_) (fun hc5 => ?_)
                    | refine Sat.cond rfl (fun hc5 => ?_) (fun hc5 => ?_)
                  ·
                    refine Sat.seq ?_
                    -- region 16
                    refine Sat.region ?_
                    refine Tr.move rfl rfl rfl ?_
                    refine Tr.lss rfl rfl rfl rfl rfl ?_
                    refine Tr.fld rfl rfl rfl Try.underlying43 rfl Sz3 (by decide) _ rfl ?_
                    refine Tr.load1 rfl rfl rfl Try.underlying3 rfl (by first | exact mem0 | exact mem1 | exact mem2 | exact mem3 | exact mem4 | exact mem5 | exact mem6 | exact mem7) (by first | exact Vote.get_fPhase (by first | assumption | (simp [ha.l_fVoter, hb.l_fVoter, ha.l_fValue, hb.l_fValue]; done)) | exact (by first | rfl | exact get_words (by first | omega | (simp [ha.l_fVoter, hb.l_fVoter, ha.l_fValue, hb.l_fValue]; done) | (simp [ha.l_fVoter, hb.l_fVoter, ha.l_fValue, hb.l_fValue]; omega)) | exact get_bytes (by first | omega | (simp [ha.l_fVoter, hb.l_fVoter, ha.l_fValue, hb.l_fValue]; done) | (simp [ha.l_fVoter, hb.l_fVoter, ha.l_fValue, hb.l_fValue]; omega)) | exact get_ints (by first | omega | (simp [ha.l_fVoter, hb.l_fVoter, ha.l_fValue, hb.l_fValue]; done) | (simp [ha.l_fVoter, hb.l_fVoter, ha.l_fValue, hb.l_fValue]; omega)))) ?_
                    refine Tr.fld rfl rfl rfl Try.underlying43 rfl Sz3 (by decide) _ rfl ?_
                    refine Tr.load1 rfl rfl rfl Try.underlying3 rfl (by first | exact mem0 | exact mem1 | exact mem2 | exact mem3 | exact mem4 | exact mem5 | exact mem6 | exact mem7) (by first | exact Vote.get_fPhase (by first | assumption | (simp [ha.l_fVoter, hb.l_fVoter, ha.l_fValue, hb.l_fValue]; done)) | exact (by first | rfl | exact get_words (by first | omega | (simp [ha.l_fVoter, hb.l_fVoter, ha.l_fValue, hb.l_fValue]; done) | (simp [ha.l_fVoter, hb.l_fVoter, ha.l_fValue, hb.l_fValue]; omega)) | exact get_bytes (by first | omega | (simp [ha.l_fVoter, hb.l_fVoter, ha.l_fValue, hb.l_fValue]; done) | (simp [ha.l_fVoter, hb.l_fVoter, ha.l_fValue, hb.l_fValue]; omega)) | exact get_ints (by first | omega | (simp [ha.l_fVoter, hb.l_fVoter, ha.l_fValue, hb.l_fValue]; done) | (simp [ha.l_fVoter, hb.l_fVoter, ha.l_fValue, hb.l_fValue]; omega)))) ?_
                    refine Tr.lss rfl rfl rfl rfl rfl ?_
                    refine Tr.eqb (r := true) rfl rfl rfl rfl Try.underlying4 (beq_of_iff (vcmp_p a b hc3 hc4 hc5)) ?_
                    refine Tr.assign rfl rfl rfl ?_
                    refine Tr.nil ?_
                    refine at_n ?_
                    refine Sat.ret ?_
                    refine bl_r ?_
                    refine at_r ?_
                    refine en_r ?_
                    refine ⟨_, [], res_tmp rfl rfl, (by simp), (by simp), ?_, rfl⟩
                    rfl
                  ·
                    refine Sat.skip ?_
                    refine bl_n ?_
                    refine at_n ?_
                    refine Sat.seq ?_
                    -- region 17
                    refine Sat.region ?_
                    refine Tr.assign rfl rfl rfl ?_
                    refine Tr.nil ?_
                    refine at_n ?_
                    refine Sat.ret ?_
                    refine en_r ?_
                    refine ⟨_, [], res_tmp rfl rfl, (by simp), (by simp), ?_, rfl⟩
                    rfl
        ·
          first | have hs8_17 := of_decide_eq_true hs8_170 | have hs8_17 := of_decide_eq_false hs8_170 | have hs8_17 := nd_t hs8_170 | have hs8_17 := nd_f hs8_170 | have hs8_17 := hs8_170
          refine Tr.pick rfl rfl rfl rfl rfl rfl ?_
          refine Tr.move rfl rfl rfl ?_
          refine Tr.skp rfl rfl ?_
          refine Tr.skp rfl rfl ?_
          refine Tr.skp rfl rfl ?_
          refine Tr.skp rfl rfl ?_
          refine Tr.skp rfl rfl ?_
          refine Tr.pick rfl rfl rfl rfl rfl rfl ?_
          refine Tr.assign rfl rfl rfl ?_
          refine Tr.nil ?_
          refine at_n ?_
          refine Sat.seq ?_
          refine Sat.join (ι := Unit) (fun _u => ⟨[(3, ptr n3 0), (4, ptr n4 0), (5, ptr n5 0), (9, i64 (vcmp a b)), (113, .bool false)], [⟨n5, c.cells, 43, c.cells.length⟩, ⟨n4, b.cells, 43, b.cells.length⟩, ⟨n3, a.cells, 43, a.cells.length⟩]⟩) (fun _u => True) ?_ ?_
          ·
            -- region 9
            refine Sat.draw [(1, 0), (1, 1), (0, 3), (3, 2), (0, 4), (0, 5), (1, 6), (0, 7), (1, 8), (0, 9), (0, 10), (0, 11), (1, 12), (0, 13), (1, 14), (0, 15), (0, 16), (0, 17), (0, 18), (0, 19), (1, 20), (1, 21), (1, 23), (1, 24), (3, 22), (3, 25), (0, 26), (0, 27)] Mixed (by kernel_rfl) ?_
            refine Tr.loadAll rfl rfl rfl Try.underlying43 rfl Sz43 (by first | exact mem0 | exact mem1 | exact mem2 | exact mem3 | exact mem4 | exact mem5 | exact mem6 | exact mem7) (Vote.length (by first | assumption | (simp [ha.l_fVoter, hb.l_fVoter, ha.l_fValue, hb.l_fValue]; done))) ?_
            refine Tr.loadAll rfl rfl rfl Try.underlying43 rfl Sz43 (by first | exact mem0 | exact mem1 | exact mem2 | exact mem3 | exact mem4 | exact mem5 | exact mem6 | exact mem7) (Vote.length (by first | assumption | (simp [ha.l_fVoter, hb.l_fVoter, ha.l_fValue, hb.l_fValue]; done))) ?_
            refine Tr.move rfl rfl rfl ?_
            refine Tr.callV rfl rfl rfl rfl Body19 (vote_against _ _ (by assumption) (by assumption)) (fun _ _ => trivial) ?_
            refine Tr.move rfl rfl rfl ?_
            refine Tr.skp rfl rfl ?_
            refine Tr.skp rfl rfl ?_
            refine Tr.skp rfl rfl ?_
            refine Tr.skp rfl rfl ?_
            refine Tr.skp rfl rfl ?_
            refine Tr.skp rfl rfl ?_
            refine Tr.skp rfl rfl ?_
            refine Tr.skp rfl rfl ?_
            refine Tr.skp rfl rfl ?_
            refine Tr.skp rfl rfl ?_
            refine Tr.skp rfl rfl ?_
            refine Tr.skp rfl rfl ?_
            refine Tr.pick rfl rfl rfl rfl rfl rfl ?_
            refine Tr.neb (r := false) rfl rfl rfl rfl Try.underlying4 (by simp [against, same4, *]) ?_
            refine Tr.move rfl rfl rfl ?_
            refine Tr.loadAll rfl rfl rfl Try.underlying43 rfl Sz43 (by first | exact mem0 | exact mem1 | exact mem2 | exact mem3 | exact mem4 | exact mem5 | exact mem6 | exact mem7) (Vote.length (by first | assumption | (simp [ha.l_fVoter, hb.l_fVoter, ha.l_fValue, hb.l_fValue]; done))) ?_
            refine Tr.loadAll rfl rfl rfl Try.underlying43 rfl Sz43 (by first | exact mem0 | exact mem1 | exact mem2 | exact mem3 | exact mem4 | exact mem5 | exact mem6 | exact mem7) (Vote.length (by first | assumption | (simp [ha.l_fVoter, hb.l_fVoter, ha.l_fValue, hb.l_fValue]; done))) ?_
            refine Tr.loadAll rfl rfl rfl Try.underlying43 rfl Sz43 (by first | exact mem0 | exact mem1 | exact mem2 | exact mem3 | exact mem4 | exact mem5 | exact mem6 | exact mem7) (Vote.length (by first | assumption | (simp [ha.l_fVoter, hb.l_fVoter, ha.l_fValue, hb.l_fValue]; done))) ?_
            refine Tr.loadAll rfl rfl rfl Try.underlying43 rfl Sz43 (by first | exact mem0 | exact mem1 | exact mem2 | exact mem3 | exact mem4 | exact mem5 | exact mem6 | exact mem7) (Vote.length (by first | assumption | (simp [ha.l_fVoter, hb.l_fVoter, ha.l_fValue, hb.l_fValue]; done))) ?_
            refine Tr.callV rfl rfl rfl rfl Body19 (vote_against _ _ (by assumption) (by assumption)) (fun _ _ => trivial) ?_
            refine Tr.callV rfl rfl rfl rfl Body19 (vote_against _ _ (by assumption) (by assumption)) (fun _ _ => trivial) ?_
            refine Tr.neb (r := false) rfl rfl rfl rfl Try.underlying4 (by rw [against_symm a b]; simp) ?_
            refine Tr.pick rfl rfl rfl rfl rfl rfl ?_
            refine Tr.nil ?_
            refine at_n ?_
            refine ⟨(), trivial, weak_of (wk1 rfl (wk1 rfl (wk1 rfl (wk1 rfl (wk1 rfl wk0))))) (wh1 (by first | exact mem0 | exact mem1 | exact mem2 | exact mem3 | exact mem4 | exact mem5 | exact mem6 | exact mem7) (wh1 (by first | exact mem0 | exact mem1 | exact mem2 | exact mem3 | exact mem4 | exact mem5 | exact mem6 | exact mem7) (wh1 (by first | exact mem0 | exact mem1 | exact mem2 | exact mem3 | exact mem4 | exact mem5 | exact mem6 | exact mem7) wh0))) (by repeat (first | exact ns_nil | refine ns_keep rfl ?_ | refine ns_skip ?_))⟩
          ·
            intro _u hj
            skip
            refine Sat.cond_f rfl (rfl) ?_
            refine Sat.skip ?_
            refine at_n ?_
            refine Sat.seq ?_
            refine Sat.block ?_
            refine Sat.seq ?_
            -- region 11
            refine Sat.region ?_
            refine Tr.fld rfl rfl rfl Try.underlying43 rfl Sz24 (by decide) _ rfl ?_
            refine Tr.load1 rfl rfl rfl Try.underlying24 rfl (by first | exact mem0 | exact mem1 | exact mem2 | exact mem3 | exact mem4 | exact mem5 | exact mem6 | exact mem7) (by first | exact Vote.get_fHeight (by first | assumption | (simp [ha.l_fVoter, hb.l_fVoter, ha.l_fValue, hb.l_fValue]; done)) | exact (by first | rfl | exact get_words (by first | omega | (simp [ha.l_fVoter, hb.l_fVoter, ha.l_fValue, hb.l_fValue]; done) | (simp [ha.l_fVoter, hb.l_fVoter, ha.l_fValue, hb.l_fValue]; omega)) | exact get_bytes (by first | omega | (simp [ha.l_fVoter, hb.l_fVoter, ha.l_fValue, hb.l_fValue]; done) | (simp [ha.l_fVoter, hb.l_fVoter, ha.l_fValue, hb.l_fValue]; omega)) | exact get_ints (by first | omega | (simp [ha.l_fVoter, hb.l_fVoter, ha.l_fValue, hb.l_fValue]; done) | (simp [ha.l_fVoter, hb.l_fVoter, ha.l_fValue, hb.l_fValue]; omega)))) ?_
            refine Tr.fld rfl rfl rfl Try.underlying43 rfl Sz24 (by decide) _ rfl ?_
            refine Tr.load1 rfl rfl rfl Try.underlying24 rfl (by first | exact mem0 | exact mem1 | exact mem2 | exact mem3 | exact mem4 | exact mem5 | exact mem6 | exact mem7) (by first | exact Vote.get_fHeight (by first | assumption | (simp [ha.l_fVoter, hb.l_fVoter, ha.l_fValue, hb.l_fValue]; done)) | exact (by first | rfl | exact get_words (by first | omega | (simp [ha.l_fVoter, hb.l_fVoter, ha.l_fValue, hb.l_fValue]; done) | (simp [ha.l_fVoter, hb.l_fVoter, ha.l_fValue, hb.l_fValue]; omega)) | exact get_bytes (by first | omega | (simp [ha.l_fVoter, hb.l_fVoter, ha.l_fValue, hb.l_fValue]; done) | (simp [ha.l_fVoter, hb.l_fVoter, ha.l_fValue, hb.l_fValue]; omega)) | exact get_ints (by first | omega | (simp [ha.l_fVoter, hb.l_fVoter, ha.l_fValue, hb.l_fValue]; done) | (simp [ha.l_fVoter, hb.l_fVoter, ha.l_fValue, hb.l_fValue]; omega)))) ?_
            refine Tr.nei rfl rfl rfl rfl rfl ?_
            refine Tr.assign rfl rfl rfl ?_
            refine Tr.nil ?_
            refine at_n ?_
            first
              | refine Sat.condP rfl (fun hc3 => ?_) (fun hc3 => ?_)
              | refine Sat.condNP rfl (fun hc3 => ?_) (fun hc3 => ?_)
              | refine Sat.cond rfl (fun hc3 => ?_) (fun hc3 => ?_)
            ·
              refine Sat.seq ?_
              -- region 12
              refine Sat.region ?_
              refine Tr.move rfl rfl rfl ?_
              refine Tr.lss rfl rfl rfl rfl rfl ?_
              refine Tr.fld rfl rfl rfl Try.underlying43 rfl Sz24 (by decide) _ rfl ?_
              refine Tr.load1 rfl rfl rfl Try.underlying24 rfl (by first | exact mem0 | exact mem1 | exact mem2 | exact mem3 | exact mem4 | exact mem5 | exact mem6 | exact mem7) (by first | exact Vote.get_fHeight (by first | assumption | (simp [ha.l_fVoter, hb.l_fVoter, ha.l_fValue, hb.l_fValue]; done)) | exact (by first | rfl | exact get_words (by first | omega | (simp [ha.l_fVoter, hb.l_fVoter, ha.l_fValue, hb.l_fValue]; done) | (simp [ha.l_fVoter, hb.l_fVoter, ha.l_fValue, hb.l_fValue]; omega)) | exact get_bytes (by first | omega | (simp [ha.l_fVoter, hb.l_fVoter, ha.l_fValue, hb.l_fValue]; done) | (simp [ha.l_fVoter, hb.l_fVoter, ha.l_fValue, hb.l_fValue]; omega)) | exact get_ints (by first | omega | (simp [ha.l_fVoter, hb.l_fVoter, ha.l_fValue, hb.l_fValue]; done) | (simp [ha.l_fVoter, hb.l_fVoter, ha.l_fValue, hb.l_fValue]; omega)))) ?_
              refine Tr.fld rfl rfl rfl Try.underlying43 rfl Sz24 (by decide) _ rfl ?_
              refine Tr.load1 rfl rfl rfl Try.underlying24 rfl (by first | exact mem0 | exact mem1 | exact mem2 | exact mem3 | exact mem4 | exact mem5 | exact mem6 | exact mem7) (by first | exact Vote.get_fHeight (by first | assumption | (simp [ha.l_fVoter, hb.l_fVoter, ha.l_fValue, hb.l_fValue]; done)) | exact (by first | rfl | exact get_words (by first | omega | (simp [ha.l_fVoter, hb.l_fVoter, ha.l_fValue, hb.l_fValue]; done) | (simp [ha.l_fVoter, hb.l_fVoter, ha.l_fValue, hb.l_fValue]; omega)) | exact get_bytes (by first | omega | (simp [ha.l_fVoter, hb.l_fVoter, ha.l_fValue, hb.l_fValue]; done) | (simp [ha.l_fVoter, hb.l_fVoter, ha.l_fValue, hb.l_fValue]; omega)) | exact get_ints (by first | omega | (simp [ha.l_fVoter, hb.l_fVoter, ha.l_fValue, hb.l_fValue]; done) | (simp [ha.l_fVoter, hb.l_fVoter, ha.l_fValue, hb.l_fValue]; omega)))) ?_
              refine Tr.lss rfl rfl rfl rfl rfl ?_
              refine Tr.eqb (r := true) rfl rfl rfl rfl Try.underlying4 (beq_of_iff (vcmp_h a b hc3)) ?_
              refine Tr.assign rfl rfl rfl ?_
              refine Tr.nil ?_
              refine at_n ?_
              refine Sat.ret ?_
              refine bl_r ?_
              refine at_r ?_
              refine en_r ?_
              refine ⟨_, [], res_tmp rfl rfl, (by simp), (by simp), ?_, rfl⟩
              rfl
            ·
              refine Sat.seq ?_
              -- region 13
              refine Sat.region ?_
              refine Tr.fld rfl rfl rfl Try.underlying43 rfl Sz24 (by decide) _ rfl ?_
              refine Tr.load1 rfl rfl rfl Try.underlying24 rfl (by first | exact mem0 | exact mem1 | exact mem2 | exact mem3 | exact mem4 | exact mem5 | exact mem6 | exact mem7) (by first | exact Vote.get_fRound (by first | assumption | (simp [ha.l_fVoter, hb.l_fVoter, ha.l_fValue, hb.l_fValue]; done)) | exact (by first | rfl | exact get_words (by first | omega | (simp [ha.l_fVoter, hb.l_fVoter, ha.l_fValue, hb.l_fValue]; done) | (simp [ha.l_fVoter, hb.l_fVoter, ha.l_fValue, hb.l_fValue]; omega)) | exact get_bytes (by first | omega | (simp [ha.l_fVoter, hb.l_fVoter, ha.l_fValue, hb.l_fValue]; done) | (simp [ha.l_fVoter, hb.l_fVoter, ha.l_fValue, hb.l_fValue]; omega)) | exact get_ints (by first | omega | (simp [ha.l_fVoter, hb.l_fVoter, ha.l_fValue, hb.l_fValue]; done) | (simp [ha.l_fVoter, hb.l_fVoter, ha.l_fValue, hb.l_fValue]; omega)))) ?_
              refine Tr.fld rfl rfl rfl Try.underlying43 rfl Sz24 (by decide) _ rfl ?_
              refine Tr.load1 rfl rfl rfl Try.underlying24 rfl (by first | exact mem0 | exact mem1 | exact mem2 | exact mem3 | exact mem4 | exact mem5 | exact mem6 | exact mem7) (by first | exact Vote.get_fRound (by first | assumption | (simp [ha.l_fVoter, hb.l_fVoter, ha.l_fValue, hb.l_fValue]; done)) | exact (by first | rfl | exact get_words (by first | omega | (simp [ha.l_fVoter, hb.l_fVoter, ha.l_fValue, hb.l_fValue]; done) | (simp [ha.l_fVoter, hb.l_fVoter, ha.l_fValue, hb.l_fValue]; omega)) | exact get_bytes (by first | omega | (simp [ha.l_fVoter, hb.l_fVoter, ha.l_fValue, hb.l_fValue]; done) | (simp [ha.l_fVoter, hb.l_fVoter, ha.l_fValue, hb.l_fValue]; omega)) | exact get_ints (by first | omega | (simp [ha.l_fVoter, hb.l_fVoter, ha.l_fValue, hb.l_fValue]; done) | (simp [ha.l_fVoter, hb.l_fVoter, ha.l_fValue, hb.l_fValue]; omega)))) ?_
              refine Tr.nei rfl rfl rfl rfl rfl ?_
              refine Tr.assign rfl rfl rfl ?_
              refine Tr.nil ?_
              refine at_n ?_
              first
                | refine Sat.condP rfl (fun hc4 => ?_) (fun hc4 => ?_)
                | refine Sat.condNP rfl (fun hc4 => ?_) (fun hc4 => ?_)
                | refine Sat.cond rfl (fun hc4 => ?_) (fun hc4 => ?_)
              ·
                refine Sat.seq ?_
                -- region 14
                refine Sat.region ?_
                refine Tr.move rfl rfl rfl ?_
                refine Tr.lss rfl rfl rfl rfl rfl ?_
                refine Tr.fld rfl rfl rfl Try.underlying43 rfl Sz24 (by decide) _ rfl ?_
                refine Tr.load1 rfl rfl rfl Try.underlying24 rfl (by first | exact mem0 | exact mem1 | exact mem2 | exact mem3 | exact mem4 | exact mem5 | exact mem6 | exact mem7) (by first | exact Vote.get_fRound (by first | assumption | (simp [ha.l_fVoter, hb.l_fVoter, ha.l_fValue, hb.l_fValue]; done)) | exact (by first | rfl | exact get_words (by first | omega | (simp [ha.l_fVoter, hb.l_fVoter, ha.l_fValue, hb.l_fValue]; done) | (simp [ha.l_fVoter, hb.l_fVoter, ha.l_fValue, hb.l_fValue]; omega)) | exact get_bytes (by first | omega | (simp [ha.l_fVoter, hb.l_fVoter, ha.l_fValue, hb.l_fValue]; done) | (simp [ha.l_fVoter, hb.l_fVoter, ha.l_fValue, hb.l_fValue]; omega)) | exact get_ints (by first | omega | (simp [ha.l_fVoter, hb.l_fVoter, ha.l_fValue, hb.l_fValue]; done) | (simp [ha.l_fVoter, hb.l_fVoter, ha.l_fValue, hb.l_fValue]; omega)))) ?_
                refine Tr.fld rfl rfl rfl Try.underlying43 rfl Sz24 (by decide) _ rfl ?_
                refine Tr.load1 rfl rfl rfl Try.underlying24 rfl (by first | exact mem0 | exact mem1 | exact mem2 | exact mem3 | exact mem4 | exact mem5 | exact mem6 | exact mem7) (by first | exact Vote.get_fRound (by first | assumption | (simp [ha.l_fVoter, hb.l_fVoter, ha.l_fValue, hb.l_fValue]; done)) | exact (by first | rfl | exact get_words (by first | omega | (simp [ha.l_fVoter, hb.l_fVoter, ha.l_fValue, hb.l_fValue]; done) | (simp [ha.l_fVoter, hb.l_fVoter, ha.l_fValue, hb.l_fValue]; omega)) | exact get_bytes (by first | omega | (simp [ha.l_fVoter, hb.l_fVoter, ha.l_fValue, hb.l_fValue]; done) | (simp [ha.l_fVoter, hb.l_fVoter, ha.l_fValue, hb.l_fValue]; omega)) | exact get_ints (by first | omega | (simp [ha.l_fVoter, hb.l_fVoter, ha.l_fValue, hb.l_fValue]; done) | (simp [ha.l_fVoter, hb.l_fVoter, ha.l_fValue, hb.l_fValue]; omega)))) ?_
                refine Tr.lss rfl rfl rfl rfl rfl ?_
                refine Tr.eqb (r := true) rfl rfl rfl rfl Try.underlying4 (beq_of_iff (vcmp_r a b hc3 hc4)) ?_
                refine Tr.assign rfl rfl rfl ?_
                refine Tr.nil ?_
                refine at_n ?_
                refine Sat.ret ?_
                refine bl_r ?_
                refine at_r ?_
                refine en_r ?_
                refine ⟨_, [], res_tmp rfl rfl, (by simp), (by simp), ?_, rfl⟩
                rfl
              ·
                refine Sat.seq ?_
                -- region 15
                refine Sat.region ?_
                refine Tr.fld rfl rfl rfl Try.underlying43 rfl Sz3 (by decide) _ rfl ?_
                refine Tr.load1 rfl rfl rfl Try.underlying3 rfl (by first | exact mem0 | exact mem1 | exact mem2 | exact mem3 | exact mem4 | exact mem5 | exact mem6 | exact mem7) (by first | exact Vote.get_fPhase (by first | assumption | (simp [ha.l_fVoter, hb.l_fVoter, ha.l_fValue, hb.l_fValue]; done)) | exact (by first | rfl | exact get_words (by first | omega | (simp [ha.l_fVoter, hb.l_fVoter, ha.l_fValue, hb.l_fValue]; done) | (simp [ha.l_fVoter, hb.l_fVoter, ha.l_fValue, hb.l_fValue]; omega)) | exact get_bytes (by first | omega | (simp [ha.l_fVoter, hb.l_fVoter, ha.l_fValue, hb.l_fValue]; done) | (simp [ha.l_fVoter, hb.l_fVoter, ha.l_fValue, hb.l_fValue]; omega)) | exact get_ints (by first | omega | (simp [ha.l_fVoter, hb.l_fVoter, ha.l_fValue, hb.l_fValue]; done) | (simp [ha.l_fVoter, hb.l_fVoter, ha.l_fValue, hb.l_fValue]; omega)))) ?_
                refine Tr.fld rfl rfl rfl Try.underlying43 rfl Sz3 (by decide) _ rfl ?_
                refine Tr.load1 rfl rfl rfl Try.underlying3 rfl (by first | exact mem0 | exact mem1 | exact mem2 | exact mem3 | exact mem4 | exact mem5 | exact mem6 | exact mem7) (by first | exact Vote.get_fPhase (by first | assumption | (simp [ha.l_fVoter, hb.l_fVoter, ha.l_fValue, hb.l_fValue]; done)) | exact (by first | rfl | exact get_words (by first | omega | (simp [ha.l_fVoter, hb.l_fVoter, ha.l_fValue, hb.l_fValue]; done) | (simp [ha.l_fVoter, hb.l_fVoter, ha.l_fValue, hb.l_fValue]; omega)) | exact get_bytes (by first | omega | (simp [ha.l_fVoter, hb.l_fVoter, ha.l_fValue, hb.l_fValue]; done) | (simp [ha.l_fVoter, hb.l_fVoter, ha.l_fValue, hb.l_fValue]; omega)) | exact get_ints (by first | omega | (simp [ha.l_fVoter, hb.l_fVoter, ha.l_fValue, hb.l_fValue]; done) | (simp [ha.l_fVoter, hb.l_fVoter, ha.l_fValue, hb.l_fValue]; omega)))) ?_
                refine Tr.nei rfl rfl rfl rfl rfl ?_
                refine Tr.assign rfl rfl rfl ?_
                refine Tr.nil ?_
                refine at_n ?_
                first
                  | refine Sat.condP rfl (fun hc5 => ?_) (fun hc5 => ?_)
                  | refine Sat.condNP rfl (fun hc5 => ?_) (fun hc5 => ?_)
                  | refine Sat.cond rfl (fun hc5 => ?_) (fun hc5 => ?_)
                ·
                  refine Sat.seq ?_
                  -- region 16
                  refine Sat.region ?_
                  refine Tr.move rfl rfl rfl ?_
                  refine Tr.lss rfl rfl rfl rfl rfl ?_
                  refine Tr.fld rfl rfl rfl Try.underlying43 rfl Sz3 (by decide) _ rfl ?_
                  refine Tr.load1 rfl rfl rfl Try.underlying3 rfl (by first | exact mem0 | exact mem1 | exact mem2 | exact mem3 | exact mem4 | exact mem5 | exact mem6 | exact mem7) (by first | exact Vote.get_fPhase (by first | assumption | (simp [ha.l_fVoter, hb.l_fVoter, ha.l_fValue, hb.l_fValue]; done)) | exact (by first | rfl | exact get_words (by first | omega | (simp [ha.l_fVoter, hb.l_fVoter, ha.l_fValue, hb.l_fValue]; done) | (simp [ha.l_fVoter, hb.l_fVoter, ha.l_fValue, hb.l_fValue]; omega)) | exact get_bytes (by first | omega | (simp [ha.l_fVoter, hb.l_fVoter, ha.l_fValue, hb.l_fValue]; done) | (simp [ha.l_fVoter, hb.l_fVoter, ha.l_fValue, hb.l_fValue]; omega)) | exact get_ints (by first | omega | (simp [ha.l_fVoter, hb.l_fVoter, ha.l_fValue, hb.l_fValue]; done) | (simp [ha.l_fVoter, hb.l_fVoter, ha.l_fValue, hb.l_fValue]; omega)))) ?_
                  refine Tr.fld rfl rfl rfl Try.underlying43 rfl Sz3 (by decide) _ rfl ?_
                  refine Tr.load1 rfl rfl rfl Try.underlying3 rfl (by first | exact mem0 | exact mem1 | exact mem2 | exact mem3 | exact mem4 | exact mem5 | exact mem6 | exact mem7) (by first | exact Vote.get_fPhase (by first | assumption | (simp [ha.l_fVoter, hb.l_fVoter, ha.l_fValue, hb.l_fValue]; done)) | exact (by first | rfl | exact get_words (by first | omega | (simp [ha.l_fVoter, hb.l_fVoter, ha.l_fValue, hb.l_fValue]; done) | (simp [ha.l_fVoter, hb.l_fVoter, ha.l_fValue, hb.l_fValue]; omega)) | exact get_bytes (by first | omega | (simp [ha.l_fVoter, hb.l_fVoter, ha.l_fValue, hb.l_fValue]; done) | (simp [ha.l_fVoter, hb.l_fVoter, ha.l_fValue, hb.l_fValue]; omega)) | exact get_ints (by first | omega | (simp [ha.l_fVoter, hb.l_fVoter, ha.l_fValue, hb.l_fValue]; done) | (simp [ha.l_fVoter, hb.l_fVoter, ha.l_fValue, hb.l_fValue]; omega)))) ?_
                  refine Tr.lss rfl rfl rfl rfl rfl ?_
                  refine Tr.eqb (r := true) rfl rfl rfl rfl Try.underlying4 (beq_of_iff (vcmp_p a b hc3 hc4 hc5)) ?_
                  refine Tr.assign rfl rfl rfl ?_
                  refine Tr.nil ?_
                  refine at_n ?_
                  refine Sat.ret ?_
                  refine bl_r ?_
                  refine at_r ?_
                  refine en_r ?_
                  refine ⟨_, [], res_tmp rfl rfl, (by simp), (by simp), ?_, rfl⟩
                  rfl
                ·
                  refine Sat.skip ?_
                  refine bl_n ?_
                  refine at_n ?_
                  refine Sat.seq ?_
                  -- region 17
                  refine Sat.region ?_
                  refine Tr.assign rfl rfl rfl ?_
                  refine Tr.nil ?_
                  refine at_n ?_
                  refine Sat.ret ?_
                  refine en_r ?_
                  refine ⟨_, [], res_tmp rfl rfl, (by simp), (by simp), ?_, rfl⟩
                  rfl
      ·
        first | have hs8_10 := of_decide_eq_true hs8_100 | have hs8_10 := of_decide_eq_false hs8_100 | have hs8_10 := nd_t hs8_100 | have hs8_10 := nd_f hs8_100 | have hs8_10 := hs8_100
        refine Tr.pick rfl rfl rfl rfl rfl rfl ?_
        refine Tr.move rfl rfl rfl ?_
        refine Tr.skp rfl rfl ?_
        refine Tr.skp rfl rfl ?_
        refine Tr.skp rfl rfl ?_
        refine Tr.skp rfl rfl ?_
        refine Tr.skp rfl rfl ?_
        refine Tr.pick rfl rfl rfl rfl rfl rfl ?_
        refine Tr.move rfl rfl rfl ?_
        refine Tr.skp rfl rfl ?_
        refine Tr.skp rfl rfl ?_
        refine Tr.skp rfl rfl ?_
        refine Tr.skp rfl rfl ?_
        refine Tr.skp rfl rfl ?_
        refine Tr.pick rfl rfl rfl rfl rfl rfl ?_
        refine Tr.assign rfl rfl rfl ?_
        refine Tr.nil ?_
        refine at_n ?_
        refine Sat.seq ?_
        refine Sat.join (ι := Unit) (fun _u => ⟨[(3, ptr n3 0), (4, ptr n4 0), (5, ptr n5 0), (9, i64 (vcmp a b)), (113, .bool false)], [⟨n5, c.cells, 43, c.cells.length⟩, ⟨n4, b.cells, 43, b.cells.length⟩, ⟨n3, a.cells, 43, a.cells.length⟩]⟩) (fun _u => True) ?_ ?_
        ·
          -- region 9
          refine Sat.draw [(1, 0), (1, 1), (0, 3), (3, 2), (0, 4), (0, 5), (1, 6), (0, 7), (1, 8), (0, 9), (0, 10), (0, 11), (1, 12), (0, 13), (1, 14), (0, 15), (0, 16), (0, 17), (0, 18), (0, 19), (1, 20), (1, 21), (1, 23), (1, 24), (3, 22), (3, 25), (0, 26), (0, 27)] Mixed (by kernel_rfl) ?_
          refine Tr.loadAll rfl rfl rfl Try.underlying43 rfl Sz43 (by first | exact mem0 | exact mem1 | exact mem2 | exact mem3 | exact mem4 | exact mem5 | exact mem6 | exact mem7) (Vote.length (by first | assumption | (simp [ha.l_fVoter, hb.l_fVoter, ha.l_fValue, hb.l_fValue]; done))) ?_
          refine Tr.loadAll rfl rfl rfl Try.underlying43 rfl Sz43 (by first | exact mem0 | exact mem1 | exact mem2 | exact mem3 | exact mem4 | exact mem5 | exact mem6 | exact mem7) (Vote.length (by first | assumption | (simp [ha.l_fVoter, hb.l_fVoter, ha.l_fValue, hb.l_fValue]; done))) ?_
          refine Tr.move rfl rfl rfl ?_
          refine Tr.callV rfl rfl rfl rfl Body19 (vote_against _ _ (by assumption) (by assumption)) (fun _ _ => trivial) ?_
          refine Tr.move rfl rfl rfl ?_
          refine Tr.skp rfl rfl ?_
          refine Tr.skp rfl rfl ?_
          refine Tr.skp rfl rfl ?_
          refine Tr.skp rfl rfl ?_
          refine Tr.skp rfl rfl ?_
          refine Tr.skp rfl rfl ?_
          refine Tr.skp rfl rfl ?_
          refine Tr.skp rfl rfl ?_
          refine Tr.skp rfl rfl ?_
          refine Tr.skp rfl rfl ?_
          refine Tr.skp rfl rfl ?_
          refine Tr.skp rfl rfl ?_
          refine Tr.pick rfl rfl rfl rfl rfl rfl ?_
          refine Tr.neb (r := false) rfl rfl rfl rfl Try.underlying4 (by simp [against, same4, *]) ?_
          refine Tr.move rfl rfl rfl ?_
          refine Tr.loadAll rfl rfl rfl Try.underlying43 rfl Sz43 (by first | exact mem0 | exact mem1 | exact mem2 | exact mem3 | exact mem4 | exact mem5 | exact mem6 | exact mem7) (Vote.length (by first | assumption | (simp [ha.l_fVoter, hb.l_fVoter, ha.l_fValue, hb.l_fValue]; done))) ?_
          refine Tr.loadAll rfl rfl rfl Try.underlying43 rfl Sz43 (by first | exact mem0 | exact mem1 | exact mem2 | exact mem3 | exact mem4 | exact mem5 | exact mem6 | exact mem7) (Vote.length (by first | assumption | (simp [ha.l_fVoter, hb.l_fVoter, ha.l_fValue, hb.l_fValue]; done))) ?_
          refine Tr.loadAll rfl rfl rfl Try.underlying43 rfl Sz43 (by first | exact mem0 | exact mem1 | exact mem2 | exact mem3 | exact mem4 | exact mem5 | exact mem6 | exact mem7) (Vote.length (by first | assumption | (simp [ha.l_fVoter, hb.l_fVoter, ha.l_fValue, hb.l_fValue]; done))) ?_
          refine Tr.loadAll rfl rfl rfl Try.underlying43 rfl Sz43 (by first | exact mem0 | exact mem1 | exact mem2 | exact mem3 | exact mem4 | exact mem5 | exact mem6 | exact mem7) (Vote.length (by first | assumption | (simp [ha.l_fVoter, hb.l_fVoter, ha.l_fValue, hb.l_fValue]; done))) ?_
          refine Tr.callV rfl rfl rfl rfl Body19 (vote_against _ _ (by assumption) (by assumption)) (fun _ _ => trivial) ?_
          refine Tr.callV rfl rfl rfl rfl Body19 (vote_against _ _ (by assumption) (by assumption)) (fun _ _ => trivial) ?_
          refine Tr.neb (r := false) rfl rfl rfl rfl Try.underlying4 (by rw [against_symm a b]; simp) ?_
          refine Tr.pick rfl rfl rfl rfl rfl rfl ?_
          refine Tr.nil ?_
          refine at_n ?_
          refine ⟨(), trivial, weak_of (wk1 rfl (wk1 rfl (wk1 rfl (wk1 rfl (wk1 rfl wk0))))) (wh1 (by first | exact mem0 | exact mem1 | exact mem2 | exact mem3 | exact mem4 | exact mem5 | exact mem6 | exact mem7) (wh1 (by first | exact mem0 | exact mem1 | exact mem2 | exact mem3 | exact mem4 | exact mem5 | exact mem6 | exact mem7) (wh1 (by first | exact mem0 | exact mem1 | exact mem2 | exact mem3 | exact mem4 | exact mem5 | exact mem6 | exact mem7) wh0))) (by repeat (first | exact ns_nil | refine ns_keep rfl ?_ | refine ns_skip ?_))⟩
        ·
          intro _u hj
          skip
          refine Sat.cond_f rfl (rfl) ?_
          refine Sat.skip ?_
          refine at_n ?_
          refine Sat.seq ?_
          refine Sat.block ?_
          refine Sat.seq ?_
          -- region 11
          refine Sat.region ?_
          refine Tr.fld rfl rfl rfl Try.underlying43 rfl Sz24 (by decide) _ rfl ?_
          refine Tr.load1 rfl rfl rfl Try.underlying24 rfl (by first | exact mem0 | exact mem1 | exact mem2 | exact mem3 | exact mem4 | exact mem5 | exact mem6 | exact mem7) (by first | exact Vote.get_fHeight (by first | assumption | (simp [ha.l_fVoter, hb.l_fVoter, ha.l_fValue, hb.l_fValue]; done)) | exact (by first | rfl | exact get_words (by first | omega | (simp [ha.l_fVoter, hb.l_fVoter, ha.l_fValue, hb.l_fValue]; done) | (simp [ha.l_fVoter, hb.l_fVoter, ha.l_fValue, hb.l_fValue]; omega)) | exact get_bytes (by first | omega | (simp [ha.l_fVoter, hb.l_fVoter, ha.l_fValue, hb.l_fValue]; done) | (simp [ha.l_fVoter, hb.l_fVoter, ha.l_fValue, hb.l_fValue]; omega)) | exact get_ints (by first | omega | (simp [ha.l_fVoter, hb.l_fVoter, ha.l_fValue, hb.l_fValue]; done) | (simp [ha.l_fVoter, hb.l_fVoter, ha.l_fValue, hb.l_fValue]; omega)))) ?_
          refine Tr.fld rfl rfl rfl Try.underlying43 rfl Sz24 (by decide) _ rfl ?_
          refine Tr.load1 rfl rfl rfl Try.underlying24 rfl (by first | exact mem0 | exact mem1 | exact mem2 | exact mem3 | exact mem4 | exact mem5 | exact mem6 | exact mem7) (by first | exact Vote.get_fHeight (by first | assumption | (simp [ha.l_fVoter, hb.l_fVoter, ha.l_fValue, hb.l_fValue]; done)) | exact (by first | rfl | exact get_words (by first | omega | (simp [ha.l_fVoter, hb.l_fVoter, ha.l_fValue, hb.l_fValue]; done) | (simp [ha.l_fVoter, hb.l_fVoter, ha.l_fValue, hb.l_fValue]; omega)) | exact get_bytes (by first | omega | (simp [ha.l_fVoter, hb.l_fVoter, ha.l_fValue, hb.l_fValue]; done) | (simp [ha.l_fVoter, hb.l_fVoter, ha.l_fValue, hb.l_fValue]; omega)) | exact get_ints (by first | omega | (simp [ha.l_fVoter, hb.l_fVoter, ha.l_fValue, hb.l_fValue]; done) | (simp [ha.l_fVoter, hb.l_fVoter, ha.l_fValue, hb.l_fValue]; omega)))) ?_
          refine Tr.nei rfl rfl rfl rfl rfl ?_
          refine Tr.assign rfl rfl rfl ?_
          refine Tr.nil ?_
          refine at_n ?_
          first
            | refine Sat.condP rfl (fun hc3 => ?_) (fun hc3 => ?_)
            | refine Sat.condNP rfl (fun hc3 => ?_) (fun hc3 => ?_)
            | refine Sat.cond rfl (fun hc3 => ?_) (fun hc3 => ?_)
          ·
            refine Sat.seq ?_
            -- region 12
            refine Sat.region ?_
            refine Tr.move rfl rfl rfl ?_
            refine Tr.lss rfl rfl rfl rfl rfl ?_
            refine Tr.fld rfl rfl rfl Try.underlying43 rfl Sz24 (by decide) _ rfl ?_
            refine Tr.load1 rfl rfl rfl Try.underlying24 rfl (by first | exact mem0 | exact mem1 | exact mem2 | exact mem3 | exact mem4 | exact mem5 | exact mem6 | exact mem7) (by first | exact Vote.get_fHeight (by first | assumption | (simp [ha.l_fVoter, hb.l_fVoter, ha.l_fValue, hb.l_fValue]; done)) | exact (by first | rfl | exact get_words (by first | omega | (simp [ha.l_fVoter, hb.l_fVoter, ha.l_fValue, hb.l_fValue]; done) | (simp [ha.l_fVoter, hb.l_fVoter, ha.l_fValue, hb.l_fValue]; omega)) | exact get_bytes (by first | omega | (simp [ha.l_fVoter, hb.l_fVoter, ha.l_fValue, hb.l_fValue]; done) | (simp [ha.l_fVoter, hb.l_fVoter, ha.l_fValue, hb.l_fValue]; omega)) | exact get_ints (by first | omega | (simp [ha.l_fVoter, hb.l_fVoter, ha.l_fValue, hb.l_fValue]; done) | (simp [ha.l_fVoter, hb.l_fVoter, ha.l_fValue, hb.l_fValue]; omega)))) ?_
            refine Tr.fld rfl rfl rfl Try.underlying43 rfl Sz24 (by decide) _ rfl ?_
            refine Tr.load1 rfl rfl rfl Try.underlying24 rfl (by first | exact mem0 | exact mem1 | exact mem2 | exact mem3 | exact mem4 | exact mem5 | exact mem6 | exact mem7) (by first | exact Vote.get_fHeight (by first | assumption | (simp [ha.l_fVoter, hb.l_fVoter, ha.l_fValue, hb.l_fValue]; done)) | exact (by first | rfl | exact get_words (by first | omega | (simp [ha.l_fVoter, hb.l_fVoter, ha.l_fValue, hb.l_fValue]; done) | (simp [ha.l_fVoter, hb.l_fVoter, ha.l_fValue, hb.l_fValue]; omega)) | exact get_bytes (by first | omega | (simp [ha.l_fVoter, hb.l_fVoter, ha.l_fValue, hb.l_fValue]; done) | (simp [ha.l_fVoter, hb.l_fVoter, ha.l_fValue, hb.l_fValue]; omega)) | exact get_ints (by first | omega | (simp [ha.l_fVoter, hb.l_fVoter, ha.l_fValue, hb.l_fValue]; done) | (simp [ha.l_fVoter, hb.l_fVoter, ha.l_fValue, hb.l_fValue]; omega)))) ?_
            refine Tr.lss rfl rfl rfl rfl rfl ?_
            refine Tr.eqb (r := true) rfl rfl rfl rfl Try.underlying4 (beq_of_iff (vcmp_h a b hc3)) ?_
            refine Tr.assign rfl rfl rfl ?_
            refine Tr.nil ?_
            refine at_n ?_
            refine Sat.ret ?_
            refine bl_r ?_
            refine at_r ?_
            refine en_r ?_
            refine ⟨_, [], res_tmp rfl rfl, (by simp), (by simp), ?_, rfl⟩
            rfl
          ·
            refine Sat.seq ?_
            -- region 13
            refine Sat.region ?_
            refine Tr.fld rfl rfl rfl Try.underlying43 rfl Sz24 (by decide) _ rfl ?_
            refine Tr.load1 rfl rfl rfl Try.underlying24 rfl (by first | exact mem0 | exact mem1 | exact mem2 | exact mem3 | exact mem4 | exact mem5 | exact mem6 | exact mem7) (by first | exact Vote.get_fRound (by first | assumption | (simp [ha.l_fVoter, hb.l_fVoter, ha.l_fValue, hb.l_fValue]; done)) | exact (by first | rfl | exact get_words (by first | omega | (simp [ha.l_fVoter, hb.l_fVoter, ha.l_fValue, hb.l_fValue]; done) | (simp [ha.l_fVoter, hb.l_fVoter, ha.l_fValue, hb.l_fValue]; omega)) | exact get_bytes (by first | omega | (simp [ha.l_fVoter, hb.l_fVoter, ha.l_fValue, hb.l_fValue]; done) | (simp [ha.l_fVoter, hb.l_fVoter, ha.l_fValue, hb.l_fValue]; omega)) | exact get_ints (by first | omega | (simp [ha.l_fVoter, hb.l_fVoter, ha.l_fValue, hb.l_fValue]; done) | (simp [ha.l_fVoter, hb.l_fVoter, ha.l_fValue, hb.l_fValue]; omega)))) ?_
            refine Tr.fld rfl rfl rfl Try.underlying43 rfl Sz24 (by decide) _ rfl ?_
            refine Tr.load1 rfl rfl rfl Try.underlying24 rfl (by first | exact mem0 | exact mem1 | exact mem2 | exact mem3 | exact mem4 | exact mem5 | exact mem6 | exact mem7) (by first | exact Vote.get_fRound (by first | assumption | (simp [ha.l_fVoter, hb.l_fVoter, ha.l_fValue, hb.l_fValue]; done)) | exact (by first | rfl | exact get_words (by first | omega | (simp [ha.l_fVoter, hb.l_fVoter, ha.l_fValue, hb.l_fValue]; done) | (simp [ha.l_fVoter, hb.l_fVoter, ha.l_fValue, hb.l_fValue]; omega)) | exact get_bytes (by first | omega | (simp [ha.l_fVoter, hb.l_fVoter, ha.l_fValue, hb.l_fValue]; done) | (simp [ha.l_fVoter, hb.l_fVoter, ha.l_fValue, hb.l_fValue]; omega)) | exact get_ints (by first | omega | (simp [ha.l_fVoter, hb.l_fVoter, ha.l_fValue, hb.l_fValue]; done) | (simp [ha.l_fVoter, hb.l_fVoter, ha.l_fValue, hb.l_fValue]; omega)))) ?_
            refine Tr.nei rfl rfl rfl rfl rfl ?_
            refine Tr.assign rfl rfl rfl ?_
            refine Tr.nil ?_
            refine at_n ?_
            first
              | refine Sat.condP rfl (fun hc4 => ?_) (fun hc4 => ?_)
              | refine Sat.condNP rfl (fun hc4 => ?_) (fun hc4 => ?_)
              | refine Sat.cond rfl (fun hc4 => ?_) (fun hc4 => ?_)
            ·
              refine Sat.seq ?_
              -- region 14
              refine Sat.region ?_
              refine Tr.move rfl rfl rfl ?_
              refine Tr.lss rfl rfl rfl rfl rfl ?_
              refine Tr.fld rfl rfl rfl Try.underlying43 rfl Sz24 (by decide) _ rfl ?_
              refine Tr.load1 rfl rfl rfl Try.underlying24 rfl (by first | exact mem0 | exact mem1 | exact mem2 | exact mem3 | exact mem4 | exact mem5 | exact mem6 | exact mem7) (by first | exact Vote.get_fRound (by first | assumption | (simp [ha.l_fVoter, hb.l_fVoter, ha.l_fValue, hb.l_fValue]; done)) | exact (by first | rfl | exact get_words (by first | omega | (simp [ha.l_fVoter, hb.l_fVoter, ha.l_fValue, hb.l_fValue]; done) | (simp [ha.l_fVoter, hb.l_fVoter, ha.l_fValue, hb.l_fValue]; omega)) | exact get_bytes (by first | omega | (simp [ha.l_fVoter, hb.l_fVoter, ha.l_fValue, hb.l_fValue]; done) | (simp [ha.l_fVoter, hb.l_fVoter, ha.l_fValue, hb.l_fValue]; omega)) | exact get_ints (by first | omega | (simp [ha.l_fVoter, hb.l_fVoter, ha.l_fValue, hb.l_fValue]; done) | (simp [ha.l_fVoter, hb.l_fVoter, ha.l_fValue, hb.l_fValue]; omega)))) ?_
              refine Tr.fld rfl rfl rfl Try.underlying43 rfl Sz24 (by decide) _ rfl ?_
              refine Tr.load1 rfl rfl rfl Try.underlying24 rfl (by first | exact mem0 | exact mem1 | exact mem2 | exact mem3 | exact mem4 | exact mem5 | exact mem6 | exact mem7) (by first | exact Vote.get_fRound (by first | assumption | (simp [ha.l_fVoter, hb.l_fVoter, ha.l_fValue, hb.l_fValue]; done)) | exact (by first | rfl | exact get_words (by first | omega | (simp [ha.l_fVoter, hb.l_fVoter, ha.l_fValue, hb.l_fValue]; done) | (simp [ha.l_fVoter, hb.l_fVoter, ha.l_fValue, hb.l_fValue]; omega)) | exact get_bytes (by first | omega | (simp [ha.l_fVoter, hb.l_fVoter, ha.l_fValue, hb.l_fValue]; done) | (simp [ha.l_fVoter, hb.l_fVoter, ha.l_fValue, hb.l_fValue]; omega)) | exact get_ints (by first | omega | (simp [ha.l_fVoter, hb.l_fVoter, ha.l_fValue, hb.l_fValue]; done) | (simp [ha.l_fVoter, hb.l_fVoter, ha.l_fValue, hb.l_fValue]; omega)))) ?_
              refine Tr.lss rfl rfl rfl rfl rfl ?_
              refine Tr.eqb (r := true) rfl rfl rfl rfl Try.underlying4 (beq_of_iff (vcmp_r a b hc3 hc4)) ?_
              refine Tr.assign rfl rfl rfl ?_
              refine Tr.nil ?_
              refine at_n ?_
              refine Sat.ret ?_
              refine bl_r ?_
              refine at_r ?_
              refine en_r ?_
              refine ⟨_, [], res_tmp rfl rfl, (by simp), (by simp), ?_, rfl⟩
              rfl
            ·
              refine Sat.seq ?_
              -- region 15
              refine Sat.region ?_
              refine Tr.fld rfl rfl rfl Try.underlying43 rfl Sz3 (by decide) _ rfl ?_
              refine Tr.load1 rfl rfl rfl Try.underlying3 rfl (by first | exact mem0 | exact mem1 | exact mem2 | exact mem3 | exact mem4 | exact mem5 | exact mem6 | exact mem7) (by first | exact Vote.get_fPhase (by first | assumption | (simp [ha.l_fVoter, hb.l_fVoter, ha.l_fValue, hb.l_fValue]; done)) | exact (by first | rfl | exact get_words (by first | omega | (simp [ha.l_fVoter, hb.l_fVoter, ha.l_fValue, hb.l_fValue]; done) | (simp [ha.l_fVoter, hb.l_fVoter, ha.l_fValue, hb.l_fValue]; omega)) | exact get_bytes (by first | omega | (simp [ha.l_fVoter, hb.l_fVoter, ha.l_fValue, hb.l_fValue]; done) | (simp [ha.l_fVoter, hb.l_fVoter, ha.l_fValue, hb.l_fValue]; omega)) | exact get_ints (by first | omega | (simp [ha.l_fVoter, hb.l_fVoter, ha.l_fValue, hb.l_fValue]; done) | (simp [ha.l_fVoter, hb.l_fVoter, ha.l_fValue, hb.l_fValue]; omega)))) ?_
              refine Tr.fld rfl rfl rfl Try.underlying43 rfl Sz3 (by decide) _ rfl ?_
              refine Tr.load1 rfl rfl rfl Try.underlying3 rfl (by first | exact mem0 | exact mem1 | exact mem2 | exact mem3 | exact mem4 | exact mem5 | exact mem6 | exact mem7) (by first | exact Vote.get_fPhase (by first | assumption | (simp [ha.l_fVoter, hb.l_fVoter, ha.l_fValue, hb.l_fValue]; done)) | exact (by first | rfl | exact get_words (by first | omega | (simp [ha.l_fVoter, hb.l_fVoter, ha.l_fValue, hb.l_fValue]; done) | (simp [ha.l_fVoter, hb.l_fVoter, ha.l_fValue, hb.l_fValue]; omega)) | exact get_bytes (by first | omega | (simp [ha.l_fVoter, hb.l_fVoter, ha.l_fValue, hb.l_fValue]; done) | (simp [ha.l_fVoter, hb.l_fVoter, ha.l_fValue, hb.l_fValue]; omega)) | exact get_ints (by first | omega | (simp [ha.l_fVoter, hb.l_fVoter, ha.l_fValue, hb.l_fValue]; done) | (simp [ha.l_fVoter, hb.l_fVoter, ha.l_fValue, hb.l_fValue]; omega)))) ?_
              refine Tr.nei rfl rfl rfl rfl rfl ?_
              refine Tr.assign rfl rfl rfl ?_
              refine Tr.nil ?_
              refine at_n ?_
              first
                | refine Sat.condP rfl (fun hc5 => ?_) (fun hc5 => ?_)
                | refine Sat.condNP rfl (fun hc5 => ?_) (fun hc5 => ?_)
                | refine Sat.cond rfl (fun hc5 => ?_) (fun hc5 => ?_)
              ·
                refine Sat.seq ?_
                -- region 16
                refine Sat.region ?_
                refine Tr.move rfl rfl rfl ?_
                refine Tr.lss rfl rfl rfl rfl rfl ?_
                refine Tr.fld rfl rfl rfl Try.underlying43 rfl Sz3 (by decide) _ rfl ?_
                refine Tr.load1 rfl rfl rfl Try.underlying3 rfl (by first | exact mem0 | exact mem1 | exact mem2 | exact mem3 | exact mem4 | exact mem5 | exact mem6 | exact mem7) (by first | exact Vote.get_fPhase (by first | assumption | (simp [ha.l_fVoter, hb.l_fVoter, ha.l_fValue, hb.l_fValue]; done)) | exact (by first | rfl | exact get_words (by first | omega | (simp [ha.l_fVoter, hb.l_fVoter, ha.l_fValue, hb.l_fValue]; done) | (simp [ha.l_fVoter, hb.l_fVoter, ha.l_fValue, hb.l_fValue]; omega)) | exact get_bytes (by first | omega | (simp [ha.l_fVoter, hb.l_fVoter, ha.l_fValue, hb.l_fValue]; done) | (simp [ha.l_fVoter, hb.l_fVoter, ha.l_fValue, hb.l_fValue]; omega)) | exact get_ints (by first | omega | (simp [ha.l_fVoter, hb.l_fVoter, ha.l_fValue, hb.l_fValue]; done) | (simp [ha.l_fVoter, hb.l_fVoter, ha.l_fValue, hb.l_fValue]; omega)))) ?_
                refine Tr.fld rfl rfl rfl Try.underlying43 rfl Sz3 (by decide) _ rfl ?_
                refine Tr.load1 rfl rfl rfl Try.underlying3 rfl (by first | exact mem0 | exact mem1 | exact mem2 | exact mem3 | exact mem4 | exact mem5 | exact mem6 | exact mem7) (by first | exact Vote.get_fPhase (by first | assumption | (simp [ha.l_fVoter, hb.l_fVoter, ha.l_fValue, hb.l_fValue]; done)) | exact (by first | rfl | exact get_words (by first | omega | (simp [ha.l_fVoter, hb.l_fVoter, ha.l_fValue, hb.l_fValue]; done) | (simp [ha.l_fVoter, hb.l_fVoter, ha.l_fValue, hb.l_fValue]; omega)) | exact get_bytes (by first | omega | (simp [ha.l_fVoter, hb.l_fVoter, ha.l_fValue, hb.l_fValue]; done) | (simp [ha.l_fVoter, hb.l_fVoter, ha.l_fValue, hb.l_fValue]; omega)) | exact get_ints (by first | omega | (simp [ha.l_fVoter, hb.l_fVoter, ha.l_fValue, hb.l_fValue]; done) | (simp [ha.l_fVoter, hb.l_fVoter, ha.l_fValue, hb.l_fValue]; omega)))) ?_
                refine Tr.lss rfl rfl rfl rfl rfl ?_
                refine Tr.eqb (r := true) rfl rfl rfl rfl Try.underlying4 (beq_of_iff (vcmp_p a b hc3 hc4 hc5)) ?_
                refine Tr.assign rfl rfl rfl ?_
                refine Tr.nil ?_
                refine at_n ?_
                refine Sat.ret ?_
                refine bl_r ?_
                refine at_r ?_
                refine en_r ?_
                refine ⟨_, [], res_tmp rfl rfl, (by simp), (by simp), ?_, rfl⟩
                rfl
              ·
                refine Sat.skip ?_
                refine bl_n ?_
                refine at_n ?_
                refine Sat.seq ?_
                -- region 17
                refine Sat.region ?_
                refine Tr.assign rfl rfl rfl ?_
                refine Tr.nil ?_
                refine at_n ?_
                refine Sat.ret ?_
                refine en_r ?_
                refine ⟨_, [], res_tmp rfl rfl, (by simp), (by simp), ?_, rfl⟩
                rfl
    ·
      first | have hs8_4 := of_decide_eq_true hs8_40 | have hs8_4 := of_decide_eq_false hs8_40 | have hs8_4 := nd_t hs8_40 | have hs8_4 := nd_f hs8_40 | have hs8_4 := hs8_40
      refine Tr.move rfl rfl rfl ?_
      refine Tr.skp rfl rfl ?_
      refine Tr.skp rfl rfl ?_
      refine Tr.skp rfl rfl ?_
      refine Tr.skp rfl rfl ?_
      refine Tr.skp rfl rfl ?_
      refine Tr.pick rfl rfl rfl rfl rfl rfl ?_
      refine Tr.move rfl rfl rfl ?_
      refine Tr.skp rfl rfl ?_
      refine Tr.skp rfl rfl ?_
      refine Tr.skp rfl rfl ?_
      refine Tr.skp rfl rfl ?_
      refine Tr.skp rfl rfl ?_
      refine Tr.pick rfl rfl rfl rfl rfl rfl ?_
      refine Tr.move rfl rfl rfl ?_
      refine Tr.skp rfl rfl ?_
      refine Tr.skp rfl rfl ?_
      refine Tr.skp rfl rfl ?_
      refine Tr.skp rfl rfl ?_
      refine Tr.skp rfl rfl ?_
      refine Tr.pick rfl rfl rfl rfl rfl rfl ?_
      refine Tr.assign rfl rfl rfl ?_
      refine Tr.nil ?_
      refine at_n ?_
      refine Sat.seq ?_
      refine Sat.join (ι := Unit) (fun _u => ⟨[(3, ptr n3 0), (4, ptr n4 0), (5, ptr n5 0), (9, i64 (vcmp a b)), (113, .bool false)], [⟨n5, c.cells, 43, c.cells.length⟩, ⟨n4, b.cells, 43, b.cells.length⟩, ⟨n3, a.cells, 43, a.cells.length⟩]⟩) (fun _u => True) ?_ ?_
      ·
        -- region 9
        refine Sat.draw [(1, 0), (1, 1), (0, 3), (3, 2), (0, 4), (0, 5), (1, 6), (0, 7), (1, 8), (0, 9), (0, 10), (0, 11), (1, 12), (0, 13), (1, 14), (0, 15), (0, 16), (0, 17), (0, 18), (0, 19), (1, 20), (1, 21), (1, 23), (1, 24), (3, 22), (3, 25), (0, 26), (0, 27)] Mixed (by kernel_rfl) ?_
        refine Tr.loadAll rfl rfl rfl Try.underlying43 rfl Sz43 (by first | exact mem0 | exact mem1 | exact mem2 | exact mem3 | exact mem4 | exact mem5 | exact mem6 | exact mem7) (Vote.length (by first | assumption | (simp [ha.l_fVoter, hb.l_fVoter, ha.l_fValue, hb.l_fValue]; done))) ?_
        refine Tr.loadAll rfl rfl rfl Try.underlying43 rfl Sz43 (by first | exact mem0 | exact mem1 | exact mem2 | exact mem3 | exact mem4 | exact mem5 | exact mem6 | exact mem7) (Vote.length (by first | assumption | (simp [ha.l_fVoter, hb.l_fVoter, ha.l_fValue, hb.l_fValue]; done))) ?_
        refine Tr.move rfl rfl rfl ?_
        refine Tr.callV rfl rfl rfl rfl Body19 (vote_against _ _ (by assumption) (by assumption)) (fun _ _ => trivial) ?_
        refine Tr.move rfl rfl rfl ?_
        refine Tr.skp rfl rfl ?_
        refine Tr.skp rfl rfl ?_
        refine Tr.skp rfl rfl ?_
        refine Tr.skp rfl rfl ?_
        refine Tr.skp rfl rfl ?_
        refine Tr.skp rfl rfl ?_
        refine Tr.skp rfl rfl ?_
        refine Tr.skp rfl rfl ?_
        refine Tr.skp rfl rfl ?_
        refine Tr.skp rfl rfl ?_
        refine Tr.skp rfl rfl ?_
        refine Tr.skp rfl rfl ?_
        refine Tr.pick rfl rfl rfl rfl rfl rfl ?_
        refine Tr.neb (r := false) rfl rfl rfl rfl Try.underlying4 (by simp [against, same4, *]) ?_
        refine Tr.move rfl rfl rfl ?_
        refine Tr.loadAll rfl rfl rfl Try.underlying43 rfl Sz43 (by first | exact mem0 | exact mem1 | exact mem2 | exact mem3 | exact mem4 | exact mem5 | exact mem6 | exact mem7) (Vote.length (by first | assumption | (simp [ha.l_fVoter, hb.l_fVoter, ha.l_fValue, hb.l_fValue]; done))) ?_
        refine Tr.loadAll rfl rfl rfl Try.underlying43 rfl Sz43 (by first | exact mem0 | exact mem1 | exact mem2 | exact mem3 | exact mem4 | exact mem5 | exact mem6 | exact mem7) (Vote.length (by first | assumption | (simp [ha.l_fVoter, hb.l_fVoter, ha.l_fValue, hb.l_fValue]; done))) ?_
        refine Tr.loadAll rfl rfl rfl Try.underlying43 rfl Sz43 (by first | exact mem0 | exact mem1 | exact mem2 | exact mem3 | exact mem4 | exact mem5 | exact mem6 | exact mem7) (Vote.length (by first | assumption | (simp [ha.l_fVoter, hb.l_fVoter, ha.l_fValue, hb.l_fValue]; done))) ?_
        refine Tr.loadAll rfl rfl rfl Try.underlying43 rfl Sz43 (by first | exact mem0 | exact mem1 | exact mem2 | exact mem3 | exact mem4 | exact mem5 | exact mem6 | exact mem7) (Vote.length (by first | assumption | (simp [ha.l_fVoter, hb.l_fVoter, ha.l_fValue, hb.l_fValue]; done))) ?_
        refine Tr.callV rfl rfl rfl rfl Body19 (vote_against _ _ (by assumption) (by assumption)) (fun _ _ => trivial) ?_
        refine Tr.callV rfl rfl rfl rfl Body19 (vote_against _ _ (by assumption) (by assumption)) (fun _ _ => trivial) ?_
        refine Tr.neb (r := false) rfl rfl rfl rfl Try.underlying4 (by rw [against_symm a b]; simp) ?_
        refine Tr.pick rfl rfl rfl rfl rfl rfl ?_
        refine Tr.nil ?_
        refine at_n ?_
        refine ⟨(), trivial, weak_of (wk1 rfl (wk1 rfl (wk1 rfl (wk1 rfl (wk1 rfl wk0))))) (wh1 (by first | exact mem0 | exact mem1 | exact mem2 | exact mem3 | exact mem4 | exact mem5 | exact mem6 | exact mem7) (wh1 (by first | exact mem0 | exact mem1 | exact mem2 | exact mem3 | exact mem4 | exact mem5 | exact mem6 | exact mem7) (wh1 (by first | exact mem0 | exact mem1 | exact mem2 | exact mem3 | exact mem4 | exact mem5 | exact mem6 | exact mem7) wh0))) (by repeat (first | exact ns_nil | refine ns_keep rfl ?_ | refine ns_skip ?_))⟩
      ·
        intro _u hj
        skip
        refine Sat.cond_f rfl (rfl) ?_
        refine Sat.skip ?_
        refine at_n ?_
        refine Sat.seq ?_
        refine Sat.block ?_
        refine Sat.seq ?_
        -- region 11
        refine Sat.region ?_
        refine Tr.fld rfl rfl rfl Try.underlying43 rfl Sz24 (by decide) _ rfl ?_
        refine Tr.load1 rfl rfl rfl Try.underlying24 rfl (by first | exact mem0 | exact mem1 | exact mem2 | exact mem3 | exact mem4 | exact mem5 | exact mem6 | exact mem7) (by first | exact Vote.get_fHeight (by first | assumption | (simp [ha.l_fVoter, hb.l_fVoter, ha.l_fValue, hb.l_fValue]; done)) | exact (by first | rfl | exact get_words (by first | omega | (simp [ha.l_fVoter, hb.l_fVoter, ha.l_fValue, hb.l_fValue]; done) | (simp [ha.l_fVoter, hb.l_fVoter, ha.l_fValue, hb.l_fValue]; omega)) | exact get_bytes (by first | omega | (simp [ha.l_fVoter, hb.l_fVoter, ha.l_fValue, hb.l_fValue]; done) | (simp [ha.l_fVoter, hb.l_fVoter, ha.l_fValue, hb.l_fValue]; omega)) | exact get_ints (by first | omega | (simp [ha.l_fVoter, hb.l_fVoter, ha.l_fValue, hb.l_fValue]; done) | (simp [ha.l_fVoter, hb.l_fVoter, ha.l_fValue, hb.l_fValue]; omega)))) ?_
        refine Tr.fld rfl rfl rfl Try.underlying43 rfl Sz24 (by decide) _ rfl ?_
        refine Tr.load1 rfl rfl rfl Try.underlying24 rfl (by first | exact mem0 | exact mem1 | exact mem2 | exact mem3 | exact mem4 | exact mem5 | exact mem6 | exact mem7) (by first | exact Vote.get_fHeight (by first | assumption | (simp [ha.l_fVoter, hb.l_fVoter, ha.l_fValue, hb.l_fValue]; done)) | exact (by first | rfl | exact get_words (by first | omega | (simp [ha.l_fVoter, hb.l_fVoter, ha.l_fValue, hb.l_fValue]; done) | (simp [ha.l_fVoter, hb.l_fVoter, ha.l_fValue, hb.l_fValue]; omega)) | exact get_bytes (by first | omega | (simp [ha.l_fVoter, hb.l_fVoter, ha.l_fValue, hb.l_fValue]; done) | (simp [ha.l_fVoter, hb.l_fVoter, ha.l_fValue, hb.l_fValue]; omega)) | exact get_ints (by first | omega | (simp [ha.l_fVoter, hb.l_fVoter, ha.l_fValue, hb.l_fValue]; done) | (simp [ha.l_fVoter, hb.l_fVoter, ha.l_fValue, hb.l_fValue]; omega)))) ?_
        refine Tr.nei rfl rfl rfl rfl rfl ?_
        refine Tr.assign rfl rfl rfl ?_
        refine Tr.nil ?_
        refine at_n ?_
        first
          | refine Sat.condP rfl (fun hc3 => ?_) (fun hc3 => ?_)
          | refine Sat.condNP rfl (fun hc3 => ?_) (fun hc3 => ?_)
          | refine Sat.cond rfl (fun hc3 => ?_) (fun hc3 => ?_)
        ·
          refine Sat.seq ?_
          -- region 12
          refine Sat.region ?_
          refine Tr.move rfl rfl rfl ?_
          refine Tr.lss rfl rfl rfl rfl rfl ?_
          refine Tr.fld rfl rfl rfl Try.underlying43 rfl Sz24 (by decide) _ rfl ?_
          refine Tr.load1 rfl rfl rfl Try.underlying24 rfl (by first | exact mem0 | exact mem1 | exact mem2 | exact mem3 | exact mem4 | exact mem5 | exact mem6 | exact mem7) (by first | exact Vote.get_fHeight (by first | assumption | (simp [ha.l_fVoter, hb.l_fVoter, ha.l_fValue, hb.l_fValue]; done)) | exact (by first | rfl | exact get_words (by first | omega | (simp [ha.l_fVoter, hb.l_fVoter, ha.l_fValue, hb.l_fValue]; done) | (simp [ha.l_fVoter, hb.l_fVoter, ha.l_fValue, hb.l_fValue]; omega)) | exact get_bytes (by first | omega | (simp [ha.l_fVoter, hb.l_fVoter, ha.l_fValue, hb.l_fValue]; done) | (simp [ha.l_fVoter, hb.l_fVoter, ha.l_fValue, hb.l_fValue]; omega)) | exact get_ints (by first | omega | (simp [ha.l_fVoter, hb.l_fVoter, ha.l_fValue, hb.l_fValue]; done) | (simp [ha.l_fVoter, hb.l_fVoter, ha.l_fValue, hb.l_fValue]; omega)))) ?_
          refine Tr.fld rfl rfl rfl Try.underlying43 rfl Sz24 (by decide) _ rfl ?_
          refine Tr.load1 rfl rfl rfl Try.underlying24 rfl (by first | exact mem0 | exact mem1 | exact mem2 | exact mem3 | exact mem4 | exact mem5 | exact mem6 | exact mem7) (by first | exact Vote.get_fHeight (by first | assumption | (simp [ha.l_fVoter, hb.l_fVoter, ha.l_fValue, hb.l_fValue]; done)) | exact (by first | rfl | exact get_words (by first | omega | (simp [ha.l_fVoter, hb.l_fVoter, ha.l_fValue, hb.l_fValue]; done) | (simp [ha.l_fVoter, hb.l_fVoter, ha.l_fValue, hb.l_fValue]; omega)) | exact get_bytes (by first | omega | (simp [ha.l_fVoter, hb.l_fVoter, ha.l_fValue, hb.l_fValue]; done) | (simp [ha.l_fVoter, hb.l_fVoter, ha.l_fValue, hb.l_fValue]; omega)) | exact get_ints (by first | omega | (simp [ha.l_fVoter, hb.l_fVoter, ha.l_fValue, hb.l_fValue]; done) | (simp [ha.l_fVoter, hb.l_fVoter, ha.l_fValue, hb.l_fValue]; omega)))) ?_
          refine Tr.lss rfl rfl rfl rfl rfl ?_
          refine Tr.eqb (r := true) rfl rfl rfl rfl Try.underlying4 (beq_of_iff (vcmp_h a b hc3)) ?_
          refine Tr.assign rfl rfl rfl ?_
          refine Tr.nil ?_
          refine at_n ?_
          refine Sat.ret ?_
          refine bl_r ?_
          refine at_r ?_
          refine en_r ?_
          refine ⟨_, [], res_tmp rfl rfl, (by simp), (by simp), ?_, rfl⟩
          rfl
        ·
          refine Sat.seq ?_
          -- region 13
          refine Sat.region ?_
          refine Tr.fld rfl rfl rfl Try.underlying43 rfl Sz24 (by decide) _ rfl ?_
          refine Tr.load1 rfl rfl rfl Try.underlying24 rfl (by first | exact mem0 | exact mem1 | exact mem2 | exact mem3 | exact mem4 | exact mem5 | exact mem6 | exact mem7) (by first | exact Vote.get_fRound (by first | assumption | (simp [ha.l_fVoter, hb.l_fVoter, ha.l_fValue, hb.l_fValue]; done)) | exact (by first | rfl | exact get_words (by first | omega | (simp [ha.l_fVoter, hb.l_fVoter, ha.l_fValue, hb.l_fValue]; done) | (simp [ha.l_fVoter, hb.l_fVoter, ha.l_fValue, hb.l_fValue]; omega)) | exact get_bytes (by first | omega | (simp [ha.l_fVoter, hb.l_fVoter, ha.l_fValue, hb.l_fValue]; done) | (simp [ha.l_fVoter, hb.l_fVoter, ha.l_fValue, hb.l_fValue]; omega)) | exact get_ints (by first | omega | (simp [ha.l_fVoter, hb.l_fVoter, ha.l_fValue, hb.l_fValue]; done) | (simp [ha.l_fVoter, hb.l_fVoter, ha.l_fValue, hb.l_fValue]; omega)))) ?_
          refine Tr.fld rfl rfl rfl Try.underlying43 rfl Sz24 (by decide) _ rfl ?_
          refine Tr.load1 rfl rfl rfl Try.underlying24 rfl (by first | exact mem0 | exact mem1 | exact mem2 | exact mem3 | exact mem4 | exact mem5 | exact mem6 | exact mem7) (by first | exact Vote.get_fRound (by first | assumption | (simp [ha.l_fVoter, hb.l_fVoter, ha.l_fValue, hb.l_fValue]; done)) | exact (by first | rfl | exact get_words (by first | omega | (simp [ha.l_fVoter, hb.l_fVoter, ha.l_fValue, hb.l_fValue]; done) | (simp [ha.l_fVoter, hb.l_fVoter, ha.l_fValue, hb.l_fValue]; omega)) | exact get_bytes (by first | omega | (simp [ha.l_fVoter, hb.l_fVoter, ha.l_fValue, hb.l_fValue]; done) | (simp [ha.l_fVoter, hb.l_fVoter, ha.l_fValue, hb.l_fValue]; omega)) | exact get_ints (by first | omega | (simp [ha.l_fVoter, hb.l_fVoter, ha.l_fValue, hb.l_fValue]; done) | (simp [ha.l_fVoter, hb.l_fVoter, ha.l_fValue, hb.l_fValue]; omega)))) ?_
          refine Tr.nei rfl rfl rfl rfl rfl ?_
          refine Tr.assign rfl rfl rfl ?_
          refine Tr.nil ?_
          refine at_n ?_
          first
            | refine Sat.condP rfl (fun hc4 => ?_) (fun hc4 => ?_)
            | refine Sat.condNP rfl (fun hc4 => ?_) (fun hc4 => ?_)
            | refine Sat.cond rfl (fun hc4 => ?_) (fun hc4 => ?_)
          ·
            refine Sat.seq ?_
            -- region 14
            refine Sat.region ?_
            refine Tr.move rfl rfl rfl ?_
            refine Tr.lss rfl rfl rfl rfl rfl ?_
            refine Tr.fld rfl rfl rfl Try.underlying43 rfl Sz24 (by decide) _ rfl ?_
            refine Tr.load1 rfl rfl rfl Try.underlying24 rfl (by first | exact mem0 | exact mem1 | exact mem2 | exact mem3 | exact mem4 | exact mem5 | exact mem6 | exact mem7) (by first | exact Vote.get_fRound (by first | assumption | (simp [ha.l_fVoter, hb.l_fVoter, ha.l_fValue, hb.l_fValue]; done)) | exact (by first | rfl | exact get_words (by first | omega | (simp [ha.l_fVoter, hb.l_fVoter, ha.l_fValue, hb.l_fValue]; done) | (simp [ha.l_fVoter, hb.l_fVoter, ha.l_fValue, hb.l_fValue]; omega)) | exact get_bytes (by first | omega | (simp [ha.l_fVoter, hb.l_fVoter, ha.l_fValue, hb.l_fValue]; done) | (simp [ha.l_fVoter, hb.l_fVoter, ha.l_fValue, hb.l_fValue]; omega)) | exact get_ints (by first | omega | (simp [ha.l_fVoter, hb.l_fVoter, ha.l_fValue, hb.l_fValue]; done) | (simp [ha.l_fVoter, hb.l_fVoter, ha.l_fValue, hb.l_fValue]; omega)))) ?_
            refine Tr.fld rfl rfl rfl Try.underlying43 rfl Sz24 (by decide) _ rfl ?_
            refine Tr.load1 rfl rfl rfl Try.underlying24 rfl (by first | exact mem0 | exact mem1 | exact mem2 | exact mem3 | exact mem4 | exact mem5 | exact mem6 | exact mem7) (by first | exact Vote.get_fRound (by first | assumption | (simp [ha.l_fVoter, hb.l_fVoter, ha.l_fValue, hb.l_fValue]; done)) | exact (by first | rfl | exact get_words (by first | omega | (simp [ha.l_fVoter, hb.l_fVoter, ha.l_fValue, hb.l_fValue]; done) | (simp [ha.l_fVoter, hb.l_fVoter, ha.l_fValue, hb.l_fValue]; omega)) | exact get_bytes (by first | omega | (simp [ha.l_fVoter, hb.l_fVoter, ha.l_fValue, hb.l_fValue]; done) | (simp [ha.l_fVoter, hb.l_fVoter, ha.l_fValue, hb.l_fValue]; omega)) | exact get_ints (by first | omega | (simp [ha.l_fVoter, hb.l_fVoter, ha.l_fValue, hb.l_fValue]; done) | (simp [ha.l_fVoter, hb.l_fVoter, ha.l_fValue, hb.l_fValue]; omega)))) ?_
            refine Tr.lss rfl rfl rfl rfl rfl ?_
            refine Tr.eqb (r := true) rfl rfl rfl rfl Try.underlying4 (beq_of_iff (vcmp_r a b hc3 hc4)) ?_
            refine Tr.assign rfl rfl rfl ?_
            refine Tr.nil ?_
            refine at_n ?_
            refine Sat.ret ?_
            refine bl_r ?_
            refine at_r ?_
            refine en_r ?_
            refine ⟨_, [], res_tmp rfl rfl, (by simp), (by simp), ?_, rfl⟩
            rfl
          ·
            refine Sat.seq ?_
            -- region 15
            refine Sat.region ?_
            refine Tr.fld rfl rfl rfl Try.underlying43 rfl Sz3 (by decide) _ rfl ?_
            refine Tr.load1 rfl rfl rfl Try.underlying3 rfl (by first | exact mem0 | exact mem1 | exact mem2 | exact mem3 | exact mem4 | exact mem5 | exact mem6 | exact mem7) (by first | exact Vote.get_fPhase (by first | assumption | (simp [ha.l_fVoter, hb.l_fVoter, ha.l_fValue, hb.l_fValue]; done)) | exact (by first | rfl | exact get_words (by first | omega | (simp [ha.l_fVoter, hb.l_fVoter, ha.l_fValue, hb.l_fValue]; done) | (simp [ha.l_fVoter, hb.l_fVoter, ha.l_fValue, hb.l_fValue]; omega)) | exact get_bytes (by first | omega | (simp [ha.l_fVoter, hb.l_fVoter, ha.l_fValue, hb.l_fValue]; done) | (simp [ha.l_fVoter, hb.l_fVoter, ha.l_fValue, hb.l_fValue]; omega)) | exact get_ints (by first | omega | (simp [ha.l_fVoter, hb.l_fVoter, ha.l_fValue, hb.l_fValue]; done) | (simp [ha.l_fVoter, hb.l_fVoter, ha.l_fValue, hb.l_fValue]; omega)))) ?_
            refine Tr.fld rfl rfl rfl Try.underlying43 rfl Sz3 (by decide) _ rfl ?_
            refine Tr.load1 rfl rfl rfl Try.underlying3 rfl (by first | exact mem0 | exact mem1 | exact mem2 | exact mem3 | exact mem4 | exact mem5 | exact mem6 | exact mem7) (by first | exact Vote.get_fPhase (by first | assumption | (simp [ha.l_fVoter, hb.l_fVoter, ha.l_fValue, hb.l_fValue]; done)) | exact (by first | rfl | exact get_words (by first | omega | (simp [ha.l_fVoter, hb.l_fVoter, ha.l_fValue, hb.l_fValue]; done) | (simp [ha.l_fVoter, hb.l_fVoter, ha.l_fValue, hb.l_fValue]; omega)) | exact get_bytes (by first | omega | (simp [ha.l_fVoter, hb.l_fVoter, ha.l_fValue, hb.l_fValue]; done) | (simp [ha.l_fVoter, hb.l_fVoter, ha.l_fValue, hb.l_fValue]; omega)) | exact get_ints (by first | omega | (simp [ha.l_fVoter, hb.l_fVoter, ha.l_fValue, hb.l_fValue]; done) | (simp [ha.l_fVoter, hb.l_fVoter, ha.l_fValue, hb.l_fValue]; omega)))) ?_
            refine Tr.nei rfl rfl rfl rfl rfl ?_
            refine Tr.assign rfl rfl rfl ?_
            refine Tr.nil ?_
            refine at_n ?_
            first
              | refine Sat.condP rfl (fun hc5 => ?_) (fun hc5 => ?_)
              | refine Sat.condNP rfl (fun hc5 => ?_) (fun hc5 => ?_)
              | refine Sat.cond rfl (fun hc5 => ?_) (fun hc5 => ?_)
            ·
              refine Sat.seq ?_
              -- region 16
              refine Sat.region ?_
              refine Tr.move rfl rfl rfl ?_
              refine Tr.lss rfl rfl rfl rfl rfl ?_
              refine Tr.fld rfl rfl rfl Try.underlying43 rfl Sz3 (by decide) _ rfl ?_
              refine Tr.load1 rfl rfl rfl Try.underlying3 rfl (by first | exact mem0 | exact mem1 | exact mem2 | exact mem3 | exact mem4 | exact mem5 | exact mem6 | exact mem7) (by first | exact Vote.get_fPhase (by first | assumption | (simp [ha.l_fVoter, hb.l_fVoter, ha.l_fValue, hb.l_fValue]; done)) | exact (by first | rfl | exact get_words (by first | omega | (simp [ha.l_fVoter, hb.l_fVoter, ha.l_fValue, hb.l_fValue]; done) | (simp [ha.l_fVoter, hb.l_fVoter, ha.l_fValue, hb.l_fValue]; omega)) | exact get_bytes (by first | omega | (simp [ha.l_fVoter, hb.l_fVoter, ha.l_fValue, hb.l_fValue]; done) | (simp [ha.l_fVoter, hb.l_fVoter, ha.l_fValue, hb.l_fValue]; omega)) | exact get_ints (by first | omega | (simp [ha.l_fVoter, hb.l_fVoter, ha.l_fValue, hb.l_fValue]; done) | (simp [ha.l_fVoter, hb.l_fVoter, ha.l_fValue, hb.l_fValue]; omega)))) ?_
              refine Tr.fld rfl rfl rfl Try.underlying43 rfl Sz3 (by decide) _ rfl ?_
              refine Tr.load1 rfl rfl rfl Try.underlying3 rfl (by first | exact mem0 | exact mem1 | exact mem2 | exact mem3 | exact mem4 | exact mem5 | exact mem6 | exact mem7) (by first | exact Vote.get_fPhase (by first | assumption | (simp [ha.l_fVoter, hb.l_fVoter, ha.l_fValue, hb.l_fValue]; done)) | exact (by first | rfl | exact get_words (by first | omega | (simp [ha.l_fVoter, hb.l_fVoter, ha.l_fValue, hb.l_fValue]; done) | (simp [ha.l_fVoter, hb.l_fVoter, ha.l_fValue, hb.l_fValue]; omega)) | exact get_bytes (by first | omega | (simp [ha.l_fVoter, hb.l_fVoter, ha.l_fValue, hb.l_fValue]; done) | (simp [ha.l_fVoter, hb.l_fVoter, ha.l_fValue, hb.l_fValue]; omega)) | exact get_ints (by first | omega | (simp [ha.l_fVoter, hb.l_fVoter, ha.l_fValue, hb.l_fValue]; done) | (simp [ha.l_fVoter, hb.l_fVoter, ha.l_fValue, hb.l_fValue]; omega)))) ?_
              refine Tr.lss rfl rfl rfl rfl rfl ?_
              refine Tr.eqb (r := true) rfl rfl rfl rfl Try.underlying4 (beq_of_iff (vcmp_p a b hc3 hc4 hc5)) ?_
              refine Tr.assign rfl rfl rfl ?_
              refine Tr.nil ?_
              refine at_n ?_
              refine Sat.ret ?_
              refine bl_r ?_
              refine at_r ?_
              refine en_r ?_
              refine ⟨_, [], res_tmp rfl rfl, (by simp), (by simp), ?_, rfl⟩
              rfl
            ·
              refine Sat.skip ?_
              refine bl_n ?_
              refine at_n ?_
              refine Sat.seq ?_
              -- region 17
              refine Sat.region ?_
              refine Tr.assign rfl rfl rfl ?_
              refine Tr.nil ?_
              refine at_n ?_
              refine Sat.ret ?_
              refine en_r ?_
              refine ⟨_, [], res_tmp rfl rfl, (by simp), (by simp), ?_, rfl⟩
              rfl

end Go.Proofs.Ytjeggfgbcafenaa
