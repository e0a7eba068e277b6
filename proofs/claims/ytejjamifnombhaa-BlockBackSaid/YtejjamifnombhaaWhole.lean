/- Contracts of package sha: whole, StartShort, Sum; and block.Name. Conditions: what the rows hold, and that they are not too long. -/
import Derived.Test.YtejjamifnombhaaPad
import Derived.Test.YtejjamifnombhaaIter
import Derived.Laws.Externs
namespace Go.Proofs.Ytejjamifnombhaa
open Go Hw
set_option linter.unusedVariables false
set_option linter.unusedSimpArgs false

set_option maxRecDepth 100000 in
set_option maxHeartbeats 1000000 in
theorem mk_chunk (p : Option Addr) (n c : Nat) : Meets Try.prog 134 [.slice p n c, i64 128] [] (fun _ => True) (fun v out => ∃ b1 b2, v = .func (.func 153) #[] #[ptr b1 0, ptr b2 0] ∧ out = [⟨b1, [.slice p n c], 27, 1⟩, ⟨b2, [i64 128], 3, 1⟩]) := by
  intro W hW
  refine calls_of (hp0 := []) Try.func134 rfl 9 Try.ntmps134 rfl (HRep.nil _) ?_
  refine Sat.seq ?_
  -- region 0
  refine Sat.region ?_
  refine Tr.box1 rfl rfl rfl ?_
  intro n2 hn2 hf2
  refine Tr.box1 rfl rfl rfl ?_
  intro n3 hn3 hf3
  refine Tr.assign rfl rfl rfl ?_
  refine Tr.nil ?_
  refine at_n ?_
  refine Sat.seq ?_
  refine Sat.seq ?_
  -- region 1
  refine Sat.region ?_
  refine Tr.load1 rfl rfl rfl Try.underlying3 rfl (by first | exact mem0 | exact mem1 | exact mem2 | exact mem3 | exact mem4 | exact mem5 | exact mem6 | exact mem7 | (repeat (first | exact List.mem_cons_self | refine List.mem_cons_of_mem _ ?_ | refine mem_seg ?_))) (by first | rfl | exact get_words (by first | omega | (simp; done) | (simp; omega)) | exact get_bytes (by first | omega | (simp; done) | (simp; omega)) | exact get_ints (by first | omega | (simp; done) | (simp; omega))) ?_
  refine Tr.lss rfl rfl rfl rfl rfl ?_
  refine Tr.nil ?_
  refine at_n ?_
  refine Sat.cond_f rfl (by decide) ?_
  refine Sat.skip ?_
  refine at_n ?_
  refine Sat.seq ?_
  -- region 3
  refine Sat.region ?_
  refine Tr.makeFunc rfl rfl rfl rfl ?_
  refine Tr.assign rfl rfl rfl ?_
  refine Tr.nil ?_
  refine at_n ?_
  refine Sat.ret ?_
  refine en_r ?_
  refine end_perm (out := (⟨n2, [.slice p n c], 27, 1⟩ :: (⟨n3, [i64 128], 3, 1⟩ :: []))) (res_tmp rfl rfl) (pm_cons (by repeat (first | exact rem_here | apply rem_there | apply rem_seg)) (pm_cons (by repeat (first | exact rem_here | apply rem_there | apply rem_seg)) pm_nil)) ?_
  exact ⟨n2, n3, rfl, by simp⟩


/-- a chunk of 128 bytes -/
def encC (q i : Nat) : Value := .slice (some ⟨q, 128 * i, none⟩) 128 128
theorem encC_eq (q i : Nat) : (.slice (some ⟨q, if 128 * i + 128 = 128 * i then 0 else 0 + 128 * i * 1, none⟩) (128 * i + 128 - 128 * i) (128 * i + 128 - 128 * i) : Value) = encC q i := by
  have e1 : 128 * i + 128 - 128 * i = 128 := by omega
  have e2 : 0 + 128 * i * 1 = 128 * i := by omega
  rw [if_neg (by omega), e1, e2]; rfl


set_option maxRecDepth 100000 in
set_option maxHeartbeats 2000000 in
theorem chunk_iter (l b1 b2 q n c K : Nat) (X : Nat → List Blk) (names : List Nat) (hnk : n = 128 * K) (hnc : n ≤ c) (hbig : n ≤ 1000000) : Meets Try.prog 153 [.func (.yield l) #[] #[], ptr b1 0, ptr b2 0] names (fun W => HRep ⟨Try.prog, W, 0, names, [], []⟩ (⟨b1, [.slice (some ⟨q, 0, none⟩) n c], 27, 1⟩ :: ⟨b2, [i64 128], 3, 1⟩ :: X 0) W ∧ ∀ i, i < K → ∀ W2, HRep ⟨Try.prog, W, 0, names, [], []⟩ (⟨b1, [.slice (some ⟨q, 0, none⟩) n c], 27, 1⟩ :: ⟨b2, [i64 128], 3, 1⟩ :: X i) W2 → YieldAt Fence.wide 0 Try.prog l #[encC q i] W2 fun e W3 => e = .returned (.bool true) ∧ HRep ⟨Try.prog, W, 0, names, [], []⟩ (⟨b1, [.slice (some ⟨q, 0, none⟩) n c], 27, 1⟩ :: ⟨b2, [i64 128], 3, 1⟩ :: X (i + 1)) W3) (fun v out => v = .tuple #[] ∧ out = ⟨b1, [.slice (some ⟨q, 0, none⟩) n c], 27, 1⟩ :: ⟨b2, [i64 128], 3, 1⟩ :: X K) := by
  intro W hW
  refine calls_of (hp0 := ⟨b1, [.slice (some ⟨q, 0, none⟩) n c], 27, 1⟩ :: ⟨b2, [i64 128], 3, 1⟩ :: X 0) Try.func153 rfl 31 Try.ntmps153 rfl (HRep.reN hW.1) ?_
  refine Sat.seq ?_
  -- region 0
  refine Sat.region ?_
  refine Tr.assign rfl rfl rfl ?_
  refine Tr.nil ?_
  refine at_n ?_
  refine Sat.block ?_
  refine Sat.loop (ι := Nat) (fun i => ⟨[(0, .func (.yield l) #[] #[]), (1, ptr b1 0), (2, ptr b2 0), (4, i64 (128 * (i : Int)))], (⟨b1, [.slice (some ⟨q, 0, none⟩) n c], 27, 1⟩ :: (⟨b2, [i64 128], 3, 1⟩ :: (X i ++ [])))⟩) (fun i => i ≤ K) (fun i => K - i) (0) ?_ ?_ ?_
  · exact Nat.zero_le _
  · exact weak_perm (wk1 rfl (wk1 rfl (wk1 rfl (wk1 rfl wk0)))) (pm_cons (by repeat (first | exact rem_here | apply rem_there | apply rem_seg)) (pm_cons (by repeat (first | exact rem_here | apply rem_there | apply rem_seg)) (pm_seg (by repeat (first | exact sg_here | exact sg_end | apply sg_there | apply sg_seg)) pm_nil)))
  ·
    rintro i hi
    refine Sat.seq ?_
    refine Sat.seq ?_
    -- region 1
    refine Sat.region ?_
    refine Tr.move rfl rfl rfl ?_
    refine Tr.load1 rfl rfl rfl Try.underlying27 rfl (by first | exact mem0 | exact mem1 | exact mem2 | exact mem3 | exact mem4 | exact mem5 | exact mem6 | exact mem7 | (repeat (first | exact List.mem_cons_self | refine List.mem_cons_of_mem _ ?_ | refine mem_seg ?_))) (by first | rfl | exact get_words (by first | omega | (simp; done) | (simp; omega)) | exact get_bytes (by first | omega | (simp; done) | (simp; omega)) | exact get_ints (by first | omega | (simp; done) | (simp; omega))) ?_
    refine Tr.lenSl rfl rfl rfl Try.underlying27 ?_
    refine Tr.lss rfl rfl rfl rfl rfl ?_
    refine Tr.nil ?_
    refine at_n ?_
    first
      | refine Sat.condP rfl (fun hc0 => ?_) (fun hc0 => ?_)
      | refine Sat.condNP rfl (fun hc0 => ?_) (fun hc0 => ?_)
      | refine Sat.cond rfl (fun hc0 => ?_) (fun hc0 => ?_)
    ·
      have hi3 : i < K := by omega
      refine Sat.skip ?_
      refine at_n ?_
      refine Sat.seq ?_
      refine Sat.block ?_
      refine Sat.seq ?_
      -- region 3
      refine Sat.draw [(1, 0), (1, 1), (0, 2), (0, 3), (0, 4), (0, 5), (0, 6)] Mixed (by kernel_rfl) ?_
      refine Tr.load1 rfl rfl rfl Try.underlying3 rfl (by first | exact mem0 | exact mem1 | exact mem2 | exact mem3 | exact mem4 | exact mem5 | exact mem6 | exact mem7 | (repeat (first | exact List.mem_cons_self | refine List.mem_cons_of_mem _ ?_ | refine mem_seg ?_))) (by first | rfl | exact get_words (by first | omega | (simp; done) | (simp; omega)) | exact get_bytes (by first | omega | (simp; done) | (simp; omega)) | exact get_ints (by first | omega | (simp; done) | (simp; omega))) ?_
      refine Tr.load1 rfl rfl rfl Try.underlying27 rfl (by first | exact mem0 | exact mem1 | exact mem2 | exact mem3 | exact mem4 | exact mem5 | exact mem6 | exact mem7 | (repeat (first | exact List.mem_cons_self | refine List.mem_cons_of_mem _ ?_ | refine mem_seg ?_))) (by first | rfl | exact get_words (by first | omega | (simp; done) | (simp; omega)) | exact get_bytes (by first | omega | (simp; done) | (simp; omega)) | exact get_ints (by first | omega | (simp; done) | (simp; omega))) ?_
      refine Tr.move rfl rfl rfl ?_
      refine Tr.sliceLoN (128*i) rfl rfl rfl rfl (by omega) (by omega) (by omega) Try.underlying27 Sz5 ?_
      refine Tr.lenSl rfl rfl rfl Try.underlying27 ?_
      refine Tr.min2 rfl rfl rfl rfl (show Value.int .i64 (if ((n - 128 * i : Nat) : Int) < (128 : Int) then ((n - 128 * i : Nat) : Int) else (128 : Int)) = i64 128 from by rw [if_neg (by omega)]) ?_
      refine Tr.assign rfl rfl rfl ?_
      refine Tr.nil ?_
      refine at_n ?_
      refine Sat.seq ?_
      -- region 4
      refine Sat.regionY 10 rfl (by kernel_rfl) ?_
      refine Tr.move rfl rfl rfl ?_
      refine Tr.load1 rfl rfl rfl Try.underlying27 rfl (by first | exact mem0 | exact mem1 | exact mem2 | exact mem3 | exact mem4 | exact mem5 | exact mem6 | exact mem7 | (repeat (first | exact List.mem_cons_self | refine List.mem_cons_of_mem _ ?_ | refine mem_seg ?_))) (by first | rfl | exact get_words (by first | omega | (simp; done) | (simp; omega)) | exact get_bytes (by first | omega | (simp; done) | (simp; omega)) | exact get_ints (by first | omega | (simp; done) | (simp; omega))) ?_
      refine Tr.move rfl rfl rfl ?_
      refine Tr.move rfl rfl rfl ?_
      refine Tr.move rfl rfl rfl ?_
      refine Tr.add_i64 rfl rfl rfl rfl (by omega) ?_
      refine Tr.move rfl rfl rfl ?_
      refine Tr.move rfl rfl rfl ?_
      refine Tr.add_i64 rfl rfl rfl rfl (by omega) ?_
      refine Tr.slice3 (128*i) (128*i+128) (128*i+128) rfl rfl rfl rfl rfl rfl (by omega) (by omega) (by omega) (by omega) (by omega) (by omega) Try.underlying27 Sz5 ?_
      refine Tr.nil ?_
      refine yop rfl rfl (congrArg some (encC_eq q i)) (fun w h => hW.2 i hi3 w (by rw [List.append_nil] at h; exact h)) ?_
      refine Tr.not rfl rfl rfl ?_
      refine Tr.nil ?_
      refine at_n ?_
      refine Sat.cond_f rfl (rfl) ?_
      refine Sat.skip ?_
      refine bl_n ?_
      refine at_n ?_
      -- region 2
      refine Sat.region ?_
      refine Tr.move rfl rfl rfl ?_
      refine Tr.load1 rfl rfl rfl Try.underlying3 rfl (by first | exact mem0 | exact mem1 | exact mem2 | exact mem3 | exact mem4 | exact mem5 | exact mem6 | exact mem7 | (repeat (first | exact List.mem_cons_self | refine List.mem_cons_of_mem _ ?_ | refine mem_seg ?_))) (by first | rfl | exact get_words (by first | omega | (simp; done) | (simp; omega)) | exact get_bytes (by first | omega | (simp; done) | (simp; omega)) | exact get_ints (by first | omega | (simp; done) | (simp; omega))) ?_
      refine Tr.add_i64 rfl rfl rfl rfl (by omega) ?_
      refine Tr.assign rfl rfl rfl ?_
      refine Tr.nil ?_
      refine at_n ?_
      exact ⟨i + 1, by omega, by omega, weak_perm (wk1 rfl (wk1 rfl (wk1 rfl (wk1 (congrArg (fun z => some (i64 z)) (by omega)) wk0)))) (pm_cons (by repeat (first | exact rem_here | apply rem_there | apply rem_seg)) (pm_cons (by repeat (first | exact rem_here | apply rem_there | apply rem_seg)) (pm_seg (by repeat (first | exact sg_here | exact sg_end | apply sg_there | apply sg_seg)) pm_nil)))⟩
    ·
      have hi3 : i = K := by omega
      refine Sat.exit ?_
      refine at_x ?_
      refine at_x ?_
      refine bl_h ?_
      refine en_n ?_
      refine end_perm (out := (⟨b1, [.slice (some ⟨q, 0, none⟩) n c], 27, 1⟩ :: (⟨b2, [i64 128], 3, 1⟩ :: (X i ++ [])))) (res_none rfl) (pm_cons (by repeat (first | exact rem_here | apply rem_there | apply rem_seg)) (pm_cons (by repeat (first | exact rem_here | apply rem_there | apply rem_seg)) (pm_seg (by repeat (first | exact sg_here | exact sg_end | apply sg_there | apply sg_seg)) pm_nil))) ?_
      rw [hi3]; exact ⟨rfl, by simp⟩


theorem chunk_seq {l b1 b2 q n c K : Nat} {X : Nat → List Blk} {names : List Nat} (hnk : n = 128 * K) (hnc : n ≤ c) (hbig : n ≤ 1000000) (hnm : ∀ i, (⟨b1, [.slice (some ⟨q, 0, none⟩) n c], 27, 1⟩ :: ⟨b2, [i64 128], 3, 1⟩ :: X i).map (·.n) = names) (w1 : World) (hh : HRep ⟨Try.prog, w1, 0, names, [], []⟩ (⟨b1, [.slice (some ⟨q, 0, none⟩) n c], 27, 1⟩ :: ⟨b2, [i64 128], 3, 1⟩ :: X 0) w1)
    (hy : ∀ i, i < K → ∀ W2, HRep ⟨Try.prog, w1, 0, names, [], []⟩ (⟨b1, [.slice (some ⟨q, 0, none⟩) n c], 27, 1⟩ :: ⟨b2, [i64 128], 3, 1⟩ :: X i) W2 → YieldAt Fence.wide 0 Try.prog l #[encC q i] W2 fun e W3 => e = .returned (.bool true) ∧ HRep ⟨Try.prog, w1, 0, names, [], []⟩ (⟨b1, [.slice (some ⟨q, 0, none⟩) n c], 27, 1⟩ :: ⟨b2, [i64 128], 3, 1⟩ :: X (i + 1)) W3) :
    CallsIn Fence.wide 0 Try.prog 153 (#[.func (.yield l) #[] #[]] ++ #[ptr b1 0, ptr b2 0]) w1 fun e W' => (∃ v, e = .returned v) ∧ HRep ⟨Try.prog, w1, 0, names, [], []⟩ (⟨b1, [.slice (some ⟨q, 0, none⟩) n c], 27, 1⟩ :: ⟨b2, [i64 128], 3, 1⟩ :: X K) W' :=
  callsIn_wide.2 ((chunk_iter l b1 b2 q n c K X names hnk hnc hbig w1 ⟨hh, hy⟩).mono fun e W' ⟨v, out, he, ⟨_, ho⟩, hr⟩ => ⟨⟨v, he⟩, by subst ho; exact HRep.ofRet hr (hnm K)⟩)
theorem take_len {xs : List UInt8} {i K : Nat} (h : xs.length = 128 * K) (hi : i < K) : ((xs.drop (128 * i)).take 128).length = 128 := by simp; omega


set_option maxRecDepth 100000 in
set_option maxHeartbeats 4000000 in
theorem sha_whole (st : List UInt64) (hst : st.length = 8) (k : List UInt64) (hk : Hid (kW = k)) (hk80 : k.length = 80) (p : Option Addr) (n c : Nat) (ss : List Sl) (ls : List (List UInt8)) (hss : ss.length = n) (hls : ls.length = n) (hsl : ∀ j, j < n → (ss.getD j Sl.nil).n = (ls.getD j []).length ∧ ((ss.getD j Sl.nil).p = none → (ss.getD j Sl.nil).n = 0)) (F : List UInt8) (hF : ls.flatten = F) (htot : F.length ≤ 90000) (hn : n ≤ 1000000)  : Meets Try.prog 94 [agg (wordsV st), .slice p n c] [] (fun W => SeesP W p (ss.map Sl.v) ∧ ∀ j, j < n → SeesP W (ss.getD j Sl.nil).p (bytesV (ls.getD j []))) (fun v out => v = agg (wordsV (allW k st F)) ∧ out = []) := by
  intro W hW
  have hpl := padB_length F
  have hpz := padZ_lt F.length
  have hpm := padB_mod F
  have hst2 : (runW k st (padB F) ((padB F).length / 128)).length = 8 := by rw [runW_length]; exact hst
  refine calls_range Try.func94 rfl 16 Try.ntmps94 rfl ?_
  -- region 0
  refine Sat.region ?_
  refine Tr.boxA rfl rfl ?_
  intro n2 hn2 hf2
  refine Tr.alloc (cs := (wordsV (List.replicate 8 0))) rfl Zr149 rfl ?_
  intro n4 hn4 hf4
  refine Tr.nil ?_
  refine at_n ?_
  -- region 1
  refine Sat.region ?_
  refine Tr.move rfl rfl rfl ?_
  refine Tr.call4 rfl rfl rfl rfl rfl Body135 (sha_padded p n c ss ls hss hls hsl F hF htot hn) (fun w h => ⟨seesP_ext h rfl hW.1, fun j hj => seesP_ext h rfl (hW.2 j hj)⟩) ?_
  rintro v7 out7 ⟨s7, rfl, hac7⟩
  obtain ⟨q7, c7, rfl, hc7, rfl⟩ := acc_pos hac7 (by omega)
  refine Tr.call4 rfl rfl rfl rfl rfl Body134 (mk_chunk (some ⟨q7, 0, none⟩) (padB F).length c7) (fun _ _ => trivial) ?_
  rintro v8 out8 ⟨b1, b2, rfl, rfl⟩
  refine Tr.nil ?_
  refine at_n ?_
  refine ⟨_, _, fun i => ⟨b1, [.slice (some ⟨q7, 0, none⟩) (padB F).length c7], 27, 1⟩ :: ⟨b2, [i64 128], 3, 1⟩ :: [⟨q7, bytesV (padB F), 5, c7 * 1⟩, ⟨n4, wordsV (List.replicate 8 0), 149, (wordsV (List.replicate 8 0)).length⟩, ⟨n2, wordsV (runW k st (padB F) i), 149, (wordsV st).length⟩], [b1, b2, q7, n4, n2], encC q7, ((padB F).length / 128), fun sl i => (5, encC q7 i) :: (9, encC q7 i) :: sl, rfl, rfl, Body153, (by decide), fun _ => rfl, ?_, ?_, ?_, ?_⟩
  ·
    intro l w1 hh hy
    exact chunk_seq (X := fun i => [⟨q7, bytesV (padB F), 5, c7 * 1⟩, ⟨n4, wordsV (List.replicate 8 0), 149, (wordsV (List.replicate 8 0)).length⟩, ⟨n2, wordsV (runW k st (padB F) i), 149, (wordsV st).length⟩]) hpm hc7 (by omega) (fun _ => rfl) w1 hh hy
  ·
    intro i hi l W2 hh
    -- region 2
    refine SatI.region (by kernel_rfl) ?_
    refine Tr.assign rfl rfl rfl ?_
    refine Tr.nil ?_
    exact ⟨rfl, rfl⟩
  ·
    intro i hi l W2 hh
    obtain ⟨A, hA⟩ : ∃ A, Hid (schA ((padB F).drop (128 * i) |>.take 128) 128 = A) := ⟨_, ⟨rfl⟩⟩
    obtain ⟨w, hwp⟩ : ∃ w, Hid (schB A 64 = w) := ⟨_, ⟨rfl⟩⟩
    obtain ⟨R, hR⟩ : ∃ R, Hid (rnds k w (W8.of (runW k st (padB F) i)) 80 = R) := ⟨_, ⟨rfl⟩⟩
    have hw : w.length = 80 := by rw [← hwp.out, schB_length, ← hA.out]; exact schA_length _ 128
    have e1 : addUp (runW k st (padB F) i) R.l 8 = runW k st (padB F) (i + 1) := by rw [runW, pieceW, schW, hA.out, hwp.out, hR.out]
    refine SatI.block ?_
    -- region 3
    refine SatI.draw [(1, 0), (0, 1), (0, 2), (1, 3), (3, 4), (4, 5)] Mixed (by kernel_rfl) (by kernel_rfl) ?_
    refine Tr.loadAll rfl rfl rfl Try.underlying149 rfl Sz149 (by first | exact mem0 | exact mem1 | exact mem2 | exact mem3 | exact mem4 | exact mem5 | exact mem6 | exact mem7 | (repeat (first | exact List.mem_cons_self | refine List.mem_cons_of_mem _ ?_ | refine mem_seg ?_))) (by rw [List.length_map, runW_length]; exact hst) ?_
    refine Tr.move rfl rfl rfl ?_
    refine Tr.s2a rfl rfl rfl Try.underlying205 (by omega) ?_
    refine Tr.loadN (bytesV ((padB F).drop (128 * i) |>.take 128)) rfl rfl rfl Try.underlying205 rfl Sz205 (by first | exact mem0 | exact mem1 | exact mem2 | exact mem3 | exact mem4 | exact mem5 | exact mem6 | exact mem7 | (repeat (first | exact List.mem_cons_self | refine List.mem_cons_of_mem _ ?_ | refine mem_seg ?_))) (by rw [← List.map_drop, ← List.map_take]) (by rw [List.length_map]; exact take_len hpm hi) ?_
    refine Tr.callV rfl rfl rfl rfl Body136 (sha_Piece (runW k st (padB F) i) (by rw [runW_length]; exact hst) ((padB F).drop (128 * i) |>.take 128) (take_len hpm hi) A w k R hA hwp hw hk hk80 hR) (fun _ _ => trivial) ?_
    refine Tr.storeAll rfl rfl rfl rfl (by simp [isCell]) Sz149 (by first | (rw [List.length_map, addUp_length, runW_length]; exact hst) | (rw [List.length_map, runW_length]; exact hst) | (rw [runW_length]; exact hst)) (by first | exact mem0 | exact mem1 | exact mem2 | exact mem3 | exact mem4 | exact mem5 | exact mem6 | exact mem7 | (repeat (first | exact List.mem_cons_self | refine List.mem_cons_of_mem _ ?_ | refine mem_seg ?_))) (by first | (rw [List.length_map, addUp_length, runW_length]; exact hst) | (rw [List.length_map, runW_length]; exact hst)) (by first | exact upd0 | exact upd1 | exact upd2 | exact upd3 | exact upd4 | exact upd5 | exact upd6 | exact upd7 | (repeat (first | exact upd0 | apply Upd.tail | apply Upd.seg))) ?_
    refine Tr.nil ?_
    rw [e1]
  ·
    intro D W2
    refine Sat.seq ?_
    -- region 4
    refine Sat.region ?_
    first
      | refine Tr.loadAll rfl rfl rfl Try.underlying149 rfl Sz149 (by first | exact mem0 | exact mem1 | exact mem2 | exact mem3 | exact mem4 | exact mem5 | exact mem6 | exact mem7 | (repeat (first | exact List.mem_cons_self | refine List.mem_cons_of_mem _ ?_ | refine mem_seg ?_))) (by first | assumption | (simp [hst, hst2]; done) | (rw [bytesV, List.length_map]; assumption)) ?_
      | refine Tr.loadN _ rfl rfl rfl Try.underlying149 rfl Sz149 (by first | exact mem0 | exact mem1 | exact mem2 | exact mem3 | exact mem4 | exact mem5 | exact mem6 | exact mem7 | (repeat (first | exact List.mem_cons_self | refine List.mem_cons_of_mem _ ?_ | refine mem_seg ?_))) (by exact rfl) (by first | assumption | (simp [hst, hst2]; done) | (rw [bytesV, List.length_map]; assumption)) ?_
    first
      | refine Tr.storeAll rfl rfl rfl rfl (by first | exact bytesV_cell _ | simp [isCell]) Sz149 (by first | assumption | (simp [hst, hst2]; done) | (rw [bytesV, List.length_map]; assumption)) (by first | exact mem0 | exact mem1 | exact mem2 | exact mem3 | exact mem4 | exact mem5 | exact mem6 | exact mem7 | (repeat (first | exact List.mem_cons_self | refine List.mem_cons_of_mem _ ?_ | refine mem_seg ?_))) (by first | assumption | (simp [hst, hst2]; done) | (rw [bytesV, List.length_map]; assumption)) (by first | exact upd0 | exact upd1 | exact upd2 | exact upd3 | exact upd4 | exact upd5 | exact upd6 | exact upd7 | (repeat (first | exact upd0 | apply Upd.tail | apply Upd.seg))) ?_
      | refine Tr.storeN _ rfl rfl rfl rfl rfl (by first | exact bytesV_cell _ | simp [isCell]) Sz149 (by first | assumption | (simp [hst, hst2]; done) | (rw [bytesV, List.length_map]; assumption)) (by first | exact mem0 | exact mem1 | exact mem2 | exact mem3 | exact mem4 | exact mem5 | exact mem6 | exact mem7 | (repeat (first | exact List.mem_cons_self | refine List.mem_cons_of_mem _ ?_ | refine mem_seg ?_))) (by first | assumption | (simp [hst, hst2]; done) | (rw [bytesV, List.length_map]; assumption)) (by exact rfl) (by first | exact upd0 | exact upd1 | exact upd2 | exact upd3 | exact upd4 | exact upd5 | exact upd6 | exact upd7 | (repeat (first | exact upd0 | apply Upd.tail | apply Upd.seg))) ?_
    refine Tr.nil ?_
    refine at_n ?_
    refine Sat.ret ?_
    refine enA_r ?_
    refine ⟨_, [], fun W names => res_cell rfl rfl Try.underlying149 rfl Sz149 (by first | exact mem0 | exact mem1 | exact mem2 | exact mem3 | exact mem4 | exact mem5 | exact mem6 | exact mem7 | (repeat (first | exact List.mem_cons_self | refine List.mem_cons_of_mem _ ?_ | refine mem_seg ?_))) (by simp [hst, hst2]), (by simp), (by simp), ?_⟩
    exact ⟨rfl, rfl⟩


theorem startW_length : startW.length = 8 := rfl
def xorUp : Nat → List UInt64
  | 0 => startW
  | i + 1 => (xorUp i).set i ((xorUp i).getD i 0 ^^^ 11936128518282651045)
theorem xorUp_length : ∀ i, (xorUp i).length = 8
  | 0 => rfl
  | i + 1 => by rw [xorUp, List.length_set, xorUp_length i]
/-- the bytes of 'SHA-512/256' -/
def shaTag : List UInt8 := [83, 72, 65, 45, 53, 49, 50, 47, 50, 53, 54]
def shaI : List UInt64 := allW kW (xorUp 8) shaTag
theorem shaI_length : shaI.length = 8 := by rw [shaI, allW_length, xorUp_length]
/-- SHA-512/256 -/
def sha256 (l : List UInt8) : List UInt8 := (sumUp (allW kW shaI l) 64).take 32
theorem sha256_length (l : List UInt8) : (sha256 l).length = 32 := by rw [sha256, List.length_take, sumUp_length]; rfl


set_option maxRecDepth 100000 in
set_option maxHeartbeats 4000000 in
theorem sha_StartShort (k s0 i0 : List UInt64) (G : List UInt8) (hk : Hid (kW = k)) (hk80 : k.length = 80) (hs0 : Hid (xorUp 8 = s0)) (hs8 : s0.length = 8) (hG : Hid (shaTag = G)) (hGl : G.length = 11) (hi0 : Hid (allW k s0 G = i0)) (hi8 : i0.length = 8)  : Meets Try.prog 95 [] [] (fun _ => True) (fun v out => v = agg (wordsV i0) ∧ out = []) := by
  intro W hW
  refine calls_of (hp0 := []) Try.func95 rfl 18 Try.ntmps95 rfl (HRep.nil _) ?_
  refine Sat.seq ?_
  -- region 0
  refine Sat.region ?_
  refine Tr.alloc (cs := (wordsV (List.replicate 8 0))) rfl Zr149 rfl ?_
  intro n0 hn0 hf0
  refine Tr.nil ?_
  refine at_n ?_
  refine Sat.seq ?_
  -- region 1
  refine Sat.region ?_
  refine Tr.callV rfl rfl rfl rfl Body137 (sha_Start) (fun _ _ => trivial) ?_
  refine Tr.alloc (cs := (wordsV (List.replicate 8 0))) rfl Zr149 rfl ?_
  intro n1 hn1 hf1
  first
    | refine Tr.storeAll rfl rfl rfl rfl (by first | exact bytesV_cell _ | simp [isCell]) Sz149 (by first | assumption | (simp [xorUp_length, hs8, hi8, startW_length]; done) | (rw [bytesV, List.length_map]; assumption)) (by first | exact mem0 | exact mem1 | exact mem2 | exact mem3 | exact mem4 | exact mem5 | exact mem6 | exact mem7 | (repeat (first | exact List.mem_cons_self | refine List.mem_cons_of_mem _ ?_ | refine mem_seg ?_))) (by first | assumption | (simp [xorUp_length, hs8, hi8, startW_length]; done) | (rw [bytesV, List.length_map]; assumption)) (by first | exact upd0 | exact upd1 | exact upd2 | exact upd3 | exact upd4 | exact upd5 | exact upd6 | exact upd7 | (repeat (first | exact upd0 | apply Upd.tail | apply Upd.seg))) ?_
    | refine Tr.storeN _ rfl rfl rfl rfl rfl (by first | exact bytesV_cell _ | simp [isCell]) Sz149 (by first | assumption | (simp [xorUp_length, hs8, hi8, startW_length]; done) | (rw [bytesV, List.length_map]; assumption)) (by first | exact mem0 | exact mem1 | exact mem2 | exact mem3 | exact mem4 | exact mem5 | exact mem6 | exact mem7 | (repeat (first | exact List.mem_cons_self | refine List.mem_cons_of_mem _ ?_ | refine mem_seg ?_))) (by first | assumption | (simp [xorUp_length, hs8, hi8, startW_length]; done) | (rw [bytesV, List.length_map]; assumption)) (by exact rfl) (by first | exact upd0 | exact upd1 | exact upd2 | exact upd3 | exact upd4 | exact upd5 | exact upd6 | exact upd7 | (repeat (first | exact upd0 | apply Upd.tail | apply Upd.seg))) ?_
  refine Tr.nil ?_
  refine at_n ?_
  refine Sat.seq ?_
  refine Sat.seq ?_
  -- region 2
  refine Sat.region ?_
  refine Tr.move rfl rfl rfl ?_
  refine Tr.nil ?_
  refine at_n ?_
  refine Sat.block ?_
  refine Sat.loop (ι := Nat) (fun j => ⟨[(0, ptr n0 0), (1, ptr n1 0), (4, i64 (j : Int))], [⟨n1, wordsV (xorUp j), 149, 8⟩, ⟨n0, wordsV (List.replicate 8 0), 149, 8⟩]⟩) (fun j => j ≤ 8) (fun j => 8 - j) (0) ?_ ?_ ?_
  · omega
  · exact weak_perm (wk1 rfl (wk1 rfl (wk1 rfl wk0))) (pm_cons (by repeat (first | exact rem_here | apply rem_there | apply rem_seg)) (pm_cons (by repeat (first | exact rem_here | apply rem_there | apply rem_seg)) pm_nil))
  ·
    rintro j hi
    have hlj := xorUp_length j
    refine Sat.seq ?_
    -- region 3
    refine Sat.region ?_
    refine Tr.lss rfl rfl rfl rfl rfl ?_
    refine Tr.nil ?_
    refine at_n ?_
    refine Sat.seq ?_
    first
      | refine Sat.condP rfl (fun hc0 => ?_) (fun hc0 => ?_)
      | refine Sat.condNP rfl (fun hc0 => ?_) (fun hc0 => ?_)
      | refine Sat.cond rfl (fun hc0 => ?_) (fun hc0 => ?_)
    ·
      refine Sat.skip ?_
      refine at_n ?_
      refine Sat.seq ?_
      refine Sat.block ?_
      refine Sat.seq ?_
      -- region 4
      refine Sat.region ?_
      refine Tr.move rfl rfl rfl ?_
      refine Tr.assign rfl rfl rfl ?_
      refine Tr.nil ?_
      refine at_n ?_
      -- region 5
      refine Sat.region ?_
      refine Tr.move rfl rfl rfl ?_
      first
        | refine Tr.idxArr1 rfl rfl rfl rfl Try.underlying149 Sz24 _ rfl (by omega) ?_
        | refine Tr.idxArrO rfl rfl rfl rfl Try.underlying149 Sz24 _ rfl (by omega) ?_
        | refine Tr.idxArr1 rfl rfl rfl rfl Try.underlying149 Sz24 _ (toNat_back (by omega)) (by omega) ?_
        | refine Tr.idxArrO rfl rfl rfl rfl Try.underlying149 Sz24 _ (toNat_back (by omega)) (by omega) ?_
      refine Tr.load1 rfl rfl rfl Try.underlying24 rfl (by first | exact mem0 | exact mem1 | exact mem2 | exact mem3 | exact mem4 | exact mem5 | exact mem6 | exact mem7 | (repeat (first | exact List.mem_cons_self | refine List.mem_cons_of_mem _ ?_ | refine mem_seg ?_))) (by first | rfl | exact get_words (by first | omega | (simp [xorUp_length, hs8, hi8, startW_length]; done) | (simp [xorUp_length, hs8, hi8, startW_length]; omega)) | exact get_bytes (by first | omega | (simp [xorUp_length, hs8, hi8, startW_length]; done) | (simp [xorUp_length, hs8, hi8, startW_length]; omega)) | exact get_ints (by first | omega | (simp [xorUp_length, hs8, hi8, startW_length]; done) | (simp [xorUp_length, hs8, hi8, startW_length]; omega))) ?_
      refine Tr.xor_u64 rfl rfl rfl (show evIn _ _ = some (u64 11936128518282651045) from rfl) ?_
      first
        | refine Tr.idxArr1 rfl rfl rfl rfl Try.underlying149 Sz24 _ rfl (by omega) ?_
        | refine Tr.idxArrO rfl rfl rfl rfl Try.underlying149 Sz24 _ rfl (by omega) ?_
        | refine Tr.idxArr1 rfl rfl rfl rfl Try.underlying149 Sz24 _ (toNat_back (by omega)) (by omega) ?_
        | refine Tr.idxArrO rfl rfl rfl rfl Try.underlying149 Sz24 _ (toNat_back (by omega)) (by omega) ?_
      refine Tr.store1 rfl rfl rfl rfl rfl Sz24 (by first | exact mem0 | exact mem1 | exact mem2 | exact mem3 | exact mem4 | exact mem5 | exact mem6 | exact mem7 | (repeat (first | exact List.mem_cons_self | refine List.mem_cons_of_mem _ ?_ | refine mem_seg ?_))) (by first | (simp [xorUp_length, hs8, hi8, startW_length]; done) | (simp [xorUp_length, hs8, hi8, startW_length]; omega)) (by first | exact set_words _ _ _ | exact set_bytes _ _ _ | exact set_ints _ _ _ | rfl) (by first | exact upd0 | exact upd1 | exact upd2 | exact upd3 | exact upd4 | exact upd5 | exact upd6 | exact upd7 | (repeat (first | exact upd0 | apply Upd.tail | apply Upd.seg))) ?_
      refine Tr.nil ?_
      refine bl_n ?_
      refine at_n ?_
      -- region 6
      refine Sat.region ?_
      refine Tr.add_i64 rfl rfl rfl rfl (by omega) ?_
      refine Tr.move rfl rfl rfl ?_
      refine Tr.nil ?_
      refine at_n ?_
      exact ⟨j + 1, by omega, by omega, weak_perm (wk1 rfl (wk1 rfl (wk1 rfl wk0))) (pm_cons (by repeat (first | exact rem_here | apply rem_there | apply rem_seg)) (pm_cons (by repeat (first | exact rem_here | apply rem_there | apply rem_seg)) pm_nil))⟩
    ·
      obtain rfl : j = 8 := by omega
      rw [hs0.out]
      clear hlj
      refine Sat.exit ?_
      refine at_x ?_
      refine at_x ?_
      refine bl_h ?_
      refine at_n ?_
      refine Sat.seq ?_
      -- region 7
      refine Sat.region ?_
      first
        | refine Tr.loadAll rfl rfl rfl Try.underlying149 rfl Sz149 (by first | exact mem0 | exact mem1 | exact mem2 | exact mem3 | exact mem4 | exact mem5 | exact mem6 | exact mem7 | (repeat (first | exact List.mem_cons_self | refine List.mem_cons_of_mem _ ?_ | refine mem_seg ?_))) (by first | assumption | (simp [xorUp_length, hs8, hi8, startW_length]; done) | (rw [bytesV, List.length_map]; assumption)) ?_
        | refine Tr.loadN _ rfl rfl rfl Try.underlying149 rfl Sz149 (by first | exact mem0 | exact mem1 | exact mem2 | exact mem3 | exact mem4 | exact mem5 | exact mem6 | exact mem7 | (repeat (first | exact List.mem_cons_self | refine List.mem_cons_of_mem _ ?_ | refine mem_seg ?_))) (by exact rfl) (by first | assumption | (simp [xorUp_length, hs8, hi8, startW_length]; done) | (rw [bytesV, List.length_map]; assumption)) ?_
      refine Tr.mkRow (z := u8 0) [u8 83, u8 72, u8 65, u8 45, u8 53, u8 49, u8 50, u8 47, u8 50, u8 53, u8 54] (bytesV shaTag) rfl rfl rfl Try.underlying27 Sz5 Zr5 rfl rfl (by intro v hv; simp only [List.mem_cons, List.not_mem_nil, or_false] at hv; rcases hv with rfl | rfl | rfl | rfl | rfl | rfl | rfl | rfl | rfl | rfl | rfl <;> rfl) (by decide) rfl ?_
      intro q14
      rw [hG.out]
      refine Tr.constB rfl rfl rfl rfl Try.underlying27 Try.underlying5 (by first | exact mem0 | exact mem1 | exact mem2 | exact mem3 | exact mem4 | exact mem5 | exact mem6 | exact mem7 | (repeat (first | exact List.mem_cons_self | refine List.mem_cons_of_mem _ ?_ | refine mem_seg ?_))) ?_
      refine Tr.mkRow (z := .slice none 0 0) [.slice (some ⟨q14, 0, none⟩) 11 11] [.slice (some ⟨q14, 0, none⟩) 11 11] rfl rfl rfl Try.underlying57 Sz27 Zr27 rfl rfl (by intro v hv; rw [List.mem_singleton.1 hv]; rfl) (by decide) rfl ?_
      intro q16
      refine Tr.callV rfl rfl rfl rfl Body94 (sha_whole s0 hs8 k hk hk80 (some ⟨q16, 0, none⟩) 1 1 [⟨some ⟨q14, 0, none⟩, 11, 11⟩] [G] rfl rfl (fun j hj => (by obtain rfl : j = 0 := (by omega); exact ⟨by simp [hGl], fun e => by cases e⟩)) G (by simp) (by omega) (by decide)) (fun w h => ⟨SeesP.of (sees_own h (by first | exact mem0 | exact mem1 | exact mem2 | exact mem3 | exact mem4 | exact mem5 | exact mem6 | exact mem7 | (repeat (first | exact List.mem_cons_self | refine List.mem_cons_of_mem _ ?_ | refine mem_seg ?_)))), fun j hj => (by obtain rfl : j = 0 := (by omega); exact SeesP.of (sees_own h (by first | exact mem0 | exact mem1 | exact mem2 | exact mem3 | exact mem4 | exact mem5 | exact mem6 | exact mem7 | (repeat (first | exact List.mem_cons_self | refine List.mem_cons_of_mem _ ?_ | refine mem_seg ?_)))))⟩) ?_
      rw [hi0.out]
      first
        | refine Tr.storeAll rfl rfl rfl rfl (by first | exact bytesV_cell _ | simp [isCell]) Sz149 (by first | assumption | (simp [xorUp_length, hs8, hi8, startW_length]; done) | (rw [bytesV, List.length_map]; assumption)) (by first | exact mem0 | exact mem1 | exact mem2 | exact mem3 | exact mem4 | exact mem5 | exact mem6 | exact mem7 | (repeat (first | exact List.mem_cons_self | refine List.mem_cons_of_mem _ ?_ | refine mem_seg ?_))) (by first | assumption | (simp [xorUp_length, hs8, hi8, startW_length]; done) | (rw [bytesV, List.length_map]; assumption)) (by first | exact upd0 | exact upd1 | exact upd2 | exact upd3 | exact upd4 | exact upd5 | exact upd6 | exact upd7 | (repeat (first | exact upd0 | apply Upd.tail | apply Upd.seg))) ?_
        | refine Tr.storeN _ rfl rfl rfl rfl rfl (by first | exact bytesV_cell _ | simp [isCell]) Sz149 (by first | assumption | (simp [xorUp_length, hs8, hi8, startW_length]; done) | (rw [bytesV, List.length_map]; assumption)) (by first | exact mem0 | exact mem1 | exact mem2 | exact mem3 | exact mem4 | exact mem5 | exact mem6 | exact mem7 | (repeat (first | exact List.mem_cons_self | refine List.mem_cons_of_mem _ ?_ | refine mem_seg ?_))) (by first | assumption | (simp [xorUp_length, hs8, hi8, startW_length]; done) | (rw [bytesV, List.length_map]; assumption)) (by exact rfl) (by first | exact upd0 | exact upd1 | exact upd2 | exact upd3 | exact upd4 | exact upd5 | exact upd6 | exact upd7 | (repeat (first | exact upd0 | apply Upd.tail | apply Upd.seg))) ?_
      refine Tr.nil ?_
      refine at_n ?_
      refine Sat.ret ?_
      refine en_r ?_
      refine ⟨_, [], res_cell rfl rfl Try.underlying149 rfl Sz149 (by first | exact mem0 | exact mem1 | exact mem2 | exact mem3 | exact mem4 | exact mem5 | exact mem6 | exact mem7 | (repeat (first | exact List.mem_cons_self | refine List.mem_cons_of_mem _ ?_ | refine mem_seg ?_))) (by simp [xorUp_length, hs8, hi8, startW_length]), (by simp), (by simp), ?_, rfl⟩
      rfl

set_option maxRecDepth 100000 in
set_option maxHeartbeats 4000000 in
theorem sha_Sum (k s0 i0 : List UInt64) (G : List UInt8) (hk : Hid (kW = k)) (hk80 : k.length = 80) (hs0 : Hid (xorUp 8 = s0)) (hs8 : s0.length = 8) (hG : Hid (shaTag = G)) (hGl : G.length = 11) (hi0 : Hid (allW k s0 G = i0)) (hi8 : i0.length = 8) (p : Option Addr) (n c : Nat) (ss : List Sl) (ls : List (List UInt8)) (hss : ss.length = n) (hls : ls.length = n) (hsl : ∀ j, j < n → (ss.getD j Sl.nil).n = (ls.getD j []).length ∧ ((ss.getD j Sl.nil).p = none → (ss.getD j Sl.nil).n = 0)) (F : List UInt8) (hF : ls.flatten = F) (htot : F.length ≤ 90000) (hn : n ≤ 1000000) (r : List UInt64) (hr : Hid (allW k i0 F = r)) (s : List UInt8) (hs : Hid (sumUp r 64 = s))  : Meets Try.prog 46 [.slice p n c] [] (fun W => SeesP W p (ss.map Sl.v) ∧ ∀ j, j < n → SeesP W (ss.getD j Sl.nil).p (bytesV (ls.getD j []))) (fun v out => v = agg (bytesV (s.take 32)) ∧ out = []) := by
  intro W hW
  have hr8 : r.length = 8 := by rw [← hr.out, allW_length]; exact hi8
  have hs64 : s.length = 64 := by rw [← hs.out]; exact sumUp_length r 64
  have hs32 : (s.take 32).length = 32 := by rw [List.length_take, hs64]; rfl
  refine calls_of (hp0 := []) Try.func46 rfl 11 Try.ntmps46 rfl (HRep.nil _) ?_
  refine Sat.seq ?_
  -- region 0
  refine Sat.region ?_
  refine Tr.alloc (cs := (bytesV (List.replicate 32 0))) rfl Zr25 rfl ?_
  intro n2 hn2 hf2
  refine Tr.nil ?_
  refine at_n ?_
  refine Sat.seq ?_
  -- region 1
  refine Sat.region ?_
  refine Tr.callV rfl rfl rfl rfl Body95 (sha_StartShort k s0 i0 G hk hk80 hs0 hs8 hG hGl hi0 hi8) (fun _ _ => trivial) ?_
  refine Tr.move rfl rfl rfl ?_
  refine Tr.callV rfl rfl rfl rfl Body94 (sha_whole i0 hi8 k hk hk80 p n c ss ls hss hls hsl F hF htot hn) (fun w h => ⟨seesP_ext h rfl hW.1, fun j hj => seesP_ext h rfl (hW.2 j hj)⟩) ?_
  rw [hr.out]
  refine Tr.callV rfl rfl rfl rfl Body93 (sha_sum r hr8 s hs) (fun _ _ => trivial) ?_
  refine Tr.alloc (cs := (bytesV (List.replicate 64 0))) rfl Zr28 rfl ?_
  intro n3 hn3 hf3
  first
    | refine Tr.storeAll rfl rfl rfl rfl (by first | exact bytesV_cell _ | simp [isCell]) Sz28 (by first | assumption | (simp [hs64, hs32]; done) | (rw [bytesV, List.length_map]; assumption)) (by first | exact mem0 | exact mem1 | exact mem2 | exact mem3 | exact mem4 | exact mem5 | exact mem6 | exact mem7 | (repeat (first | exact List.mem_cons_self | refine List.mem_cons_of_mem _ ?_ | refine mem_seg ?_))) (by first | assumption | (simp [hs64, hs32]; done) | (rw [bytesV, List.length_map]; assumption)) (by first | exact upd0 | exact upd1 | exact upd2 | exact upd3 | exact upd4 | exact upd5 | exact upd6 | exact upd7 | (repeat (first | exact upd0 | apply Upd.tail | apply Upd.seg))) ?_
    | refine Tr.storeN _ rfl rfl rfl rfl rfl (by first | exact bytesV_cell _ | simp [isCell]) Sz28 (by first | assumption | (simp [hs64, hs32]; done) | (rw [bytesV, List.length_map]; assumption)) (by first | exact mem0 | exact mem1 | exact mem2 | exact mem3 | exact mem4 | exact mem5 | exact mem6 | exact mem7 | (repeat (first | exact List.mem_cons_self | refine List.mem_cons_of_mem _ ?_ | refine mem_seg ?_))) (by first | assumption | (simp [hs64, hs32]; done) | (rw [bytesV, List.length_map]; assumption)) (by exact rfl) (by first | exact upd0 | exact upd1 | exact upd2 | exact upd3 | exact upd4 | exact upd5 | exact upd6 | exact upd7 | (repeat (first | exact upd0 | apply Upd.tail | apply Upd.seg))) ?_
  refine Tr.nil ?_
  refine at_n ?_
  refine Sat.seq ?_
  -- region 2
  refine Sat.region ?_
  refine Tr.sliceArrHi 32 rfl rfl rfl rfl rfl (by decide) (by decide) Try.underlying28 Sz5 ?_
  refine Tr.s2a rfl rfl rfl Try.underlying25 (by omega) ?_
  refine Tr.loadN (bytesV (s.take 32)) rfl rfl rfl Try.underlying25 rfl Sz25 (by first | exact mem0 | exact mem1 | exact mem2 | exact mem3 | exact mem4 | exact mem5 | exact mem6 | exact mem7 | (repeat (first | exact List.mem_cons_self | refine List.mem_cons_of_mem _ ?_ | refine mem_seg ?_))) (by rw [List.drop_zero, ← List.map_take]) (by rw [List.length_map]; exact hs32) ?_
  first
    | refine Tr.storeAll rfl rfl rfl rfl (by first | exact bytesV_cell _ | simp [isCell]) Sz25 (by first | assumption | (simp [hs64, hs32]; done) | (rw [bytesV, List.length_map]; assumption)) (by first | exact mem0 | exact mem1 | exact mem2 | exact mem3 | exact mem4 | exact mem5 | exact mem6 | exact mem7 | (repeat (first | exact List.mem_cons_self | refine List.mem_cons_of_mem _ ?_ | refine mem_seg ?_))) (by first | assumption | (simp [hs64, hs32]; done) | (rw [bytesV, List.length_map]; assumption)) (by first | exact upd0 | exact upd1 | exact upd2 | exact upd3 | exact upd4 | exact upd5 | exact upd6 | exact upd7 | (repeat (first | exact upd0 | apply Upd.tail | apply Upd.seg))) ?_
    | refine Tr.storeN _ rfl rfl rfl rfl rfl (by first | exact bytesV_cell _ | simp [isCell]) Sz25 (by first | assumption | (simp [hs64, hs32]; done) | (rw [bytesV, List.length_map]; assumption)) (by first | exact mem0 | exact mem1 | exact mem2 | exact mem3 | exact mem4 | exact mem5 | exact mem6 | exact mem7 | (repeat (first | exact List.mem_cons_self | refine List.mem_cons_of_mem _ ?_ | refine mem_seg ?_))) (by first | assumption | (simp [hs64, hs32]; done) | (rw [bytesV, List.length_map]; assumption)) (by exact rfl) (by first | exact upd0 | exact upd1 | exact upd2 | exact upd3 | exact upd4 | exact upd5 | exact upd6 | exact upd7 | (repeat (first | exact upd0 | apply Upd.tail | apply Upd.seg))) ?_
  refine Tr.nil ?_
  refine at_n ?_
  refine Sat.ret ?_
  refine en_r ?_
  refine ⟨_, [], res_cell rfl rfl Try.underlying25 rfl Sz25 (by first | exact mem0 | exact mem1 | exact mem2 | exact mem3 | exact mem4 | exact mem5 | exact mem6 | exact mem7 | (repeat (first | exact List.mem_cons_self | refine List.mem_cons_of_mem _ ?_ | refine mem_seg ?_))) (by simp [hs64, hs32]), (by simp), (by simp), ?_, rfl⟩
  rfl

end Go.Proofs.Ytejjamifnombhaa
