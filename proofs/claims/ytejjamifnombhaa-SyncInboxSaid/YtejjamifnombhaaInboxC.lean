/- headwaterlaw25.SyncInbox returns true at every input, and all that it reads reads behind the call as before. Conditions: none beyond the given statement's own. -/
import Derived.WalkKit
import Derived.Orders
import Derived.Deep.LoopGhost
import Derived.IntWalk
import Derived.Laws.StructEq
import Derived.ArgAppend
import Derived.Deep.AppendSrc
import Derived.Lib.Bytealg
import Derived.Lib.BytesEntry
import Derived.Laws.IdiomStrings
import Derived.WideKeyArr2
import Derived.ProofKit
import Derived.OpenShut
import Derived.Deep.Slices
import Derived.Laws.Pointers
import Derived.Laws.Cover3
import Derived.LaidEqlPtr
import Derived.LoopN
import Derived.RangeFuncLeaves
import Derived.RangeFuncSeq
import Derived.OrdersIn
import Derived.Test.YtejjamifnombhaaRows
import Derived.KernelRfl
import Derived.Laws.Externs
import Derived.ChangeOld
import Derived.Below
import Derived.Test.YtejjamifnombhaaInboxC4
section
namespace Go.Proofs.Ytejjamifnombhaa
open Go Hw
set_option linter.unusedVariables false
set_option linter.unusedSimpArgs false


structure Gh where
  i : Nat
  X : Sl
  oX : List Blk
  want : Sl
  bw : List Blk
  ws : List Sl
  ow : List Blk
  q : List (List UInt8)
/-- what holds between the rounds -/
structure GhI (W : World) (n : Nat) (p : Gh) : Prop where
  le : p.i ≤ n
  lx : ∀ W2, Lies p.oX W2 → ListsAt W2 p.X p.q
  aw : AccO p.want p.bw (p.ws.map Sl.v) 27 p.q.length
  nw : p.ws.length = p.q.length
  lw : ∀ w, Keeps [] W w → Lies p.ow w → ∀ (j : Nat) (r : Sl) (d : List UInt8), p.ws[j]? = some r → p.q[j]? = some d → BytesAt w r d
  lens : ∀ (j : Nat) (r : Sl) (d : List UInt8), p.ws[j]? = some r → p.q[j]? = some d → d.length = r.n
  small : p.q.length ≤ 64
  short : ∀ d ∈ p.q, d.length ≤ 16384
theorem flat_map (ws : List Sl) : (ws.map LC).flatten = ws.map Sl.v := by
  induction ws with
  | nil => rfl
  | cons w ws ih => rw [List.map_cons, List.flatten_cons, ih]; rfl
section
variable {W : World} {n i : Nat} {X X' want want' : Sl} {oX oX' bw bw' ow ob : List Blk} {ws : List Sl} {q : List (List UInt8)} {w0 sb : Sl} {q0 db : List UInt8}
theorem GhI.first : GhI W n ⟨0, Sl.nil, [], Sl.nil, [], [], [], []⟩ := ⟨Nat.zero_le _, fun _ _ => lists_nil, AccO.none, rfl, fun w _ _ j r d h => (by simp at h), fun j r d h => (by simp at h), Nat.zero_le _, fun d h => (by cases h)⟩
theorem GhI.next (h : GhI W n ⟨i, X, oX, want, bw, ws, ow, q⟩) (hi : i < n) : GhI W n ⟨i + 1, X, oX, want, bw, ws, ow, q⟩ := ⟨hi, h.lx, h.aw, h.nw, h.lw, h.lens, h.small, h.short⟩
theorem GhI.pop (h : GhI W n ⟨i, X, oX, want, bw, w0 :: ws, ow, q0 :: q⟩) (hX : ∀ W2, Lies oX' W2 → ListsAt W2 X' q) (ha : AccO want' bw' (ws.map Sl.v) 27 q.length) : GhI W n ⟨i, X', oX', want', bw', ws, ow, q⟩ :=
  ⟨h.le, hX, ha, by have := h.nw; simpa using this, fun w hk hl j r d hr hd => h.lw w hk hl (j + 1) r d (by simpa using hr) (by simpa using hd), fun j r d hr hd => h.lens (j + 1) r d (by simpa using hr) (by simpa using hd), by have := h.small; simp at this; simp only []; omega, fun d hd => h.short d (List.mem_cons_of_mem _ hd)⟩
theorem GhI.push (h : GhI W n ⟨i, X, oX, want, bw, ws, ow, q⟩) (hX : ∀ W2, Lies oX' W2 → ListsAt W2 X' (q ++ [db])) (ha : AccO want' bw' (ws.map Sl.v ++ [sb.v]) 27 (q.length + 1)) (hb : ∀ w, Keeps [] W w → Lies ob w → BytesAt w sb db) (hl : db.length = sb.n) (h1 : q.length < 64) (h2 : db.length ≤ 16384) : GhI W n ⟨i, X', oX', want', bw', ws ++ [sb], ob ++ ow, q ++ [db]⟩ := by
  have hn : ws.length = q.length := h.nw
  refine ⟨h.le, hX, by simpa using ha, by simp [hn], fun w hk hl' j r d hr hd => ?_, fun j r d hr hd => ?_, by simp only [List.length_append, List.length_cons, List.length_nil]; omega, fun d hd => ?_⟩
  · simp only at hr hd hl'
    by_cases hj : j < q.length
    · rw [List.getElem?_append_left (by omega)] at hr hd
      exact h.lw w hk (hl'.sub fun b hb => List.mem_append_right _ hb) j r d hr hd
    · rw [List.getElem?_append_right (by omega)] at hr hd
      obtain ⟨e, -⟩ := List.getElem?_eq_some_iff.1 hd
      simp at e
      have e0 : j - ws.length = 0 := by omega
      have e1 : j - q.length = 0 := by omega
      rw [e0] at hr
      rw [e1] at hd
      simp at hr hd
      subst hr; subst hd
      exact hb w hk (hl'.sub fun b hb => List.mem_append_left _ hb)
  · simp only at hr hd
    by_cases hj : j < q.length
    · rw [List.getElem?_append_left (by omega)] at hr hd
      exact h.lens j r d hr hd
    · rw [List.getElem?_append_right (by omega)] at hr hd
      obtain ⟨e, -⟩ := List.getElem?_eq_some_iff.1 hd
      simp at e
      have e0 : j - ws.length = 0 := by omega
      have e1 : j - q.length = 0 := by omega
      rw [e0] at hr
      rw [e1] at hd
      simp at hr hd
      subst hr; subst hd
      exact hl
  · rcases List.mem_append.1 hd with hd | hd
    · exact h.short d hd
    · rw [List.mem_singleton.1 hd]; exact h2
theorem GhI.wl (h : GhI W n ⟨i, X, oX, want, bw, ws, ow, q⟩) {w : World} (hk : Keeps [] W w) (h1 : Lies bw w) (h2 : Lies ow w) : ListsAt w want q :=
  ⟨ws, by rw [h.nw, h.aw.num], by rw [h.aw.num], fun j r d hr hd => h.lw w hk h2 j r d hr hd, fun r _ => rfl, h.aw.cap, by rw [flat_map]; exact h.aw.see h1, by rw [h.aw.num]; have h2 : q.length ≤ 64 := h.small; simp only [maxLen]; omega, h.aw.nilc⟩
theorem GhI.good (h : GhI W n ⟨i, X, oX, want, bw, ws, ow, q⟩) : goodI q = true := good_iff.2 ⟨h.small, h.short⟩
theorem GhI.num (h : GhI W n ⟨i, X, oX, want, bw, ws, ow, q⟩) : want.n = q.length := h.aw.num
end
theorem bytes_keep {W w : World} {s : Sl} {l : List UInt8} (h : BytesAt W s l) (k : Keeps [] W w) : BytesAt w s l :=
  ⟨h.len, h.cap, fun j v hj => by obtain ⟨b, o, e, hc⟩ := h.see j v hj; exact ⟨b, o, e, k.cell (by simp) hc⟩, h.max, h.nil⟩
theorem lists_made {w : World} {b : Nat} (hs : Sees w b 0 (List.replicate 65 (.slice none 0 0))) : ListsAt w ⟨some ⟨b, 0, none⟩, 65, 65⟩ (List.replicate 65 []) :=
  ⟨List.replicate 65 Sl.nil, by simp, by simp, fun j r d hr hd => by
    obtain ⟨_, rfl⟩ := List.getElem?_eq_some_iff.1 hr
    obtain ⟨_, rfl⟩ := List.getElem?_eq_some_iff.1 hd
    simp only [List.getElem_replicate]
    exact bytes_nil, fun r _ => rfl, Nat.le_refl _, by rw [flat_map, List.map_replicate]; exact SeesP.of hs, (show 65 ≤ maxLen by decide), fun e => by cases e⟩
theorem lists_one {w : World} {b : Nat} {r : Sl} {d : List UInt8} (hs : Sees w b 0 [Sl.v r]) (h : BytesAt w r d) : ListsAt w ⟨some ⟨b, 0, none⟩, 1, 1⟩ [d] :=
  ⟨[r], rfl, rfl, fun j r' d' hr hd => by
    obtain ⟨e, rfl⟩ := List.getElem?_eq_some_iff.1 hr
    obtain ⟨_, rfl⟩ := List.getElem?_eq_some_iff.1 hd
    simp at e
    subst e
    exact h, fun r _ => rfl, Nat.le_refl _, SeesP.of hs, (show 1 ≤ maxLen by decide), fun e => by cases e⟩
theorem push_over : pushE (List.replicate 65 []) [] = 2 := by
  have h : goodI (List.replicate 65 []) = false := by decide
  rw [pushE, if_neg (by rw [h]; decide)]
theorem pop_over {d : List UInt8} (h : d.length = 16385) : popE [d] = 2 := by
  have h : goodI [d] = false := by
    cases e : goodI [d]
    · rfl
    · have := (good_iff.1 e).2 d (by simp)
      omega
  rw [popE, if_neg (by rw [h]; decide)]
theorem push_long {q : List (List UInt8)} {d : List UInt8} (h : goodI q = true) (h1 : 16384 < d.length) : pushE q d = 3 := by rw [pushE, if_pos h, if_pos (by omega)]
theorem push_full {q : List (List UInt8)} {d : List UInt8} (h : goodI q = true) (h1 : d.length ≤ 16384) (h2 : q.length = 64) : pushE q d = 7 := by rw [pushE, if_pos h, if_neg (by omega), if_pos (by omega)]
theorem push_fits {q : List (List UInt8)} {d : List UInt8} (h : goodI q = true) (h1 : d.length ≤ 16384) (h2 : q.length < 64) : pushE q d = 0 := by rw [pushE, if_pos h, if_neg (by omega), if_neg (by omega)]
theorem pop_none {q : List (List UInt8)} (h : goodI q = true) (h1 : q.length = 0) : popE q = 6 := by rw [popE, if_pos h, if_pos (by omega)]
theorem pop_some {q : List (List UInt8)} (h : goodI q = true) (h1 : ¬ q.length = 0) : popE q = 0 := by rw [popE, if_pos h, if_neg (by omega)]



theorem long_bytes {q c : Nat} {r : Sl} {d : List UInt8} {w : World} (hdl : d.length = r.n) (hq : r.n + 16384 ≤ c) (h3 : d.length ≤ 300) (hl : Lies [⟨q, bytesV d ++ List.replicate 16384 (u8 0), 5, c⟩] w) : BytesAt w ⟨some ⟨q, 0, none⟩, r.n + 16384, c⟩ (d ++ List.replicate 16384 0) := by
  have e : bytesV (d ++ List.replicate 16384 0) = bytesV d ++ List.replicate 16384 (u8 0) := by rw [bytesV, List.map_append, List.map_replicate]
  refine acc_bytes (Acc.some (E := 5) (cells := bytesV (d ++ List.replicate 16384 0)) hq ?_) ?_ (by rw [List.length_append, List.length_replicate, hdl]) (by omega)
  · rw [bytesV, List.length_map, List.length_append, List.length_replicate, hdl, Nat.mul_one]
  · rw [e, Nat.mul_one]; exact hl
theorem i64_of_wf {g : Int} (h : (Lit.int .i64 g).wf = true) : -9223372036854775808 ≤ g ∧ g ≤ 9223372036854775807 := by
  have h1 := h
  simp [Lit.wf] at h1
  have e1 : IntKind.i64.min = -9223372036854775808 := rfl
  have e2 : IntKind.i64.max = 9223372036854775807 := rfl
  omega


set_option maxRecDepth 100000 in
set_option maxHeartbeats 1000000 in
theorem kit_pick (g : Int) (h0 : 0 < g) (h1 : g ≤ 9223372036854775807) : Meets Try.prog 24 [i64 g, i64 40] [] (fun _ => True) (fun v out => v = i64 (g % 40) ∧ out = []) := by
  intro W hW
  refine calls_of (hp0 := []) Try.func24 rfl 16 Try.ntmps24 rfl (HRep.nil _) ?_
  refine Sat.seq ?_
  -- region 0
  refine Sat.region ?_
  refine Tr.assign rfl rfl rfl ?_
  refine Tr.nil ?_
  refine at_n ?_
  refine Sat.seq ?_
  refine Sat.seq ?_
  -- region 1
  refine Sat.region ?_
  refine Tr.move rfl rfl rfl ?_
  refine Tr.lss rfl rfl rfl rfl (decide_eq_false (by omega)) ?_
  refine Tr.nil ?_
  refine at_n ?_
  refine Sat.cond_f rfl (rfl) ?_
  refine Sat.skip ?_
  refine at_n ?_
  refine Sat.seq ?_
  -- region 3
  refine Sat.region ?_
  refine Tr.move rfl rfl rfl ?_
  refine Tr.move rfl rfl rfl ?_
  refine Tr.rem_i64 rfl rfl rfl rfl (by omega) ?_
  refine Tr.assign rfl rfl rfl ?_
  refine Tr.nil ?_
  refine at_n ?_
  refine Sat.seq ?_
  refine Sat.seq ?_
  -- region 4
  refine Sat.region ?_
  refine Tr.move rfl rfl rfl ?_
  refine Tr.lss rfl rfl rfl rfl rfl ?_
  refine Tr.nil ?_
  refine at_n ?_
  refine Sat.cond_f rfl (by simp; omega) ?_
  refine Sat.skip ?_
  refine at_n ?_
  refine Sat.seq ?_
  -- region 6
  refine Sat.region ?_
  refine Tr.move rfl rfl rfl ?_
  refine Tr.assign rfl rfl rfl ?_
  refine Tr.nil ?_
  refine at_n ?_
  refine Sat.ret ?_
  refine en_r ?_
  refine ⟨_, [], res_tmp rfl rfl, (by simp), (by simp), ?_, rfl⟩
  rfl

set_option maxRecDepth 100000 in
set_option maxHeartbeats 8000000 in
theorem law_inbox (s : Sl) (ds : List (List UInt8)) (g : Int) (wg : (Lit.int .i64 g).wf = true) : Meets Try.prog 5 [s.v, i64 g] [] (fun W => ListsAt W s ds) (fun v out => v = .bool true ∧ out = []) := by
  intro W hW
  obtain ⟨rs, hs⟩ := hW
  have hnd := hs.nd
  have hg9 : g ≤ 9223372036854775807 := (i64_of_wf wg).2
  obtain ⟨big, hbig⟩ : ∃ l : List UInt8, l = List.replicate 16385 0 := ⟨_, rfl⟩
  have hbigl : big.length = 16385 := by rw [hbig, List.length_replicate]
  refine calls_of (hp0 := []) Try.func5 rfl 144 Try.ntmps5 rfl (HRep.nil _) ?_
  refine Sat.seq ?_
  -- region 0
  refine Sat.region ?_
  refine Tr.assign rfl rfl rfl ?_
  refine Tr.nil ?_
  refine at_n ?_
  refine Sat.seq ?_
  refine Sat.seq ?_
  -- region 1
  refine Sat.region ?_
  refine Tr.callV rfl rfl rfl rfl Body16 (law25_lives) (fun _ _ => trivial) ?_
  refine Tr.not rfl rfl rfl ?_
  refine Tr.nil ?_
  refine at_n ?_
  refine Sat.cond_f rfl (rfl) ?_
  refine Sat.skip ?_
  refine at_n ?_
  refine Sat.seq ?_
  refine Sat.seq ?_
  -- region 3
  refine Sat.region ?_
  refine Tr.move rfl rfl rfl ?_
  refine Tr.lenSl rfl rfl rfl Try.underlying57 ?_
  refine Tr.gtr rfl rfl rfl rfl rfl ?_
  refine Tr.nil ?_
  refine at_n ?_
  first
    | refine Sat.condP rfl (fun hc1 => ?_) (fun hc1 => ?_)
    | refine Sat.condNP rfl (fun hc1 => ?_) (fun hc1 => ?_)
    | refine Sat.cond rfl (fun hc1 => ?_) (fun hc1 => ?_)
  ·
    refine Sat.seq ?_
    -- region 4
    refine Sat.region ?_
    refine Tr.assign rfl rfl rfl ?_
    refine Tr.nil ?_
    refine at_n ?_
    refine Sat.ret ?_
    refine at_r ?_
    refine en_r ?_
    refine ⟨_, [], res_tmp rfl rfl, (by simp), (by simp), ?_, rfl⟩
    rfl
  ·
    refine Sat.skip ?_
    refine at_n ?_
    refine Sat.seq ?_
    refine Sat.seq ?_
    -- region 5
    refine Sat.region ?_
    refine Tr.assign rfl rfl rfl ?_
    refine Tr.nil ?_
    refine at_n ?_
    refine Sat.block ?_
    refine Sat.loop (ι := Nat) (fun k => ⟨[(0, s.v), (1, i64 g), (5, i64 (k : Int))], []⟩) (fun k => k ≤ s.n ∧ ∀ (j : Nat) (d : List UInt8), j < k → ds[j]? = some d → d.length ≤ 300) (fun k => s.n - k) (0) ?_ ?_ ?_
    · exact ⟨by omega, fun j d hj => by omega⟩
    · exact weak_perm (wk1 rfl (wk1 rfl (wk1 rfl wk0))) pm_nil
    ·
      rintro k ⟨hk, hall⟩
      refine Sat.seq ?_
      refine Sat.seq ?_
      -- region 6
      refine Sat.region ?_
      refine Tr.move rfl rfl rfl ?_
      refine Tr.move rfl rfl rfl ?_
      refine Tr.lenSl rfl rfl rfl Try.underlying57 ?_
      refine Tr.lss rfl rfl rfl rfl rfl ?_
      refine Tr.nil ?_
      refine at_n ?_
      first
        | refine Sat.condP rfl (fun hc2 => ?_) (fun hc2 => ?_)
        | refine Sat.condNP rfl (fun hc2 => ?_) (fun hc2 => ?_)
        | refine Sat.cond rfl (fun hc2 => ?_) (fun hc2 => ?_)
      ·
        have hk2 : k < s.n := by omega
        obtain ⟨b, o, r, d, hsp, hr, hd, his, hlen, hsee⟩ := hs.at (by decide) hk2
        refine Sat.skip ?_
        refine at_n ?_
        refine Sat.seq ?_
        refine Sat.block ?_
        refine Sat.seq ?_
        -- region 8
        refine Sat.region ?_
        refine Tr.move rfl rfl rfl ?_
        refine Tr.move rfl rfl rfl ?_
        refine Tr.idxSlP 1 rfl rfl rfl hsp rfl Try.underlying57 Sz27 k (by omega) (by omega) ?_
        refine Tr.loadE rfl rfl rfl Try.underlying27 rfl (by first | (simp; done) | (simp; exact hW.2.2) | (simp [Cx.with]; done) | (simp [Cx.with]; omega)) (hsee 0 _ rfl) ?_
        refine Tr.lenSl rfl rfl rfl Try.underlying27 ?_
        refine Tr.gtr rfl rfl rfl rfl rfl ?_
        refine Tr.nil ?_
        refine at_n ?_
        first
          | refine Sat.condP rfl (fun hc3 => ?_) (fun hc3 => ?_)
          | refine Sat.condNP rfl (fun hc3 => ?_) (fun hc3 => ?_)
          | refine Sat.cond rfl (fun hc3 => ?_) (fun hc3 => ?_)
        ·
          refine Sat.seq ?_
          -- region 9
          refine Sat.region ?_
          refine Tr.assign rfl rfl rfl ?_
          refine Tr.nil ?_
          refine at_n ?_
          refine Sat.ret ?_
          refine bl_r ?_
          refine at_r ?_
          refine at_r ?_
          refine bl_r ?_
          refine at_r ?_
          refine en_r ?_
          refine ⟨_, [], res_tmp rfl rfl, (by simp), (by simp), ?_, rfl⟩
          rfl
        ·
          refine Sat.skip ?_
          refine bl_n ?_
          refine at_n ?_
          -- region 7
          refine Sat.region ?_
          refine Tr.move rfl rfl rfl ?_
          refine Tr.add_i64 rfl rfl rfl rfl (by omega) ?_
          refine Tr.assign rfl rfl rfl ?_
          refine Tr.nil ?_
          refine at_n ?_
          exact ⟨k + 1, ⟨by omega, fun j d' hj hd' => by
            rcases Nat.lt_succ_iff_lt_or_eq.1 hj with h | rfl
            · exact hall j d' h hd'
            · rw [hd] at hd'
              have := Option.some.inj hd'
              subst this
              have := his.len
              omega⟩, by omega, weak_perm (wk1 rfl (wk1 rfl (wk1 rfl wk0))) pm_nil⟩
      ·
        obtain rfl : k = s.n := by omega
        refine Sat.exit ?_
        refine at_x ?_
        refine at_x ?_
        refine bl_h ?_
        refine at_n ?_
        refine Sat.seq ?_
        -- region 10
        refine Sat.region ?_
        refine Tr.alloc (cs := Inbox.zero.cells) rfl Inbox.zr rfl ?_
        intro n6 hn6 hf6
        refine Tr.nil ?_
        refine at_n ?_
        refine Sat.seq ?_
        -- region 11
        refine Sat.region ?_
        refine Tr.assign rfl rfl rfl ?_
        refine Tr.nil ?_
        refine at_n ?_
        refine Sat.seq ?_
        refine Sat.seq ?_
        -- region 12
        refine Sat.region ?_
        refine Tr.assign rfl rfl rfl ?_
        refine Tr.nil ?_
        refine at_n ?_
        refine Sat.block ?_
        refine Sat.loop (ι := Gh) (fun p => ⟨[(0, s.v), (1, i64 g), (6, ptr n6 0), (7, p.want.v), (8, i64 (p.i : Int))], (⟨n6, (⟨p.X⟩ : Inbox).cells, 59, Inbox.zero.cells.length⟩ :: (p.oX ++ (p.bw ++ (p.ow ++ []))))⟩) (fun p => GhI W s.n p) (fun p => s.n - p.i) (⟨0, Sl.nil, [], Sl.nil, [], [], [], []⟩) ?_ ?_ ?_
        · exact GhI.first
        · exact weak_perm (wk1 rfl (wk1 rfl (wk1 rfl (wk1 rfl (wk1 rfl wk0))))) (pm_cons (by repeat (first | exact rem_here | apply rem_there | apply rem_seg)) (pm_none (pm_none (pm_none pm_nil))))
        ·
          rintro p hg
          obtain ⟨i, X, oX, want, bw, ws, ow, q⟩ := p
          dsimp only
          refine Sat.seq ?_
          refine Sat.seq ?_
          -- region 13
          refine Sat.region ?_
          refine Tr.move rfl rfl rfl ?_
          refine Tr.move rfl rfl rfl ?_
          refine Tr.lenSl rfl rfl rfl Try.underlying57 ?_
          refine Tr.lss rfl rfl rfl rfl rfl ?_
          refine Tr.nil ?_
          refine at_n ?_
          first
            | refine Sat.condP rfl (fun hc4 => ?_) (fun hc4 => ?_)
            | refine Sat.condNP rfl (fun hc4 => ?_) (fun hc4 => ?_)
            | refine Sat.cond rfl (fun hc4 => ?_) (fun hc4 => ?_)
          ·
            have hi2 : i < s.n := by omega
            obtain ⟨b, o, r, d, hsp, hr, hd, his, hlen, hsee⟩ := hs.at (by decide) hi2
            have hd3 : d.length ≤ 300 := hall i d hi2 hd
            have hdl := his.len
            refine Sat.skip ?_
            refine at_n ?_
            refine Sat.join (ι := Gh) (fun p3 => ⟨[(0, s.v), (1, i64 g), (6, ptr n6 0), (7, p3.want.v), (8, i64 (p3.i : Int))], (⟨n6, (⟨p3.X⟩ : Inbox).cells, 59, Inbox.zero.cells.length⟩ :: (p3.oX ++ (p3.bw ++ (p3.ow ++ []))))⟩) (fun p3 => GhI W s.n p3 ∧ i = p3.i) ?_ ?_
            ·
              refine Sat.block ?_
              refine Sat.seq ?_
              -- region 15
              refine Sat.region ?_
              refine Tr.move rfl rfl rfl ?_
              refine Tr.move rfl rfl rfl ?_
              refine Tr.idxSlP 1 rfl rfl rfl hsp rfl Try.underlying57 Sz27 i (by omega) (by omega) ?_
              refine Tr.loadE rfl rfl rfl Try.underlying27 rfl (by first | (simp; done) | (simp; exact hW.2.2) | (simp [Cx.with]; done) | (simp [Cx.with]; omega)) (hsee 0 _ rfl) ?_
              refine Tr.assign rfl rfl rfl ?_
              refine Tr.nil ?_
              refine at_n ?_
              refine Sat.join (ι := Unit) (fun _u => ⟨[(0, s.v), (1, i64 g), (6, ptr n6 0), (7, want.v), (8, i64 (i : Int)), (9, r.v)], (⟨n6, (⟨X⟩ : Inbox).cells, 59, Inbox.zero.cells.length⟩ :: (oX ++ (bw ++ (ow ++ []))))⟩) (fun _u => True) ?_ ?_
              ·
                refine Sat.seq ?_
                -- region 16
                refine Sat.region ?_
                refine Tr.move rfl rfl rfl ?_
                refine Tr.lenSl rfl rfl rfl Try.underlying27 ?_
                refine two (fun r hr k => Tr.eqi rfl rfl rfl rfl hr k) (fun hs16_20 => ?_) (fun hs16_20 => ?_)
                ·
                  first | have hs16_2 := of_decide_eq_true hs16_20 | have hs16_2 := of_decide_eq_false hs16_20 | have hs16_2 := nd_t hs16_20 | have hs16_2 := nd_f hs16_20 | have hs16_2 := hs16_20
                  refine Tr.move rfl rfl rfl ?_
                  refine Tr.move rfl rfl rfl ?_
                  refine Tr.rem_i64 rfl rfl rfl rfl (by omega) ?_
                  refine Tr.gtr rfl rfl rfl rfl rfl ?_
                  refine Tr.pick rfl rfl rfl rfl rfl rfl ?_
                  refine Tr.nil ?_
                  refine at_n ?_
                  first
                    | refine Sat.condP rfl (fun hc5 => ?_) (fun hc5 => ?_)
                    | refine Sat.condNP rfl (fun hc5 => ?_) (fun hc5 => ?_)
                    | refine Sat.cond rfl (fun hc5 => ?_) (fun hc5 => ?_)
                  ·
                    refine Sat.seq ?_
                    -- region 17
                    refine Sat.region ?_
                    refine Tr.loadAll rfl rfl rfl Try.underlying59 rfl Sz59 (by first | exact mem0 | exact mem1 | exact mem2 | exact mem3 | exact mem4 | exact mem5 | exact mem6 | exact mem7 | (repeat (first | exact List.mem_cons_self | refine List.mem_cons_of_mem _ ?_ | refine mem_seg ?_))) (Inbox.length (by first | assumption | (simp; done) | exact Block.zero_ok | exact Vote.zero_ok | exact Reader.zero_ok | exact Cut.zero_ok | exact Cert.zero_ok | exact Msg.zero_ok | exact Inbox.zero_ok | exact Record.zero_ok | exact Kept.zero_ok  | exact ⟨trivial⟩)) ?_
                    refine Tr.call4 rfl rfl rfl rfl rfl Body23 (sync_pop ⟨X⟩ q) (fun w h => hg.lx w (Lies.of h (by repeat (first | exact in_here | exact in_all | refine in_there ?_ | refine in_seg ?_)))) ?_
                    rintro v57 out57 ⟨s57, X57, rfl, hl57, h57⟩
                    refine Tr.move rfl rfl rfl ?_
                    refine Tr.extract rfl rfl rfl rfl ?_
                    refine Tr.extract rfl rfl rfl rfl ?_
                    refine Tr.extract rfl rfl rfl rfl ?_
                    refine Tr.alloc (cs := Inbox.zero.cells) rfl Inbox.zr rfl ?_
                    intro n11 hn11 hf11
                    refine Tr.assign rfl rfl rfl ?_
                    refine Tr.storeAll rfl rfl rfl rfl (Inbox.isCell (by first | assumption | (simp; done) | exact Block.zero_ok | exact Vote.zero_ok | exact Reader.zero_ok | exact Cut.zero_ok | exact Cert.zero_ok | exact Msg.zero_ok | exact Inbox.zero_ok | exact Record.zero_ok | exact Kept.zero_ok  | exact ⟨trivial⟩)) Sz59 (Inbox.length (by first | assumption | (simp; done) | exact Block.zero_ok | exact Vote.zero_ok | exact Reader.zero_ok | exact Cut.zero_ok | exact Cert.zero_ok | exact Msg.zero_ok | exact Inbox.zero_ok | exact Record.zero_ok | exact Kept.zero_ok  | exact ⟨trivial⟩)) (by first | exact mem0 | exact mem1 | exact mem2 | exact mem3 | exact mem4 | exact mem5 | exact mem6 | exact mem7 | (repeat (first | exact List.mem_cons_self | refine List.mem_cons_of_mem _ ?_ | refine mem_seg ?_))) (Inbox.length (by first | assumption | (simp; done) | exact Block.zero_ok | exact Vote.zero_ok | exact Reader.zero_ok | exact Cut.zero_ok | exact Cert.zero_ok | exact Msg.zero_ok | exact Inbox.zero_ok | exact Record.zero_ok | exact Kept.zero_ok  | exact ⟨trivial⟩)) (by first | exact upd0 | exact upd1 | exact upd2 | exact upd3 | exact upd4 | exact upd5 | exact upd6 | exact upd7 | (repeat (first | exact upd0 | apply Upd.tail | apply Upd.seg))) ?_
                    refine Tr.assign rfl rfl rfl ?_
                    refine Tr.nil ?_
                    refine at_n ?_
                    refine Sat.seq ?_
                    refine Sat.seq ?_
                    -- region 18
                    refine Sat.region ?_
                    refine Tr.move rfl rfl rfl ?_
                    refine Tr.lenSl rfl rfl rfl Try.underlying57 ?_
                    refine Tr.eqi rfl rfl rfl rfl rfl ?_
                    refine Tr.nil ?_
                    refine at_n ?_
                    first
                      | refine Sat.condP rfl (fun hc6 => ?_) (fun hc6 => ?_)
                      | refine Sat.condNP rfl (fun hc6 => ?_) (fun hc6 => ?_)
                      | refine Sat.cond rfl (fun hc6 => ?_) (fun hc6 => ?_)
                    ·
                      refine Sat.seq ?_
                      refine Sat.seq ?_
                      -- region 19
                      refine Sat.region ?_
                      refine Tr.move rfl rfl rfl ?_
                      refine Tr.nei rfl rfl rfl rfl (show (!decide _) = false from congrArg not (decide_eq_true (pop_none hg.good (by have := hg.num; omega)))) ?_
                      refine Tr.nil ?_
                      refine at_n ?_
                      refine Sat.cond_f rfl (rfl) ?_
                      refine Sat.skip ?_
                      refine at_n ?_
                      refine Sat.exit ?_
                      refine at_x ?_
                      refine at_x ?_
                      refine bl_h ?_
                      refine at_n ?_
                      first
                        | exact ⟨⟨i, X4, oX4, want4, bw4, ws4, ow4, q4⟩, ⟨hg4, rfl⟩, weak_perm (wk1 rfl (wk1 rfl (wk1 rfl (wk1 rfl (wk1 rfl wk0))))) (pm_cons (by repeat (first | exact rem_here | apply rem_there | apply rem_seg)) (pm_seg (by repeat (first | exact sg_here | exact sg_end | apply sg_there | apply sg_seg)) (pm_seg (by repeat (first | exact sg_here | exact sg_end | apply sg_there | apply sg_seg)) (pm_seg (by repeat (first | exact sg_here | exact sg_end | apply sg_there | apply sg_seg)) pm_nil))))⟩
                        | exact ⟨⟨i, X57.fList, out57, ⟨some ⟨q7, if c7 = 1 then o7 else o7 + 1 * 1, none⟩, q.length + 1 - 1, c7 - 1⟩, [⟨q7, pre7 ++ (w0 :: ws).map Sl.v ++ post7, 27, m7⟩], ws, ow, q⟩, ⟨hg.pop hpd (AccO.cut hnc7 (by have := hcl7; simpa using this) hpre7 hpo7 hcm7), rfl⟩, weak_perm (wk1 rfl (wk1 rfl (wk1 rfl (wk1 rfl (wk1 rfl wk0))))) (pm_cons (by repeat (first | exact rem_here | apply rem_there | apply rem_seg)) (pm_seg (by repeat (first | exact sg_here | exact sg_end | apply sg_there | apply sg_seg)) (pm_in0 (pm_cons (by repeat (first | exact rem_here | apply rem_there | apply rem_seg)) (pm_seg (by repeat (first | exact sg_here | exact sg_end | apply sg_there | apply sg_seg)) pm_nil)))))⟩
                        | exact ⟨⟨i, X, oX, want, bw, ws, ow, q⟩, ⟨hg, rfl⟩, weak_perm (wk1 rfl (wk1 rfl (wk1 rfl (wk1 rfl (wk1 rfl wk0))))) (pm_cons (by repeat (first | exact rem_here | apply rem_there | apply rem_seg)) (pm_seg (by repeat (first | exact sg_here | exact sg_end | apply sg_there | apply sg_seg)) (pm_seg (by repeat (first | exact sg_here | exact sg_end | apply sg_there | apply sg_seg)) (pm_seg (by repeat (first | exact sg_here | exact sg_end | apply sg_there | apply sg_seg)) pm_nil))))⟩
                    ·
                      have hqn := hg.num
                      have hpe : popE q = 0 := pop_some hg.good (by omega)
                      cases q with
                      | nil => simp at hqn; omega
                      | cons q0 q =>
                      cases ws with
                      | nil => have := hg.nw; simp at this
                      | cons w0 ws =>
                      obtain ⟨q7, o7, c7, m7, pre7, post7, rfl, hnc7, hcl7, hpre7, hpo7, hcm7, rfl⟩ := (show AccO want bw ((w0 :: ws).map Sl.v) 27 (q0 :: q).length from hg.aw).pos (Nat.succ_pos _)
                      have hpd : ∀ W2, Lies out57 W2 → ListsAt W2 X57.fList q := fun W2 hl => by have := (h57 W2 hl).2; rwa [show popD (q0 :: q) = q from if_pos hpe] at this
                      refine Sat.skip ?_
                      refine at_n ?_
                      refine Sat.seq ?_
                      refine Sat.seq ?_
                      -- region 21
                      refine Sat.draw [(0, 0), (0, 1), (0, 2), (0, 3), (1, 4), (0, 5), (0, 6), (1, 7), (1, 8), (0, 9), (0, 10)] Mixed (by kernel_rfl) ?_
                      refine Tr.move rfl rfl rfl ?_
                      refine Tr.nei rfl rfl rfl rfl (show (!decide _) = false from congrArg not (decide_eq_true (hpe))) ?_
                      refine Tr.move rfl rfl rfl ?_
                      refine Tr.move rfl rfl rfl ?_
                      refine Tr.toStr rfl rfl rfl Try.underlying27 Try.underlying5 Try.underlying9 (fun w h => (h57 w (Lies.of h (by repeat (first | exact in_here | exact in_all | refine in_there ?_ | refine in_seg ?_)))).1.see) hl57 ?_
                      refine Tr.move rfl rfl rfl ?_
                      refine Tr.idxSlO rfl rfl rfl rfl Try.underlying57 Sz27 0 rfl (by simp) ?_
                      refine Tr.load1 rfl rfl rfl Try.underlying27 rfl (by first | exact mem0 | exact mem1 | exact mem2 | exact mem3 | exact mem4 | exact mem5 | exact mem6 | exact mem7 | (repeat (first | exact List.mem_cons_self | refine List.mem_cons_of_mem _ ?_ | refine mem_seg ?_))) (by rw [List.append_assoc, List.getElem?_append_right (by omega)]; simp [hpre7]; rfl) ?_
                      refine Tr.toStr rfl rfl rfl Try.underlying27 Try.underlying5 Try.underlying9 (fun w h => (hg.lw w h.keeps (Lies.of h (by repeat (first | exact in_here | exact in_all | refine in_there ?_ | refine in_seg ?_))) 0 w0 q0 rfl rfl).see) (hg.lens 0 w0 q0 rfl rfl) ?_
                      refine Tr.neq_str rfl rfl rfl rfl (show (!decide _) = false from congrArg not (decide_eq_true (if_pos hpe))) ?_
                      refine Tr.pick rfl rfl rfl rfl rfl rfl ?_
                      refine Tr.nil ?_
                      refine at_n ?_
                      refine Sat.cond_f rfl rfl ?_
                      refine Sat.skip ?_
                      refine at_n ?_
                      refine Sat.seq ?_
                      -- region 23
                      refine Sat.draw [(1, 0), (0, 1), (0, 2), (4, 3), (0, 4)] Mixed (by kernel_rfl) ?_
                      refine Tr.loadAll rfl rfl rfl Try.underlying59 rfl Sz59 (by first | exact mem0 | exact mem1 | exact mem2 | exact mem3 | exact mem4 | exact mem5 | exact mem6 | exact mem7 | (repeat (first | exact List.mem_cons_self | refine List.mem_cons_of_mem _ ?_ | refine mem_seg ?_))) (Inbox.length (by first | assumption | (simp; done) | exact Block.zero_ok | exact Vote.zero_ok | exact Reader.zero_ok | exact Cut.zero_ok | exact Cert.zero_ok | exact Msg.zero_ok | exact Inbox.zero_ok | exact Record.zero_ok | exact Kept.zero_ok  | exact ⟨trivial⟩)) ?_
                      refine Tr.move rfl rfl rfl ?_
                      refine Tr.sliceLoN 1 rfl rfl rfl rfl rfl (by omega) (by omega) Try.underlying57 Sz27 ?_
                      refine Tr.storeAll rfl rfl rfl rfl (Inbox.isCell (by first | assumption | (simp; done) | exact Block.zero_ok | exact Vote.zero_ok | exact Reader.zero_ok | exact Cut.zero_ok | exact Cert.zero_ok | exact Msg.zero_ok | exact Inbox.zero_ok | exact Record.zero_ok | exact Kept.zero_ok  | exact ⟨trivial⟩)) Sz59 (Inbox.length (by first | assumption | (simp; done) | exact Block.zero_ok | exact Vote.zero_ok | exact Reader.zero_ok | exact Cut.zero_ok | exact Cert.zero_ok | exact Msg.zero_ok | exact Inbox.zero_ok | exact Record.zero_ok | exact Kept.zero_ok  | exact ⟨trivial⟩)) (by first | exact mem0 | exact mem1 | exact mem2 | exact mem3 | exact mem4 | exact mem5 | exact mem6 | exact mem7 | (repeat (first | exact List.mem_cons_self | refine List.mem_cons_of_mem _ ?_ | refine mem_seg ?_))) (Inbox.length (by first | assumption | (simp; done) | exact Block.zero_ok | exact Vote.zero_ok | exact Reader.zero_ok | exact Cut.zero_ok | exact Cert.zero_ok | exact Msg.zero_ok | exact Inbox.zero_ok | exact Record.zero_ok | exact Kept.zero_ok  | exact ⟨trivial⟩)) (by first | exact upd0 | exact upd1 | exact upd2 | exact upd3 | exact upd4 | exact upd5 | exact upd6 | exact upd7 | (repeat (first | exact upd0 | apply Upd.tail | apply Upd.seg))) ?_
                      refine Tr.assign rfl rfl rfl ?_
                      refine Tr.nil ?_
                      refine at_n ?_
                      refine Sat.exit ?_
                      refine at_x ?_
                      refine bl_h ?_
                      refine at_n ?_
                      first
                        | exact ⟨⟨i, X4, oX4, want4, bw4, ws4, ow4, q4⟩, ⟨hg4, rfl⟩, weak_perm (wk1 rfl (wk1 rfl (wk1 rfl (wk1 rfl (wk1 rfl wk0))))) (pm_cons (by repeat (first | exact rem_here | apply rem_there | apply rem_seg)) (pm_seg (by repeat (first | exact sg_here | exact sg_end | apply sg_there | apply sg_seg)) (pm_seg (by repeat (first | exact sg_here | exact sg_end | apply sg_there | apply sg_seg)) (pm_seg (by repeat (first | exact sg_here | exact sg_end | apply sg_there | apply sg_seg)) pm_nil))))⟩
                        | exact ⟨⟨i, X57.fList, out57, ⟨some ⟨q7, if c7 = 1 then o7 else o7 + 1 * 1, none⟩, q.length + 1 - 1, c7 - 1⟩, [⟨q7, pre7 ++ (w0 :: ws).map Sl.v ++ post7, 27, m7⟩], ws, ow, q⟩, ⟨hg.pop hpd (AccO.cut hnc7 (by have := hcl7; simpa using this) hpre7 hpo7 hcm7), rfl⟩, weak_perm (wk1 rfl (wk1 rfl (wk1 rfl (wk1 rfl (wk1 rfl wk0))))) (pm_cons (by repeat (first | exact rem_here | apply rem_there | apply rem_seg)) (pm_seg (by repeat (first | exact sg_here | exact sg_end | apply sg_there | apply sg_seg)) (pm_in0 (pm_cons (by repeat (first | exact rem_here | apply rem_there | apply rem_seg)) (pm_seg (by repeat (first | exact sg_here | exact sg_end | apply sg_there | apply sg_seg)) pm_nil)))))⟩
                        | exact ⟨⟨i, X, oX, want, bw, ws, ow, q⟩, ⟨hg, rfl⟩, weak_perm (wk1 rfl (wk1 rfl (wk1 rfl (wk1 rfl (wk1 rfl wk0))))) (pm_cons (by repeat (first | exact rem_here | apply rem_there | apply rem_seg)) (pm_seg (by repeat (first | exact sg_here | exact sg_end | apply sg_there | apply sg_seg)) (pm_seg (by repeat (first | exact sg_here | exact sg_end | apply sg_there | apply sg_seg)) (pm_seg (by repeat (first | exact sg_here | exact sg_end | apply sg_there | apply sg_seg)) pm_nil))))⟩
                  ·
                    refine Sat.skip ?_
                    refine at_n ?_
                    exact ⟨(), trivial, weak_perm (wk1 rfl (wk1 rfl (wk1 rfl (wk1 rfl (wk1 rfl (wk1 rfl wk0)))))) (pm_cons (by repeat (first | exact rem_here | apply rem_there | apply rem_seg)) (pm_seg (by repeat (first | exact sg_here | exact sg_end | apply sg_there | apply sg_seg)) (pm_seg (by repeat (first | exact sg_here | exact sg_end | apply sg_there | apply sg_seg)) (pm_seg (by repeat (first | exact sg_here | exact sg_end | apply sg_there | apply sg_seg)) pm_nil))))⟩
                ·
                  first | have hs16_2 := of_decide_eq_true hs16_20 | have hs16_2 := of_decide_eq_false hs16_20 | have hs16_2 := nd_t hs16_20 | have hs16_2 := nd_f hs16_20 | have hs16_2 := hs16_20
                  refine Tr.move rfl rfl rfl ?_
                  refine Tr.skp rfl rfl ?_
                  refine Tr.skp rfl rfl ?_
                  refine Tr.skp rfl rfl ?_
                  refine Tr.pick rfl rfl rfl rfl rfl rfl ?_
                  refine Tr.nil ?_
                  refine at_n ?_
                  refine Sat.cond_f rfl rfl ?_
                  refine Sat.skip ?_
                  refine at_n ?_
                  exact ⟨(), trivial, weak_perm (wk1 rfl (wk1 rfl (wk1 rfl (wk1 rfl (wk1 rfl (wk1 rfl wk0)))))) (pm_cons (by repeat (first | exact rem_here | apply rem_there | apply rem_seg)) (pm_seg (by repeat (first | exact sg_here | exact sg_end | apply sg_there | apply sg_seg)) (pm_seg (by repeat (first | exact sg_here | exact sg_end | apply sg_there | apply sg_seg)) (pm_seg (by repeat (first | exact sg_here | exact sg_end | apply sg_there | apply sg_seg)) pm_nil))))⟩
              ·
                intro _u hj
                skip
                refine Sat.join (ι := Sl × List Blk × List UInt8) (fun pb => ⟨[(0, s.v), (1, i64 g), (6, ptr n6 0), (7, want.v), (8, i64 (i : Int)), (9, pb.1.v)], (⟨n6, (⟨X⟩ : Inbox).cells, 59, Inbox.zero.cells.length⟩ :: (oX ++ (bw ++ (ow ++ (pb.2.1 ++ [])))))⟩) (fun pb => (∀ w, Keeps [] W w → Lies pb.2.1 w → BytesAt w pb.1 pb.2.2) ∧ pb.2.2.length = pb.1.n ∧ pb.2.2.length ≤ 16684) ?_ ?_
                ·
                  refine Sat.seq ?_
                  -- region 24
                  refine Sat.region ?_
                  refine Tr.move rfl rfl rfl ?_
                  refine two (fun r hr k => Tr.gtr rfl rfl rfl rfl hr k) (fun hs24_10 => ?_) (fun hs24_10 => ?_)
                  ·
                    first | have hs24_1 := of_decide_eq_true hs24_10 | have hs24_1 := of_decide_eq_false hs24_10 | have hs24_1 := nd_t hs24_10 | have hs24_1 := nd_f hs24_10 | have hs24_1 := hs24_10
                    refine Tr.move rfl rfl rfl ?_
                    refine Tr.move rfl rfl rfl ?_
                    refine Tr.move rfl rfl rfl ?_
                    refine Tr.callV rfl rfl rfl rfl Body24 (kit_pick g (by omega) hg9) (fun _ _ => trivial) ?_
                    refine Tr.add_i64 rfl rfl rfl rfl (by omega) ?_
                    refine Tr.rem_i64 rfl rfl rfl rfl (by omega) ?_
                    refine Tr.eqi rfl rfl rfl rfl rfl ?_
                    refine Tr.pick rfl rfl rfl rfl rfl rfl ?_
                    refine Tr.nil ?_
                    refine at_n ?_
                    first
                      | refine Sat.condP rfl (fun hc9 => ?_) (fun hc9 => ?_)
                      | refine Sat.condNP rfl (fun hc9 => ?_) (fun hc9 => ?_)
                      | refine Sat.cond rfl (fun hc9 => ?_) (fun hc9 => ?_)
                    ·
                      -- region 25
                      refine Sat.region ?_
                      refine Tr.move rfl rfl rfl ?_
                      refine Tr.call4 rfl rfl rfl rfl rfl Body10 (kit_own r d (by omega)) (fun w h => bytes_ext h rfl his) ?_
                      rintro v91 out91 ⟨q91, c91, rfl, hc91, rfl⟩
                      refine Tr.appendMade (m := 16384) (z := u8 0) (by' := 1) rfl rfl rfl rfl rfl rfl Try.underlying27 Try.underlying3 Sz5 Zr5 (by unfold By; kernel_rfl) rfl rfl (by repeat (first | exact rem_here | apply rem_there | apply rem_seg)) (Nat.mul_one _) (by rw [bytesV, List.length_map]; exact his.len) hc91 (by omega) (by decide) ?_
                      intro q92 c92 hq92
                      refine Tr.assign rfl rfl rfl ?_
                      refine Tr.nil ?_
                      refine at_n ?_
                      first
                        | exact ⟨(r, [], d), ⟨fun w hk _ => bytes_keep his hk, his.len, by simp only []; omega⟩, weak_perm (wk1 rfl (wk1 rfl (wk1 rfl (wk1 rfl (wk1 rfl (wk1 rfl wk0)))))) (pm_cons (by repeat (first | exact rem_here | apply rem_there | apply rem_seg)) (pm_seg (by repeat (first | exact sg_here | exact sg_end | apply sg_there | apply sg_seg)) (pm_seg (by repeat (first | exact sg_here | exact sg_end | apply sg_there | apply sg_seg)) (pm_seg (by repeat (first | exact sg_here | exact sg_end | apply sg_there | apply sg_seg)) (pm_none pm_nil)))))⟩
                        | exact ⟨(⟨some ⟨q92, 0, none⟩, r.n + 16384, c92⟩, [⟨q92, bytesV d ++ List.replicate 16384 (u8 0), 5, c92⟩], d ++ List.replicate 16384 0), ⟨fun w hk hl => long_bytes hdl hq92 hd3 hl, by rw [List.length_append, List.length_replicate, hdl], by rw [List.length_append, List.length_replicate]; omega⟩, weak_perm (wk1 rfl (wk1 rfl (wk1 rfl (wk1 rfl (wk1 rfl (wk1 rfl wk0)))))) (pm_cons (by repeat (first | exact rem_here | apply rem_there | apply rem_seg)) (pm_seg (by repeat (first | exact sg_here | exact sg_end | apply sg_there | apply sg_seg)) (pm_seg (by repeat (first | exact sg_here | exact sg_end | apply sg_there | apply sg_seg)) (pm_seg (by repeat (first | exact sg_here | exact sg_end | apply sg_there | apply sg_seg)) (pm_in0 (pm_cons (by repeat (first | exact rem_here | apply rem_there | apply rem_seg)) pm_nil))))))⟩
                    ·
                      refine Sat.skip ?_
                      refine at_n ?_
                      first
                        | exact ⟨(r, [], d), ⟨fun w hk _ => bytes_keep his hk, his.len, by simp only []; omega⟩, weak_perm (wk1 rfl (wk1 rfl (wk1 rfl (wk1 rfl (wk1 rfl (wk1 rfl wk0)))))) (pm_cons (by repeat (first | exact rem_here | apply rem_there | apply rem_seg)) (pm_seg (by repeat (first | exact sg_here | exact sg_end | apply sg_there | apply sg_seg)) (pm_seg (by repeat (first | exact sg_here | exact sg_end | apply sg_there | apply sg_seg)) (pm_seg (by repeat (first | exact sg_here | exact sg_end | apply sg_there | apply sg_seg)) (pm_none pm_nil)))))⟩
                        | exact ⟨(⟨some ⟨q92, 0, none⟩, r.n + 16384, c92⟩, [⟨q92, bytesV d ++ List.replicate 16384 (u8 0), 5, c92⟩], d ++ List.replicate 16384 0), ⟨fun w hk hl => long_bytes hdl hq92 hd3 hl, by rw [List.length_append, List.length_replicate, hdl], by rw [List.length_append, List.length_replicate]; omega⟩, weak_perm (wk1 rfl (wk1 rfl (wk1 rfl (wk1 rfl (wk1 rfl (wk1 rfl wk0)))))) (pm_cons (by repeat (first | exact rem_here | apply rem_there | apply rem_seg)) (pm_seg (by repeat (first | exact sg_here | exact sg_end | apply sg_there | apply sg_seg)) (pm_seg (by repeat (first | exact sg_here | exact sg_end | apply sg_there | apply sg_seg)) (pm_seg (by repeat (first | exact sg_here | exact sg_end | apply sg_there | apply sg_seg)) (pm_in0 (pm_cons (by repeat (first | exact rem_here | apply rem_there | apply rem_seg)) pm_nil))))))⟩
                  ·
                    first | have hs24_1 := of_decide_eq_true hs24_10 | have hs24_1 := of_decide_eq_false hs24_10 | have hs24_1 := nd_t hs24_10 | have hs24_1 := nd_f hs24_10 | have hs24_1 := hs24_10
                    refine Tr.move rfl rfl rfl ?_
                    refine Tr.skp rfl rfl ?_
                    refine Tr.skp rfl rfl ?_
                    refine Tr.skp rfl rfl ?_
                    refine Tr.skp rfl rfl ?_
                    refine Tr.skp rfl rfl ?_
                    refine Tr.skp rfl rfl ?_
                    refine Tr.pick rfl rfl rfl rfl rfl rfl ?_
                    refine Tr.nil ?_
                    refine at_n ?_
                    refine Sat.cond_f rfl rfl ?_
                    refine Sat.skip ?_
                    refine at_n ?_
                    first
                      | exact ⟨(r, [], d), ⟨fun w hk _ => bytes_keep his hk, his.len, by simp only []; omega⟩, weak_perm (wk1 rfl (wk1 rfl (wk1 rfl (wk1 rfl (wk1 rfl (wk1 rfl wk0)))))) (pm_cons (by repeat (first | exact rem_here | apply rem_there | apply rem_seg)) (pm_seg (by repeat (first | exact sg_here | exact sg_end | apply sg_there | apply sg_seg)) (pm_seg (by repeat (first | exact sg_here | exact sg_end | apply sg_there | apply sg_seg)) (pm_seg (by repeat (first | exact sg_here | exact sg_end | apply sg_there | apply sg_seg)) (pm_none pm_nil)))))⟩
                      | exact ⟨(⟨some ⟨q92, 0, none⟩, r.n + 16384, c92⟩, [⟨q92, bytesV d ++ List.replicate 16384 (u8 0), 5, c92⟩], d ++ List.replicate 16384 0), ⟨fun w hk hl => long_bytes hdl hq92 hd3 hl, by rw [List.length_append, List.length_replicate, hdl], by rw [List.length_append, List.length_replicate]; omega⟩, weak_perm (wk1 rfl (wk1 rfl (wk1 rfl (wk1 rfl (wk1 rfl (wk1 rfl wk0)))))) (pm_cons (by repeat (first | exact rem_here | apply rem_there | apply rem_seg)) (pm_seg (by repeat (first | exact sg_here | exact sg_end | apply sg_there | apply sg_seg)) (pm_seg (by repeat (first | exact sg_here | exact sg_end | apply sg_there | apply sg_seg)) (pm_seg (by repeat (first | exact sg_here | exact sg_end | apply sg_there | apply sg_seg)) (pm_in0 (pm_cons (by repeat (first | exact rem_here | apply rem_there | apply rem_seg)) pm_nil))))))⟩
                ·
                  intro pb hj
                  obtain ⟨sb, pb2, db⟩ := pb
                  obtain ⟨hb, hbl, hbm⟩ := hj
                  dsimp only at hb hbl hbm ⊢
                  refine Sat.seq ?_
                  -- region 26
                  refine Sat.withK (sp_k (sp_x (sp_x (sp_x (sp_x sp_n))))) rfl ?_
                  refine Sat.draw [(0, 0), (0, 1), (3, 2), (3, 3), (0, 4), (0, 5), (0, 6), (2, 7), (4, 8), (0, 9)] Mixed (by kernel_rfl) ?_
                  refine Tr.kloadAll rfl rfl rfl Try.underlying59 rfl Sz59 (by first | exact mem0 | exact mem1 | exact mem2 | exact mem3 | exact mem4 | exact mem5 | exact mem6 | exact mem7 | (repeat (first | exact List.mem_cons_self | refine List.mem_cons_of_mem _ ?_ | refine mem_seg ?_))) (Inbox.length (by first | assumption | (simp; done) | exact Block.zero_ok | exact Vote.zero_ok | exact Reader.zero_ok | exact Cut.zero_ok | exact Cert.zero_ok | exact Msg.zero_ok | exact Inbox.zero_ok | exact Record.zero_ok | exact Kept.zero_ok  | exact ⟨trivial⟩)) ?_
                  refine Tr.move rfl rfl rfl ?_
                  refine Tr.call rfl rfl rfl rfl Body10 (kit_own sb db (by omega)) (FreshRow.loose _ _ _ _) (fun w h => hb w h.keeps (Lies.of h (by repeat (first | exact in_here | exact in_all | refine in_there ?_ | refine in_seg ?_)))) ?_
                  rintro v96 out96 ⟨q96, c96, rfl, hc96, rfl⟩
                  refine Tr.call rfl rfl rfl rfl Body25 (sync_push ⟨X⟩ q ⟨some ⟨q96, 0, none⟩, sb.n, c96⟩ db) (Pushed.loose _ _) (fun w h => ⟨hg.lx w (Lies.of h (by repeat (first | exact in_here | exact in_all | refine in_there ?_ | refine in_seg ?_))), acc_bytes (Acc.some (E := 5) hc96 (by rw [bytesV, List.length_map, hbl, Nat.mul_one])) (Lies.of h (by intro b hb; rw [List.mem_singleton.1 hb]; repeat (first | exact List.mem_cons_self | refine List.mem_cons_of_mem _ ?_ | refine mem_seg ?_))) hbl (by omega)⟩) ?_
                  rintro v97 out97 ⟨X97, rfl, h97⟩
                  refine Tr.move rfl rfl rfl ?_
                  refine Tr.extract rfl rfl rfl rfl ?_
                  refine Tr.extract rfl rfl rfl rfl ?_
                  refine Tr.alloc (cs := Inbox.zero.cells) rfl Inbox.zr rfl ?_
                  intro n13 hn13 hf13
                  refine Tr.storeAll rfl rfl rfl rfl (Inbox.isCell (by first | assumption | (simp; done) | exact Block.zero_ok | exact Vote.zero_ok | exact Reader.zero_ok | exact Cut.zero_ok | exact Cert.zero_ok | exact Msg.zero_ok | exact Inbox.zero_ok | exact Record.zero_ok | exact Kept.zero_ok  | exact ⟨trivial⟩)) Sz59 (Inbox.length (by first | assumption | (simp; done) | exact Block.zero_ok | exact Vote.zero_ok | exact Reader.zero_ok | exact Cut.zero_ok | exact Cert.zero_ok | exact Msg.zero_ok | exact Inbox.zero_ok | exact Record.zero_ok | exact Kept.zero_ok  | exact ⟨trivial⟩)) (by first | exact mem0 | exact mem1 | exact mem2 | exact mem3 | exact mem4 | exact mem5 | exact mem6 | exact mem7 | (repeat (first | exact List.mem_cons_self | refine List.mem_cons_of_mem _ ?_ | refine mem_seg ?_))) (Inbox.length (by first | assumption | (simp; done) | exact Block.zero_ok | exact Vote.zero_ok | exact Reader.zero_ok | exact Cut.zero_ok | exact Cert.zero_ok | exact Msg.zero_ok | exact Inbox.zero_ok | exact Record.zero_ok | exact Kept.zero_ok  | exact ⟨trivial⟩)) (by first | exact upd0 | exact upd1 | exact upd2 | exact upd3 | exact upd4 | exact upd5 | exact upd6 | exact upd7 | (repeat (first | exact upd0 | apply Upd.tail | apply Upd.seg))) ?_
                  refine Tr.assign rfl rfl rfl ?_
                  refine Tr.nil ?_
                  refine at_n ?_
                  refine Sat.join (ι := Gh) (fun p4 => ⟨[(0, s.v), (1, i64 g), (6, ptr n6 0), (7, p4.want.v), (8, i64 (p4.i : Int))], (⟨n6, (⟨p4.X⟩ : Inbox).cells, 59, Inbox.zero.cells.length⟩ :: (p4.oX ++ (p4.bw ++ (p4.ow ++ []))))⟩) (fun p4 => GhI W s.n p4 ∧ i = p4.i) ?_ ?_
                  ·
                    refine Sat.block ?_
                    refine Sat.seq ?_
                    -- region 30
                    refine Sat.region ?_
                    simp only [List.cons_append, List.nil_append, List.append_assoc]
                    refine Tr.move rfl rfl rfl ?_
                    refine Tr.lenSl rfl rfl rfl Try.underlying27 ?_
                    refine Tr.gtr rfl rfl rfl rfl rfl ?_
                    refine Tr.assign rfl rfl rfl ?_
                    refine Tr.nil ?_
                    refine at_n ?_
                    first
                      | refine Sat.condP rfl (fun hc10 => ?_) (fun hc10 => ?_)
                      | refine Sat.condNP rfl (fun hc10 => ?_) (fun hc10 => ?_)
                      | refine Sat.cond rfl (fun hc10 => ?_) (fun hc10 => ?_)
                    ·
                      refine Sat.seq ?_
                      -- region 31
                      refine Sat.region ?_
                      refine Tr.move rfl rfl rfl ?_
                      refine Tr.nei rfl rfl rfl rfl (show (!decide _) = false from congrArg not (decide_eq_true (push_long hg.good (by omega)))) ?_
                      refine Tr.nil ?_
                      refine at_n ?_
                      refine Sat.cond_f rfl (rfl) ?_
                      refine Sat.skip ?_
                      refine bl_n ?_
                      refine at_n ?_
                      first
                        | (simp only [List.cons_append, List.nil_append, List.append_assoc]; exact ⟨⟨i, X97.fList, out97, s106, bl106, ws ++ [sb], pb2 ++ ow, q ++ [db]⟩, ⟨hg.push hpd hac106 hb hbl (by omega) (by omega), rfl⟩, weak_perm (wk1 rfl (wk1 rfl (wk1 rfl (wk1 rfl (wk1 rfl wk0))))) (pm_cons (by repeat (first | exact rem_here | apply rem_there | apply rem_seg)) (pm_seg (by repeat (first | exact sg_here | exact sg_end | apply sg_there | apply sg_seg)) (pm_seg (by repeat (first | exact sg_here | exact sg_end | apply sg_there | apply sg_seg)) (pm_inS (pm_seg (by repeat (first | exact sg_here | exact sg_end | apply sg_there | apply sg_seg)) (pm_seg (by repeat (first | exact sg_here | exact sg_end | apply sg_there | apply sg_seg)) pm_nil))))))⟩)
                        | exact ⟨⟨i, X, oX, want, bw, ws, ow, q⟩, ⟨hg, rfl⟩, weak_perm (wk1 rfl (wk1 rfl (wk1 rfl (wk1 rfl (wk1 rfl wk0))))) (pm_cons (by repeat (first | exact rem_here | apply rem_there | apply rem_seg)) (pm_seg (by repeat (first | exact sg_here | exact sg_end | apply sg_there | apply sg_seg)) (pm_seg (by repeat (first | exact sg_here | exact sg_end | apply sg_there | apply sg_seg)) (pm_seg (by repeat (first | exact sg_here | exact sg_end | apply sg_there | apply sg_seg)) pm_nil))))⟩
                    ·
                      refine Sat.seq ?_
                      -- region 33
                      refine Sat.region ?_
                      refine Tr.move rfl rfl rfl ?_
                      refine Tr.lenSl rfl rfl rfl Try.underlying57 ?_
                      refine Tr.eqi rfl rfl rfl rfl rfl ?_
                      refine Tr.assign rfl rfl rfl ?_
                      refine Tr.nil ?_
                      refine at_n ?_
                      first
                        | refine Sat.condP rfl (fun hc12 => ?_) (fun hc12 => ?_)
                        | refine Sat.condNP rfl (fun hc12 => ?_) (fun hc12 => ?_)
                        | refine Sat.cond rfl (fun hc12 => ?_) (fun hc12 => ?_)
                      ·
                        refine Sat.seq ?_
                        -- region 34
                        refine Sat.region ?_
                        refine Tr.move rfl rfl rfl ?_
                        refine Tr.nei rfl rfl rfl rfl (show (!decide _) = false from congrArg not (decide_eq_true (push_full hg.good (by omega) (by have := hg.num; omega)))) ?_
                        refine Tr.nil ?_
                        refine at_n ?_
                        refine Sat.cond_f rfl (rfl) ?_
                        refine Sat.skip ?_
                        refine bl_n ?_
                        refine at_n ?_
                        first
                          | (simp only [List.cons_append, List.nil_append, List.append_assoc]; exact ⟨⟨i, X97.fList, out97, s106, bl106, ws ++ [sb], pb2 ++ ow, q ++ [db]⟩, ⟨hg.push hpd hac106 hb hbl (by omega) (by omega), rfl⟩, weak_perm (wk1 rfl (wk1 rfl (wk1 rfl (wk1 rfl (wk1 rfl wk0))))) (pm_cons (by repeat (first | exact rem_here | apply rem_there | apply rem_seg)) (pm_seg (by repeat (first | exact sg_here | exact sg_end | apply sg_there | apply sg_seg)) (pm_seg (by repeat (first | exact sg_here | exact sg_end | apply sg_there | apply sg_seg)) (pm_inS (pm_seg (by repeat (first | exact sg_here | exact sg_end | apply sg_there | apply sg_seg)) (pm_seg (by repeat (first | exact sg_here | exact sg_end | apply sg_there | apply sg_seg)) pm_nil))))))⟩)
                          | exact ⟨⟨i, X, oX, want, bw, ws, ow, q⟩, ⟨hg, rfl⟩, weak_perm (wk1 rfl (wk1 rfl (wk1 rfl (wk1 rfl (wk1 rfl wk0))))) (pm_cons (by repeat (first | exact rem_here | apply rem_there | apply rem_seg)) (pm_seg (by repeat (first | exact sg_here | exact sg_end | apply sg_there | apply sg_seg)) (pm_seg (by repeat (first | exact sg_here | exact sg_end | apply sg_there | apply sg_seg)) (pm_seg (by repeat (first | exact sg_here | exact sg_end | apply sg_there | apply sg_seg)) pm_nil))))⟩
                      ·
                        have hqn := hg.num
                        have hsm : q.length ≤ 64 := hg.small
                        have hpe97 : pushE q db = 0 := push_fits hg.good (by omega) (by omega)
                        have hpd : ∀ W2, Lies out97 W2 → ListsAt W2 X97.fList (q ++ [db]) := fun W2 hl => by have := h97 W2 hl; rwa [show pushD q db = q ++ [db] from if_pos hpe97] at this
                        refine Sat.seq ?_
                        refine Sat.seq ?_
                        -- region 27
                        refine Sat.region ?_
                        refine Tr.move rfl rfl rfl ?_
                        refine Tr.nei rfl rfl rfl rfl (show (!decide _) = false from congrArg not (decide_eq_true (hpe97))) ?_
                        refine Tr.nil ?_
                        refine at_n ?_
                        refine Sat.cond_f rfl (rfl) ?_
                        refine Sat.skip ?_
                        refine at_n ?_
                        -- region 29
                        refine Sat.withK (sp_k (sp_x (sp_v (sp_x (sp_x (sp_x (sp_x (sp_v sp_n)))))))) rfl ?_
                        refine Sat.draw [(0, 0), (0, 1), (0, 2), (2, 3), (4, 4), (4, 5), (0, 6)] Mixed (by kernel_rfl) ?_
                        refine Tr.kloadAll rfl rfl rfl Try.underlying59 rfl Sz59 (by first | exact mem0 | exact mem1 | exact mem2 | exact mem3 | exact mem4 | exact mem5 | exact mem6 | exact mem7 | (repeat (first | exact List.mem_cons_self | refine List.mem_cons_of_mem _ ?_ | refine mem_seg ?_))) (Inbox.length (by first | assumption | (simp; done) | exact Block.zero_ok | exact Vote.zero_ok | exact Reader.zero_ok | exact Cut.zero_ok | exact Cert.zero_ok | exact Msg.zero_ok | exact Inbox.zero_ok | exact Record.zero_ok | exact Kept.zero_ok  | exact ⟨trivial⟩)) ?_
                        refine Tr.move rfl rfl rfl ?_
                        refine Tr.move rfl rfl rfl ?_
                        refine Tr.mkRow2 (z := .slice none 0 0) [sb.v] [sb.v] rfl rfl Try.underlying57 Sz27 Zr27 rfl rfl (by intro v hv; rw [List.mem_singleton.1 hv]; rfl) (by decide) rfl ?_
                        intro q105
                        refine Tr.appendO (z := .slice none 0 0) (by' := 24) [sb.v] rfl rfl rfl rfl rfl Try.underlying57 Try.underlying57 Sz27 Zr27 (by unfold By; kernel_rfl) rfl (show AccO want bw (ws.map Sl.v) 27 q.length from hg.aw) (by repeat (first | exact sg_here | exact sg_end | apply sg_there | apply sg_seg)) (fun w h => SeesP.of (sees_own h (by first | exact mem0 | exact mem1 | exact mem2 | exact mem3 | exact mem4 | exact mem5 | exact mem6 | exact mem7 | (repeat (first | exact List.mem_cons_self | refine List.mem_cons_of_mem _ ?_ | refine mem_seg ?_))))) (by decide) (fun e => by cases e) (by intro u hu; rw [List.mem_singleton.1 hu]; rfl) (by omega) (by omega) rfl ?_
                        intro s106 bl106 hac106
                        refine Tr.storeAll rfl rfl rfl rfl (Inbox.isCell (by first | assumption | (simp; done) | exact Block.zero_ok | exact Vote.zero_ok | exact Reader.zero_ok | exact Cut.zero_ok | exact Cert.zero_ok | exact Msg.zero_ok | exact Inbox.zero_ok | exact Record.zero_ok | exact Kept.zero_ok  | exact ⟨trivial⟩)) Sz59 (Inbox.length (by first | assumption | (simp; done) | exact Block.zero_ok | exact Vote.zero_ok | exact Reader.zero_ok | exact Cut.zero_ok | exact Cert.zero_ok | exact Msg.zero_ok | exact Inbox.zero_ok | exact Record.zero_ok | exact Kept.zero_ok  | exact ⟨trivial⟩)) (by first | exact mem0 | exact mem1 | exact mem2 | exact mem3 | exact mem4 | exact mem5 | exact mem6 | exact mem7 | (repeat (first | exact List.mem_cons_self | refine List.mem_cons_of_mem _ ?_ | refine mem_seg ?_))) (Inbox.length (by first | assumption | (simp; done) | exact Block.zero_ok | exact Vote.zero_ok | exact Reader.zero_ok | exact Cut.zero_ok | exact Cert.zero_ok | exact Msg.zero_ok | exact Inbox.zero_ok | exact Record.zero_ok | exact Kept.zero_ok  | exact ⟨trivial⟩)) (by first | exact upd0 | exact upd1 | exact upd2 | exact upd3 | exact upd4 | exact upd5 | exact upd6 | exact upd7 | (repeat (first | exact upd0 | apply Upd.tail | apply Upd.seg))) ?_
                        refine Tr.assign rfl rfl rfl ?_
                        refine Tr.nil ?_
                        refine bl_n ?_
                        refine at_n ?_
                        first
                          | (simp only [List.cons_append, List.nil_append, List.append_assoc]; exact ⟨⟨i, X97.fList, out97, s106, bl106, ws ++ [sb], pb2 ++ ow, q ++ [db]⟩, ⟨hg.push hpd hac106 hb hbl (by omega) (by omega), rfl⟩, weak_perm (wk1 rfl (wk1 rfl (wk1 rfl (wk1 rfl (wk1 rfl wk0))))) (pm_cons (by repeat (first | exact rem_here | apply rem_there | apply rem_seg)) (pm_seg (by repeat (first | exact sg_here | exact sg_end | apply sg_there | apply sg_seg)) (pm_seg (by repeat (first | exact sg_here | exact sg_end | apply sg_there | apply sg_seg)) (pm_inS (pm_seg (by repeat (first | exact sg_here | exact sg_end | apply sg_there | apply sg_seg)) (pm_seg (by repeat (first | exact sg_here | exact sg_end | apply sg_there | apply sg_seg)) pm_nil))))))⟩)
                          | exact ⟨⟨i, X, oX, want, bw, ws, ow, q⟩, ⟨hg, rfl⟩, weak_perm (wk1 rfl (wk1 rfl (wk1 rfl (wk1 rfl (wk1 rfl wk0))))) (pm_cons (by repeat (first | exact rem_here | apply rem_there | apply rem_seg)) (pm_seg (by repeat (first | exact sg_here | exact sg_end | apply sg_there | apply sg_seg)) (pm_seg (by repeat (first | exact sg_here | exact sg_end | apply sg_there | apply sg_seg)) (pm_seg (by repeat (first | exact sg_here | exact sg_end | apply sg_there | apply sg_seg)) pm_nil))))⟩
                  ·
                    intro p4 hj
                    obtain ⟨i4, X4, oX4, want4, bw4, ws4, ow4, q4⟩ := p4
                    obtain ⟨hg4, rfl⟩ := hj
                    dsimp only
                    refine Sat.seq ?_
                    -- region 36
                    refine Sat.region ?_
                    refine Tr.fld rfl rfl rfl Try.underlying59 rfl Sz57 (by decide) _ rfl ?_
                    refine Tr.load1 rfl rfl rfl Try.underlying57 rfl (by first | exact mem0 | exact mem1 | exact mem2 | exact mem3 | exact mem4 | exact mem5 | exact mem6 | exact mem7 | (repeat (first | exact List.mem_cons_self | refine List.mem_cons_of_mem _ ?_ | refine mem_seg ?_))) (by first | exact Inbox.get_fList (by first | assumption | (simp; done) | exact Block.zero_ok | exact Vote.zero_ok | exact Reader.zero_ok | exact Cut.zero_ok | exact Cert.zero_ok | exact Msg.zero_ok | exact Inbox.zero_ok | exact Record.zero_ok | exact Kept.zero_ok  | exact ⟨trivial⟩) | exact (by first | rfl | exact get_words (by first | omega | (simp; done) | (simp; omega)) | exact get_bytes (by first | omega | (simp; done) | (simp; omega)) | exact get_ints (by first | omega | (simp; done) | (simp; omega)))) ?_
                    refine Tr.move rfl rfl rfl ?_
                    refine Tr.callV rfl rfl rfl rfl Body26 (kit_lists X4 want4 q4 q4) (fun w h => ⟨hg4.lx w (Lies.of h (by repeat (first | exact in_here | exact in_all | refine in_there ?_ | refine in_seg ?_))), hg4.wl h.keeps (Lies.of h (by repeat (first | exact in_here | exact in_all | refine in_there ?_ | refine in_seg ?_))) (Lies.of h (by repeat (first | exact in_here | exact in_all | refine in_there ?_ | refine in_seg ?_)))⟩) ?_
                    refine Tr.not rfl rfl rfl ?_
                    refine Tr.nil ?_
                    refine at_n ?_
                    refine Sat.cond_f rfl (by simp) ?_
                    refine Sat.skip ?_
                    refine bl_n ?_
                    refine at_n ?_
                    first
                      | exact ⟨⟨i, X4, oX4, want4, bw4, ws4, ow4, q4⟩, ⟨hg4, rfl⟩, weak_perm (wk1 rfl (wk1 rfl (wk1 rfl (wk1 rfl (wk1 rfl wk0))))) (pm_cons (by repeat (first | exact rem_here | apply rem_there | apply rem_seg)) (pm_seg (by repeat (first | exact sg_here | exact sg_end | apply sg_there | apply sg_seg)) (pm_seg (by repeat (first | exact sg_here | exact sg_end | apply sg_there | apply sg_seg)) (pm_seg (by repeat (first | exact sg_here | exact sg_end | apply sg_there | apply sg_seg)) pm_nil))))⟩
                      | exact ⟨⟨i, X57.fList, out57, ⟨some ⟨q7, if c7 = 1 then o7 else o7 + 1 * 1, none⟩, q.length + 1 - 1, c7 - 1⟩, [⟨q7, pre7 ++ (w0 :: ws).map Sl.v ++ post7, 27, m7⟩], ws, ow, q⟩, ⟨hg.pop hpd (AccO.cut hnc7 (by have := hcl7; simpa using this) hpre7 hpo7 hcm7), rfl⟩, weak_perm (wk1 rfl (wk1 rfl (wk1 rfl (wk1 rfl (wk1 rfl wk0))))) (pm_cons (by repeat (first | exact rem_here | apply rem_there | apply rem_seg)) (pm_seg (by repeat (first | exact sg_here | exact sg_end | apply sg_there | apply sg_seg)) (pm_in0 (pm_cons (by repeat (first | exact rem_here | apply rem_there | apply rem_seg)) (pm_seg (by repeat (first | exact sg_here | exact sg_end | apply sg_there | apply sg_seg)) pm_nil)))))⟩
                      | exact ⟨⟨i, X, oX, want, bw, ws, ow, q⟩, ⟨hg, rfl⟩, weak_perm (wk1 rfl (wk1 rfl (wk1 rfl (wk1 rfl (wk1 rfl wk0))))) (pm_cons (by repeat (first | exact rem_here | apply rem_there | apply rem_seg)) (pm_seg (by repeat (first | exact sg_here | exact sg_end | apply sg_there | apply sg_seg)) (pm_seg (by repeat (first | exact sg_here | exact sg_end | apply sg_there | apply sg_seg)) (pm_seg (by repeat (first | exact sg_here | exact sg_end | apply sg_there | apply sg_seg)) pm_nil))))⟩
            ·
              intro p3 hj
              obtain ⟨i3, X3, oX3, want3, bw3, ws3, ow3, q3⟩ := p3
              obtain ⟨hg3, rfl⟩ := hj
              dsimp only
              -- region 14
              refine Sat.region ?_
              refine Tr.move rfl rfl rfl ?_
              refine Tr.add_i64 rfl rfl rfl rfl (by omega) ?_
              refine Tr.assign rfl rfl rfl ?_
              refine Tr.nil ?_
              refine at_n ?_
              exact ⟨⟨i + 1, X3, oX3, want3, bw3, ws3, ow3, q3⟩, hg3.next hi2, by simp only []; omega, weak_perm (wk1 rfl (wk1 rfl (wk1 rfl (wk1 rfl (wk1 rfl wk0))))) (pm_cons (by repeat (first | exact rem_here | apply rem_there | apply rem_seg)) (pm_seg (by repeat (first | exact sg_here | exact sg_end | apply sg_there | apply sg_seg)) (pm_seg (by repeat (first | exact sg_here | exact sg_end | apply sg_there | apply sg_seg)) (pm_seg (by repeat (first | exact sg_here | exact sg_end | apply sg_there | apply sg_seg)) pm_nil))))⟩
          ·
            skip
            refine Sat.exit ?_
            refine at_x ?_
            refine at_x ?_
            refine bl_h ?_
            refine at_n ?_
            refine Sat.seq ?_
            -- region 38
            refine Sat.region ?_
            refine Tr.mkSlice (z := .slice none 0 0) (by' := 24) 65 rfl rfl rfl rfl Try.underlying57 Sz27 Zr27 (by unfold By; kernel_rfl) rfl (by omega) (by omega) (by omega) ?_
            intro q125
            refine Tr.build (cs := (⟨⟨some ⟨q125, 0, none⟩, 65, 65⟩⟩ : Inbox).cells) rfl rfl rfl (fun w => by kernel_rfl) ?_
            refine Tr.call4 rfl rfl rfl rfl rfl Body25 (sync_push ⟨⟨some ⟨q125, 0, none⟩, 65, 65⟩⟩ (List.replicate 65 []) Sl.nil []) (fun w h => ⟨lists_made (sees_own h (by first | exact mem0 | exact mem1 | exact mem2 | exact mem3 | exact mem4 | exact mem5 | exact mem6 | exact mem7 | (repeat (first | exact List.mem_cons_self | refine List.mem_cons_of_mem _ ?_ | refine mem_seg ?_)))), bytes_nil⟩) ?_
            rintro v127 out127 ⟨X127, rfl, h127⟩
            refine Tr.move rfl rfl rfl ?_
            refine Tr.extract rfl rfl rfl rfl ?_
            refine Tr.extract rfl rfl rfl rfl ?_
            refine Tr.alloc (cs := Inbox.zero.cells) rfl Inbox.zr rfl ?_
            intro n15 hn15 hf15
            refine Tr.storeAll rfl rfl rfl rfl (Inbox.isCell (by first | assumption | (simp; done) | exact Block.zero_ok | exact Vote.zero_ok | exact Reader.zero_ok | exact Cut.zero_ok | exact Cert.zero_ok | exact Msg.zero_ok | exact Inbox.zero_ok | exact Record.zero_ok | exact Kept.zero_ok  | exact ⟨trivial⟩)) Sz59 (Inbox.length (by first | assumption | (simp; done) | exact Block.zero_ok | exact Vote.zero_ok | exact Reader.zero_ok | exact Cut.zero_ok | exact Cert.zero_ok | exact Msg.zero_ok | exact Inbox.zero_ok | exact Record.zero_ok | exact Kept.zero_ok  | exact ⟨trivial⟩)) (by first | exact mem0 | exact mem1 | exact mem2 | exact mem3 | exact mem4 | exact mem5 | exact mem6 | exact mem7 | (repeat (first | exact List.mem_cons_self | refine List.mem_cons_of_mem _ ?_ | refine mem_seg ?_))) (Inbox.length (by first | assumption | (simp; done) | exact Block.zero_ok | exact Vote.zero_ok | exact Reader.zero_ok | exact Cut.zero_ok | exact Cert.zero_ok | exact Msg.zero_ok | exact Inbox.zero_ok | exact Record.zero_ok | exact Kept.zero_ok  | exact ⟨trivial⟩)) (by first | exact upd0 | exact upd1 | exact upd2 | exact upd3 | exact upd4 | exact upd5 | exact upd6 | exact upd7 | (repeat (first | exact upd0 | apply Upd.tail | apply Upd.seg))) ?_
            refine Tr.assign rfl rfl rfl ?_
            refine Tr.nil ?_
            refine at_n ?_
            refine Sat.seq ?_
            -- region 39
            refine Sat.region ?_
            refine Tr.mkSlice (z := u8 0) (by' := 1) 16385 rfl rfl rfl rfl Try.underlying27 Sz5 Zr5 (by unfold By; kernel_rfl) rfl (by omega) (by omega) (by omega) ?_
            intro q131
            rw [show blk q131 (List.replicate 16385 (u8 0)) 5 = ⟨q131, bytesV big, 5, 16385 * 1⟩ by rw [hbig, bytesV, List.map_replicate, blk, List.length_replicate, Nat.mul_one]]
            refine Tr.mkRow (z := .slice none 0 0) [(Sl.v ⟨some ⟨q131, 0, none⟩, 16385, 16385⟩)] [(Sl.v ⟨some ⟨q131, 0, none⟩, 16385, 16385⟩)] rfl rfl rfl Try.underlying57 Sz27 Zr27 rfl rfl (by intro v hv; rw [List.mem_singleton.1 hv]; rfl) (by decide) rfl ?_
            intro q132
            refine Tr.build (cs := (⟨⟨some ⟨q132, 0, none⟩, 1, 1⟩⟩ : Inbox).cells) rfl rfl rfl (fun w => by kernel_rfl) ?_
            refine Tr.call4 rfl rfl rfl rfl rfl Body23 (sync_pop ⟨⟨some ⟨q132, 0, none⟩, 1, 1⟩⟩ [big]) (fun w h => lists_one (r := ⟨some ⟨q131, 0, none⟩, 16385, 16385⟩) (sees_own h (by first | exact mem0 | exact mem1 | exact mem2 | exact mem3 | exact mem4 | exact mem5 | exact mem6 | exact mem7 | (repeat (first | exact List.mem_cons_self | refine List.mem_cons_of_mem _ ?_ | refine mem_seg ?_)))) (acc_bytes (Acc.some (E := 5) (cells := bytesV big) (Nat.le_refl _) (by rw [bytesV, List.length_map, hbigl])) (Lies.of h (by intro b hb; rw [List.mem_singleton.1 hb]; repeat (first | exact List.mem_cons_self | refine List.mem_cons_of_mem _ ?_ | refine mem_seg ?_))) hbigl (by omega))) ?_
            rintro v134 out134 ⟨s134, X134, rfl, hl134, h134⟩
            refine Tr.move rfl rfl rfl ?_
            refine Tr.extract rfl rfl rfl rfl ?_
            refine Tr.extract rfl rfl rfl rfl ?_
            refine Tr.extract rfl rfl rfl rfl ?_
            refine Tr.alloc (cs := Inbox.zero.cells) rfl Inbox.zr rfl ?_
            intro n18 hn18 hf18
            refine Tr.assign rfl rfl rfl ?_
            refine Tr.storeAll rfl rfl rfl rfl (Inbox.isCell (by first | assumption | (simp; done) | exact Block.zero_ok | exact Vote.zero_ok | exact Reader.zero_ok | exact Cut.zero_ok | exact Cert.zero_ok | exact Msg.zero_ok | exact Inbox.zero_ok | exact Record.zero_ok | exact Kept.zero_ok  | exact ⟨trivial⟩)) Sz59 (Inbox.length (by first | assumption | (simp; done) | exact Block.zero_ok | exact Vote.zero_ok | exact Reader.zero_ok | exact Cut.zero_ok | exact Cert.zero_ok | exact Msg.zero_ok | exact Inbox.zero_ok | exact Record.zero_ok | exact Kept.zero_ok  | exact ⟨trivial⟩)) (by first | exact mem0 | exact mem1 | exact mem2 | exact mem3 | exact mem4 | exact mem5 | exact mem6 | exact mem7 | (repeat (first | exact List.mem_cons_self | refine List.mem_cons_of_mem _ ?_ | refine mem_seg ?_))) (Inbox.length (by first | assumption | (simp; done) | exact Block.zero_ok | exact Vote.zero_ok | exact Reader.zero_ok | exact Cut.zero_ok | exact Cert.zero_ok | exact Msg.zero_ok | exact Inbox.zero_ok | exact Record.zero_ok | exact Kept.zero_ok  | exact ⟨trivial⟩)) (by first | exact upd0 | exact upd1 | exact upd2 | exact upd3 | exact upd4 | exact upd5 | exact upd6 | exact upd7 | (repeat (first | exact upd0 | apply Upd.tail | apply Upd.seg))) ?_
            refine Tr.assign rfl rfl rfl ?_
            refine Tr.nil ?_
            refine at_n ?_
            refine Sat.seq ?_
            -- region 40
            refine Sat.region ?_
            refine Tr.move rfl rfl rfl ?_
            refine Tr.eqi rfl rfl rfl rfl (decide_eq_true (push_over)) ?_
            refine Tr.move rfl rfl rfl ?_
            refine Tr.move rfl rfl rfl ?_
            refine Tr.eqi rfl rfl rfl rfl (decide_eq_true (pop_over hbigl)) ?_
            refine Tr.pick rfl rfl rfl rfl rfl rfl ?_
            refine Tr.assign rfl rfl rfl ?_
            refine Tr.nil ?_
            refine at_n ?_
            refine Sat.ret ?_
            refine en_r ?_
            refine ⟨_, [], res_tmp rfl rfl, (by simp), (by simp), ?_, rfl⟩
            rfl

end Go.Proofs.Ytejjamifnombhaa
end

section
namespace Go.Proofs.Ytejjamifnombhaa
open Go Go.ChangeShapes Go.WideShapes Go.ChangeAt Go.RowKit
set_option linter.unusedVariables false

theorem ownInbox : ownKnob Try.prog.godebug = none := by kernel_rfl
theorem laidOutInbox : laidOutB Try.prog = true := by kernel_rfl

theorem openLsInbox {H : Type} {enc : TypeId × Value → H} {P : Program} {W : World} {base : Nat} {sp : Nat → Bool} {held : Bool} {k e f : TypeId} (hu : P.underlying k = some (.slice e)) (he : P.underlying e = some (.slice f)) (hf0 : P.underlying f = some (.int .u8)) (hc : P.cellsOf f = 1) (hc2 : P.cellsOf e = 1) {r : Reach} {b0 : Nat} {v : Value} {d : DataW H} {ps : List MemPlace}
    (hval : Value.okWide P W r b0 k v) (hd : DataW.Trod enc P W base sp held k v d ps) : ∃ s l, v = Hw.Sl.v s ∧ ListsAt W s l := by
  simp only [Value.okWide, hu, Cell.okWide] at hval
  obtain ⟨a1, len, cap, rfl⟩ : ∃ a1 len cap, v = .slice a1 len cap := by
    unfold Cell.ok at hval
    rw [hu] at hval
    split at hval <;> first | exact hval.elim | exact ⟨_, _, _, rfl⟩ | simp_all
  obtain ⟨fuel, hf⟩ := hd
  obtain ⟨s, l, h1, h2⟩ := open_lists hu he hf0 hc hc2 hf
  refine ⟨s, l, ?_, h2⟩
  simp [Value.cells] at h1
  exact h1

theorem walkInbox (w : World) (s0 : Hw.Sl) (l0 : List (List UInt8)) (hs0 : ListsAt w s0 l0) (a1 : Int) (w1 : (Lit.int .i64 a1).wf = true) : Calls Try.prog 5 #[Hw.Sl.v s0, Hw.i64 a1] w fun e w' => e = .returned (.bool true) ∧ Below w.heap.size w w' :=
  by
  have fin : ∀ {us : Array Value}, Calls Try.prog 5 us w (fun e W' => ∃ v out, e = .returned v ∧ (v = .bool true ∧ out = []) ∧ Hw.Ret [] out w W') → Calls Try.prog 5 us w (fun e w' => e = .returned (.bool true) ∧ Below w.heap.size w w') :=
    fun h => h.mono fun e w' ⟨v, out, he, ⟨hv, ho⟩, hr⟩ => ⟨by rw [he, hv], Hw.Keeps.below hr.keeps⟩
  exact fin (law_inbox s0 l0 a1 w1 w hs0)

set_option maxRecDepth 100000 in
theorem liftedInbox (os : Os) (started : os.Started) (H : Type) (enc : TypeId × Value → H) :
    ReturnsInHanded {} Try.checked os 5 .any (Rows.syncInboxSpec.pre6 enc Try.prog Try.f5 Rows.syncInboxRow.domain false) (Rows.syncInboxSpec.post enc Try.prog Try.f5 false true false false) := by
  refine returnsInHanded_of_change (C := Try.checked) ownInbox started (by kernel_rfl) Try.func5
    (ChangeSpec.witness6 (enc := enc) (C := Try.checked) false ⟨#[], #[.slice none 0 0, .int .i64 0], []⟩ 8 (by kernel_rfl) (by kernel_rfl) (by kernel_rfl) (by kernel_rfl)) ?_
  intro W base args ds gs before hval0 hW hcnd _
  have hval : ∀ (j : Nat) t v, Try.f5.params[j]? = some t → args[j]? = some v → Value.okWide Try.prog W .any base t v := hval0
  have hW' := hW
  obtain ⟨p, q, hA0, hV, rfl, hfz, hnd⟩ := hW
  have hA : DataW.TrodAll enc Try.prog W 0 (fun _ => true) true Try.f5.params.toList args.toList ds p := hA0
  rw [Try.params5] at hA hval
  obtain ⟨v0, vs0, d0, ds0, p0, q0, hargs, rfl, rfl, h0, r0⟩ := trodAll_cons hA
  obtain ⟨v1, vs1, d1, ds1, p1, q1, rfl, rfl, rfl, h1, r1⟩ := trodAll_cons r0
  obtain ⟨rfl, rfl, rfl⟩ := trodAll_nil r1
  obtain rfl : args = #[v0, v1] := by cases args; simp_all
  obtain ⟨rfl, rfl⟩ := trodVars_none hV
  have k0 := h0
  have lt0 : ∀ x ∈ p0, x.block < W.heap.size := by obtain ⟨m, hm⟩ := k0; exact DataW.trod_lt m _ _ _ hm
  have k1 := h1
  have lt1 : ∀ x ∈ p1, x.block < W.heap.size := by obtain ⟨m, hm⟩ := k1; exact DataW.trod_lt m _ _ _ hm
  obtain ⟨s0, l0, rfl, hs0⟩ := openLsInbox Try.underlying57 Try.underlying27 Try.underlying5 (by kernel_rfl) (by kernel_rfl) (hval 0 57 v0 rfl rfl) h0
  obtain ⟨a1, rfl, rfl, rfl, w1⟩ := open_int Try.underlying3 (hval 1 3 v1 rfl rfl) h1
  clear hA0 hval0
  refine (walkInbox W s0 l0 hs0 a1 w1).mono fun e W' ⟨he, bel⟩ => ?_
  subst he
  exact ⟨_, rfl, _, _, _, [], _, [], hW', trodAll_mk1 (shut_bool Try.underlying4 _), (trodAll_cons_mk (Below.trod laidOutInbox (by kernel_rfl) (of_decide_eq_true (by kernel_rfl)) k0 bel lt0) (trodAll_cons_mk (Below.trod laidOutInbox (by kernel_rfl) (of_decide_eq_true (by kernel_rfl)) k1 bel lt1) trodAll_mk0)), rfl, bel.frame _, fun h => by cases h⟩

theorem syncInbox_holds : Rows.SyncInboxSaid :=
  OpenClaim.holds_of_wide 5 Try.f5 rfl rfl rfl rfl rfl rfl rfl ⟨rfl, rfl, rfl, rfl, rfl⟩ rfl rfl rfl rfl rfl (by kernel_rfl) Try.func5 (by kernel_rfl)
    (of_decide_eq_true (by kernel_rfl)) (by unfold Func.isWrapper; first | (rw [if_pos (by decide +kernel)]; kernel_rfl) | (rw [if_neg (by decide +kernel)]; exact ⟨rfl, rfl⟩))
    (fun os started H enc _ => liftedInbox os started H enc)

end Go.Proofs.Ytejjamifnombhaa
end
