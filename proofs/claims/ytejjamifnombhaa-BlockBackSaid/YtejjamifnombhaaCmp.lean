/- Contracts of cmp.Compare, cmp.Or, bytes.Compare. Conditions: what the rows hold. -/
import Derived.Test.YtejjamifnombhaaRecs
import Derived.Laws.Externs
namespace Go.Proofs.Ytejjamifnombhaa
open Go Hw
set_option linter.unusedVariables false
set_option linter.unusedSimpArgs false


def cmpI (a b : Int) : Int := if a < b then -1 else if b < a then 1 else 0
def orI : List Int → Int
  | [] => 0
  | x :: l => if x = 0 then orI l else x
theorem orI_drop (xs : List Int) (k : Nat) (hk : k < xs.length) : orI (xs.drop k) = if xs.getD k 0 = 0 then orI (xs.drop (k + 1)) else xs.getD k 0 := by
  rw [List.drop_eq_getElem_cons hk, orI]
  simp [List.getD, hk]



theorem bytealg_run {w : World} {p q : Option Addr} {n m c1 c2 : Nat} {a b : List UInt8} (ha : a.length = n) (hb : b.length = m) (h1 : SeesP w p (bytesV a)) (h2 : SeesP w q (bytesV b)) :
    (callFunc 133 [.slice p n c1, .slice q m c2].toArray).run Try.prog w = .ok (.value (i64 (cmpB a b))) w := by
  rw [run_callFunc_extern Try.func133 (by kernel_rfl) (by kernel_rfl) (by kernel_rfl) (e := Extern.BytealgCompare.compare) (by kernel_rfl)]
  rw [show [Value.slice p n c1, Value.slice q m c2].toArray = #[.slice p n c1, .slice q m c2] from rfl, run_compareB ha hb h1 h2]
  rfl


set_option maxRecDepth 100000 in
set_option maxHeartbeats 1000000 in
theorem bytes_cmp (p q : Option Addr) (c1 c2 n m : Nat) (a b : List UInt8) (ha : a.length = n) (hb : b.length = m) : Meets Try.prog 92 [.slice p n c1, .slice q m c2] [] (fun W => SeesP W p (bytesV a) ∧ SeesP W q (bytesV b)) (fun v out => v = i64 (cmpB a b) ∧ out = []) := by
  intro W hW
  refine calls_of (hp0 := []) Try.func92 rfl 8 Try.ntmps92 rfl (HRep.nil _) ?_
  refine Sat.seq ?_
  -- region 0
  refine Sat.region ?_
  refine Tr.assign rfl rfl rfl ?_
  refine Tr.nil ?_
  refine at_n ?_
  refine Sat.seq ?_
  -- region 1
  refine Sat.region ?_
  refine Tr.move rfl rfl rfl ?_
  refine Tr.move rfl rfl rfl ?_
  refine Tr.extL rfl rfl rfl rfl (fun w h => bytealg_run ha hb (seesP_ext h rfl hW.1) (seesP_ext h rfl hW.2)) ?_
  refine Tr.assign rfl rfl rfl ?_
  refine Tr.nil ?_
  refine at_n ?_
  refine Sat.ret ?_
  refine en_r ?_
  refine ⟨_, [], res_tmp rfl rfl, (by simp), (by simp), ?_, rfl⟩
  rfl

end Go.Proofs.Ytejjamifnombhaa
