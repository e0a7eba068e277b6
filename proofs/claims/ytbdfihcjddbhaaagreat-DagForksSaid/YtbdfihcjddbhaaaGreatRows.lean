/-
  No cell of these rows narrows 'for every input' (looked for: loops, veiled, ifaces, maps, wideKeys, modest, calm, conditions, laid).
  DERIVED. THE GIVEN ROWS OF THIS SEAT. 2 by the template 'for every input the law returns true; each argument reads behind the call as it read before'; 0 by the template 'total and deterministic' (their statements: YtbdfihcjddbhaaaGreatTotals.lean).
  GIVEN WITH THE SEED: the statements are not yours to turn. If you find one false, say at which input.
  Laid BY PROGRAM, IN A SANDBOX (cutbox-rows.mjs): the forced cells as the released guide's own fill.sh prints them over the translation f8a9885a7dbbfe96… (all of the seat's roots in one cut). By AI agents, Wed Nov 11 2026. No macro, syntax, notation, axiom, sorry.
-/
import Derived.Test.YtbdfihcjddbhaaaGreatChecked
import GoSem.Claim
import GoSem.ClaimJoined
import GoSem.ClaimMapViews
import Derived.JoinedTies
import Derived.KernelRfl
namespace Go.Proofs.YtbdfihcjddbhaaaGreat
/- THE CELL 'sum', in the pinned program and in every row, IS THE sha256 OF THE DUMP (.gsa) THAT YtbdfihcjddbhaaaGreatProg.lean LOADS. Nothing in Lean hashes anything: it is a label: what it is worth is what the hold of that sum in a sandbox is worth. -/
noncomputable def Tryz.pinned : Pinned := { name := "ytbdfihcjddbhaaagreat", sum := "f8a9885a7dbbfe962222c0229a943a1c0e47ae8685af4ff7a9b6c9ab3e372660", checked := Tryz.checked }
namespace Rows
def none {H : Type} : Left H := { results := [], args := [] }

/-- 'headwaterlaw16.DagForks': WHATEVER THE INPUT: true; the input reads as it did. -/
def dagForksSpec : ChangeSpec := { name := "dagForks", fn := fun _ => fun
  | [d] => { results := [.lit (.bool true)], args := [d] }
  | _ => none }
def dagForksRow : OpenClaim := { program := "ytbdfihcjddbhaaagreat", sum := "f8a9885a7dbbfe962222c0229a943a1c0e47ae8685af4ff7a9b6c9ab3e372660", func := "headwater/headwaterlaw16.DagForks", spec := "dagForks", inPlace := ["internal/bytealg.Compare", "math/bits.Add64", "math/bits.Sub64"], unfollowed := true, recurses := true, plainKeys := false, apart := false }
def DagForksSaid : Prop := dagForksRow.holds Tryz.pinned (OpenSpec.ofChange dagForksSpec)

/-- ITS FALSE NEIGHBOUR: 'it returns false'. Refute it at one input. -/
def dagForksWrong : ChangeSpec := { name := "dagForks", fn := fun _ => fun
  | [d] => { results := [.lit (.bool false)], args := [d] }
  | _ => none }
def DagForksWrongFalsely : Prop := dagForksRow.holds Tryz.pinned (OpenSpec.ofChange dagForksWrong)

/-- 'headwaterlaw17.LinearCalls': WHATEVER THE INPUT: true; the input reads as it did. -/
def linearCallsSpec : ChangeSpec := { name := "linearCalls", fn := fun _ => fun
  | [d1, d2, d3] => { results := [.lit (.bool true)], args := [d1, d2, d3] }
  | _ => none }
def linearCallsRow : OpenClaim := { program := "ytbdfihcjddbhaaagreat", sum := "f8a9885a7dbbfe962222c0229a943a1c0e47ae8685af4ff7a9b6c9ab3e372660", func := "headwater/headwaterlaw17.LinearCalls", spec := "linearCalls", inPlace := ["internal/bytealg.Compare", "math/bits.Add64", "math/bits.Sub64"], unfollowed := true, recurses := true, plainKeys := false, apart := false }
def LinearCallsSaid : Prop := linearCallsRow.holds Tryz.pinned (OpenSpec.ofChange linearCallsSpec)

/-- ITS FALSE NEIGHBOUR: 'it returns false'. Refute it at one input. -/
def linearCallsWrong : ChangeSpec := { name := "linearCalls", fn := fun _ => fun
  | [d1, d2, d3] => { results := [.lit (.bool false)], args := [d1, d2, d3] }
  | _ => none }
def LinearCallsWrongFalsely : Prop := linearCallsRow.holds Tryz.pinned (OpenSpec.ofChange linearCallsWrong)

/- THE SECOND FORM. 'bulk': how many values and letters a reading holds, each counted each time it is reached (what is shared counts as often as it is met; a slice's spare places count too). A statement '..UptoSaid' is the law's where the arguments, and the package variables that the reading takes, are together of bulk at most 1048576: NARROWER than '..Said'. Prove '..Said' where nothing that the law and all that it calls make is longer than what came in: it says more and counts as full. Else prove '..UptoSaid'. A law counts once. -/
mutual
def uptoBulk {H : Type} : DataW H → Nat
  | .lit (.string bytes) => bytes.length + 1
  | .lit _ => 1
  | .nil => 1
  | .ptr d => uptoBulk d + 1
  | .slice elems spare => uptoBulkAll elems + uptoBulkAll spare + 1
  | .agg parts => uptoBulkAll parts + 1
  | .iface _ d => uptoBulk d + 1
  | .map entries => uptoBulkEntries entries + 1
  | .held _ => 1
def uptoBulkAll {H : Type} : List (DataW H) → Nat
  | [] => 0
  | d :: r => uptoBulk d + uptoBulkAll r
def uptoBulkEntries {H : Type} : List (Lit × DataW H) → Nat
  | [] => 0
  | x :: r => uptoBulkEntry x + uptoBulkEntries r
def uptoBulkEntry {H : Type} : Lit × DataW H → Nat
  | (.string bytes, d) => bytes.length + uptoBulk d + 1
  | (_, d) => uptoBulk d + 1
 end
def uptoSmall : (H : Type) → List (DataW H) → Bool := fun _ ds => decide (uptoBulkAll ds ≤ 1048576)
def OpenSpec.upto (s : _root_.Go.ChangeSpec) : _root_.Go.OpenSpec := { _root_.Go.OpenSpec.ofChange s with cond := some uptoSmall }

/-- 'headwaterlaw16.DagForks', WHERE WHAT IT READS IS OF BULK AT MOST 1048576: true; the input reads as it did. -/
def dagForksUptoRow : OpenClaim := { program := "ytbdfihcjddbhaaagreat", sum := "f8a9885a7dbbfe962222c0229a943a1c0e47ae8685af4ff7a9b6c9ab3e372660", func := "headwater/headwaterlaw16.DagForks", spec := "dagForks", inPlace := ["internal/bytealg.Compare", "math/bits.Add64", "math/bits.Sub64"], unfollowed := true, recurses := true, plainKeys := false, apart := false, narrowed := true }
def DagForksUptoSaid : Prop := dagForksUptoRow.holds Tryz.pinned (OpenSpec.upto dagForksSpec)

/-- 'headwaterlaw17.LinearCalls', WHERE WHAT IT READS IS OF BULK AT MOST 1048576: true; the input reads as it did. -/
def linearCallsUptoRow : OpenClaim := { program := "ytbdfihcjddbhaaagreat", sum := "f8a9885a7dbbfe962222c0229a943a1c0e47ae8685af4ff7a9b6c9ab3e372660", func := "headwater/headwaterlaw17.LinearCalls", spec := "linearCalls", inPlace := ["internal/bytealg.Compare", "math/bits.Add64", "math/bits.Sub64"], unfollowed := true, recurses := true, plainKeys := false, apart := false, narrowed := true }
def LinearCallsUptoSaid : Prop := linearCallsUptoRow.holds Tryz.pinned (OpenSpec.upto linearCallsSpec)

end Rows
end Go.Proofs.YtbdfihcjddbhaaaGreat
