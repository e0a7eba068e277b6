/-
  No cell of these rows narrows 'for every input' (looked for: loops, veiled, ifaces, maps, wideKeys, modest, calm, conditions, laid).
  DERIVED. THE GIVEN ROWS OF THIS SEAT. 5 by the template 'for every input the law returns true; each argument reads behind the call as it read before'; 0 by the template 'total and deterministic' (their statements: YtfcbgdkpagcbbaaGreatTotals.lean).
  GIVEN WITH THE SEED: the statements are not yours to turn. If you find one false, say at which input.
  Laid BY PROGRAM, IN A SANDBOX (cutbox-rows.mjs): the forced cells as the released guide's own fill.sh prints them over the translation e86f75154709880a… (all of the seat's roots in one cut). By AI agents, Wed Nov 11 2026. No macro, syntax, notation, axiom, sorry.
-/
import Derived.Test.YtfcbgdkpagcbbaaGreatChecked
import GoSem.Claim
import GoSem.ClaimJoined
import GoSem.ClaimMapViews
import Derived.JoinedTies
import Derived.KernelRfl
namespace Go.Proofs.YtfcbgdkpagcbbaaGreat
/- THE CELL 'sum', in the pinned program and in every row, IS THE sha256 OF THE DUMP (.gsa) THAT YtfcbgdkpagcbbaaGreatProg.lean LOADS. Nothing in Lean hashes anything: it is a label: what it is worth is what the hold of that sum in a sandbox is worth. -/
noncomputable def Tryz.pinned : Pinned := { name := "ytfcbgdkpagcbbaagreat", sum := "e86f75154709880a70664963ccce537b9d6974383a06e3b2b111898c83f30a56", checked := Tryz.checked }
namespace Rows
def none {H : Type} : Left H := { results := [], args := [] }

/-- 'headwaterlaw16.DagNil': WHATEVER THE INPUT: true; the input reads as it did. -/
def dagNilSpec : ChangeSpec := { name := "dagNil", fn := fun _ => fun
  | [d1, d2] => { results := [.lit (.bool true)], args := [d1, d2] }
  | _ => none }
def dagNilRow : OpenClaim := { program := "ytfcbgdkpagcbbaagreat", sum := "e86f75154709880a70664963ccce537b9d6974383a06e3b2b111898c83f30a56", func := "headwater/headwaterlaw16.DagNil", spec := "dagNil", inPlace := ["internal/bytealg.Compare", "math/bits.Add64", "math/bits.Sub64"], unfollowed := true, recurses := true, plainKeys := false, apart := false }
def DagNilSaid : Prop := dagNilRow.holds Tryz.pinned (OpenSpec.ofChange dagNilSpec)

/-- ITS FALSE NEIGHBOUR: 'it returns false'. Refute it at one input. -/
def dagNilWrong : ChangeSpec := { name := "dagNil", fn := fun _ => fun
  | [d1, d2] => { results := [.lit (.bool false)], args := [d1, d2] }
  | _ => none }
def DagNilWrongFalsely : Prop := dagNilRow.holds Tryz.pinned (OpenSpec.ofChange dagNilWrong)

/-- 'headwaterlaw16.DagNames': WHATEVER THE INPUT: true; the input reads as it did. -/
def dagNamesSpec : ChangeSpec := { name := "dagNames", fn := fun _ => fun
  | [] => { results := [.lit (.bool true)], args := [] }
  | _ => none }
def dagNamesRow : OpenClaim := { program := "ytfcbgdkpagcbbaagreat", sum := "e86f75154709880a70664963ccce537b9d6974383a06e3b2b111898c83f30a56", func := "headwater/headwaterlaw16.DagNames", spec := "dagNames", inPlace := ["internal/bytealg.Compare", "math/bits.Add64", "math/bits.Sub64"], unfollowed := true, recurses := true, plainKeys := false, apart := false }
def DagNamesSaid : Prop := dagNamesRow.holds Tryz.pinned (OpenSpec.ofChange dagNamesSpec)

/-- ITS FALSE NEIGHBOUR: 'it returns false'. Refute it at one input. -/
def dagNamesWrong : ChangeSpec := { name := "dagNames", fn := fun _ => fun
  | [] => { results := [.lit (.bool false)], args := [] }
  | _ => none }
def DagNamesWrongFalsely : Prop := dagNamesRow.holds Tryz.pinned (OpenSpec.ofChange dagNamesWrong)

/-- 'headwaterlaw16.DagFull': WHATEVER THE INPUT: true; the input reads as it did. -/
def dagFullSpec : ChangeSpec := { name := "dagFull", fn := fun _ => fun
  | [] => { results := [.lit (.bool true)], args := [] }
  | _ => none }
def dagFullRow : OpenClaim := { program := "ytfcbgdkpagcbbaagreat", sum := "e86f75154709880a70664963ccce537b9d6974383a06e3b2b111898c83f30a56", func := "headwater/headwaterlaw16.DagFull", spec := "dagFull", inPlace := ["internal/bytealg.Compare", "math/bits.Add64", "math/bits.Sub64"], unfollowed := true, recurses := true, plainKeys := false, apart := false }
def DagFullSaid : Prop := dagFullRow.holds Tryz.pinned (OpenSpec.ofChange dagFullSpec)

/-- ITS FALSE NEIGHBOUR: 'it returns false'. Refute it at one input. -/
def dagFullWrong : ChangeSpec := { name := "dagFull", fn := fun _ => fun
  | [] => { results := [.lit (.bool false)], args := [] }
  | _ => none }
def DagFullWrongFalsely : Prop := dagFullRow.holds Tryz.pinned (OpenSpec.ofChange dagFullWrong)

/-- 'headwaterlaw16.DagForks': WHATEVER THE INPUT: true; the input reads as it did. -/
def dagForksSpec : ChangeSpec := { name := "dagForks", fn := fun _ => fun
  | [d] => { results := [.lit (.bool true)], args := [d] }
  | _ => none }
def dagForksRow : OpenClaim := { program := "ytfcbgdkpagcbbaagreat", sum := "e86f75154709880a70664963ccce537b9d6974383a06e3b2b111898c83f30a56", func := "headwater/headwaterlaw16.DagForks", spec := "dagForks", inPlace := ["internal/bytealg.Compare", "math/bits.Add64", "math/bits.Sub64"], unfollowed := true, recurses := true, plainKeys := false, apart := false }
def DagForksSaid : Prop := dagForksRow.holds Tryz.pinned (OpenSpec.ofChange dagForksSpec)

/-- ITS FALSE NEIGHBOUR: 'it returns false'. Refute it at one input. -/
def dagForksWrong : ChangeSpec := { name := "dagForks", fn := fun _ => fun
  | [d] => { results := [.lit (.bool false)], args := [d] }
  | _ => none }
def DagForksWrongFalsely : Prop := dagForksRow.holds Tryz.pinned (OpenSpec.ofChange dagForksWrong)

/-- 'headwaterlaw16.DagCloses': WHATEVER THE INPUT: true; the input reads as it did. -/
def dagClosesSpec : ChangeSpec := { name := "dagCloses", fn := fun _ => fun
  | [d1, d2, d3] => { results := [.lit (.bool true)], args := [d1, d2, d3] }
  | _ => none }
def dagClosesRow : OpenClaim := { program := "ytfcbgdkpagcbbaagreat", sum := "e86f75154709880a70664963ccce537b9d6974383a06e3b2b111898c83f30a56", func := "headwater/headwaterlaw16.DagCloses", spec := "dagCloses", inPlace := ["internal/bytealg.Compare", "math/bits.Add64", "math/bits.Sub64"], unfollowed := true, recurses := true, plainKeys := false, apart := false }
def DagClosesSaid : Prop := dagClosesRow.holds Tryz.pinned (OpenSpec.ofChange dagClosesSpec)

/-- ITS FALSE NEIGHBOUR: 'it returns false'. Refute it at one input. -/
def dagClosesWrong : ChangeSpec := { name := "dagCloses", fn := fun _ => fun
  | [d1, d2, d3] => { results := [.lit (.bool false)], args := [d1, d2, d3] }
  | _ => none }
def DagClosesWrongFalsely : Prop := dagClosesRow.holds Tryz.pinned (OpenSpec.ofChange dagClosesWrong)

/- THE SECOND FORM. 'bulk': how many values and letters a reading holds, each counted each time it is reached (what is shared counts as often as it is met; a slice's spare places count too). A statement '..UptoSaid' is the law's where the arguments, and the package variables that the reading takes, are together of bulk at most 1048576: NARROWER than '..Said'. Prove '..Said' where nothing that the law and all that it calls make is longer than what came in: it says more and counts as full. Else prove '..UptoSaid'. A law counts once. -/
mutual
def uptoBulk {H : Type} : DataW H → Nat
  | .lit (.string bytes) => bytes.length + 1
  | .lit _ => 1
  | .nil => 1
  | .ptr d => uptoBulk d + 1
  | .slice elems spare => uptoBulkAll elems + uptoBulkAll spare + 1
  | .agg parts => uptoBulkAll parts + 1
  | .iface _ d => uptoBulk d + 1
  | .map entries => uptoBulkEntries entries + 1
  | .held _ => 1
def uptoBulkAll {H : Type} : List (DataW H) → Nat
  | [] => 0
  | d :: r => uptoBulk d + uptoBulkAll r
def uptoBulkEntries {H : Type} : List (Lit × DataW H) → Nat
  | [] => 0
  | x :: r => uptoBulkEntry x + uptoBulkEntries r
def uptoBulkEntry {H : Type} : Lit × DataW H → Nat
  | (.string bytes, d) => bytes.length + uptoBulk d + 1
  | (_, d) => uptoBulk d + 1
 end
def uptoSmall : (H : Type) → List (DataW H) → Bool := fun _ ds => decide (uptoBulkAll ds ≤ 1048576)
def OpenSpec.upto (s : _root_.Go.ChangeSpec) : _root_.Go.OpenSpec := { _root_.Go.OpenSpec.ofChange s with cond := some uptoSmall }

/-- 'headwaterlaw16.DagNil', WHERE WHAT IT READS IS OF BULK AT MOST 1048576: true; the input reads as it did. -/
def dagNilUptoRow : OpenClaim := { program := "ytfcbgdkpagcbbaagreat", sum := "e86f75154709880a70664963ccce537b9d6974383a06e3b2b111898c83f30a56", func := "headwater/headwaterlaw16.DagNil", spec := "dagNil", inPlace := ["internal/bytealg.Compare", "math/bits.Add64", "math/bits.Sub64"], unfollowed := true, recurses := true, plainKeys := false, apart := false, narrowed := true }
def DagNilUptoSaid : Prop := dagNilUptoRow.holds Tryz.pinned (OpenSpec.upto dagNilSpec)

/-- 'headwaterlaw16.DagNames', WHERE WHAT IT READS IS OF BULK AT MOST 1048576: true; the input reads as it did. -/
def dagNamesUptoRow : OpenClaim := { program := "ytfcbgdkpagcbbaagreat", sum := "e86f75154709880a70664963ccce537b9d6974383a06e3b2b111898c83f30a56", func := "headwater/headwaterlaw16.DagNames", spec := "dagNames", inPlace := ["internal/bytealg.Compare", "math/bits.Add64", "math/bits.Sub64"], unfollowed := true, recurses := true, plainKeys := false, apart := false, narrowed := true }
def DagNamesUptoSaid : Prop := dagNamesUptoRow.holds Tryz.pinned (OpenSpec.upto dagNamesSpec)

/-- 'headwaterlaw16.DagFull', WHERE WHAT IT READS IS OF BULK AT MOST 1048576: true; the input reads as it did. -/
def dagFullUptoRow : OpenClaim := { program := "ytfcbgdkpagcbbaagreat", sum := "e86f75154709880a70664963ccce537b9d6974383a06e3b2b111898c83f30a56", func := "headwater/headwaterlaw16.DagFull", spec := "dagFull", inPlace := ["internal/bytealg.Compare", "math/bits.Add64", "math/bits.Sub64"], unfollowed := true, recurses := true, plainKeys := false, apart := false, narrowed := true }
def DagFullUptoSaid : Prop := dagFullUptoRow.holds Tryz.pinned (OpenSpec.upto dagFullSpec)

/-- 'headwaterlaw16.DagForks', WHERE WHAT IT READS IS OF BULK AT MOST 1048576: true; the input reads as it did. -/
def dagForksUptoRow : OpenClaim := { program := "ytfcbgdkpagcbbaagreat", sum := "e86f75154709880a70664963ccce537b9d6974383a06e3b2b111898c83f30a56", func := "headwater/headwaterlaw16.DagForks", spec := "dagForks", inPlace := ["internal/bytealg.Compare", "math/bits.Add64", "math/bits.Sub64"], unfollowed := true, recurses := true, plainKeys := false, apart := false, narrowed := true }
def DagForksUptoSaid : Prop := dagForksUptoRow.holds Tryz.pinned (OpenSpec.upto dagForksSpec)

/-- 'headwaterlaw16.DagCloses', WHERE WHAT IT READS IS OF BULK AT MOST 1048576: true; the input reads as it did. -/
def dagClosesUptoRow : OpenClaim := { program := "ytfcbgdkpagcbbaagreat", sum := "e86f75154709880a70664963ccce537b9d6974383a06e3b2b111898c83f30a56", func := "headwater/headwaterlaw16.DagCloses", spec := "dagCloses", inPlace := ["internal/bytealg.Compare", "math/bits.Add64", "math/bits.Sub64"], unfollowed := true, recurses := true, plainKeys := false, apart := false, narrowed := true }
def DagClosesUptoSaid : Prop := dagClosesUptoRow.holds Tryz.pinned (OpenSpec.upto dagClosesSpec)

end Rows
end Go.Proofs.YtfcbgdkpagcbbaaGreat
