/-
  No cell of these rows narrows 'for every input' (looked for: loops, veiled, ifaces, maps, wideKeys, modest, calm, conditions, laid).
  DERIVED. THE GIVEN ROWS OF THIS SEAT. 12 by the template 'for every input the law returns true; each argument reads behind the call as it read before'; 0 by the template 'total and deterministic' (their statements: YtpogmfngccolbaaGreatTotals.lean).
  GIVEN WITH THE SEED: the statements are not yours to turn. If you find one false, say at which input.
  Laid BY PROGRAM, IN A SANDBOX (cutbox-rows.mjs): the forced cells as the released guide's own fill.sh prints them over the translation 5d3d07e9c34a860b… (all of the seat's roots in one cut). By AI agents, Wed Nov 11 2026. No macro, syntax, notation, axiom, sorry.
-/
import Derived.Test.YtpogmfngccolbaaGreatChecked
import GoSem.Claim
import GoSem.ClaimJoined
import GoSem.ClaimMapViews
import Derived.JoinedTies
import Derived.KernelRfl
namespace Go.Proofs.YtpogmfngccolbaaGreat
/- THE CELL 'sum', in the pinned program and in every row, IS THE sha256 OF THE DUMP (.gsa) THAT YtpogmfngccolbaaGreatProg.lean LOADS. Nothing in Lean hashes anything: it is a label: what it is worth is what the hold of that sum in a sandbox is worth. -/
noncomputable def Tryz.pinned : Pinned := { name := "ytpogmfngccolbaagreat", sum := "5d3d07e9c34a860bc8652f8d12dad35c02debffe20eb8761773b0c49feb0c01f", checked := Tryz.checked }
namespace Rows
def none {H : Type} : Left H := { results := [], args := [] }

/-- 'headwaterlaw17.LinearSorts': WHATEVER THE INPUT: true; the input reads as it did. -/
def linearSortsSpec : ChangeSpec := { name := "linearSorts", fn := fun _ => fun
  | [d1, d2, d3] => { results := [.lit (.bool true)], args := [d1, d2, d3] }
  | _ => none }
def linearSortsRow : OpenClaim := { program := "ytpogmfngccolbaagreat", sum := "5d3d07e9c34a860bc8652f8d12dad35c02debffe20eb8761773b0c49feb0c01f", func := "headwater/headwaterlaw17.LinearSorts", spec := "linearSorts", inPlace := ["internal/bytealg.Compare", "math/bits.Add64", "math/bits.Sub64"], unfollowed := true, recurses := true, plainKeys := false, apart := false }
def LinearSortsSaid : Prop := linearSortsRow.holds Tryz.pinned (OpenSpec.ofChange linearSortsSpec)

/-- ITS FALSE NEIGHBOUR: 'it returns false'. Refute it at one input. -/
def linearSortsWrong : ChangeSpec := { name := "linearSorts", fn := fun _ => fun
  | [d1, d2, d3] => { results := [.lit (.bool false)], args := [d1, d2, d3] }
  | _ => none }
def LinearSortsWrongFalsely : Prop := linearSortsRow.holds Tryz.pinned (OpenSpec.ofChange linearSortsWrong)

/-- 'headwaterlaw19.CutDags': WHATEVER THE INPUT: true; the input reads as it did. -/
def cutDagsSpec : ChangeSpec := { name := "cutDags", fn := fun _ => fun
  | [d1, d2, d3] => { results := [.lit (.bool true)], args := [d1, d2, d3] }
  | _ => none }
def cutDagsRow : OpenClaim := { program := "ytpogmfngccolbaagreat", sum := "5d3d07e9c34a860bc8652f8d12dad35c02debffe20eb8761773b0c49feb0c01f", func := "headwater/headwaterlaw19.CutDags", spec := "cutDags", inPlace := ["internal/bytealg.Compare", "math/bits.Add64", "math/bits.Sub64"], unfollowed := true, recurses := true, plainKeys := false, apart := false }
def CutDagsSaid : Prop := cutDagsRow.holds Tryz.pinned (OpenSpec.ofChange cutDagsSpec)

/-- ITS FALSE NEIGHBOUR: 'it returns false'. Refute it at one input. -/
def cutDagsWrong : ChangeSpec := { name := "cutDags", fn := fun _ => fun
  | [d1, d2, d3] => { results := [.lit (.bool false)], args := [d1, d2, d3] }
  | _ => none }
def CutDagsWrongFalsely : Prop := cutDagsRow.holds Tryz.pinned (OpenSpec.ofChange cutDagsWrong)

/-- 'headwaterlaw19.CutNil': WHATEVER THE INPUT: true; the input reads as it did. -/
def cutNilSpec : ChangeSpec := { name := "cutNil", fn := fun _ => fun
  | [d1, d2] => { results := [.lit (.bool true)], args := [d1, d2] }
  | _ => none }
def cutNilRow : OpenClaim := { program := "ytpogmfngccolbaagreat", sum := "5d3d07e9c34a860bc8652f8d12dad35c02debffe20eb8761773b0c49feb0c01f", func := "headwater/headwaterlaw19.CutNil", spec := "cutNil", inPlace := ["internal/bytealg.Compare", "math/bits.Add64", "math/bits.Sub64"], unfollowed := true, recurses := true, plainKeys := false, apart := false }
def CutNilSaid : Prop := cutNilRow.holds Tryz.pinned (OpenSpec.ofChange cutNilSpec)

/-- ITS FALSE NEIGHBOUR: 'it returns false'. Refute it at one input. -/
def cutNilWrong : ChangeSpec := { name := "cutNil", fn := fun _ => fun
  | [d1, d2] => { results := [.lit (.bool false)], args := [d1, d2] }
  | _ => none }
def CutNilWrongFalsely : Prop := cutNilRow.holds Tryz.pinned (OpenSpec.ofChange cutNilWrong)

/-- 'headwaterlaw19.CutGrows': WHATEVER THE INPUT: true; the input reads as it did. -/
def cutGrowsSpec : ChangeSpec := { name := "cutGrows", fn := fun _ => fun
  | [d1, d2] => { results := [.lit (.bool true)], args := [d1, d2] }
  | _ => none }
def cutGrowsRow : OpenClaim := { program := "ytpogmfngccolbaagreat", sum := "5d3d07e9c34a860bc8652f8d12dad35c02debffe20eb8761773b0c49feb0c01f", func := "headwater/headwaterlaw19.CutGrows", spec := "cutGrows", inPlace := ["internal/bytealg.Compare", "math/bits.Add64", "math/bits.Sub64"], unfollowed := true, recurses := true, plainKeys := false, apart := false }
def CutGrowsSaid : Prop := cutGrowsRow.holds Tryz.pinned (OpenSpec.ofChange cutGrowsSpec)

/-- ITS FALSE NEIGHBOUR: 'it returns false'. Refute it at one input. -/
def cutGrowsWrong : ChangeSpec := { name := "cutGrows", fn := fun _ => fun
  | [d1, d2] => { results := [.lit (.bool false)], args := [d1, d2] }
  | _ => none }
def CutGrowsWrongFalsely : Prop := cutGrowsRow.holds Tryz.pinned (OpenSpec.ofChange cutGrowsWrong)

/-- 'headwaterlaw17.LinearNil': WHATEVER THE INPUT: true; the input reads as it did. -/
def linearNilSpec : ChangeSpec := { name := "linearNil", fn := fun _ => fun
  | [d1, d2] => { results := [.lit (.bool true)], args := [d1, d2] }
  | _ => none }
def linearNilRow : OpenClaim := { program := "ytpogmfngccolbaagreat", sum := "5d3d07e9c34a860bc8652f8d12dad35c02debffe20eb8761773b0c49feb0c01f", func := "headwater/headwaterlaw17.LinearNil", spec := "linearNil", inPlace := ["internal/bytealg.Compare", "math/bits.Add64", "math/bits.Sub64"], unfollowed := true, recurses := true, plainKeys := false, apart := false }
def LinearNilSaid : Prop := linearNilRow.holds Tryz.pinned (OpenSpec.ofChange linearNilSpec)

/-- ITS FALSE NEIGHBOUR: 'it returns false'. Refute it at one input. -/
def linearNilWrong : ChangeSpec := { name := "linearNil", fn := fun _ => fun
  | [d1, d2] => { results := [.lit (.bool false)], args := [d1, d2] }
  | _ => none }
def LinearNilWrongFalsely : Prop := linearNilRow.holds Tryz.pinned (OpenSpec.ofChange linearNilWrong)

/-- 'headwaterlaw19.CutChanged': WHATEVER THE INPUT: true; the input reads as it did. -/
def cutChangedSpec : ChangeSpec := { name := "cutChanged", fn := fun _ => fun
  | [d1, d2, d3] => { results := [.lit (.bool true)], args := [d1, d2, d3] }
  | _ => none }
def cutChangedRow : OpenClaim := { program := "ytpogmfngccolbaagreat", sum := "5d3d07e9c34a860bc8652f8d12dad35c02debffe20eb8761773b0c49feb0c01f", func := "headwater/headwaterlaw19.CutChanged", spec := "cutChanged", inPlace := ["internal/bytealg.Compare", "math/bits.Add64", "math/bits.Sub64"], unfollowed := true, recurses := true, plainKeys := false, apart := false }
def CutChangedSaid : Prop := cutChangedRow.holds Tryz.pinned (OpenSpec.ofChange cutChangedSpec)

/-- ITS FALSE NEIGHBOUR: 'it returns false'. Refute it at one input. -/
def cutChangedWrong : ChangeSpec := { name := "cutChanged", fn := fun _ => fun
  | [d1, d2, d3] => { results := [.lit (.bool false)], args := [d1, d2, d3] }
  | _ => none }
def CutChangedWrongFalsely : Prop := cutChangedRow.holds Tryz.pinned (OpenSpec.ofChange cutChangedWrong)

/-- 'headwaterlaw17.LinearChecks': WHATEVER THE INPUT: true; the input reads as it did. -/
def linearChecksSpec : ChangeSpec := { name := "linearChecks", fn := fun _ => fun
  | [d1, d2, d3, d4] => { results := [.lit (.bool true)], args := [d1, d2, d3, d4] }
  | _ => none }
def linearChecksRow : OpenClaim := { program := "ytpogmfngccolbaagreat", sum := "5d3d07e9c34a860bc8652f8d12dad35c02debffe20eb8761773b0c49feb0c01f", func := "headwater/headwaterlaw17.LinearChecks", spec := "linearChecks", inPlace := ["internal/bytealg.Compare", "math/bits.Add64", "math/bits.Sub64"], unfollowed := true, recurses := true, plainKeys := false, apart := false }
def LinearChecksSaid : Prop := linearChecksRow.holds Tryz.pinned (OpenSpec.ofChange linearChecksSpec)

/-- ITS FALSE NEIGHBOUR: 'it returns false'. Refute it at one input. -/
def linearChecksWrong : ChangeSpec := { name := "linearChecks", fn := fun _ => fun
  | [d1, d2, d3, d4] => { results := [.lit (.bool false)], args := [d1, d2, d3, d4] }
  | _ => none }
def LinearChecksWrongFalsely : Prop := linearChecksRow.holds Tryz.pinned (OpenSpec.ofChange linearChecksWrong)

/-- 'headwaterlaw19.CutNames': WHATEVER THE INPUT: true; the input reads as it did. -/
def cutNamesSpec : ChangeSpec := { name := "cutNames", fn := fun _ => fun
  | [] => { results := [.lit (.bool true)], args := [] }
  | _ => none }
def cutNamesRow : OpenClaim := { program := "ytpogmfngccolbaagreat", sum := "5d3d07e9c34a860bc8652f8d12dad35c02debffe20eb8761773b0c49feb0c01f", func := "headwater/headwaterlaw19.CutNames", spec := "cutNames", inPlace := ["internal/bytealg.Compare", "math/bits.Add64", "math/bits.Sub64"], unfollowed := true, recurses := true, plainKeys := false, apart := false }
def CutNamesSaid : Prop := cutNamesRow.holds Tryz.pinned (OpenSpec.ofChange cutNamesSpec)

/-- ITS FALSE NEIGHBOUR: 'it returns false'. Refute it at one input. -/
def cutNamesWrong : ChangeSpec := { name := "cutNames", fn := fun _ => fun
  | [] => { results := [.lit (.bool false)], args := [] }
  | _ => none }
def CutNamesWrongFalsely : Prop := cutNamesRow.holds Tryz.pinned (OpenSpec.ofChange cutNamesWrong)

/-- 'headwaterlaw17.LinearNames': WHATEVER THE INPUT: true; the input reads as it did. -/
def linearNamesSpec : ChangeSpec := { name := "linearNames", fn := fun _ => fun
  | [] => { results := [.lit (.bool true)], args := [] }
  | _ => none }
def linearNamesRow : OpenClaim := { program := "ytpogmfngccolbaagreat", sum := "5d3d07e9c34a860bc8652f8d12dad35c02debffe20eb8761773b0c49feb0c01f", func := "headwater/headwaterlaw17.LinearNames", spec := "linearNames", inPlace := ["internal/bytealg.Compare", "math/bits.Add64", "math/bits.Sub64"], unfollowed := true, recurses := true, plainKeys := false, apart := false }
def LinearNamesSaid : Prop := linearNamesRow.holds Tryz.pinned (OpenSpec.ofChange linearNamesSpec)

/-- ITS FALSE NEIGHBOUR: 'it returns false'. Refute it at one input. -/
def linearNamesWrong : ChangeSpec := { name := "linearNames", fn := fun _ => fun
  | [] => { results := [.lit (.bool false)], args := [] }
  | _ => none }
def LinearNamesWrongFalsely : Prop := linearNamesRow.holds Tryz.pinned (OpenSpec.ofChange linearNamesWrong)

/-- 'headwaterlaw17.LinearCalls': WHATEVER THE INPUT: true; the input reads as it did. -/
def linearCallsSpec : ChangeSpec := { name := "linearCalls", fn := fun _ => fun
  | [d1, d2, d3] => { results := [.lit (.bool true)], args := [d1, d2, d3] }
  | _ => none }
def linearCallsRow : OpenClaim := { program := "ytpogmfngccolbaagreat", sum := "5d3d07e9c34a860bc8652f8d12dad35c02debffe20eb8761773b0c49feb0c01f", func := "headwater/headwaterlaw17.LinearCalls", spec := "linearCalls", inPlace := ["internal/bytealg.Compare", "math/bits.Add64", "math/bits.Sub64"], unfollowed := true, recurses := true, plainKeys := false, apart := false }
def LinearCallsSaid : Prop := linearCallsRow.holds Tryz.pinned (OpenSpec.ofChange linearCallsSpec)

/-- ITS FALSE NEIGHBOUR: 'it returns false'. Refute it at one input. -/
def linearCallsWrong : ChangeSpec := { name := "linearCalls", fn := fun _ => fun
  | [d1, d2, d3] => { results := [.lit (.bool false)], args := [d1, d2, d3] }
  | _ => none }
def LinearCallsWrongFalsely : Prop := linearCallsRow.holds Tryz.pinned (OpenSpec.ofChange linearCallsWrong)

/-- 'headwaterlaw19.CutBack': WHATEVER THE INPUT: true; the input reads as it did. -/
def cutBackSpec : ChangeSpec := { name := "cutBack", fn := fun _ => fun
  | [d1, d2, d3] => { results := [.lit (.bool true)], args := [d1, d2, d3] }
  | _ => none }
def cutBackRow : OpenClaim := { program := "ytpogmfngccolbaagreat", sum := "5d3d07e9c34a860bc8652f8d12dad35c02debffe20eb8761773b0c49feb0c01f", func := "headwater/headwaterlaw19.CutBack", spec := "cutBack", inPlace := ["internal/bytealg.Compare", "math/bits.Add64", "math/bits.Sub64"], unfollowed := true, recurses := true, plainKeys := false, apart := false }
def CutBackSaid : Prop := cutBackRow.holds Tryz.pinned (OpenSpec.ofChange cutBackSpec)

/-- ITS FALSE NEIGHBOUR: 'it returns false'. Refute it at one input. -/
def cutBackWrong : ChangeSpec := { name := "cutBack", fn := fun _ => fun
  | [d1, d2, d3] => { results := [.lit (.bool false)], args := [d1, d2, d3] }
  | _ => none }
def CutBackWrongFalsely : Prop := cutBackRow.holds Tryz.pinned (OpenSpec.ofChange cutBackWrong)

/-- 'headwaterlaw19.CutCalls': WHATEVER THE INPUT: true; the input reads as it did. -/
def cutCallsSpec : ChangeSpec := { name := "cutCalls", fn := fun _ => fun
  | [d1, d2, d3, d4, d5] => { results := [.lit (.bool true)], args := [d1, d2, d3, d4, d5] }
  | _ => none }
def cutCallsRow : OpenClaim := { program := "ytpogmfngccolbaagreat", sum := "5d3d07e9c34a860bc8652f8d12dad35c02debffe20eb8761773b0c49feb0c01f", func := "headwater/headwaterlaw19.CutCalls", spec := "cutCalls", inPlace := ["internal/bytealg.Compare", "math/bits.Add64", "math/bits.Sub64"], unfollowed := true, recurses := true, plainKeys := false, apart := false }
def CutCallsSaid : Prop := cutCallsRow.holds Tryz.pinned (OpenSpec.ofChange cutCallsSpec)

/-- ITS FALSE NEIGHBOUR: 'it returns false'. Refute it at one input. -/
def cutCallsWrong : ChangeSpec := { name := "cutCalls", fn := fun _ => fun
  | [d1, d2, d3, d4, d5] => { results := [.lit (.bool false)], args := [d1, d2, d3, d4, d5] }
  | _ => none }
def CutCallsWrongFalsely : Prop := cutCallsRow.holds Tryz.pinned (OpenSpec.ofChange cutCallsWrong)

/- THE SECOND FORM. 'bulk': how many values and letters a reading holds, each counted each time it is reached (what is shared counts as often as it is met; a slice's spare places count too). A statement '..UptoSaid' is the law's where the arguments, and the package variables that the reading takes, are together of bulk at most 1048576: NARROWER than '..Said'. Prove '..Said' where nothing that the law and all that it calls make is longer than what came in: it says more and counts as full. Else prove '..UptoSaid'. A law counts once. -/
mutual
def uptoBulk {H : Type} : DataW H → Nat
  | .lit (.string bytes) => bytes.length + 1
  | .lit _ => 1
  | .nil => 1
  | .ptr d => uptoBulk d + 1
  | .slice elems spare => uptoBulkAll elems + uptoBulkAll spare + 1
  | .agg parts => uptoBulkAll parts + 1
  | .iface _ d => uptoBulk d + 1
  | .map entries => uptoBulkEntries entries + 1
  | .held _ => 1
def uptoBulkAll {H : Type} : List (DataW H) → Nat
  | [] => 0
  | d :: r => uptoBulk d + uptoBulkAll r
def uptoBulkEntries {H : Type} : List (Lit × DataW H) → Nat
  | [] => 0
  | x :: r => uptoBulkEntry x + uptoBulkEntries r
def uptoBulkEntry {H : Type} : Lit × DataW H → Nat
  | (.string bytes, d) => bytes.length + uptoBulk d + 1
  | (_, d) => uptoBulk d + 1
 end
def uptoSmall : (H : Type) → List (DataW H) → Bool := fun _ ds => decide (uptoBulkAll ds ≤ 1048576)
def OpenSpec.upto (s : _root_.Go.ChangeSpec) : _root_.Go.OpenSpec := { _root_.Go.OpenSpec.ofChange s with cond := some uptoSmall }

/-- 'headwaterlaw17.LinearSorts', WHERE WHAT IT READS IS OF BULK AT MOST 1048576: true; the input reads as it did. -/
def linearSortsUptoRow : OpenClaim := { program := "ytpogmfngccolbaagreat", sum := "5d3d07e9c34a860bc8652f8d12dad35c02debffe20eb8761773b0c49feb0c01f", func := "headwater/headwaterlaw17.LinearSorts", spec := "linearSorts", inPlace := ["internal/bytealg.Compare", "math/bits.Add64", "math/bits.Sub64"], unfollowed := true, recurses := true, plainKeys := false, apart := false, narrowed := true }
def LinearSortsUptoSaid : Prop := linearSortsUptoRow.holds Tryz.pinned (OpenSpec.upto linearSortsSpec)

/-- 'headwaterlaw19.CutDags', WHERE WHAT IT READS IS OF BULK AT MOST 1048576: true; the input reads as it did. -/
def cutDagsUptoRow : OpenClaim := { program := "ytpogmfngccolbaagreat", sum := "5d3d07e9c34a860bc8652f8d12dad35c02debffe20eb8761773b0c49feb0c01f", func := "headwater/headwaterlaw19.CutDags", spec := "cutDags", inPlace := ["internal/bytealg.Compare", "math/bits.Add64", "math/bits.Sub64"], unfollowed := true, recurses := true, plainKeys := false, apart := false, narrowed := true }
def CutDagsUptoSaid : Prop := cutDagsUptoRow.holds Tryz.pinned (OpenSpec.upto cutDagsSpec)

/-- 'headwaterlaw19.CutNil', WHERE WHAT IT READS IS OF BULK AT MOST 1048576: true; the input reads as it did. -/
def cutNilUptoRow : OpenClaim := { program := "ytpogmfngccolbaagreat", sum := "5d3d07e9c34a860bc8652f8d12dad35c02debffe20eb8761773b0c49feb0c01f", func := "headwater/headwaterlaw19.CutNil", spec := "cutNil", inPlace := ["internal/bytealg.Compare", "math/bits.Add64", "math/bits.Sub64"], unfollowed := true, recurses := true, plainKeys := false, apart := false, narrowed := true }
def CutNilUptoSaid : Prop := cutNilUptoRow.holds Tryz.pinned (OpenSpec.upto cutNilSpec)

/-- 'headwaterlaw19.CutGrows', WHERE WHAT IT READS IS OF BULK AT MOST 1048576: true; the input reads as it did. -/
def cutGrowsUptoRow : OpenClaim := { program := "ytpogmfngccolbaagreat", sum := "5d3d07e9c34a860bc8652f8d12dad35c02debffe20eb8761773b0c49feb0c01f", func := "headwater/headwaterlaw19.CutGrows", spec := "cutGrows", inPlace := ["internal/bytealg.Compare", "math/bits.Add64", "math/bits.Sub64"], unfollowed := true, recurses := true, plainKeys := false, apart := false, narrowed := true }
def CutGrowsUptoSaid : Prop := cutGrowsUptoRow.holds Tryz.pinned (OpenSpec.upto cutGrowsSpec)

/-- 'headwaterlaw17.LinearNil', WHERE WHAT IT READS IS OF BULK AT MOST 1048576: true; the input reads as it did. -/
def linearNilUptoRow : OpenClaim := { program := "ytpogmfngccolbaagreat", sum := "5d3d07e9c34a860bc8652f8d12dad35c02debffe20eb8761773b0c49feb0c01f", func := "headwater/headwaterlaw17.LinearNil", spec := "linearNil", inPlace := ["internal/bytealg.Compare", "math/bits.Add64", "math/bits.Sub64"], unfollowed := true, recurses := true, plainKeys := false, apart := false, narrowed := true }
def LinearNilUptoSaid : Prop := linearNilUptoRow.holds Tryz.pinned (OpenSpec.upto linearNilSpec)

/-- 'headwaterlaw19.CutChanged', WHERE WHAT IT READS IS OF BULK AT MOST 1048576: true; the input reads as it did. -/
def cutChangedUptoRow : OpenClaim := { program := "ytpogmfngccolbaagreat", sum := "5d3d07e9c34a860bc8652f8d12dad35c02debffe20eb8761773b0c49feb0c01f", func := "headwater/headwaterlaw19.CutChanged", spec := "cutChanged", inPlace := ["internal/bytealg.Compare", "math/bits.Add64", "math/bits.Sub64"], unfollowed := true, recurses := true, plainKeys := false, apart := false, narrowed := true }
def CutChangedUptoSaid : Prop := cutChangedUptoRow.holds Tryz.pinned (OpenSpec.upto cutChangedSpec)

/-- 'headwaterlaw17.LinearChecks', WHERE WHAT IT READS IS OF BULK AT MOST 1048576: true; the input reads as it did. -/
def linearChecksUptoRow : OpenClaim := { program := "ytpogmfngccolbaagreat", sum := "5d3d07e9c34a860bc8652f8d12dad35c02debffe20eb8761773b0c49feb0c01f", func := "headwater/headwaterlaw17.LinearChecks", spec := "linearChecks", inPlace := ["internal/bytealg.Compare", "math/bits.Add64", "math/bits.Sub64"], unfollowed := true, recurses := true, plainKeys := false, apart := false, narrowed := true }
def LinearChecksUptoSaid : Prop := linearChecksUptoRow.holds Tryz.pinned (OpenSpec.upto linearChecksSpec)

/-- 'headwaterlaw19.CutNames', WHERE WHAT IT READS IS OF BULK AT MOST 1048576: true; the input reads as it did. -/
def cutNamesUptoRow : OpenClaim := { program := "ytpogmfngccolbaagreat", sum := "5d3d07e9c34a860bc8652f8d12dad35c02debffe20eb8761773b0c49feb0c01f", func := "headwater/headwaterlaw19.CutNames", spec := "cutNames", inPlace := ["internal/bytealg.Compare", "math/bits.Add64", "math/bits.Sub64"], unfollowed := true, recurses := true, plainKeys := false, apart := false, narrowed := true }
def CutNamesUptoSaid : Prop := cutNamesUptoRow.holds Tryz.pinned (OpenSpec.upto cutNamesSpec)

/-- 'headwaterlaw17.LinearNames', WHERE WHAT IT READS IS OF BULK AT MOST 1048576: true; the input reads as it did. -/
def linearNamesUptoRow : OpenClaim := { program := "ytpogmfngccolbaagreat", sum := "5d3d07e9c34a860bc8652f8d12dad35c02debffe20eb8761773b0c49feb0c01f", func := "headwater/headwaterlaw17.LinearNames", spec := "linearNames", inPlace := ["internal/bytealg.Compare", "math/bits.Add64", "math/bits.Sub64"], unfollowed := true, recurses := true, plainKeys := false, apart := false, narrowed := true }
def LinearNamesUptoSaid : Prop := linearNamesUptoRow.holds Tryz.pinned (OpenSpec.upto linearNamesSpec)

/-- 'headwaterlaw17.LinearCalls', WHERE WHAT IT READS IS OF BULK AT MOST 1048576: true; the input reads as it did. -/
def linearCallsUptoRow : OpenClaim := { program := "ytpogmfngccolbaagreat", sum := "5d3d07e9c34a860bc8652f8d12dad35c02debffe20eb8761773b0c49feb0c01f", func := "headwater/headwaterlaw17.LinearCalls", spec := "linearCalls", inPlace := ["internal/bytealg.Compare", "math/bits.Add64", "math/bits.Sub64"], unfollowed := true, recurses := true, plainKeys := false, apart := false, narrowed := true }
def LinearCallsUptoSaid : Prop := linearCallsUptoRow.holds Tryz.pinned (OpenSpec.upto linearCallsSpec)

/-- 'headwaterlaw19.CutBack', WHERE WHAT IT READS IS OF BULK AT MOST 1048576: true; the input reads as it did. -/
def cutBackUptoRow : OpenClaim := { program := "ytpogmfngccolbaagreat", sum := "5d3d07e9c34a860bc8652f8d12dad35c02debffe20eb8761773b0c49feb0c01f", func := "headwater/headwaterlaw19.CutBack", spec := "cutBack", inPlace := ["internal/bytealg.Compare", "math/bits.Add64", "math/bits.Sub64"], unfollowed := true, recurses := true, plainKeys := false, apart := false, narrowed := true }
def CutBackUptoSaid : Prop := cutBackUptoRow.holds Tryz.pinned (OpenSpec.upto cutBackSpec)

/-- 'headwaterlaw19.CutCalls', WHERE WHAT IT READS IS OF BULK AT MOST 1048576: true; the input reads as it did. -/
def cutCallsUptoRow : OpenClaim := { program := "ytpogmfngccolbaagreat", sum := "5d3d07e9c34a860bc8652f8d12dad35c02debffe20eb8761773b0c49feb0c01f", func := "headwater/headwaterlaw19.CutCalls", spec := "cutCalls", inPlace := ["internal/bytealg.Compare", "math/bits.Add64", "math/bits.Sub64"], unfollowed := true, recurses := true, plainKeys := false, apart := false, narrowed := true }
def CutCallsUptoSaid : Prop := cutCallsUptoRow.holds Tryz.pinned (OpenSpec.upto cutCallsSpec)

end Rows
end Go.Proofs.YtpogmfngccolbaaGreat
