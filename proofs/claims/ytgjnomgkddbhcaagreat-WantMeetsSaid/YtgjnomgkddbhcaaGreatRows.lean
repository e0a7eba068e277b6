/-
  No cell of these rows narrows 'for every input' (looked for: loops, veiled, ifaces, maps, wideKeys, modest, calm, conditions, laid).
  DERIVED. THE GIVEN ROWS OF THIS SEAT. 6 by the template 'for every input the law returns true; each argument reads behind the call as it read before'; 0 by the template 'total and deterministic' (their statements: YtgjnomgkddbhcaaGreatTotals.lean).
  GIVEN WITH THE SEED: the statements are not yours to turn. If you find one false, say at which input.
  Laid BY PROGRAM, IN A SANDBOX (cutbox-rows.mjs): the forced cells as the released guide's own fill.sh prints them over the translation 265b057d3cf6adaf… (all of the seat's roots in one cut). By AI agents, Wed Nov 11 2026. No macro, syntax, notation, axiom, sorry.
-/
import Derived.Test.YtgjnomgkddbhcaaGreatChecked
import GoSem.Claim
import GoSem.ClaimJoined
import GoSem.ClaimMapViews
import Derived.JoinedTies
import Derived.KernelRfl
namespace Go.Proofs.YtgjnomgkddbhcaaGreat
/- THE CELL 'sum', in the pinned program and in every row, IS THE sha256 OF THE DUMP (.gsa) THAT YtgjnomgkddbhcaaGreatProg.lean LOADS. Nothing in Lean hashes anything: it is a label: what it is worth is what the hold of that sum in a sandbox is worth. -/
noncomputable def Tryz.pinned : Pinned := { name := "ytgjnomgkddbhcaagreat", sum := "265b057d3cf6adafcaf902b301bbec8ab822a8fd34888c7cc84318b85280b60b", checked := Tryz.checked }
namespace Rows
def none {H : Type} : Left H := { results := [], args := [] }

/-- 'headwaterlaw16.DagForks': WHATEVER THE INPUT: true; the input reads as it did. -/
def dagForksSpec : ChangeSpec := { name := "dagForks", fn := fun _ => fun
  | [d] => { results := [.lit (.bool true)], args := [d] }
  | _ => none }
def dagForksRow : OpenClaim := { program := "ytgjnomgkddbhcaagreat", sum := "265b057d3cf6adafcaf902b301bbec8ab822a8fd34888c7cc84318b85280b60b", func := "headwater/headwaterlaw16.DagForks", spec := "dagForks", inPlace := ["internal/bytealg.Compare", "math/bits.Add64", "math/bits.Sub64"], unfollowed := true, recurses := true, plainKeys := false, apart := false }
def DagForksSaid : Prop := dagForksRow.holds Tryz.pinned (OpenSpec.ofChange dagForksSpec)

/-- ITS FALSE NEIGHBOUR: 'it returns false'. Refute it at one input. -/
def dagForksWrong : ChangeSpec := { name := "dagForks", fn := fun _ => fun
  | [d] => { results := [.lit (.bool false)], args := [d] }
  | _ => none }
def DagForksWrongFalsely : Prop := dagForksRow.holds Tryz.pinned (OpenSpec.ofChange dagForksWrong)

/-- 'headwaterlaw24.WantAsks': WHATEVER THE INPUT: true; the input reads as it did. -/
def wantAsksSpec : ChangeSpec := { name := "wantAsks", fn := fun _ => fun
  | [d1, d2] => { results := [.lit (.bool true)], args := [d1, d2] }
  | _ => none }
def wantAsksRow : OpenClaim := { program := "ytgjnomgkddbhcaagreat", sum := "265b057d3cf6adafcaf902b301bbec8ab822a8fd34888c7cc84318b85280b60b", func := "headwater/headwaterlaw24.WantAsks", spec := "wantAsks", inPlace := ["internal/bytealg.Compare", "math/bits.Add64", "math/bits.Sub64"], unfollowed := true, recurses := true, plainKeys := false, apart := false }
def WantAsksSaid : Prop := wantAsksRow.holds Tryz.pinned (OpenSpec.ofChange wantAsksSpec)

/-- ITS FALSE NEIGHBOUR: 'it returns false'. Refute it at one input. -/
def wantAsksWrong : ChangeSpec := { name := "wantAsks", fn := fun _ => fun
  | [d1, d2] => { results := [.lit (.bool false)], args := [d1, d2] }
  | _ => none }
def WantAsksWrongFalsely : Prop := wantAsksRow.holds Tryz.pinned (OpenSpec.ofChange wantAsksWrong)

/-- 'headwaterlaw24.WantGives': WHATEVER THE INPUT: true; the input reads as it did. -/
def wantGivesSpec : ChangeSpec := { name := "wantGives", fn := fun _ => fun
  | [d1, d2, d3, d4, d5] => { results := [.lit (.bool true)], args := [d1, d2, d3, d4, d5] }
  | _ => none }
def wantGivesRow : OpenClaim := { program := "ytgjnomgkddbhcaagreat", sum := "265b057d3cf6adafcaf902b301bbec8ab822a8fd34888c7cc84318b85280b60b", func := "headwater/headwaterlaw24.WantGives", spec := "wantGives", inPlace := ["internal/bytealg.Compare", "math/bits.Add64", "math/bits.Sub64"], unfollowed := true, recurses := true, plainKeys := false, apart := false }
def WantGivesSaid : Prop := wantGivesRow.holds Tryz.pinned (OpenSpec.ofChange wantGivesSpec)

/-- ITS FALSE NEIGHBOUR: 'it returns false'. Refute it at one input. -/
def wantGivesWrong : ChangeSpec := { name := "wantGives", fn := fun _ => fun
  | [d1, d2, d3, d4, d5] => { results := [.lit (.bool false)], args := [d1, d2, d3, d4, d5] }
  | _ => none }
def WantGivesWrongFalsely : Prop := wantGivesRow.holds Tryz.pinned (OpenSpec.ofChange wantGivesWrong)

/-- 'headwaterlaw24.WantNames': WHATEVER THE INPUT: true; the input reads as it did. -/
def wantNamesSpec : ChangeSpec := { name := "wantNames", fn := fun _ => fun
  | [] => { results := [.lit (.bool true)], args := [] }
  | _ => none }
def wantNamesRow : OpenClaim := { program := "ytgjnomgkddbhcaagreat", sum := "265b057d3cf6adafcaf902b301bbec8ab822a8fd34888c7cc84318b85280b60b", func := "headwater/headwaterlaw24.WantNames", spec := "wantNames", inPlace := ["internal/bytealg.Compare", "math/bits.Add64", "math/bits.Sub64"], unfollowed := true, recurses := true, plainKeys := false, apart := false }
def WantNamesSaid : Prop := wantNamesRow.holds Tryz.pinned (OpenSpec.ofChange wantNamesSpec)

/-- ITS FALSE NEIGHBOUR: 'it returns false'. Refute it at one input. -/
def wantNamesWrong : ChangeSpec := { name := "wantNames", fn := fun _ => fun
  | [] => { results := [.lit (.bool false)], args := [] }
  | _ => none }
def WantNamesWrongFalsely : Prop := wantNamesRow.holds Tryz.pinned (OpenSpec.ofChange wantNamesWrong)

/-- 'headwaterlaw24.WantNil': WHATEVER THE INPUT: true; the input reads as it did. -/
def wantNilSpec : ChangeSpec := { name := "wantNil", fn := fun _ => fun
  | [d1, d2, d3] => { results := [.lit (.bool true)], args := [d1, d2, d3] }
  | _ => none }
def wantNilRow : OpenClaim := { program := "ytgjnomgkddbhcaagreat", sum := "265b057d3cf6adafcaf902b301bbec8ab822a8fd34888c7cc84318b85280b60b", func := "headwater/headwaterlaw24.WantNil", spec := "wantNil", inPlace := ["internal/bytealg.Compare", "math/bits.Add64", "math/bits.Sub64"], unfollowed := true, recurses := true, plainKeys := false, apart := false }
def WantNilSaid : Prop := wantNilRow.holds Tryz.pinned (OpenSpec.ofChange wantNilSpec)

/-- ITS FALSE NEIGHBOUR: 'it returns false'. Refute it at one input. -/
def wantNilWrong : ChangeSpec := { name := "wantNil", fn := fun _ => fun
  | [d1, d2, d3] => { results := [.lit (.bool false)], args := [d1, d2, d3] }
  | _ => none }
def WantNilWrongFalsely : Prop := wantNilRow.holds Tryz.pinned (OpenSpec.ofChange wantNilWrong)

/-- 'headwaterlaw24.WantMeets': WHATEVER THE INPUT: true; the input reads as it did. -/
def wantMeetsSpec : ChangeSpec := { name := "wantMeets", fn := fun _ => fun
  | [d1, d2, d3] => { results := [.lit (.bool true)], args := [d1, d2, d3] }
  | _ => none }
def wantMeetsRow : OpenClaim := { program := "ytgjnomgkddbhcaagreat", sum := "265b057d3cf6adafcaf902b301bbec8ab822a8fd34888c7cc84318b85280b60b", func := "headwater/headwaterlaw24.WantMeets", spec := "wantMeets", inPlace := ["internal/bytealg.Compare", "math/bits.Add64", "math/bits.Sub64"], unfollowed := true, recurses := true, plainKeys := false, apart := false }
def WantMeetsSaid : Prop := wantMeetsRow.holds Tryz.pinned (OpenSpec.ofChange wantMeetsSpec)

/-- ITS FALSE NEIGHBOUR: 'it returns false'. Refute it at one input. -/
def wantMeetsWrong : ChangeSpec := { name := "wantMeets", fn := fun _ => fun
  | [d1, d2, d3] => { results := [.lit (.bool false)], args := [d1, d2, d3] }
  | _ => none }
def WantMeetsWrongFalsely : Prop := wantMeetsRow.holds Tryz.pinned (OpenSpec.ofChange wantMeetsWrong)

/- THE SECOND FORM. 'bulk': how many values and letters a reading holds, each counted each time it is reached (what is shared counts as often as it is met; a slice's spare places count too). A statement '..UptoSaid' is the law's where the arguments, and the package variables that the reading takes, are together of bulk at most 1048576: NARROWER than '..Said'. Prove '..Said' where nothing that the law and all that it calls make is longer than what came in: it says more and counts as full. Else prove '..UptoSaid'. A law counts once. -/
mutual
def uptoBulk {H : Type} : DataW H → Nat
  | .lit (.string bytes) => bytes.length + 1
  | .lit _ => 1
  | .nil => 1
  | .ptr d => uptoBulk d + 1
  | .slice elems spare => uptoBulkAll elems + uptoBulkAll spare + 1
  | .agg parts => uptoBulkAll parts + 1
  | .iface _ d => uptoBulk d + 1
  | .map entries => uptoBulkEntries entries + 1
  | .held _ => 1
def uptoBulkAll {H : Type} : List (DataW H) → Nat
  | [] => 0
  | d :: r => uptoBulk d + uptoBulkAll r
def uptoBulkEntries {H : Type} : List (Lit × DataW H) → Nat
  | [] => 0
  | x :: r => uptoBulkEntry x + uptoBulkEntries r
def uptoBulkEntry {H : Type} : Lit × DataW H → Nat
  | (.string bytes, d) => bytes.length + uptoBulk d + 1
  | (_, d) => uptoBulk d + 1
 end
def uptoSmall : (H : Type) → List (DataW H) → Bool := fun _ ds => decide (uptoBulkAll ds ≤ 1048576)
def OpenSpec.upto (s : _root_.Go.ChangeSpec) : _root_.Go.OpenSpec := { _root_.Go.OpenSpec.ofChange s with cond := some uptoSmall }

/-- 'headwaterlaw16.DagForks', WHERE WHAT IT READS IS OF BULK AT MOST 1048576: true; the input reads as it did. -/
def dagForksUptoRow : OpenClaim := { program := "ytgjnomgkddbhcaagreat", sum := "265b057d3cf6adafcaf902b301bbec8ab822a8fd34888c7cc84318b85280b60b", func := "headwater/headwaterlaw16.DagForks", spec := "dagForks", inPlace := ["internal/bytealg.Compare", "math/bits.Add64", "math/bits.Sub64"], unfollowed := true, recurses := true, plainKeys := false, apart := false, narrowed := true }
def DagForksUptoSaid : Prop := dagForksUptoRow.holds Tryz.pinned (OpenSpec.upto dagForksSpec)

/-- 'headwaterlaw24.WantAsks', WHERE WHAT IT READS IS OF BULK AT MOST 1048576: true; the input reads as it did. -/
def wantAsksUptoRow : OpenClaim := { program := "ytgjnomgkddbhcaagreat", sum := "265b057d3cf6adafcaf902b301bbec8ab822a8fd34888c7cc84318b85280b60b", func := "headwater/headwaterlaw24.WantAsks", spec := "wantAsks", inPlace := ["internal/bytealg.Compare", "math/bits.Add64", "math/bits.Sub64"], unfollowed := true, recurses := true, plainKeys := false, apart := false, narrowed := true }
def WantAsksUptoSaid : Prop := wantAsksUptoRow.holds Tryz.pinned (OpenSpec.upto wantAsksSpec)

/-- 'headwaterlaw24.WantGives', WHERE WHAT IT READS IS OF BULK AT MOST 1048576: true; the input reads as it did. -/
def wantGivesUptoRow : OpenClaim := { program := "ytgjnomgkddbhcaagreat", sum := "265b057d3cf6adafcaf902b301bbec8ab822a8fd34888c7cc84318b85280b60b", func := "headwater/headwaterlaw24.WantGives", spec := "wantGives", inPlace := ["internal/bytealg.Compare", "math/bits.Add64", "math/bits.Sub64"], unfollowed := true, recurses := true, plainKeys := false, apart := false, narrowed := true }
def WantGivesUptoSaid : Prop := wantGivesUptoRow.holds Tryz.pinned (OpenSpec.upto wantGivesSpec)

/-- 'headwaterlaw24.WantNames', WHERE WHAT IT READS IS OF BULK AT MOST 1048576: true; the input reads as it did. -/
def wantNamesUptoRow : OpenClaim := { program := "ytgjnomgkddbhcaagreat", sum := "265b057d3cf6adafcaf902b301bbec8ab822a8fd34888c7cc84318b85280b60b", func := "headwater/headwaterlaw24.WantNames", spec := "wantNames", inPlace := ["internal/bytealg.Compare", "math/bits.Add64", "math/bits.Sub64"], unfollowed := true, recurses := true, plainKeys := false, apart := false, narrowed := true }
def WantNamesUptoSaid : Prop := wantNamesUptoRow.holds Tryz.pinned (OpenSpec.upto wantNamesSpec)

/-- 'headwaterlaw24.WantNil', WHERE WHAT IT READS IS OF BULK AT MOST 1048576: true; the input reads as it did. -/
def wantNilUptoRow : OpenClaim := { program := "ytgjnomgkddbhcaagreat", sum := "265b057d3cf6adafcaf902b301bbec8ab822a8fd34888c7cc84318b85280b60b", func := "headwater/headwaterlaw24.WantNil", spec := "wantNil", inPlace := ["internal/bytealg.Compare", "math/bits.Add64", "math/bits.Sub64"], unfollowed := true, recurses := true, plainKeys := false, apart := false, narrowed := true }
def WantNilUptoSaid : Prop := wantNilUptoRow.holds Tryz.pinned (OpenSpec.upto wantNilSpec)

/-- 'headwaterlaw24.WantMeets', WHERE WHAT IT READS IS OF BULK AT MOST 1048576: true; the input reads as it did. -/
def wantMeetsUptoRow : OpenClaim := { program := "ytgjnomgkddbhcaagreat", sum := "265b057d3cf6adafcaf902b301bbec8ab822a8fd34888c7cc84318b85280b60b", func := "headwater/headwaterlaw24.WantMeets", spec := "wantMeets", inPlace := ["internal/bytealg.Compare", "math/bits.Add64", "math/bits.Sub64"], unfollowed := true, recurses := true, plainKeys := false, apart := false, narrowed := true }
def WantMeetsUptoSaid : Prop := wantMeetsUptoRow.holds Tryz.pinned (OpenSpec.upto wantMeetsSpec)

end Rows
end Go.Proofs.YtgjnomgkddbhcaaGreat
