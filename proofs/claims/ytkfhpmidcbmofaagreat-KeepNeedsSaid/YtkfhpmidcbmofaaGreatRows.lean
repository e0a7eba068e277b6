/-
  No cell of these rows narrows 'for every input' (looked for: loops, veiled, ifaces, maps, wideKeys, modest, calm, conditions, laid).
  DERIVED. THE GIVEN ROWS OF THIS SEAT. 3 by the template 'for every input the law returns true; each argument reads behind the call as it read before'; 0 by the template 'total and deterministic' (their statements: YtkfhpmidcbmofaaGreatTotals.lean).
  GIVEN WITH THE SEED: the statements are not yours to turn. If you find one false, say at which input.
  Laid BY PROGRAM, IN A SANDBOX (cutbox-rows.mjs): the forced cells as the released guide's own fill.sh prints them over the translation 0165f2c706b25278… (all of the seat's roots in one cut). By AI agents, Wed Nov 11 2026. No macro, syntax, notation, axiom, sorry.
-/
import Derived.Test.YtkfhpmidcbmofaaGreatChecked
import GoSem.Claim
import GoSem.ClaimJoined
import GoSem.ClaimMapViews
import Derived.JoinedTies
import Derived.KernelRfl
namespace Go.Proofs.YtkfhpmidcbmofaaGreat
/- THE CELL 'sum', in the pinned program and in every row, IS THE sha256 OF THE DUMP (.gsa) THAT YtkfhpmidcbmofaaGreatProg.lean LOADS. Nothing in Lean hashes anything: it is a label: what it is worth is what the hold of that sum in a sandbox is worth. -/
noncomputable def Tryz.pinned : Pinned := { name := "ytkfhpmidcbmofaagreat", sum := "0165f2c706b25278fb243e924b05716b0e7df5d9ebc9346afadbf79cad4d12fa", checked := Tryz.checked }
namespace Rows
def none {H : Type} : Left H := { results := [], args := [] }

/-- 'headwaterlaw26.KeepNames': WHATEVER THE INPUT: true; the input reads as it did. -/
def keepNamesSpec : ChangeSpec := { name := "keepNames", fn := fun _ => fun
  | [] => { results := [.lit (.bool true)], args := [] }
  | _ => none }
def keepNamesRow : OpenClaim := { program := "ytkfhpmidcbmofaagreat", sum := "0165f2c706b25278fb243e924b05716b0e7df5d9ebc9346afadbf79cad4d12fa", func := "headwater/headwaterlaw26.KeepNames", spec := "keepNames", inPlace := ["internal/bytealg.Compare"], unfollowed := true, recurses := true, apart := false }
def KeepNamesSaid : Prop := keepNamesRow.holds Tryz.pinned (OpenSpec.ofChange keepNamesSpec)

/-- ITS FALSE NEIGHBOUR: 'it returns false'. Refute it at one input. -/
def keepNamesWrong : ChangeSpec := { name := "keepNames", fn := fun _ => fun
  | [] => { results := [.lit (.bool false)], args := [] }
  | _ => none }
def KeepNamesWrongFalsely : Prop := keepNamesRow.holds Tryz.pinned (OpenSpec.ofChange keepNamesWrong)

/-- 'headwaterlaw26.KeepNeeds': WHATEVER THE INPUT: true; the input reads as it did. -/
def keepNeedsSpec : ChangeSpec := { name := "keepNeeds", fn := fun _ => fun
  | [d1, d2] => { results := [.lit (.bool true)], args := [d1, d2] }
  | _ => none }
def keepNeedsRow : OpenClaim := { program := "ytkfhpmidcbmofaagreat", sum := "0165f2c706b25278fb243e924b05716b0e7df5d9ebc9346afadbf79cad4d12fa", func := "headwater/headwaterlaw26.KeepNeeds", spec := "keepNeeds", inPlace := ["internal/bytealg.Compare"], unfollowed := true, recurses := true, apart := false }
def KeepNeedsSaid : Prop := keepNeedsRow.holds Tryz.pinned (OpenSpec.ofChange keepNeedsSpec)

/-- ITS FALSE NEIGHBOUR: 'it returns false'. Refute it at one input. -/
def keepNeedsWrong : ChangeSpec := { name := "keepNeeds", fn := fun _ => fun
  | [d1, d2] => { results := [.lit (.bool false)], args := [d1, d2] }
  | _ => none }
def KeepNeedsWrongFalsely : Prop := keepNeedsRow.holds Tryz.pinned (OpenSpec.ofChange keepNeedsWrong)

/-- 'headwaterlaw26.KeepBack': WHATEVER THE INPUT: true; the input reads as it did. -/
def keepBackSpec : ChangeSpec := { name := "keepBack", fn := fun _ => fun
  | [d1, d2, d3] => { results := [.lit (.bool true)], args := [d1, d2, d3] }
  | _ => none }
def keepBackRow : OpenClaim := { program := "ytkfhpmidcbmofaagreat", sum := "0165f2c706b25278fb243e924b05716b0e7df5d9ebc9346afadbf79cad4d12fa", func := "headwater/headwaterlaw26.KeepBack", spec := "keepBack", inPlace := ["internal/bytealg.Compare"], unfollowed := true, recurses := true, apart := false }
def KeepBackSaid : Prop := keepBackRow.holds Tryz.pinned (OpenSpec.ofChange keepBackSpec)

/-- ITS FALSE NEIGHBOUR: 'it returns false'. Refute it at one input. -/
def keepBackWrong : ChangeSpec := { name := "keepBack", fn := fun _ => fun
  | [d1, d2, d3] => { results := [.lit (.bool false)], args := [d1, d2, d3] }
  | _ => none }
def KeepBackWrongFalsely : Prop := keepBackRow.holds Tryz.pinned (OpenSpec.ofChange keepBackWrong)

/- THE SECOND FORM. 'bulk': how many values and letters a reading holds, each counted each time it is reached (what is shared counts as often as it is met; a slice's spare places count too). A statement '..UptoSaid' is the law's where the arguments, and the package variables that the reading takes, are together of bulk at most 1048576: NARROWER than '..Said'. Prove '..Said' where nothing that the law and all that it calls make is longer than what came in: it says more and counts as full. Else prove '..UptoSaid'. A law counts once. -/
mutual
def uptoBulk {H : Type} : DataW H → Nat
  | .lit (.string bytes) => bytes.length + 1
  | .lit _ => 1
  | .nil => 1
  | .ptr d => uptoBulk d + 1
  | .slice elems spare => uptoBulkAll elems + uptoBulkAll spare + 1
  | .agg parts => uptoBulkAll parts + 1
  | .iface _ d => uptoBulk d + 1
  | .map entries => uptoBulkEntries entries + 1
  | .held _ => 1
def uptoBulkAll {H : Type} : List (DataW H) → Nat
  | [] => 0
  | d :: r => uptoBulk d + uptoBulkAll r
def uptoBulkEntries {H : Type} : List (Lit × DataW H) → Nat
  | [] => 0
  | x :: r => uptoBulkEntry x + uptoBulkEntries r
def uptoBulkEntry {H : Type} : Lit × DataW H → Nat
  | (.string bytes, d) => bytes.length + uptoBulk d + 1
  | (_, d) => uptoBulk d + 1
 end
def uptoSmall : (H : Type) → List (DataW H) → Bool := fun _ ds => decide (uptoBulkAll ds ≤ 1048576)
def OpenSpec.upto (s : _root_.Go.ChangeSpec) : _root_.Go.OpenSpec := { _root_.Go.OpenSpec.ofChange s with cond := some uptoSmall }

/-- 'headwaterlaw26.KeepNames', WHERE WHAT IT READS IS OF BULK AT MOST 1048576: true; the input reads as it did. -/
def keepNamesUptoRow : OpenClaim := { program := "ytkfhpmidcbmofaagreat", sum := "0165f2c706b25278fb243e924b05716b0e7df5d9ebc9346afadbf79cad4d12fa", func := "headwater/headwaterlaw26.KeepNames", spec := "keepNames", inPlace := ["internal/bytealg.Compare"], unfollowed := true, recurses := true, apart := false, narrowed := true }
def KeepNamesUptoSaid : Prop := keepNamesUptoRow.holds Tryz.pinned (OpenSpec.upto keepNamesSpec)

/-- 'headwaterlaw26.KeepNeeds', WHERE WHAT IT READS IS OF BULK AT MOST 1048576: true; the input reads as it did. -/
def keepNeedsUptoRow : OpenClaim := { program := "ytkfhpmidcbmofaagreat", sum := "0165f2c706b25278fb243e924b05716b0e7df5d9ebc9346afadbf79cad4d12fa", func := "headwater/headwaterlaw26.KeepNeeds", spec := "keepNeeds", inPlace := ["internal/bytealg.Compare"], unfollowed := true, recurses := true, apart := false, narrowed := true }
def KeepNeedsUptoSaid : Prop := keepNeedsUptoRow.holds Tryz.pinned (OpenSpec.upto keepNeedsSpec)

/-- 'headwaterlaw26.KeepBack', WHERE WHAT IT READS IS OF BULK AT MOST 1048576: true; the input reads as it did. -/
def keepBackUptoRow : OpenClaim := { program := "ytkfhpmidcbmofaagreat", sum := "0165f2c706b25278fb243e924b05716b0e7df5d9ebc9346afadbf79cad4d12fa", func := "headwater/headwaterlaw26.KeepBack", spec := "keepBack", inPlace := ["internal/bytealg.Compare"], unfollowed := true, recurses := true, apart := false, narrowed := true }
def KeepBackUptoSaid : Prop := keepBackUptoRow.holds Tryz.pinned (OpenSpec.upto keepBackSpec)

end Rows
end Go.Proofs.YtkfhpmidcbmofaaGreat
