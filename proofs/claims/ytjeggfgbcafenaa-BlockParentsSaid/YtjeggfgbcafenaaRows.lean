/-
  No cell of these rows narrows 'for every input' (looked for: loops, veiled, ifaces, maps, wideKeys, modest, calm, conditions, laid).
  DERIVED. THE GIVEN ROWS OF THIS SEAT. 7 by the template 'for every input the law returns true; each argument reads behind the call as it read before'; 0 by the template 'total and deterministic' (their statements: YtjeggfgbcafenaaTotals.lean).
  GIVEN WITH THE SEED: the statements are not yours to turn. If you find one false, say at which input.
  Laid BY PROGRAM, IN A SANDBOX (cutbox-rows.mjs): the forced cells as the released guide's own fill.sh prints them over the translation e57ee2fde40fcfc3… (all of the seat's roots in one cut). By AI agents, Wed Nov 11 2026. No macro, syntax, notation, axiom, sorry.
-/
import Derived.Test.YtjeggfgbcafenaaChecked
import GoSem.Claim
import GoSem.ClaimJoined
import GoSem.ClaimMapViews
import Derived.JoinedTies
import Derived.KernelRfl
namespace Go.Proofs.Ytjeggfgbcafenaa
/- THE CELL 'sum', in the pinned program and in every row, IS THE sha256 OF THE DUMP (.gsa) THAT YtjeggfgbcafenaaProg.lean LOADS. Nothing in Lean hashes anything: it is a label: what it is worth is what the hold of that sum in a sandbox is worth. -/
noncomputable def Try.pinned : Pinned := { name := "ytjeggfgbcafenaa", sum := "e57ee2fde40fcfc37454a6f3757d734b555ae1c122b6df3dc9d7904bf0ba11b9", checked := Try.checked }
namespace Rows
def none {H : Type} : Left H := { results := [], args := [] }

/-- 'headwaterlaw15.BlockParents': WHATEVER THE INPUT: true; the input reads as it did. -/
def blockParentsSpec : ChangeSpec := { name := "blockParents", fn := fun _ => fun
  | [d1, d2, d3, d4] => { results := [.lit (.bool true)], args := [d1, d2, d3, d4] }
  | _ => none }
def blockParentsRow : OpenClaim := { program := "ytjeggfgbcafenaa", sum := "e57ee2fde40fcfc37454a6f3757d734b555ae1c122b6df3dc9d7904bf0ba11b9", func := "headwater/headwaterlaw15.BlockParents", spec := "blockParents", inPlace := ["internal/bytealg.Compare"], apart := false }
def BlockParentsSaid : Prop := blockParentsRow.holds Try.pinned (OpenSpec.ofChange blockParentsSpec)

/-- ITS FALSE NEIGHBOUR: 'it returns false'. Refute it at one input. -/
def blockParentsWrong : ChangeSpec := { name := "blockParents", fn := fun _ => fun
  | [d1, d2, d3, d4] => { results := [.lit (.bool false)], args := [d1, d2, d3, d4] }
  | _ => none }
def BlockParentsWrongFalsely : Prop := blockParentsRow.holds Try.pinned (OpenSpec.ofChange blockParentsWrong)

/-- 'headwaterlaw20.VoteOrders': WHATEVER THE INPUT: true; the input reads as it did. -/
def voteOrdersSpec : ChangeSpec := { name := "voteOrders", fn := fun _ => fun
  | [d1, d2, d3] => { results := [.lit (.bool true)], args := [d1, d2, d3] }
  | _ => none }
def voteOrdersRow : OpenClaim := { program := "ytjeggfgbcafenaa", sum := "e57ee2fde40fcfc37454a6f3757d734b555ae1c122b6df3dc9d7904bf0ba11b9", func := "headwater/headwaterlaw20.VoteOrders", spec := "voteOrders", inPlace := ["internal/bytealg.Compare"], apart := false }
def VoteOrdersSaid : Prop := voteOrdersRow.holds Try.pinned (OpenSpec.ofChange voteOrdersSpec)

/-- ITS FALSE NEIGHBOUR: 'it returns false'. Refute it at one input. -/
def voteOrdersWrong : ChangeSpec := { name := "voteOrders", fn := fun _ => fun
  | [d1, d2, d3] => { results := [.lit (.bool false)], args := [d1, d2, d3] }
  | _ => none }
def VoteOrdersWrongFalsely : Prop := voteOrdersRow.holds Try.pinned (OpenSpec.ofChange voteOrdersWrong)

/-- 'headwaterlaw04.ScalarNames': WHATEVER THE INPUT: true; the input reads as it did. -/
def scalarNamesSpec : ChangeSpec := { name := "scalarNames", fn := fun _ => fun
  | [] => { results := [.lit (.bool true)], args := [] }
  | _ => none }
def scalarNamesRow : OpenClaim := { program := "ytjeggfgbcafenaa", sum := "e57ee2fde40fcfc37454a6f3757d734b555ae1c122b6df3dc9d7904bf0ba11b9", func := "headwater/headwaterlaw04.ScalarNames", spec := "scalarNames", inPlace := ["math/bits.Sub64", "math/bits.Add64"], unfollowed := true, recurses := true, apart := false }
def ScalarNamesSaid : Prop := scalarNamesRow.holds Try.pinned (OpenSpec.ofChange scalarNamesSpec)

/-- ITS FALSE NEIGHBOUR: 'it returns false'. Refute it at one input. -/
def scalarNamesWrong : ChangeSpec := { name := "scalarNames", fn := fun _ => fun
  | [] => { results := [.lit (.bool false)], args := [] }
  | _ => none }
def ScalarNamesWrongFalsely : Prop := scalarNamesRow.holds Try.pinned (OpenSpec.ofChange scalarNamesWrong)

/-- 'headwaterlaw04.ScalarRing': WHATEVER THE INPUT: true; the input reads as it did. -/
def scalarRingSpec : ChangeSpec := { name := "scalarRing", fn := fun _ => fun
  | [d1, d2, d3] => { results := [.lit (.bool true)], args := [d1, d2, d3] }
  | _ => none }
def scalarRingRow : OpenClaim := { program := "ytjeggfgbcafenaa", sum := "e57ee2fde40fcfc37454a6f3757d734b555ae1c122b6df3dc9d7904bf0ba11b9", func := "headwater/headwaterlaw04.ScalarRing", spec := "scalarRing", inPlace := ["math/bits.Sub64", "math/bits.Add64"], unfollowed := true, recurses := true, apart := false }
def ScalarRingSaid : Prop := scalarRingRow.holds Try.pinned (OpenSpec.ofChange scalarRingSpec)

/-- ITS FALSE NEIGHBOUR: 'it returns false'. Refute it at one input. -/
def scalarRingWrong : ChangeSpec := { name := "scalarRing", fn := fun _ => fun
  | [d1, d2, d3] => { results := [.lit (.bool false)], args := [d1, d2, d3] }
  | _ => none }
def ScalarRingWrongFalsely : Prop := scalarRingRow.holds Try.pinned (OpenSpec.ofChange scalarRingWrong)

/-- 'headwaterlaw04.ScalarRests': WHATEVER THE INPUT: true; the input reads as it did. -/
def scalarRestsSpec : ChangeSpec := { name := "scalarRests", fn := fun _ => fun
  | [d1, d2] => { results := [.lit (.bool true)], args := [d1, d2] }
  | _ => none }
def scalarRestsRow : OpenClaim := { program := "ytjeggfgbcafenaa", sum := "e57ee2fde40fcfc37454a6f3757d734b555ae1c122b6df3dc9d7904bf0ba11b9", func := "headwater/headwaterlaw04.ScalarRests", spec := "scalarRests", inPlace := ["math/bits.Sub64", "math/bits.Add64"], unfollowed := true, recurses := true, apart := false }
def ScalarRestsSaid : Prop := scalarRestsRow.holds Try.pinned (OpenSpec.ofChange scalarRestsSpec)

/-- ITS FALSE NEIGHBOUR: 'it returns false'. Refute it at one input. -/
def scalarRestsWrong : ChangeSpec := { name := "scalarRests", fn := fun _ => fun
  | [d1, d2] => { results := [.lit (.bool false)], args := [d1, d2] }
  | _ => none }
def ScalarRestsWrongFalsely : Prop := scalarRestsRow.holds Try.pinned (OpenSpec.ofChange scalarRestsWrong)

/-- 'headwaterlaw04.ScalarBits': WHATEVER THE INPUT: true; the input reads as it did. -/
def scalarBitsSpec : ChangeSpec := { name := "scalarBits", fn := fun _ => fun
  | [d1, d2, d3] => { results := [.lit (.bool true)], args := [d1, d2, d3] }
  | _ => none }
def scalarBitsRow : OpenClaim := { program := "ytjeggfgbcafenaa", sum := "e57ee2fde40fcfc37454a6f3757d734b555ae1c122b6df3dc9d7904bf0ba11b9", func := "headwater/headwaterlaw04.ScalarBits", spec := "scalarBits", inPlace := ["math/bits.Sub64", "math/bits.Add64"], unfollowed := true, recurses := true, apart := false }
def ScalarBitsSaid : Prop := scalarBitsRow.holds Try.pinned (OpenSpec.ofChange scalarBitsSpec)

/-- ITS FALSE NEIGHBOUR: 'it returns false'. Refute it at one input. -/
def scalarBitsWrong : ChangeSpec := { name := "scalarBits", fn := fun _ => fun
  | [d1, d2, d3] => { results := [.lit (.bool false)], args := [d1, d2, d3] }
  | _ => none }
def ScalarBitsWrongFalsely : Prop := scalarBitsRow.holds Try.pinned (OpenSpec.ofChange scalarBitsWrong)

/-- 'headwaterlaw04.ScalarCalls': WHATEVER THE INPUT: true; the input reads as it did. -/
def scalarCallsSpec : ChangeSpec := { name := "scalarCalls", fn := fun _ => fun
  | [d1, d2, d3, d4, d5] => { results := [.lit (.bool true)], args := [d1, d2, d3, d4, d5] }
  | _ => none }
def scalarCallsRow : OpenClaim := { program := "ytjeggfgbcafenaa", sum := "e57ee2fde40fcfc37454a6f3757d734b555ae1c122b6df3dc9d7904bf0ba11b9", func := "headwater/headwaterlaw04.ScalarCalls", spec := "scalarCalls", inPlace := ["math/bits.Sub64", "math/bits.Add64"], unfollowed := true, recurses := true, apart := false }
def ScalarCallsSaid : Prop := scalarCallsRow.holds Try.pinned (OpenSpec.ofChange scalarCallsSpec)

/-- ITS FALSE NEIGHBOUR: 'it returns false'. Refute it at one input. -/
def scalarCallsWrong : ChangeSpec := { name := "scalarCalls", fn := fun _ => fun
  | [d1, d2, d3, d4, d5] => { results := [.lit (.bool false)], args := [d1, d2, d3, d4, d5] }
  | _ => none }
def ScalarCallsWrongFalsely : Prop := scalarCallsRow.holds Try.pinned (OpenSpec.ofChange scalarCallsWrong)

/- THE SECOND FORM. 'bulk': how many values and letters a reading holds, each counted each time it is reached (what is shared counts as often as it is met; a slice's spare places count too). A statement '..UptoSaid' is the law's where the arguments, and the package variables that the reading takes, are together of bulk at most 1048576: NARROWER than '..Said'. Prove '..Said' where nothing that the law and all that it calls make is longer than what came in: it says more and counts as full. Else prove '..UptoSaid'. A law counts once. -/
mutual
def uptoBulk {H : Type} : DataW H → Nat
  | .lit (.string bytes) => bytes.length + 1
  | .lit _ => 1
  | .nil => 1
  | .ptr d => uptoBulk d + 1
  | .slice elems spare => uptoBulkAll elems + uptoBulkAll spare + 1
  | .agg parts => uptoBulkAll parts + 1
  | .iface _ d => uptoBulk d + 1
  | .map entries => uptoBulkEntries entries + 1
  | .held _ => 1
def uptoBulkAll {H : Type} : List (DataW H) → Nat
  | [] => 0
  | d :: r => uptoBulk d + uptoBulkAll r
def uptoBulkEntries {H : Type} : List (Lit × DataW H) → Nat
  | [] => 0
  | x :: r => uptoBulkEntry x + uptoBulkEntries r
def uptoBulkEntry {H : Type} : Lit × DataW H → Nat
  | (.string bytes, d) => bytes.length + uptoBulk d + 1
  | (_, d) => uptoBulk d + 1
 end
def uptoSmall : (H : Type) → List (DataW H) → Bool := fun _ ds => decide (uptoBulkAll ds ≤ 1048576)
def OpenSpec.upto (s : _root_.Go.ChangeSpec) : _root_.Go.OpenSpec := { _root_.Go.OpenSpec.ofChange s with cond := some uptoSmall }

/-- 'headwaterlaw15.BlockParents', WHERE WHAT IT READS IS OF BULK AT MOST 1048576: true; the input reads as it did. -/
def blockParentsUptoRow : OpenClaim := { program := "ytjeggfgbcafenaa", sum := "e57ee2fde40fcfc37454a6f3757d734b555ae1c122b6df3dc9d7904bf0ba11b9", func := "headwater/headwaterlaw15.BlockParents", spec := "blockParents", inPlace := ["internal/bytealg.Compare"], apart := false, narrowed := true }
def BlockParentsUptoSaid : Prop := blockParentsUptoRow.holds Try.pinned (OpenSpec.upto blockParentsSpec)

/-- 'headwaterlaw20.VoteOrders', WHERE WHAT IT READS IS OF BULK AT MOST 1048576: true; the input reads as it did. -/
def voteOrdersUptoRow : OpenClaim := { program := "ytjeggfgbcafenaa", sum := "e57ee2fde40fcfc37454a6f3757d734b555ae1c122b6df3dc9d7904bf0ba11b9", func := "headwater/headwaterlaw20.VoteOrders", spec := "voteOrders", inPlace := ["internal/bytealg.Compare"], apart := false, narrowed := true }
def VoteOrdersUptoSaid : Prop := voteOrdersUptoRow.holds Try.pinned (OpenSpec.upto voteOrdersSpec)

/-- 'headwaterlaw04.ScalarNames', WHERE WHAT IT READS IS OF BULK AT MOST 1048576: true; the input reads as it did. -/
def scalarNamesUptoRow : OpenClaim := { program := "ytjeggfgbcafenaa", sum := "e57ee2fde40fcfc37454a6f3757d734b555ae1c122b6df3dc9d7904bf0ba11b9", func := "headwater/headwaterlaw04.ScalarNames", spec := "scalarNames", inPlace := ["math/bits.Sub64", "math/bits.Add64"], unfollowed := true, recurses := true, apart := false, narrowed := true }
def ScalarNamesUptoSaid : Prop := scalarNamesUptoRow.holds Try.pinned (OpenSpec.upto scalarNamesSpec)

/-- 'headwaterlaw04.ScalarRing', WHERE WHAT IT READS IS OF BULK AT MOST 1048576: true; the input reads as it did. -/
def scalarRingUptoRow : OpenClaim := { program := "ytjeggfgbcafenaa", sum := "e57ee2fde40fcfc37454a6f3757d734b555ae1c122b6df3dc9d7904bf0ba11b9", func := "headwater/headwaterlaw04.ScalarRing", spec := "scalarRing", inPlace := ["math/bits.Sub64", "math/bits.Add64"], unfollowed := true, recurses := true, apart := false, narrowed := true }
def ScalarRingUptoSaid : Prop := scalarRingUptoRow.holds Try.pinned (OpenSpec.upto scalarRingSpec)

/-- 'headwaterlaw04.ScalarRests', WHERE WHAT IT READS IS OF BULK AT MOST 1048576: true; the input reads as it did. -/
def scalarRestsUptoRow : OpenClaim := { program := "ytjeggfgbcafenaa", sum := "e57ee2fde40fcfc37454a6f3757d734b555ae1c122b6df3dc9d7904bf0ba11b9", func := "headwater/headwaterlaw04.ScalarRests", spec := "scalarRests", inPlace := ["math/bits.Sub64", "math/bits.Add64"], unfollowed := true, recurses := true, apart := false, narrowed := true }
def ScalarRestsUptoSaid : Prop := scalarRestsUptoRow.holds Try.pinned (OpenSpec.upto scalarRestsSpec)

/-- 'headwaterlaw04.ScalarBits', WHERE WHAT IT READS IS OF BULK AT MOST 1048576: true; the input reads as it did. -/
def scalarBitsUptoRow : OpenClaim := { program := "ytjeggfgbcafenaa", sum := "e57ee2fde40fcfc37454a6f3757d734b555ae1c122b6df3dc9d7904bf0ba11b9", func := "headwater/headwaterlaw04.ScalarBits", spec := "scalarBits", inPlace := ["math/bits.Sub64", "math/bits.Add64"], unfollowed := true, recurses := true, apart := false, narrowed := true }
def ScalarBitsUptoSaid : Prop := scalarBitsUptoRow.holds Try.pinned (OpenSpec.upto scalarBitsSpec)

/-- 'headwaterlaw04.ScalarCalls', WHERE WHAT IT READS IS OF BULK AT MOST 1048576: true; the input reads as it did. -/
def scalarCallsUptoRow : OpenClaim := { program := "ytjeggfgbcafenaa", sum := "e57ee2fde40fcfc37454a6f3757d734b555ae1c122b6df3dc9d7904bf0ba11b9", func := "headwater/headwaterlaw04.ScalarCalls", spec := "scalarCalls", inPlace := ["math/bits.Sub64", "math/bits.Add64"], unfollowed := true, recurses := true, apart := false, narrowed := true }
def ScalarCallsUptoSaid : Prop := scalarCallsUptoRow.holds Try.pinned (OpenSpec.upto scalarCallsSpec)

end Rows
end Go.Proofs.Ytjeggfgbcafenaa
