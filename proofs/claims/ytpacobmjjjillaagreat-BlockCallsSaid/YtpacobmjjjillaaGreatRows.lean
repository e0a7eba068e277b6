/-
  No cell of these rows narrows 'for every input' (looked for: loops, veiled, ifaces, maps, wideKeys, modest, calm, conditions, laid).
  DERIVED. THE GIVEN ROWS OF THIS SEAT. 7 by the template 'for every input the law returns true; each argument reads behind the call as it read before'; 0 by the template 'total and deterministic' (their statements: YtpacobmjjjillaaGreatTotals.lean).
  GIVEN WITH THE SEED: the statements are not yours to turn. If you find one false, say at which input.
  Laid BY PROGRAM, IN A SANDBOX (cutbox-rows.mjs): the forced cells as the released guide's own fill.sh prints them over the translation 17fd99ef4408ab22… (all of the seat's roots in one cut). By AI agents, Wed Nov 11 2026. No macro, syntax, notation, axiom, sorry.
-/
import Derived.Test.YtpacobmjjjillaaGreatChecked
import GoSem.Claim
import GoSem.ClaimJoined
import GoSem.ClaimMapViews
import Derived.JoinedTies
import Derived.KernelRfl
namespace Go.Proofs.YtpacobmjjjillaaGreat
/- THE CELL 'sum', in the pinned program and in every row, IS THE sha256 OF THE DUMP (.gsa) THAT YtpacobmjjjillaaGreatProg.lean LOADS. Nothing in Lean hashes anything: it is a label: what it is worth is what the hold of that sum in a sandbox is worth. -/
noncomputable def Tryz.pinned : Pinned := { name := "ytpacobmjjjillaagreat", sum := "17fd99ef4408ab225608b5c7e061bdd7ef9abd1b141902c8924d65ce71dcfa8c", checked := Tryz.checked }
namespace Rows
def none {H : Type} : Left H := { results := [], args := [] }

/-- 'headwaterlaw20.VoteChanged': WHATEVER THE INPUT: true; the input reads as it did. -/
def voteChangedSpec : ChangeSpec := { name := "voteChanged", fn := fun _ => fun
  | [d1, d2, d3, d4] => { results := [.lit (.bool true)], args := [d1, d2, d3, d4] }
  | _ => none }
def voteChangedRow : OpenClaim := { program := "ytpacobmjjjillaagreat", sum := "17fd99ef4408ab225608b5c7e061bdd7ef9abd1b141902c8924d65ce71dcfa8c", func := "headwater/headwaterlaw20.VoteChanged", spec := "voteChanged", inPlace := ["internal/bytealg.Compare", "math/bits.Add64", "math/bits.Sub64"], unfollowed := true, recurses := true, apart := false }
def VoteChangedSaid : Prop := voteChangedRow.holds Tryz.pinned (OpenSpec.ofChange voteChangedSpec)

/-- ITS FALSE NEIGHBOUR: 'it returns false'. Refute it at one input. -/
def voteChangedWrong : ChangeSpec := { name := "voteChanged", fn := fun _ => fun
  | [d1, d2, d3, d4] => { results := [.lit (.bool false)], args := [d1, d2, d3, d4] }
  | _ => none }
def VoteChangedWrongFalsely : Prop := voteChangedRow.holds Tryz.pinned (OpenSpec.ofChange voteChangedWrong)

/-- 'headwaterlaw20.VoteNames': WHATEVER THE INPUT: true; the input reads as it did. -/
def voteNamesSpec : ChangeSpec := { name := "voteNames", fn := fun _ => fun
  | [] => { results := [.lit (.bool true)], args := [] }
  | _ => none }
def voteNamesRow : OpenClaim := { program := "ytpacobmjjjillaagreat", sum := "17fd99ef4408ab225608b5c7e061bdd7ef9abd1b141902c8924d65ce71dcfa8c", func := "headwater/headwaterlaw20.VoteNames", spec := "voteNames", inPlace := ["math/bits.Add64", "math/bits.Sub64", "internal/bytealg.Compare"], unfollowed := true, recurses := true, apart := false }
def VoteNamesSaid : Prop := voteNamesRow.holds Tryz.pinned (OpenSpec.ofChange voteNamesSpec)

/-- ITS FALSE NEIGHBOUR: 'it returns false'. Refute it at one input. -/
def voteNamesWrong : ChangeSpec := { name := "voteNames", fn := fun _ => fun
  | [] => { results := [.lit (.bool false)], args := [] }
  | _ => none }
def VoteNamesWrongFalsely : Prop := voteNamesRow.holds Tryz.pinned (OpenSpec.ofChange voteNamesWrong)

/-- 'headwaterlaw20.VoteBack': WHATEVER THE INPUT: true; the input reads as it did. -/
def voteBackSpec : ChangeSpec := { name := "voteBack", fn := fun _ => fun
  | [d1, d2, d3] => { results := [.lit (.bool true)], args := [d1, d2, d3] }
  | _ => none }
def voteBackRow : OpenClaim := { program := "ytpacobmjjjillaagreat", sum := "17fd99ef4408ab225608b5c7e061bdd7ef9abd1b141902c8924d65ce71dcfa8c", func := "headwater/headwaterlaw20.VoteBack", spec := "voteBack", inPlace := ["internal/bytealg.Compare", "math/bits.Add64", "math/bits.Sub64"], unfollowed := true, recurses := true, apart := false }
def VoteBackSaid : Prop := voteBackRow.holds Tryz.pinned (OpenSpec.ofChange voteBackSpec)

/-- ITS FALSE NEIGHBOUR: 'it returns false'. Refute it at one input. -/
def voteBackWrong : ChangeSpec := { name := "voteBack", fn := fun _ => fun
  | [d1, d2, d3] => { results := [.lit (.bool false)], args := [d1, d2, d3] }
  | _ => none }
def VoteBackWrongFalsely : Prop := voteBackRow.holds Tryz.pinned (OpenSpec.ofChange voteBackWrong)

/-- 'headwaterlaw20.VoteCalls': WHATEVER THE INPUT: true; the input reads as it did. -/
def voteCallsSpec : ChangeSpec := { name := "voteCalls", fn := fun _ => fun
  | [d1, d2, d3, d4] => { results := [.lit (.bool true)], args := [d1, d2, d3, d4] }
  | _ => none }
def voteCallsRow : OpenClaim := { program := "ytpacobmjjjillaagreat", sum := "17fd99ef4408ab225608b5c7e061bdd7ef9abd1b141902c8924d65ce71dcfa8c", func := "headwater/headwaterlaw20.VoteCalls", spec := "voteCalls", inPlace := ["internal/bytealg.Compare", "math/bits.Add64", "math/bits.Sub64"], unfollowed := true, recurses := true, apart := false }
def VoteCallsSaid : Prop := voteCallsRow.holds Tryz.pinned (OpenSpec.ofChange voteCallsSpec)

/-- ITS FALSE NEIGHBOUR: 'it returns false'. Refute it at one input. -/
def voteCallsWrong : ChangeSpec := { name := "voteCalls", fn := fun _ => fun
  | [d1, d2, d3, d4] => { results := [.lit (.bool false)], args := [d1, d2, d3, d4] }
  | _ => none }
def VoteCallsWrongFalsely : Prop := voteCallsRow.holds Tryz.pinned (OpenSpec.ofChange voteCallsWrong)

/-- 'headwaterlaw15.BlockSigned': WHATEVER THE INPUT: true; the input reads as it did. -/
def blockSignedSpec : ChangeSpec := { name := "blockSigned", fn := fun _ => fun
  | [d1, d2, d3, d4] => { results := [.lit (.bool true)], args := [d1, d2, d3, d4] }
  | _ => none }
def blockSignedRow : OpenClaim := { program := "ytpacobmjjjillaagreat", sum := "17fd99ef4408ab225608b5c7e061bdd7ef9abd1b141902c8924d65ce71dcfa8c", func := "headwater/headwaterlaw15.BlockSigned", spec := "blockSigned", inPlace := ["internal/bytealg.Compare", "math/bits.Add64", "math/bits.Sub64"], unfollowed := true, recurses := true, apart := false }
def BlockSignedSaid : Prop := blockSignedRow.holds Tryz.pinned (OpenSpec.ofChange blockSignedSpec)

/-- ITS FALSE NEIGHBOUR: 'it returns false'. Refute it at one input. -/
def blockSignedWrong : ChangeSpec := { name := "blockSigned", fn := fun _ => fun
  | [d1, d2, d3, d4] => { results := [.lit (.bool false)], args := [d1, d2, d3, d4] }
  | _ => none }
def BlockSignedWrongFalsely : Prop := blockSignedRow.holds Tryz.pinned (OpenSpec.ofChange blockSignedWrong)

/-- 'headwaterlaw15.BlockNames': WHATEVER THE INPUT: true; the input reads as it did. -/
def blockNamesSpec : ChangeSpec := { name := "blockNames", fn := fun _ => fun
  | [] => { results := [.lit (.bool true)], args := [] }
  | _ => none }
def blockNamesRow : OpenClaim := { program := "ytpacobmjjjillaagreat", sum := "17fd99ef4408ab225608b5c7e061bdd7ef9abd1b141902c8924d65ce71dcfa8c", func := "headwater/headwaterlaw15.BlockNames", spec := "blockNames", inPlace := ["internal/bytealg.Compare", "math/bits.Add64", "math/bits.Sub64"], unfollowed := true, recurses := true, apart := false }
def BlockNamesSaid : Prop := blockNamesRow.holds Tryz.pinned (OpenSpec.ofChange blockNamesSpec)

/-- ITS FALSE NEIGHBOUR: 'it returns false'. Refute it at one input. -/
def blockNamesWrong : ChangeSpec := { name := "blockNames", fn := fun _ => fun
  | [] => { results := [.lit (.bool false)], args := [] }
  | _ => none }
def BlockNamesWrongFalsely : Prop := blockNamesRow.holds Tryz.pinned (OpenSpec.ofChange blockNamesWrong)

/-- 'headwaterlaw15.BlockCalls': WHATEVER THE INPUT: true; the input reads as it did. -/
def blockCallsSpec : ChangeSpec := { name := "blockCalls", fn := fun _ => fun
  | [d1, d2, d3, d4, d5, d6] => { results := [.lit (.bool true)], args := [d1, d2, d3, d4, d5, d6] }
  | _ => none }
def blockCallsRow : OpenClaim := { program := "ytpacobmjjjillaagreat", sum := "17fd99ef4408ab225608b5c7e061bdd7ef9abd1b141902c8924d65ce71dcfa8c", func := "headwater/headwaterlaw15.BlockCalls", spec := "blockCalls", inPlace := ["internal/bytealg.Compare", "math/bits.Add64", "math/bits.Sub64"], unfollowed := true, recurses := true, apart := false }
def BlockCallsSaid : Prop := blockCallsRow.holds Tryz.pinned (OpenSpec.ofChange blockCallsSpec)

/-- ITS FALSE NEIGHBOUR: 'it returns false'. Refute it at one input. -/
def blockCallsWrong : ChangeSpec := { name := "blockCalls", fn := fun _ => fun
  | [d1, d2, d3, d4, d5, d6] => { results := [.lit (.bool false)], args := [d1, d2, d3, d4, d5, d6] }
  | _ => none }
def BlockCallsWrongFalsely : Prop := blockCallsRow.holds Tryz.pinned (OpenSpec.ofChange blockCallsWrong)

/- THE SECOND FORM. 'bulk': how many values and letters a reading holds, each counted each time it is reached (what is shared counts as often as it is met; a slice's spare places count too). A statement '..UptoSaid' is the law's where the arguments, and the package variables that the reading takes, are together of bulk at most 1048576: NARROWER than '..Said'. Prove '..Said' where nothing that the law and all that it calls make is longer than what came in: it says more and counts as full. Else prove '..UptoSaid'. A law counts once. -/
mutual
def uptoBulk {H : Type} : DataW H → Nat
  | .lit (.string bytes) => bytes.length + 1
  | .lit _ => 1
  | .nil => 1
  | .ptr d => uptoBulk d + 1
  | .slice elems spare => uptoBulkAll elems + uptoBulkAll spare + 1
  | .agg parts => uptoBulkAll parts + 1
  | .iface _ d => uptoBulk d + 1
  | .map entries => uptoBulkEntries entries + 1
  | .held _ => 1
def uptoBulkAll {H : Type} : List (DataW H) → Nat
  | [] => 0
  | d :: r => uptoBulk d + uptoBulkAll r
def uptoBulkEntries {H : Type} : List (Lit × DataW H) → Nat
  | [] => 0
  | x :: r => uptoBulkEntry x + uptoBulkEntries r
def uptoBulkEntry {H : Type} : Lit × DataW H → Nat
  | (.string bytes, d) => bytes.length + uptoBulk d + 1
  | (_, d) => uptoBulk d + 1
 end
def uptoSmall : (H : Type) → List (DataW H) → Bool := fun _ ds => decide (uptoBulkAll ds ≤ 1048576)
def OpenSpec.upto (s : _root_.Go.ChangeSpec) : _root_.Go.OpenSpec := { _root_.Go.OpenSpec.ofChange s with cond := some uptoSmall }

/-- 'headwaterlaw20.VoteChanged', WHERE WHAT IT READS IS OF BULK AT MOST 1048576: true; the input reads as it did. -/
def voteChangedUptoRow : OpenClaim := { program := "ytpacobmjjjillaagreat", sum := "17fd99ef4408ab225608b5c7e061bdd7ef9abd1b141902c8924d65ce71dcfa8c", func := "headwater/headwaterlaw20.VoteChanged", spec := "voteChanged", inPlace := ["internal/bytealg.Compare", "math/bits.Add64", "math/bits.Sub64"], unfollowed := true, recurses := true, apart := false, narrowed := true }
def VoteChangedUptoSaid : Prop := voteChangedUptoRow.holds Tryz.pinned (OpenSpec.upto voteChangedSpec)

/-- 'headwaterlaw20.VoteNames', WHERE WHAT IT READS IS OF BULK AT MOST 1048576: true; the input reads as it did. -/
def voteNamesUptoRow : OpenClaim := { program := "ytpacobmjjjillaagreat", sum := "17fd99ef4408ab225608b5c7e061bdd7ef9abd1b141902c8924d65ce71dcfa8c", func := "headwater/headwaterlaw20.VoteNames", spec := "voteNames", inPlace := ["math/bits.Add64", "math/bits.Sub64", "internal/bytealg.Compare"], unfollowed := true, recurses := true, apart := false, narrowed := true }
def VoteNamesUptoSaid : Prop := voteNamesUptoRow.holds Tryz.pinned (OpenSpec.upto voteNamesSpec)

/-- 'headwaterlaw20.VoteBack', WHERE WHAT IT READS IS OF BULK AT MOST 1048576: true; the input reads as it did. -/
def voteBackUptoRow : OpenClaim := { program := "ytpacobmjjjillaagreat", sum := "17fd99ef4408ab225608b5c7e061bdd7ef9abd1b141902c8924d65ce71dcfa8c", func := "headwater/headwaterlaw20.VoteBack", spec := "voteBack", inPlace := ["internal/bytealg.Compare", "math/bits.Add64", "math/bits.Sub64"], unfollowed := true, recurses := true, apart := false, narrowed := true }
def VoteBackUptoSaid : Prop := voteBackUptoRow.holds Tryz.pinned (OpenSpec.upto voteBackSpec)

/-- 'headwaterlaw20.VoteCalls', WHERE WHAT IT READS IS OF BULK AT MOST 1048576: true; the input reads as it did. -/
def voteCallsUptoRow : OpenClaim := { program := "ytpacobmjjjillaagreat", sum := "17fd99ef4408ab225608b5c7e061bdd7ef9abd1b141902c8924d65ce71dcfa8c", func := "headwater/headwaterlaw20.VoteCalls", spec := "voteCalls", inPlace := ["internal/bytealg.Compare", "math/bits.Add64", "math/bits.Sub64"], unfollowed := true, recurses := true, apart := false, narrowed := true }
def VoteCallsUptoSaid : Prop := voteCallsUptoRow.holds Tryz.pinned (OpenSpec.upto voteCallsSpec)

/-- 'headwaterlaw15.BlockSigned', WHERE WHAT IT READS IS OF BULK AT MOST 1048576: true; the input reads as it did. -/
def blockSignedUptoRow : OpenClaim := { program := "ytpacobmjjjillaagreat", sum := "17fd99ef4408ab225608b5c7e061bdd7ef9abd1b141902c8924d65ce71dcfa8c", func := "headwater/headwaterlaw15.BlockSigned", spec := "blockSigned", inPlace := ["internal/bytealg.Compare", "math/bits.Add64", "math/bits.Sub64"], unfollowed := true, recurses := true, apart := false, narrowed := true }
def BlockSignedUptoSaid : Prop := blockSignedUptoRow.holds Tryz.pinned (OpenSpec.upto blockSignedSpec)

/-- 'headwaterlaw15.BlockNames', WHERE WHAT IT READS IS OF BULK AT MOST 1048576: true; the input reads as it did. -/
def blockNamesUptoRow : OpenClaim := { program := "ytpacobmjjjillaagreat", sum := "17fd99ef4408ab225608b5c7e061bdd7ef9abd1b141902c8924d65ce71dcfa8c", func := "headwater/headwaterlaw15.BlockNames", spec := "blockNames", inPlace := ["internal/bytealg.Compare", "math/bits.Add64", "math/bits.Sub64"], unfollowed := true, recurses := true, apart := false, narrowed := true }
def BlockNamesUptoSaid : Prop := blockNamesUptoRow.holds Tryz.pinned (OpenSpec.upto blockNamesSpec)

/-- 'headwaterlaw15.BlockCalls', WHERE WHAT IT READS IS OF BULK AT MOST 1048576: true; the input reads as it did. -/
def blockCallsUptoRow : OpenClaim := { program := "ytpacobmjjjillaagreat", sum := "17fd99ef4408ab225608b5c7e061bdd7ef9abd1b141902c8924d65ce71dcfa8c", func := "headwater/headwaterlaw15.BlockCalls", spec := "blockCalls", inPlace := ["internal/bytealg.Compare", "math/bits.Add64", "math/bits.Sub64"], unfollowed := true, recurses := true, apart := false, narrowed := true }
def BlockCallsUptoSaid : Prop := blockCallsUptoRow.holds Tryz.pinned (OpenSpec.upto blockCallsSpec)

end Rows
end Go.Proofs.YtpacobmjjjillaaGreat
