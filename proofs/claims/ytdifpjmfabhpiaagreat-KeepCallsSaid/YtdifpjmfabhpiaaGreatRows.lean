/-
  No cell of these rows narrows 'for every input' (looked for: loops, veiled, ifaces, maps, wideKeys, modest, calm, conditions, laid).
  DERIVED. THE GIVEN ROWS OF THIS SEAT. 5 by the template 'for every input the law returns true; each argument reads behind the call as it read before'; 0 by the template 'total and deterministic' (their statements: YtdifpjmfabhpiaaGreatTotals.lean).
  GIVEN WITH THE SEED: the statements are not yours to turn. If you find one false, say at which input.
  Laid BY PROGRAM, IN A SANDBOX (cutbox-rows.mjs): the forced cells as the released guide's own fill.sh prints them over the translation 8dc89e46aacd182c… (all of the seat's roots in one cut). By AI agents, Wed Nov 11 2026. No macro, syntax, notation, axiom, sorry.
-/
import Derived.Test.YtdifpjmfabhpiaaGreatChecked
import GoSem.Claim
import GoSem.ClaimJoined
import GoSem.ClaimMapViews
import Derived.JoinedTies
import Derived.KernelRfl
namespace Go.Proofs.YtdifpjmfabhpiaaGreat
/- THE CELL 'sum', in the pinned program and in every row, IS THE sha256 OF THE DUMP (.gsa) THAT YtdifpjmfabhpiaaGreatProg.lean LOADS. Nothing in Lean hashes anything: it is a label: what it is worth is what the hold of that sum in a sandbox is worth. -/
noncomputable def Tryz.pinned : Pinned := { name := "ytdifpjmfabhpiaagreat", sum := "8dc89e46aacd182cb3e5e370a8c0091bb1adb71bbe3dc6056f8b4be0629e4969", checked := Tryz.checked }
namespace Rows
def none {H : Type} : Left H := { results := [], args := [] }

/-- 'headwaterlaw26.KeepBack': WHATEVER THE INPUT: true; the input reads as it did. -/
def keepBackSpec : ChangeSpec := { name := "keepBack", fn := fun _ => fun
  | [d1, d2, d3] => { results := [.lit (.bool true)], args := [d1, d2, d3] }
  | _ => none }
def keepBackRow : OpenClaim := { program := "ytdifpjmfabhpiaagreat", sum := "8dc89e46aacd182cb3e5e370a8c0091bb1adb71bbe3dc6056f8b4be0629e4969", func := "headwater/headwaterlaw26.KeepBack", spec := "keepBack", inPlace := ["internal/bytealg.Compare"], unfollowed := true, recurses := true, apart := false }
def KeepBackSaid : Prop := keepBackRow.holds Tryz.pinned (OpenSpec.ofChange keepBackSpec)

/-- ITS FALSE NEIGHBOUR: 'it returns false'. Refute it at one input. -/
def keepBackWrong : ChangeSpec := { name := "keepBack", fn := fun _ => fun
  | [d1, d2, d3] => { results := [.lit (.bool false)], args := [d1, d2, d3] }
  | _ => none }
def KeepBackWrongFalsely : Prop := keepBackRow.holds Tryz.pinned (OpenSpec.ofChange keepBackWrong)

/-- 'headwaterlaw25.SyncBack': WHATEVER THE INPUT: true; the input reads as it did. -/
def syncBackSpec : ChangeSpec := { name := "syncBack", fn := fun _ => fun
  | [d1, d2, d3] => { results := [.lit (.bool true)], args := [d1, d2, d3] }
  | _ => none }
def syncBackRow : OpenClaim := { program := "ytdifpjmfabhpiaagreat", sum := "8dc89e46aacd182cb3e5e370a8c0091bb1adb71bbe3dc6056f8b4be0629e4969", func := "headwater/headwaterlaw25.SyncBack", spec := "syncBack", inPlace := ["internal/bytealg.Compare"], unfollowed := true, recurses := true, apart := false }
def SyncBackSaid : Prop := syncBackRow.holds Tryz.pinned (OpenSpec.ofChange syncBackSpec)

/-- ITS FALSE NEIGHBOUR: 'it returns false'. Refute it at one input. -/
def syncBackWrong : ChangeSpec := { name := "syncBack", fn := fun _ => fun
  | [d1, d2, d3] => { results := [.lit (.bool false)], args := [d1, d2, d3] }
  | _ => none }
def SyncBackWrongFalsely : Prop := syncBackRow.holds Tryz.pinned (OpenSpec.ofChange syncBackWrong)

/-- 'headwaterlaw25.SyncMost': WHATEVER THE INPUT: true; the input reads as it did. -/
def syncMostSpec : ChangeSpec := { name := "syncMost", fn := fun _ => fun
  | [d1, d2, d3] => { results := [.lit (.bool true)], args := [d1, d2, d3] }
  | _ => none }
def syncMostRow : OpenClaim := { program := "ytdifpjmfabhpiaagreat", sum := "8dc89e46aacd182cb3e5e370a8c0091bb1adb71bbe3dc6056f8b4be0629e4969", func := "headwater/headwaterlaw25.SyncMost", spec := "syncMost", inPlace := ["internal/bytealg.Compare"], unfollowed := true, recurses := true, apart := false }
def SyncMostSaid : Prop := syncMostRow.holds Tryz.pinned (OpenSpec.ofChange syncMostSpec)

/-- ITS FALSE NEIGHBOUR: 'it returns false'. Refute it at one input. -/
def syncMostWrong : ChangeSpec := { name := "syncMost", fn := fun _ => fun
  | [d1, d2, d3] => { results := [.lit (.bool false)], args := [d1, d2, d3] }
  | _ => none }
def SyncMostWrongFalsely : Prop := syncMostRow.holds Tryz.pinned (OpenSpec.ofChange syncMostWrong)

/-- 'headwaterlaw25.SyncCalls': WHATEVER THE INPUT: true; the input reads as it did. -/
def syncCallsSpec : ChangeSpec := { name := "syncCalls", fn := fun _ => fun
  | [d1, d2, d3, d4, d5] => { results := [.lit (.bool true)], args := [d1, d2, d3, d4, d5] }
  | _ => none }
def syncCallsRow : OpenClaim := { program := "ytdifpjmfabhpiaagreat", sum := "8dc89e46aacd182cb3e5e370a8c0091bb1adb71bbe3dc6056f8b4be0629e4969", func := "headwater/headwaterlaw25.SyncCalls", spec := "syncCalls", inPlace := ["internal/bytealg.Compare"], unfollowed := true, recurses := true, apart := false }
def SyncCallsSaid : Prop := syncCallsRow.holds Tryz.pinned (OpenSpec.ofChange syncCallsSpec)

/-- ITS FALSE NEIGHBOUR: 'it returns false'. Refute it at one input. -/
def syncCallsWrong : ChangeSpec := { name := "syncCalls", fn := fun _ => fun
  | [d1, d2, d3, d4, d5] => { results := [.lit (.bool false)], args := [d1, d2, d3, d4, d5] }
  | _ => none }
def SyncCallsWrongFalsely : Prop := syncCallsRow.holds Tryz.pinned (OpenSpec.ofChange syncCallsWrong)

/-- 'headwaterlaw26.KeepCalls': WHATEVER THE INPUT: true; the input reads as it did. -/
def keepCallsSpec : ChangeSpec := { name := "keepCalls", fn := fun _ => fun
  | [d1, d2, d3, d4, d5, d6, d7, d8] => { results := [.lit (.bool true)], args := [d1, d2, d3, d4, d5, d6, d7, d8] }
  | _ => none }
def keepCallsRow : OpenClaim := { program := "ytdifpjmfabhpiaagreat", sum := "8dc89e46aacd182cb3e5e370a8c0091bb1adb71bbe3dc6056f8b4be0629e4969", func := "headwater/headwaterlaw26.KeepCalls", spec := "keepCalls", inPlace := ["internal/bytealg.Compare"], unfollowed := true, recurses := true, apart := false }
def KeepCallsSaid : Prop := keepCallsRow.holds Tryz.pinned (OpenSpec.ofChange keepCallsSpec)

/-- ITS FALSE NEIGHBOUR: 'it returns false'. Refute it at one input. -/
def keepCallsWrong : ChangeSpec := { name := "keepCalls", fn := fun _ => fun
  | [d1, d2, d3, d4, d5, d6, d7, d8] => { results := [.lit (.bool false)], args := [d1, d2, d3, d4, d5, d6, d7, d8] }
  | _ => none }
def KeepCallsWrongFalsely : Prop := keepCallsRow.holds Tryz.pinned (OpenSpec.ofChange keepCallsWrong)

/- THE SECOND FORM. 'bulk': how many values and letters a reading holds, each counted each time it is reached (what is shared counts as often as it is met; a slice's spare places count too). A statement '..UptoSaid' is the law's where the arguments, and the package variables that the reading takes, are together of bulk at most 1048576: NARROWER than '..Said'. Prove '..Said' where nothing that the law and all that it calls make is longer than what came in: it says more and counts as full. Else prove '..UptoSaid'. A law counts once. -/
mutual
def uptoBulk {H : Type} : DataW H → Nat
  | .lit (.string bytes) => bytes.length + 1
  | .lit _ => 1
  | .nil => 1
  | .ptr d => uptoBulk d + 1
  | .slice elems spare => uptoBulkAll elems + uptoBulkAll spare + 1
  | .agg parts => uptoBulkAll parts + 1
  | .iface _ d => uptoBulk d + 1
  | .map entries => uptoBulkEntries entries + 1
  | .held _ => 1
def uptoBulkAll {H : Type} : List (DataW H) → Nat
  | [] => 0
  | d :: r => uptoBulk d + uptoBulkAll r
def uptoBulkEntries {H : Type} : List (Lit × DataW H) → Nat
  | [] => 0
  | x :: r => uptoBulkEntry x + uptoBulkEntries r
def uptoBulkEntry {H : Type} : Lit × DataW H → Nat
  | (.string bytes, d) => bytes.length + uptoBulk d + 1
  | (_, d) => uptoBulk d + 1
 end
def uptoSmall : (H : Type) → List (DataW H) → Bool := fun _ ds => decide (uptoBulkAll ds ≤ 1048576)
def OpenSpec.upto (s : _root_.Go.ChangeSpec) : _root_.Go.OpenSpec := { _root_.Go.OpenSpec.ofChange s with cond := some uptoSmall }

/-- 'headwaterlaw26.KeepBack', WHERE WHAT IT READS IS OF BULK AT MOST 1048576: true; the input reads as it did. -/
def keepBackUptoRow : OpenClaim := { program := "ytdifpjmfabhpiaagreat", sum := "8dc89e46aacd182cb3e5e370a8c0091bb1adb71bbe3dc6056f8b4be0629e4969", func := "headwater/headwaterlaw26.KeepBack", spec := "keepBack", inPlace := ["internal/bytealg.Compare"], unfollowed := true, recurses := true, apart := false, narrowed := true }
def KeepBackUptoSaid : Prop := keepBackUptoRow.holds Tryz.pinned (OpenSpec.upto keepBackSpec)

/-- 'headwaterlaw25.SyncBack', WHERE WHAT IT READS IS OF BULK AT MOST 1048576: true; the input reads as it did. -/
def syncBackUptoRow : OpenClaim := { program := "ytdifpjmfabhpiaagreat", sum := "8dc89e46aacd182cb3e5e370a8c0091bb1adb71bbe3dc6056f8b4be0629e4969", func := "headwater/headwaterlaw25.SyncBack", spec := "syncBack", inPlace := ["internal/bytealg.Compare"], unfollowed := true, recurses := true, apart := false, narrowed := true }
def SyncBackUptoSaid : Prop := syncBackUptoRow.holds Tryz.pinned (OpenSpec.upto syncBackSpec)

/-- 'headwaterlaw25.SyncMost', WHERE WHAT IT READS IS OF BULK AT MOST 1048576: true; the input reads as it did. -/
def syncMostUptoRow : OpenClaim := { program := "ytdifpjmfabhpiaagreat", sum := "8dc89e46aacd182cb3e5e370a8c0091bb1adb71bbe3dc6056f8b4be0629e4969", func := "headwater/headwaterlaw25.SyncMost", spec := "syncMost", inPlace := ["internal/bytealg.Compare"], unfollowed := true, recurses := true, apart := false, narrowed := true }
def SyncMostUptoSaid : Prop := syncMostUptoRow.holds Tryz.pinned (OpenSpec.upto syncMostSpec)

/-- 'headwaterlaw25.SyncCalls', WHERE WHAT IT READS IS OF BULK AT MOST 1048576: true; the input reads as it did. -/
def syncCallsUptoRow : OpenClaim := { program := "ytdifpjmfabhpiaagreat", sum := "8dc89e46aacd182cb3e5e370a8c0091bb1adb71bbe3dc6056f8b4be0629e4969", func := "headwater/headwaterlaw25.SyncCalls", spec := "syncCalls", inPlace := ["internal/bytealg.Compare"], unfollowed := true, recurses := true, apart := false, narrowed := true }
def SyncCallsUptoSaid : Prop := syncCallsUptoRow.holds Tryz.pinned (OpenSpec.upto syncCallsSpec)

/-- 'headwaterlaw26.KeepCalls', WHERE WHAT IT READS IS OF BULK AT MOST 1048576: true; the input reads as it did. -/
def keepCallsUptoRow : OpenClaim := { program := "ytdifpjmfabhpiaagreat", sum := "8dc89e46aacd182cb3e5e370a8c0091bb1adb71bbe3dc6056f8b4be0629e4969", func := "headwater/headwaterlaw26.KeepCalls", spec := "keepCalls", inPlace := ["internal/bytealg.Compare"], unfollowed := true, recurses := true, apart := false, narrowed := true }
def KeepCallsUptoSaid : Prop := keepCallsUptoRow.holds Tryz.pinned (OpenSpec.upto keepCallsSpec)

end Rows
end Go.Proofs.YtdifpjmfabhpiaaGreat
