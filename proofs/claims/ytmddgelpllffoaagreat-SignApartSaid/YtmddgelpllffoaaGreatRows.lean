/-
  No cell of these rows narrows 'for every input' (looked for: loops, veiled, ifaces, maps, wideKeys, modest, calm, conditions, laid).
  DERIVED. THE GIVEN ROWS OF THIS SEAT. 4 by the template 'for every input the law returns true; each argument reads behind the call as it read before'; 0 by the template 'total and deterministic' (their statements: YtmddgelpllffoaaGreatTotals.lean).
  GIVEN WITH THE SEED: the statements are not yours to turn. If you find one false, say at which input.
  Laid BY PROGRAM, IN A SANDBOX (cutbox-rows.mjs): the forced cells as the released guide's own fill.sh prints them over the translation 8897644bc3dc778a… (all of the seat's roots in one cut). By AI agents, Wed Nov 11 2026. No macro, syntax, notation, axiom, sorry.
-/
import Derived.Test.YtmddgelpllffoaaGreatChecked
import GoSem.Claim
import GoSem.ClaimJoined
import GoSem.ClaimMapViews
import Derived.JoinedTies
import Derived.KernelRfl
namespace Go.Proofs.YtmddgelpllffoaaGreat
/- THE CELL 'sum', in the pinned program and in every row, IS THE sha256 OF THE DUMP (.gsa) THAT YtmddgelpllffoaaGreatProg.lean LOADS. Nothing in Lean hashes anything: it is a label: what it is worth is what the hold of that sum in a sandbox is worth. -/
noncomputable def Tryz.pinned : Pinned := { name := "ytmddgelpllffoaagreat", sum := "8897644bc3dc778ad99ec61f2602c12baf8fdeb7d7510618e2f281ed1adef657", checked := Tryz.checked }
namespace Rows
def none {H : Type} : Left H := { results := [], args := [] }

/-- 'headwaterlaw06.SignTurned': WHATEVER THE INPUT: true; the input reads as it did. -/
def signTurnedSpec : ChangeSpec := { name := "signTurned", fn := fun _ => fun
  | [d1, d2, d3, d4] => { results := [.lit (.bool true)], args := [d1, d2, d3, d4] }
  | _ => none }
def signTurnedRow : OpenClaim := { program := "ytmddgelpllffoaagreat", sum := "8897644bc3dc778ad99ec61f2602c12baf8fdeb7d7510618e2f281ed1adef657", func := "headwater/headwaterlaw06.SignTurned", spec := "signTurned", inPlace := ["math/bits.Add64", "math/bits.Sub64"], unfollowed := true, recurses := true, apart := false }
def SignTurnedSaid : Prop := signTurnedRow.holds Tryz.pinned (OpenSpec.ofChange signTurnedSpec)

/-- ITS FALSE NEIGHBOUR: 'it returns false'. Refute it at one input. -/
def signTurnedWrong : ChangeSpec := { name := "signTurned", fn := fun _ => fun
  | [d1, d2, d3, d4] => { results := [.lit (.bool false)], args := [d1, d2, d3, d4] }
  | _ => none }
def SignTurnedWrongFalsely : Prop := signTurnedRow.holds Tryz.pinned (OpenSpec.ofChange signTurnedWrong)

/-- 'headwaterlaw06.SignApart': WHATEVER THE INPUT: true; the input reads as it did. -/
def signApartSpec : ChangeSpec := { name := "signApart", fn := fun _ => fun
  | [d1, d2, d3] => { results := [.lit (.bool true)], args := [d1, d2, d3] }
  | _ => none }
def signApartRow : OpenClaim := { program := "ytmddgelpllffoaagreat", sum := "8897644bc3dc778ad99ec61f2602c12baf8fdeb7d7510618e2f281ed1adef657", func := "headwater/headwaterlaw06.SignApart", spec := "signApart", inPlace := ["math/bits.Add64", "math/bits.Sub64"], unfollowed := true, recurses := true, apart := false }
def SignApartSaid : Prop := signApartRow.holds Tryz.pinned (OpenSpec.ofChange signApartSpec)

/-- ITS FALSE NEIGHBOUR: 'it returns false'. Refute it at one input. -/
def signApartWrong : ChangeSpec := { name := "signApart", fn := fun _ => fun
  | [d1, d2, d3] => { results := [.lit (.bool false)], args := [d1, d2, d3] }
  | _ => none }
def SignApartWrongFalsely : Prop := signApartRow.holds Tryz.pinned (OpenSpec.ofChange signApartWrong)

/-- 'headwaterlaw06.SignStrict': WHATEVER THE INPUT: true; the input reads as it did. -/
def signStrictSpec : ChangeSpec := { name := "signStrict", fn := fun _ => fun
  | [d1, d2, d3, d4] => { results := [.lit (.bool true)], args := [d1, d2, d3, d4] }
  | _ => none }
def signStrictRow : OpenClaim := { program := "ytmddgelpllffoaagreat", sum := "8897644bc3dc778ad99ec61f2602c12baf8fdeb7d7510618e2f281ed1adef657", func := "headwater/headwaterlaw06.SignStrict", spec := "signStrict", inPlace := ["math/bits.Add64", "math/bits.Sub64"], unfollowed := true, recurses := true, apart := false }
def SignStrictSaid : Prop := signStrictRow.holds Tryz.pinned (OpenSpec.ofChange signStrictSpec)

/-- ITS FALSE NEIGHBOUR: 'it returns false'. Refute it at one input. -/
def signStrictWrong : ChangeSpec := { name := "signStrict", fn := fun _ => fun
  | [d1, d2, d3, d4] => { results := [.lit (.bool false)], args := [d1, d2, d3, d4] }
  | _ => none }
def SignStrictWrongFalsely : Prop := signStrictRow.holds Tryz.pinned (OpenSpec.ofChange signStrictWrong)

/-- 'headwaterlaw06.SignCalls': WHATEVER THE INPUT: true; the input reads as it did. -/
def signCallsSpec : ChangeSpec := { name := "signCalls", fn := fun _ => fun
  | [d1, d2, d3, d4] => { results := [.lit (.bool true)], args := [d1, d2, d3, d4] }
  | _ => none }
def signCallsRow : OpenClaim := { program := "ytmddgelpllffoaagreat", sum := "8897644bc3dc778ad99ec61f2602c12baf8fdeb7d7510618e2f281ed1adef657", func := "headwater/headwaterlaw06.SignCalls", spec := "signCalls", inPlace := ["math/bits.Add64", "math/bits.Sub64"], unfollowed := true, recurses := true, apart := false }
def SignCallsSaid : Prop := signCallsRow.holds Tryz.pinned (OpenSpec.ofChange signCallsSpec)

/-- ITS FALSE NEIGHBOUR: 'it returns false'. Refute it at one input. -/
def signCallsWrong : ChangeSpec := { name := "signCalls", fn := fun _ => fun
  | [d1, d2, d3, d4] => { results := [.lit (.bool false)], args := [d1, d2, d3, d4] }
  | _ => none }
def SignCallsWrongFalsely : Prop := signCallsRow.holds Tryz.pinned (OpenSpec.ofChange signCallsWrong)

/- THE SECOND FORM. 'bulk': how many values and letters a reading holds, each counted each time it is reached (what is shared counts as often as it is met; a slice's spare places count too). A statement '..UptoSaid' is the law's where the arguments, and the package variables that the reading takes, are together of bulk at most 1048576: NARROWER than '..Said'. Prove '..Said' where nothing that the law and all that it calls make is longer than what came in: it says more and counts as full. Else prove '..UptoSaid'. A law counts once. -/
mutual
def uptoBulk {H : Type} : DataW H → Nat
  | .lit (.string bytes) => bytes.length + 1
  | .lit _ => 1
  | .nil => 1
  | .ptr d => uptoBulk d + 1
  | .slice elems spare => uptoBulkAll elems + uptoBulkAll spare + 1
  | .agg parts => uptoBulkAll parts + 1
  | .iface _ d => uptoBulk d + 1
  | .map entries => uptoBulkEntries entries + 1
  | .held _ => 1
def uptoBulkAll {H : Type} : List (DataW H) → Nat
  | [] => 0
  | d :: r => uptoBulk d + uptoBulkAll r
def uptoBulkEntries {H : Type} : List (Lit × DataW H) → Nat
  | [] => 0
  | x :: r => uptoBulkEntry x + uptoBulkEntries r
def uptoBulkEntry {H : Type} : Lit × DataW H → Nat
  | (.string bytes, d) => bytes.length + uptoBulk d + 1
  | (_, d) => uptoBulk d + 1
 end
def uptoSmall : (H : Type) → List (DataW H) → Bool := fun _ ds => decide (uptoBulkAll ds ≤ 1048576)
def OpenSpec.upto (s : _root_.Go.ChangeSpec) : _root_.Go.OpenSpec := { _root_.Go.OpenSpec.ofChange s with cond := some uptoSmall }

/-- 'headwaterlaw06.SignTurned', WHERE WHAT IT READS IS OF BULK AT MOST 1048576: true; the input reads as it did. -/
def signTurnedUptoRow : OpenClaim := { program := "ytmddgelpllffoaagreat", sum := "8897644bc3dc778ad99ec61f2602c12baf8fdeb7d7510618e2f281ed1adef657", func := "headwater/headwaterlaw06.SignTurned", spec := "signTurned", inPlace := ["math/bits.Add64", "math/bits.Sub64"], unfollowed := true, recurses := true, apart := false, narrowed := true }
def SignTurnedUptoSaid : Prop := signTurnedUptoRow.holds Tryz.pinned (OpenSpec.upto signTurnedSpec)

/-- 'headwaterlaw06.SignApart', WHERE WHAT IT READS IS OF BULK AT MOST 1048576: true; the input reads as it did. -/
def signApartUptoRow : OpenClaim := { program := "ytmddgelpllffoaagreat", sum := "8897644bc3dc778ad99ec61f2602c12baf8fdeb7d7510618e2f281ed1adef657", func := "headwater/headwaterlaw06.SignApart", spec := "signApart", inPlace := ["math/bits.Add64", "math/bits.Sub64"], unfollowed := true, recurses := true, apart := false, narrowed := true }
def SignApartUptoSaid : Prop := signApartUptoRow.holds Tryz.pinned (OpenSpec.upto signApartSpec)

/-- 'headwaterlaw06.SignStrict', WHERE WHAT IT READS IS OF BULK AT MOST 1048576: true; the input reads as it did. -/
def signStrictUptoRow : OpenClaim := { program := "ytmddgelpllffoaagreat", sum := "8897644bc3dc778ad99ec61f2602c12baf8fdeb7d7510618e2f281ed1adef657", func := "headwater/headwaterlaw06.SignStrict", spec := "signStrict", inPlace := ["math/bits.Add64", "math/bits.Sub64"], unfollowed := true, recurses := true, apart := false, narrowed := true }
def SignStrictUptoSaid : Prop := signStrictUptoRow.holds Tryz.pinned (OpenSpec.upto signStrictSpec)

/-- 'headwaterlaw06.SignCalls', WHERE WHAT IT READS IS OF BULK AT MOST 1048576: true; the input reads as it did. -/
def signCallsUptoRow : OpenClaim := { program := "ytmddgelpllffoaagreat", sum := "8897644bc3dc778ad99ec61f2602c12baf8fdeb7d7510618e2f281ed1adef657", func := "headwater/headwaterlaw06.SignCalls", spec := "signCalls", inPlace := ["math/bits.Add64", "math/bits.Sub64"], unfollowed := true, recurses := true, apart := false, narrowed := true }
def SignCallsUptoSaid : Prop := signCallsUptoRow.holds Tryz.pinned (OpenSpec.upto signCallsSpec)

end Rows
end Go.Proofs.YtmddgelpllffoaaGreat
