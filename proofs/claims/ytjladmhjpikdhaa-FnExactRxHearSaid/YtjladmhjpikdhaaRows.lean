/-
  No cell of these rows narrows 'for every input' (looked for: loops, veiled, ifaces, maps, wideKeys, modest, calm, conditions, laid).
  DERIVED. THE GIVEN ROWS OF THIS SEAT. 10 by the template 'for every input the law returns true; each argument reads behind the call as it read before'; 0 by the template 'total and deterministic' (their statements: YtjladmhjpikdhaaTotals.lean).
  GIVEN WITH THE SEED: the statements are not yours to turn. If you find one false, say at which input.
  Laid BY PROGRAM, IN A SANDBOX (cutbox-rows.mjs): the forced cells as the released guide's own fill.sh prints them over the translation 0e96ac7998b8a374… (all of the seat's roots in one cut). By AI agents, Wed Nov 11 2026. No macro, syntax, notation, axiom, sorry.
-/
import Derived.Test.YtjladmhjpikdhaaChecked
import GoSem.Claim
import GoSem.ClaimJoined
import GoSem.ClaimMapViews
import Derived.JoinedTies
import Derived.KernelRfl
namespace Go.Proofs.Ytjladmhjpikdhaa
/- THE CELL 'sum', in the pinned program and in every row, IS THE sha256 OF THE DUMP (.gsa) THAT YtjladmhjpikdhaaProg.lean LOADS. Nothing in Lean hashes anything: it is a label: what it is worth is what the hold of that sum in a sandbox is worth. -/
noncomputable def Try.pinned : Pinned := { name := "ytjladmhjpikdhaa", sum := "0e96ac7998b8a374db4d36721e79f0fc43fcceaed37b0b945bb4231bc4eb2586", checked := Try.checked }
namespace Rows
def none {H : Type} : Left H := { results := [], args := [] }

/-- 'laws.FnRxAck': WHATEVER THE INPUT: true; the input reads as it did. -/
def fnRxAckSpec : ChangeSpec := { name := "fnRxAck", fn := fun _ => fun
  | [d] => { results := [.lit (.bool true)], args := [d] }
  | _ => none }
def fnRxAckRow : OpenClaim := { program := "ytjladmhjpikdhaa", sum := "0e96ac7998b8a374db4d36721e79f0fc43fcceaed37b0b945bb4231bc4eb2586", func := "loop.example/linkboy/laws.FnRxAck", spec := "fnRxAck", apart := false }
def FnRxAckSaid : Prop := fnRxAckRow.holds Try.pinned (OpenSpec.ofChange fnRxAckSpec)

/-- ITS FALSE NEIGHBOUR: 'it returns false'. Refute it at one input. -/
def fnRxAckWrong : ChangeSpec := { name := "fnRxAck", fn := fun _ => fun
  | [d] => { results := [.lit (.bool false)], args := [d] }
  | _ => none }
def FnRxAckWrongFalsely : Prop := fnRxAckRow.holds Try.pinned (OpenSpec.ofChange fnRxAckWrong)

/-- 'laws.FnRxBusy': WHATEVER THE INPUT: true; the input reads as it did. -/
def fnRxBusySpec : ChangeSpec := { name := "fnRxBusy", fn := fun _ => fun
  | [d] => { results := [.lit (.bool true)], args := [d] }
  | _ => none }
def fnRxBusyRow : OpenClaim := { program := "ytjladmhjpikdhaa", sum := "0e96ac7998b8a374db4d36721e79f0fc43fcceaed37b0b945bb4231bc4eb2586", func := "loop.example/linkboy/laws.FnRxBusy", spec := "fnRxBusy", apart := false }
def FnRxBusySaid : Prop := fnRxBusyRow.holds Try.pinned (OpenSpec.ofChange fnRxBusySpec)

/-- ITS FALSE NEIGHBOUR: 'it returns false'. Refute it at one input. -/
def fnRxBusyWrong : ChangeSpec := { name := "fnRxBusy", fn := fun _ => fun
  | [d] => { results := [.lit (.bool false)], args := [d] }
  | _ => none }
def FnRxBusyWrongFalsely : Prop := fnRxBusyRow.holds Try.pinned (OpenSpec.ofChange fnRxBusyWrong)

/-- 'laws.FnExactRxAck': WHATEVER THE INPUT: true; the input reads as it did. -/
def fnExactRxAckSpec : ChangeSpec := { name := "fnExactRxAck", fn := fun _ => fun
  | [d] => { results := [.lit (.bool true)], args := [d] }
  | _ => none }
def fnExactRxAckRow : OpenClaim := { program := "ytjladmhjpikdhaa", sum := "0e96ac7998b8a374db4d36721e79f0fc43fcceaed37b0b945bb4231bc4eb2586", func := "loop.example/linkboy/laws.FnExactRxAck", spec := "fnExactRxAck", apart := false }
def FnExactRxAckSaid : Prop := fnExactRxAckRow.holds Try.pinned (OpenSpec.ofChange fnExactRxAckSpec)

/-- ITS FALSE NEIGHBOUR: 'it returns false'. Refute it at one input. -/
def fnExactRxAckWrong : ChangeSpec := { name := "fnExactRxAck", fn := fun _ => fun
  | [d] => { results := [.lit (.bool false)], args := [d] }
  | _ => none }
def FnExactRxAckWrongFalsely : Prop := fnExactRxAckRow.holds Try.pinned (OpenSpec.ofChange fnExactRxAckWrong)

/-- 'laws.FnExactRxBusy': WHATEVER THE INPUT: true; the input reads as it did. -/
def fnExactRxBusySpec : ChangeSpec := { name := "fnExactRxBusy", fn := fun _ => fun
  | [d1, d2] => { results := [.lit (.bool true)], args := [d1, d2] }
  | _ => none }
def fnExactRxBusyRow : OpenClaim := { program := "ytjladmhjpikdhaa", sum := "0e96ac7998b8a374db4d36721e79f0fc43fcceaed37b0b945bb4231bc4eb2586", func := "loop.example/linkboy/laws.FnExactRxBusy", spec := "fnExactRxBusy", apart := false }
def FnExactRxBusySaid : Prop := fnExactRxBusyRow.holds Try.pinned (OpenSpec.ofChange fnExactRxBusySpec)

/-- ITS FALSE NEIGHBOUR: 'it returns false'. Refute it at one input. -/
def fnExactRxBusyWrong : ChangeSpec := { name := "fnExactRxBusy", fn := fun _ => fun
  | [d1, d2] => { results := [.lit (.bool false)], args := [d1, d2] }
  | _ => none }
def FnExactRxBusyWrongFalsely : Prop := fnExactRxBusyRow.holds Try.pinned (OpenSpec.ofChange fnExactRxBusyWrong)

/-- 'laws.FnExactRxHear': WHATEVER THE INPUT: true; the input reads as it did. -/
def fnExactRxHearSpec : ChangeSpec := { name := "fnExactRxHear", fn := fun _ => fun
  | [d1, d2, d3] => { results := [.lit (.bool true)], args := [d1, d2, d3] }
  | _ => none }
def fnExactRxHearRow : OpenClaim := { program := "ytjladmhjpikdhaa", sum := "0e96ac7998b8a374db4d36721e79f0fc43fcceaed37b0b945bb4231bc4eb2586", func := "loop.example/linkboy/laws.FnExactRxHear", spec := "fnExactRxHear", apart := false }
def FnExactRxHearSaid : Prop := fnExactRxHearRow.holds Try.pinned (OpenSpec.ofChange fnExactRxHearSpec)

/-- ITS FALSE NEIGHBOUR: 'it returns false'. Refute it at one input. -/
def fnExactRxHearWrong : ChangeSpec := { name := "fnExactRxHear", fn := fun _ => fun
  | [d1, d2, d3] => { results := [.lit (.bool false)], args := [d1, d2, d3] }
  | _ => none }
def FnExactRxHearWrongFalsely : Prop := fnExactRxHearRow.holds Try.pinned (OpenSpec.ofChange fnExactRxHearWrong)

/-- 'laws.FnRxLate': WHATEVER THE INPUT: true; the input reads as it did. -/
def fnRxLateSpec : ChangeSpec := { name := "fnRxLate", fn := fun _ => fun
  | [d] => { results := [.lit (.bool true)], args := [d] }
  | _ => none }
def fnRxLateRow : OpenClaim := { program := "ytjladmhjpikdhaa", sum := "0e96ac7998b8a374db4d36721e79f0fc43fcceaed37b0b945bb4231bc4eb2586", func := "loop.example/linkboy/laws.FnRxLate", spec := "fnRxLate", apart := false }
def FnRxLateSaid : Prop := fnRxLateRow.holds Try.pinned (OpenSpec.ofChange fnRxLateSpec)

/-- ITS FALSE NEIGHBOUR: 'it returns false'. Refute it at one input. -/
def fnRxLateWrong : ChangeSpec := { name := "fnRxLate", fn := fun _ => fun
  | [d] => { results := [.lit (.bool false)], args := [d] }
  | _ => none }
def FnRxLateWrongFalsely : Prop := fnRxLateRow.holds Try.pinned (OpenSpec.ofChange fnRxLateWrong)

/-- 'laws.FnRxMany': WHATEVER THE INPUT: true; the input reads as it did. -/
def fnRxManySpec : ChangeSpec := { name := "fnRxMany", fn := fun _ => fun
  | [d1, d2] => { results := [.lit (.bool true)], args := [d1, d2] }
  | _ => none }
def fnRxManyRow : OpenClaim := { program := "ytjladmhjpikdhaa", sum := "0e96ac7998b8a374db4d36721e79f0fc43fcceaed37b0b945bb4231bc4eb2586", func := "loop.example/linkboy/laws.FnRxMany", spec := "fnRxMany", apart := false }
def FnRxManySaid : Prop := fnRxManyRow.holds Try.pinned (OpenSpec.ofChange fnRxManySpec)

/-- ITS FALSE NEIGHBOUR: 'it returns false'. Refute it at one input. -/
def fnRxManyWrong : ChangeSpec := { name := "fnRxMany", fn := fun _ => fun
  | [d1, d2] => { results := [.lit (.bool false)], args := [d1, d2] }
  | _ => none }
def FnRxManyWrongFalsely : Prop := fnRxManyRow.holds Try.pinned (OpenSpec.ofChange fnRxManyWrong)

/-- 'laws.FnRxTwice': WHATEVER THE INPUT: true; the input reads as it did. -/
def fnRxTwiceSpec : ChangeSpec := { name := "fnRxTwice", fn := fun _ => fun
  | [d] => { results := [.lit (.bool true)], args := [d] }
  | _ => none }
def fnRxTwiceRow : OpenClaim := { program := "ytjladmhjpikdhaa", sum := "0e96ac7998b8a374db4d36721e79f0fc43fcceaed37b0b945bb4231bc4eb2586", func := "loop.example/linkboy/laws.FnRxTwice", spec := "fnRxTwice", apart := false }
def FnRxTwiceSaid : Prop := fnRxTwiceRow.holds Try.pinned (OpenSpec.ofChange fnRxTwiceSpec)

/-- ITS FALSE NEIGHBOUR: 'it returns false'. Refute it at one input. -/
def fnRxTwiceWrong : ChangeSpec := { name := "fnRxTwice", fn := fun _ => fun
  | [d] => { results := [.lit (.bool false)], args := [d] }
  | _ => none }
def FnRxTwiceWrongFalsely : Prop := fnRxTwiceRow.holds Try.pinned (OpenSpec.ofChange fnRxTwiceWrong)

/-- 'laws.FnRxSays': WHATEVER THE INPUT: true; the input reads as it did. -/
def fnRxSaysSpec : ChangeSpec := { name := "fnRxSays", fn := fun _ => fun
  | [d] => { results := [.lit (.bool true)], args := [d] }
  | _ => none }
def fnRxSaysRow : OpenClaim := { program := "ytjladmhjpikdhaa", sum := "0e96ac7998b8a374db4d36721e79f0fc43fcceaed37b0b945bb4231bc4eb2586", func := "loop.example/linkboy/laws.FnRxSays", spec := "fnRxSays", apart := false }
def FnRxSaysSaid : Prop := fnRxSaysRow.holds Try.pinned (OpenSpec.ofChange fnRxSaysSpec)

/-- ITS FALSE NEIGHBOUR: 'it returns false'. Refute it at one input. -/
def fnRxSaysWrong : ChangeSpec := { name := "fnRxSays", fn := fun _ => fun
  | [d] => { results := [.lit (.bool false)], args := [d] }
  | _ => none }
def FnRxSaysWrongFalsely : Prop := fnRxSaysRow.holds Try.pinned (OpenSpec.ofChange fnRxSaysWrong)

/-- 'laws.FnRxHear': WHATEVER THE INPUT: true; the input reads as it did. -/
def fnRxHearSpec : ChangeSpec := { name := "fnRxHear", fn := fun _ => fun
  | [d] => { results := [.lit (.bool true)], args := [d] }
  | _ => none }
def fnRxHearRow : OpenClaim := { program := "ytjladmhjpikdhaa", sum := "0e96ac7998b8a374db4d36721e79f0fc43fcceaed37b0b945bb4231bc4eb2586", func := "loop.example/linkboy/laws.FnRxHear", spec := "fnRxHear", apart := false }
def FnRxHearSaid : Prop := fnRxHearRow.holds Try.pinned (OpenSpec.ofChange fnRxHearSpec)

/-- ITS FALSE NEIGHBOUR: 'it returns false'. Refute it at one input. -/
def fnRxHearWrong : ChangeSpec := { name := "fnRxHear", fn := fun _ => fun
  | [d] => { results := [.lit (.bool false)], args := [d] }
  | _ => none }
def FnRxHearWrongFalsely : Prop := fnRxHearRow.holds Try.pinned (OpenSpec.ofChange fnRxHearWrong)

/- THE SECOND FORM. 'bulk': how many values and letters a reading holds, each counted each time it is reached (what is shared counts as often as it is met; a slice's spare places count too). A statement '..UptoSaid' is the law's where the arguments, and the package variables that the reading takes, are together of bulk at most 1048576: NARROWER than '..Said'. Prove '..Said' where nothing that the law and all that it calls make is longer than what came in: it says more and counts as full. Else prove '..UptoSaid'. A law counts once. -/
mutual
def uptoBulk {H : Type} : DataW H → Nat
  | .lit (.string bytes) => bytes.length + 1
  | .lit _ => 1
  | .nil => 1
  | .ptr d => uptoBulk d + 1
  | .slice elems spare => uptoBulkAll elems + uptoBulkAll spare + 1
  | .agg parts => uptoBulkAll parts + 1
  | .iface _ d => uptoBulk d + 1
  | .map entries => uptoBulkEntries entries + 1
  | .held _ => 1
def uptoBulkAll {H : Type} : List (DataW H) → Nat
  | [] => 0
  | d :: r => uptoBulk d + uptoBulkAll r
def uptoBulkEntries {H : Type} : List (Lit × DataW H) → Nat
  | [] => 0
  | x :: r => uptoBulkEntry x + uptoBulkEntries r
def uptoBulkEntry {H : Type} : Lit × DataW H → Nat
  | (.string bytes, d) => bytes.length + uptoBulk d + 1
  | (_, d) => uptoBulk d + 1
 end
def uptoSmall : (H : Type) → List (DataW H) → Bool := fun _ ds => decide (uptoBulkAll ds ≤ 1048576)
def OpenSpec.upto (s : _root_.Go.ChangeSpec) : _root_.Go.OpenSpec := { _root_.Go.OpenSpec.ofChange s with cond := some uptoSmall }

/-- 'laws.FnRxAck', WHERE WHAT IT READS IS OF BULK AT MOST 1048576: true; the input reads as it did. -/
def fnRxAckUptoRow : OpenClaim := { program := "ytjladmhjpikdhaa", sum := "0e96ac7998b8a374db4d36721e79f0fc43fcceaed37b0b945bb4231bc4eb2586", func := "loop.example/linkboy/laws.FnRxAck", spec := "fnRxAck", apart := false, narrowed := true }
def FnRxAckUptoSaid : Prop := fnRxAckUptoRow.holds Try.pinned (OpenSpec.upto fnRxAckSpec)

/-- 'laws.FnRxBusy', WHERE WHAT IT READS IS OF BULK AT MOST 1048576: true; the input reads as it did. -/
def fnRxBusyUptoRow : OpenClaim := { program := "ytjladmhjpikdhaa", sum := "0e96ac7998b8a374db4d36721e79f0fc43fcceaed37b0b945bb4231bc4eb2586", func := "loop.example/linkboy/laws.FnRxBusy", spec := "fnRxBusy", apart := false, narrowed := true }
def FnRxBusyUptoSaid : Prop := fnRxBusyUptoRow.holds Try.pinned (OpenSpec.upto fnRxBusySpec)

/-- 'laws.FnExactRxAck', WHERE WHAT IT READS IS OF BULK AT MOST 1048576: true; the input reads as it did. -/
def fnExactRxAckUptoRow : OpenClaim := { program := "ytjladmhjpikdhaa", sum := "0e96ac7998b8a374db4d36721e79f0fc43fcceaed37b0b945bb4231bc4eb2586", func := "loop.example/linkboy/laws.FnExactRxAck", spec := "fnExactRxAck", apart := false, narrowed := true }
def FnExactRxAckUptoSaid : Prop := fnExactRxAckUptoRow.holds Try.pinned (OpenSpec.upto fnExactRxAckSpec)

/-- 'laws.FnExactRxBusy', WHERE WHAT IT READS IS OF BULK AT MOST 1048576: true; the input reads as it did. -/
def fnExactRxBusyUptoRow : OpenClaim := { program := "ytjladmhjpikdhaa", sum := "0e96ac7998b8a374db4d36721e79f0fc43fcceaed37b0b945bb4231bc4eb2586", func := "loop.example/linkboy/laws.FnExactRxBusy", spec := "fnExactRxBusy", apart := false, narrowed := true }
def FnExactRxBusyUptoSaid : Prop := fnExactRxBusyUptoRow.holds Try.pinned (OpenSpec.upto fnExactRxBusySpec)

/-- 'laws.FnExactRxHear', WHERE WHAT IT READS IS OF BULK AT MOST 1048576: true; the input reads as it did. -/
def fnExactRxHearUptoRow : OpenClaim := { program := "ytjladmhjpikdhaa", sum := "0e96ac7998b8a374db4d36721e79f0fc43fcceaed37b0b945bb4231bc4eb2586", func := "loop.example/linkboy/laws.FnExactRxHear", spec := "fnExactRxHear", apart := false, narrowed := true }
def FnExactRxHearUptoSaid : Prop := fnExactRxHearUptoRow.holds Try.pinned (OpenSpec.upto fnExactRxHearSpec)

/-- 'laws.FnRxLate', WHERE WHAT IT READS IS OF BULK AT MOST 1048576: true; the input reads as it did. -/
def fnRxLateUptoRow : OpenClaim := { program := "ytjladmhjpikdhaa", sum := "0e96ac7998b8a374db4d36721e79f0fc43fcceaed37b0b945bb4231bc4eb2586", func := "loop.example/linkboy/laws.FnRxLate", spec := "fnRxLate", apart := false, narrowed := true }
def FnRxLateUptoSaid : Prop := fnRxLateUptoRow.holds Try.pinned (OpenSpec.upto fnRxLateSpec)

/-- 'laws.FnRxMany', WHERE WHAT IT READS IS OF BULK AT MOST 1048576: true; the input reads as it did. -/
def fnRxManyUptoRow : OpenClaim := { program := "ytjladmhjpikdhaa", sum := "0e96ac7998b8a374db4d36721e79f0fc43fcceaed37b0b945bb4231bc4eb2586", func := "loop.example/linkboy/laws.FnRxMany", spec := "fnRxMany", apart := false, narrowed := true }
def FnRxManyUptoSaid : Prop := fnRxManyUptoRow.holds Try.pinned (OpenSpec.upto fnRxManySpec)

/-- 'laws.FnRxTwice', WHERE WHAT IT READS IS OF BULK AT MOST 1048576: true; the input reads as it did. -/
def fnRxTwiceUptoRow : OpenClaim := { program := "ytjladmhjpikdhaa", sum := "0e96ac7998b8a374db4d36721e79f0fc43fcceaed37b0b945bb4231bc4eb2586", func := "loop.example/linkboy/laws.FnRxTwice", spec := "fnRxTwice", apart := false, narrowed := true }
def FnRxTwiceUptoSaid : Prop := fnRxTwiceUptoRow.holds Try.pinned (OpenSpec.upto fnRxTwiceSpec)

/-- 'laws.FnRxSays', WHERE WHAT IT READS IS OF BULK AT MOST 1048576: true; the input reads as it did. -/
def fnRxSaysUptoRow : OpenClaim := { program := "ytjladmhjpikdhaa", sum := "0e96ac7998b8a374db4d36721e79f0fc43fcceaed37b0b945bb4231bc4eb2586", func := "loop.example/linkboy/laws.FnRxSays", spec := "fnRxSays", apart := false, narrowed := true }
def FnRxSaysUptoSaid : Prop := fnRxSaysUptoRow.holds Try.pinned (OpenSpec.upto fnRxSaysSpec)

/-- 'laws.FnRxHear', WHERE WHAT IT READS IS OF BULK AT MOST 1048576: true; the input reads as it did. -/
def fnRxHearUptoRow : OpenClaim := { program := "ytjladmhjpikdhaa", sum := "0e96ac7998b8a374db4d36721e79f0fc43fcceaed37b0b945bb4231bc4eb2586", func := "loop.example/linkboy/laws.FnRxHear", spec := "fnRxHear", apart := false, narrowed := true }
def FnRxHearUptoSaid : Prop := fnRxHearUptoRow.holds Try.pinned (OpenSpec.upto fnRxHearSpec)

end Rows
end Go.Proofs.Ytjladmhjpikdhaa
