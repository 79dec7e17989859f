/-
  No cell of these rows narrows 'for every input' (looked for: loops, veiled, ifaces, maps, wideKeys, modest, calm, conditions, laid).
  DERIVED. THE GIVEN ROWS OF THIS SEAT. 13 by the template 'for every input the law returns true; each argument reads behind the call as it read before'; 0 by the template 'total and deterministic' (their statements: YtfcllghcdeifbaaTotals.lean).
  GIVEN WITH THE SEED: the statements are not yours to turn. If you find one false, say at which input.
  Laid BY PROGRAM, IN A SANDBOX (cutbox-rows.mjs): the forced cells as the released guide's own fill.sh prints them over the translation f07abd82ed3a723e… (all of the seat's roots in one cut). By AI agents, Wed Nov 11 2026. No macro, syntax, notation, axiom, sorry.
-/
import Derived.Test.YtfcllghcdeifbaaChecked
import GoSem.Claim
import GoSem.ClaimJoined
import GoSem.ClaimMapViews
import Derived.JoinedTies
import Derived.KernelRfl
namespace Go.Proofs.Ytfcllghcdeifbaa
/- THE CELL 'sum', in the pinned program and in every row, IS THE sha256 OF THE DUMP (.gsa) THAT YtfcllghcdeifbaaProg.lean LOADS. Nothing in Lean hashes anything: it is a label: what it is worth is what the hold of that sum in a sandbox is worth. -/
noncomputable def Try.pinned : Pinned := { name := "ytfcllghcdeifbaa", sum := "f07abd82ed3a723e72fb822c38e8447d46033334779f78fa27d9bedaf6a3728e", checked := Try.checked }
namespace Rows
def none {H : Type} : Left H := { results := [], args := [] }

/-- 'laws.FnExactTxPut': WHATEVER THE INPUT: true; the input reads as it did. -/
def fnExactTxPutSpec : ChangeSpec := { name := "fnExactTxPut", fn := fun _ => fun
  | [d1, d2, d3] => { results := [.lit (.bool true)], args := [d1, d2, d3] }
  | _ => none }
def fnExactTxPutRow : OpenClaim := { program := "ytfcllghcdeifbaa", sum := "f07abd82ed3a723e72fb822c38e8447d46033334779f78fa27d9bedaf6a3728e", func := "loop.example/linkboy/laws.FnExactTxPut", spec := "fnExactTxPut", unfollowed := true, recurses := true, apart := false }
def FnExactTxPutSaid : Prop := fnExactTxPutRow.holds Try.pinned (OpenSpec.ofChange fnExactTxPutSpec)

/-- ITS FALSE NEIGHBOUR: 'it returns false'. Refute it at one input. -/
def fnExactTxPutWrong : ChangeSpec := { name := "fnExactTxPut", fn := fun _ => fun
  | [d1, d2, d3] => { results := [.lit (.bool false)], args := [d1, d2, d3] }
  | _ => none }
def FnExactTxPutWrongFalsely : Prop := fnExactTxPutRow.holds Try.pinned (OpenSpec.ofChange fnExactTxPutWrong)

/-- 'laws.FnExactTxTick': WHATEVER THE INPUT: true; the input reads as it did. -/
def fnExactTxTickSpec : ChangeSpec := { name := "fnExactTxTick", fn := fun _ => fun
  | [d1, d2, d3, d4] => { results := [.lit (.bool true)], args := [d1, d2, d3, d4] }
  | _ => none }
def fnExactTxTickRow : OpenClaim := { program := "ytfcllghcdeifbaa", sum := "f07abd82ed3a723e72fb822c38e8447d46033334779f78fa27d9bedaf6a3728e", func := "loop.example/linkboy/laws.FnExactTxTick", spec := "fnExactTxTick", unfollowed := true, recurses := true, apart := false }
def FnExactTxTickSaid : Prop := fnExactTxTickRow.holds Try.pinned (OpenSpec.ofChange fnExactTxTickSpec)

/-- ITS FALSE NEIGHBOUR: 'it returns false'. Refute it at one input. -/
def fnExactTxTickWrong : ChangeSpec := { name := "fnExactTxTick", fn := fun _ => fun
  | [d1, d2, d3, d4] => { results := [.lit (.bool false)], args := [d1, d2, d3, d4] }
  | _ => none }
def FnExactTxTickWrongFalsely : Prop := fnExactTxTickRow.holds Try.pinned (OpenSpec.ofChange fnExactTxTickWrong)

/-- 'laws.FnTxOrder': WHATEVER THE INPUT: true; the input reads as it did. -/
def fnTxOrderSpec : ChangeSpec := { name := "fnTxOrder", fn := fun _ => fun
  | [d] => { results := [.lit (.bool true)], args := [d] }
  | _ => none }
def fnTxOrderRow : OpenClaim := { program := "ytfcllghcdeifbaa", sum := "f07abd82ed3a723e72fb822c38e8447d46033334779f78fa27d9bedaf6a3728e", func := "loop.example/linkboy/laws.FnTxOrder", spec := "fnTxOrder", unfollowed := true, recurses := true, apart := false }
def FnTxOrderSaid : Prop := fnTxOrderRow.holds Try.pinned (OpenSpec.ofChange fnTxOrderSpec)

/-- ITS FALSE NEIGHBOUR: 'it returns false'. Refute it at one input. -/
def fnTxOrderWrong : ChangeSpec := { name := "fnTxOrder", fn := fun _ => fun
  | [d] => { results := [.lit (.bool false)], args := [d] }
  | _ => none }
def FnTxOrderWrongFalsely : Prop := fnTxOrderRow.holds Try.pinned (OpenSpec.ofChange fnTxOrderWrong)

/-- 'laws.FnExactTxSend': WHATEVER THE INPUT: true; the input reads as it did. -/
def fnExactTxSendSpec : ChangeSpec := { name := "fnExactTxSend", fn := fun _ => fun
  | [d1, d2, d3] => { results := [.lit (.bool true)], args := [d1, d2, d3] }
  | _ => none }
def fnExactTxSendRow : OpenClaim := { program := "ytfcllghcdeifbaa", sum := "f07abd82ed3a723e72fb822c38e8447d46033334779f78fa27d9bedaf6a3728e", func := "loop.example/linkboy/laws.FnExactTxSend", spec := "fnExactTxSend", unfollowed := true, recurses := true, apart := false }
def FnExactTxSendSaid : Prop := fnExactTxSendRow.holds Try.pinned (OpenSpec.ofChange fnExactTxSendSpec)

/-- ITS FALSE NEIGHBOUR: 'it returns false'. Refute it at one input. -/
def fnExactTxSendWrong : ChangeSpec := { name := "fnExactTxSend", fn := fun _ => fun
  | [d1, d2, d3] => { results := [.lit (.bool false)], args := [d1, d2, d3] }
  | _ => none }
def FnExactTxSendWrongFalsely : Prop := fnExactTxSendRow.holds Try.pinned (OpenSpec.ofChange fnExactTxSendWrong)

/-- 'laws.FnTxTick': WHATEVER THE INPUT: true; the input reads as it did. -/
def fnTxTickSpec : ChangeSpec := { name := "fnTxTick", fn := fun _ => fun
  | [d] => { results := [.lit (.bool true)], args := [d] }
  | _ => none }
def fnTxTickRow : OpenClaim := { program := "ytfcllghcdeifbaa", sum := "f07abd82ed3a723e72fb822c38e8447d46033334779f78fa27d9bedaf6a3728e", func := "loop.example/linkboy/laws.FnTxTick", spec := "fnTxTick", unfollowed := true, recurses := true, apart := false }
def FnTxTickSaid : Prop := fnTxTickRow.holds Try.pinned (OpenSpec.ofChange fnTxTickSpec)

/-- ITS FALSE NEIGHBOUR: 'it returns false'. Refute it at one input. -/
def fnTxTickWrong : ChangeSpec := { name := "fnTxTick", fn := fun _ => fun
  | [d] => { results := [.lit (.bool false)], args := [d] }
  | _ => none }
def FnTxTickWrongFalsely : Prop := fnTxTickRow.holds Try.pinned (OpenSpec.ofChange fnTxTickWrong)

/-- 'laws.FnTxPut': WHATEVER THE INPUT: true; the input reads as it did. -/
def fnTxPutSpec : ChangeSpec := { name := "fnTxPut", fn := fun _ => fun
  | [d] => { results := [.lit (.bool true)], args := [d] }
  | _ => none }
def fnTxPutRow : OpenClaim := { program := "ytfcllghcdeifbaa", sum := "f07abd82ed3a723e72fb822c38e8447d46033334779f78fa27d9bedaf6a3728e", func := "loop.example/linkboy/laws.FnTxPut", spec := "fnTxPut", unfollowed := true, recurses := true, apart := false }
def FnTxPutSaid : Prop := fnTxPutRow.holds Try.pinned (OpenSpec.ofChange fnTxPutSpec)

/-- ITS FALSE NEIGHBOUR: 'it returns false'. Refute it at one input. -/
def fnTxPutWrong : ChangeSpec := { name := "fnTxPut", fn := fun _ => fun
  | [d] => { results := [.lit (.bool false)], args := [d] }
  | _ => none }
def FnTxPutWrongFalsely : Prop := fnTxPutRow.holds Try.pinned (OpenSpec.ofChange fnTxPutWrong)

/-- 'laws.FnTxAll': WHATEVER THE INPUT: true; the input reads as it did. -/
def fnTxAllSpec : ChangeSpec := { name := "fnTxAll", fn := fun _ => fun
  | [d] => { results := [.lit (.bool true)], args := [d] }
  | _ => none }
def fnTxAllRow : OpenClaim := { program := "ytfcllghcdeifbaa", sum := "f07abd82ed3a723e72fb822c38e8447d46033334779f78fa27d9bedaf6a3728e", func := "loop.example/linkboy/laws.FnTxAll", spec := "fnTxAll", unfollowed := true, recurses := true, apart := false }
def FnTxAllSaid : Prop := fnTxAllRow.holds Try.pinned (OpenSpec.ofChange fnTxAllSpec)

/-- ITS FALSE NEIGHBOUR: 'it returns false'. Refute it at one input. -/
def fnTxAllWrong : ChangeSpec := { name := "fnTxAll", fn := fun _ => fun
  | [d] => { results := [.lit (.bool false)], args := [d] }
  | _ => none }
def FnTxAllWrongFalsely : Prop := fnTxAllRow.holds Try.pinned (OpenSpec.ofChange fnTxAllWrong)

/-- 'laws.FnTxSend': WHATEVER THE INPUT: true; the input reads as it did. -/
def fnTxSendSpec : ChangeSpec := { name := "fnTxSend", fn := fun _ => fun
  | [d] => { results := [.lit (.bool true)], args := [d] }
  | _ => none }
def fnTxSendRow : OpenClaim := { program := "ytfcllghcdeifbaa", sum := "f07abd82ed3a723e72fb822c38e8447d46033334779f78fa27d9bedaf6a3728e", func := "loop.example/linkboy/laws.FnTxSend", spec := "fnTxSend", unfollowed := true, recurses := true, apart := false }
def FnTxSendSaid : Prop := fnTxSendRow.holds Try.pinned (OpenSpec.ofChange fnTxSendSpec)

/-- ITS FALSE NEIGHBOUR: 'it returns false'. Refute it at one input. -/
def fnTxSendWrong : ChangeSpec := { name := "fnTxSend", fn := fun _ => fun
  | [d] => { results := [.lit (.bool false)], args := [d] }
  | _ => none }
def FnTxSendWrongFalsely : Prop := fnTxSendRow.holds Try.pinned (OpenSpec.ofChange fnTxSendWrong)

/-- 'laws.FnTxAgain': WHATEVER THE INPUT: true; the input reads as it did. -/
def fnTxAgainSpec : ChangeSpec := { name := "fnTxAgain", fn := fun _ => fun
  | [d] => { results := [.lit (.bool true)], args := [d] }
  | _ => none }
def fnTxAgainRow : OpenClaim := { program := "ytfcllghcdeifbaa", sum := "f07abd82ed3a723e72fb822c38e8447d46033334779f78fa27d9bedaf6a3728e", func := "loop.example/linkboy/laws.FnTxAgain", spec := "fnTxAgain", unfollowed := true, recurses := true, apart := false }
def FnTxAgainSaid : Prop := fnTxAgainRow.holds Try.pinned (OpenSpec.ofChange fnTxAgainSpec)

/-- ITS FALSE NEIGHBOUR: 'it returns false'. Refute it at one input. -/
def fnTxAgainWrong : ChangeSpec := { name := "fnTxAgain", fn := fun _ => fun
  | [d] => { results := [.lit (.bool false)], args := [d] }
  | _ => none }
def FnTxAgainWrongFalsely : Prop := fnTxAgainRow.holds Try.pinned (OpenSpec.ofChange fnTxAgainWrong)

/-- 'laws.FnExactTxHear': WHATEVER THE INPUT: true; the input reads as it did. -/
def fnExactTxHearSpec : ChangeSpec := { name := "fnExactTxHear", fn := fun _ => fun
  | [d1, d2, d3] => { results := [.lit (.bool true)], args := [d1, d2, d3] }
  | _ => none }
def fnExactTxHearRow : OpenClaim := { program := "ytfcllghcdeifbaa", sum := "f07abd82ed3a723e72fb822c38e8447d46033334779f78fa27d9bedaf6a3728e", func := "loop.example/linkboy/laws.FnExactTxHear", spec := "fnExactTxHear", unfollowed := true, recurses := true, apart := false }
def FnExactTxHearSaid : Prop := fnExactTxHearRow.holds Try.pinned (OpenSpec.ofChange fnExactTxHearSpec)

/-- ITS FALSE NEIGHBOUR: 'it returns false'. Refute it at one input. -/
def fnExactTxHearWrong : ChangeSpec := { name := "fnExactTxHear", fn := fun _ => fun
  | [d1, d2, d3] => { results := [.lit (.bool false)], args := [d1, d2, d3] }
  | _ => none }
def FnExactTxHearWrongFalsely : Prop := fnExactTxHearRow.holds Try.pinned (OpenSpec.ofChange fnExactTxHearWrong)

/-- 'laws.FnTxFinal': WHATEVER THE INPUT: true; the input reads as it did. -/
def fnTxFinalSpec : ChangeSpec := { name := "fnTxFinal", fn := fun _ => fun
  | [d] => { results := [.lit (.bool true)], args := [d] }
  | _ => none }
def fnTxFinalRow : OpenClaim := { program := "ytfcllghcdeifbaa", sum := "f07abd82ed3a723e72fb822c38e8447d46033334779f78fa27d9bedaf6a3728e", func := "loop.example/linkboy/laws.FnTxFinal", spec := "fnTxFinal", unfollowed := true, recurses := true, apart := false }
def FnTxFinalSaid : Prop := fnTxFinalRow.holds Try.pinned (OpenSpec.ofChange fnTxFinalSpec)

/-- ITS FALSE NEIGHBOUR: 'it returns false'. Refute it at one input. -/
def fnTxFinalWrong : ChangeSpec := { name := "fnTxFinal", fn := fun _ => fun
  | [d] => { results := [.lit (.bool false)], args := [d] }
  | _ => none }
def FnTxFinalWrongFalsely : Prop := fnTxFinalRow.holds Try.pinned (OpenSpec.ofChange fnTxFinalWrong)

/-- 'laws.FnTxHear': WHATEVER THE INPUT: true; the input reads as it did. -/
def fnTxHearSpec : ChangeSpec := { name := "fnTxHear", fn := fun _ => fun
  | [d] => { results := [.lit (.bool true)], args := [d] }
  | _ => none }
def fnTxHearRow : OpenClaim := { program := "ytfcllghcdeifbaa", sum := "f07abd82ed3a723e72fb822c38e8447d46033334779f78fa27d9bedaf6a3728e", func := "loop.example/linkboy/laws.FnTxHear", spec := "fnTxHear", unfollowed := true, recurses := true, apart := false }
def FnTxHearSaid : Prop := fnTxHearRow.holds Try.pinned (OpenSpec.ofChange fnTxHearSpec)

/-- ITS FALSE NEIGHBOUR: 'it returns false'. Refute it at one input. -/
def fnTxHearWrong : ChangeSpec := { name := "fnTxHear", fn := fun _ => fun
  | [d] => { results := [.lit (.bool false)], args := [d] }
  | _ => none }
def FnTxHearWrongFalsely : Prop := fnTxHearRow.holds Try.pinned (OpenSpec.ofChange fnTxHearWrong)

/-- 'laws.FnTxWrong': WHATEVER THE INPUT: true; the input reads as it did. -/
def fnTxWrongSpec : ChangeSpec := { name := "fnTxWrong", fn := fun _ => fun
  | [d] => { results := [.lit (.bool true)], args := [d] }
  | _ => none }
def fnTxWrongRow : OpenClaim := { program := "ytfcllghcdeifbaa", sum := "f07abd82ed3a723e72fb822c38e8447d46033334779f78fa27d9bedaf6a3728e", func := "loop.example/linkboy/laws.FnTxWrong", spec := "fnTxWrong", unfollowed := true, recurses := true, apart := false }
def FnTxWrongSaid : Prop := fnTxWrongRow.holds Try.pinned (OpenSpec.ofChange fnTxWrongSpec)

/-- ITS FALSE NEIGHBOUR: 'it returns false'. Refute it at one input. -/
def fnTxWrongWrong : ChangeSpec := { name := "fnTxWrong", fn := fun _ => fun
  | [d] => { results := [.lit (.bool false)], args := [d] }
  | _ => none }
def FnTxWrongWrongFalsely : Prop := fnTxWrongRow.holds Try.pinned (OpenSpec.ofChange fnTxWrongWrong)

/- THE SECOND FORM. 'bulk': how many values and letters a reading holds, each counted each time it is reached (what is shared counts as often as it is met; a slice's spare places count too). A statement '..UptoSaid' is the law's where the arguments, and the package variables that the reading takes, are together of bulk at most 1048576: NARROWER than '..Said'. Prove '..Said' where nothing that the law and all that it calls make is longer than what came in: it says more and counts as full. Else prove '..UptoSaid'. A law counts once. -/
mutual
def uptoBulk {H : Type} : DataW H → Nat
  | .lit (.string bytes) => bytes.length + 1
  | .lit _ => 1
  | .nil => 1
  | .ptr d => uptoBulk d + 1
  | .slice elems spare => uptoBulkAll elems + uptoBulkAll spare + 1
  | .agg parts => uptoBulkAll parts + 1
  | .iface _ d => uptoBulk d + 1
  | .map entries => uptoBulkEntries entries + 1
  | .held _ => 1
def uptoBulkAll {H : Type} : List (DataW H) → Nat
  | [] => 0
  | d :: r => uptoBulk d + uptoBulkAll r
def uptoBulkEntries {H : Type} : List (Lit × DataW H) → Nat
  | [] => 0
  | x :: r => uptoBulkEntry x + uptoBulkEntries r
def uptoBulkEntry {H : Type} : Lit × DataW H → Nat
  | (.string bytes, d) => bytes.length + uptoBulk d + 1
  | (_, d) => uptoBulk d + 1
 end
def uptoSmall : (H : Type) → List (DataW H) → Bool := fun _ ds => decide (uptoBulkAll ds ≤ 1048576)
def OpenSpec.upto (s : _root_.Go.ChangeSpec) : _root_.Go.OpenSpec := { _root_.Go.OpenSpec.ofChange s with cond := some uptoSmall }

/-- 'laws.FnExactTxPut', WHERE WHAT IT READS IS OF BULK AT MOST 1048576: true; the input reads as it did. -/
def fnExactTxPutUptoRow : OpenClaim := { program := "ytfcllghcdeifbaa", sum := "f07abd82ed3a723e72fb822c38e8447d46033334779f78fa27d9bedaf6a3728e", func := "loop.example/linkboy/laws.FnExactTxPut", spec := "fnExactTxPut", unfollowed := true, recurses := true, apart := false, narrowed := true }
def FnExactTxPutUptoSaid : Prop := fnExactTxPutUptoRow.holds Try.pinned (OpenSpec.upto fnExactTxPutSpec)

/-- 'laws.FnExactTxTick', WHERE WHAT IT READS IS OF BULK AT MOST 1048576: true; the input reads as it did. -/
def fnExactTxTickUptoRow : OpenClaim := { program := "ytfcllghcdeifbaa", sum := "f07abd82ed3a723e72fb822c38e8447d46033334779f78fa27d9bedaf6a3728e", func := "loop.example/linkboy/laws.FnExactTxTick", spec := "fnExactTxTick", unfollowed := true, recurses := true, apart := false, narrowed := true }
def FnExactTxTickUptoSaid : Prop := fnExactTxTickUptoRow.holds Try.pinned (OpenSpec.upto fnExactTxTickSpec)

/-- 'laws.FnTxOrder', WHERE WHAT IT READS IS OF BULK AT MOST 1048576: true; the input reads as it did. -/
def fnTxOrderUptoRow : OpenClaim := { program := "ytfcllghcdeifbaa", sum := "f07abd82ed3a723e72fb822c38e8447d46033334779f78fa27d9bedaf6a3728e", func := "loop.example/linkboy/laws.FnTxOrder", spec := "fnTxOrder", unfollowed := true, recurses := true, apart := false, narrowed := true }
def FnTxOrderUptoSaid : Prop := fnTxOrderUptoRow.holds Try.pinned (OpenSpec.upto fnTxOrderSpec)

/-- 'laws.FnExactTxSend', WHERE WHAT IT READS IS OF BULK AT MOST 1048576: true; the input reads as it did. -/
def fnExactTxSendUptoRow : OpenClaim := { program := "ytfcllghcdeifbaa", sum := "f07abd82ed3a723e72fb822c38e8447d46033334779f78fa27d9bedaf6a3728e", func := "loop.example/linkboy/laws.FnExactTxSend", spec := "fnExactTxSend", unfollowed := true, recurses := true, apart := false, narrowed := true }
def FnExactTxSendUptoSaid : Prop := fnExactTxSendUptoRow.holds Try.pinned (OpenSpec.upto fnExactTxSendSpec)

/-- 'laws.FnTxTick', WHERE WHAT IT READS IS OF BULK AT MOST 1048576: true; the input reads as it did. -/
def fnTxTickUptoRow : OpenClaim := { program := "ytfcllghcdeifbaa", sum := "f07abd82ed3a723e72fb822c38e8447d46033334779f78fa27d9bedaf6a3728e", func := "loop.example/linkboy/laws.FnTxTick", spec := "fnTxTick", unfollowed := true, recurses := true, apart := false, narrowed := true }
def FnTxTickUptoSaid : Prop := fnTxTickUptoRow.holds Try.pinned (OpenSpec.upto fnTxTickSpec)

/-- 'laws.FnTxPut', WHERE WHAT IT READS IS OF BULK AT MOST 1048576: true; the input reads as it did. -/
def fnTxPutUptoRow : OpenClaim := { program := "ytfcllghcdeifbaa", sum := "f07abd82ed3a723e72fb822c38e8447d46033334779f78fa27d9bedaf6a3728e", func := "loop.example/linkboy/laws.FnTxPut", spec := "fnTxPut", unfollowed := true, recurses := true, apart := false, narrowed := true }
def FnTxPutUptoSaid : Prop := fnTxPutUptoRow.holds Try.pinned (OpenSpec.upto fnTxPutSpec)

/-- 'laws.FnTxAll', WHERE WHAT IT READS IS OF BULK AT MOST 1048576: true; the input reads as it did. -/
def fnTxAllUptoRow : OpenClaim := { program := "ytfcllghcdeifbaa", sum := "f07abd82ed3a723e72fb822c38e8447d46033334779f78fa27d9bedaf6a3728e", func := "loop.example/linkboy/laws.FnTxAll", spec := "fnTxAll", unfollowed := true, recurses := true, apart := false, narrowed := true }
def FnTxAllUptoSaid : Prop := fnTxAllUptoRow.holds Try.pinned (OpenSpec.upto fnTxAllSpec)

/-- 'laws.FnTxSend', WHERE WHAT IT READS IS OF BULK AT MOST 1048576: true; the input reads as it did. -/
def fnTxSendUptoRow : OpenClaim := { program := "ytfcllghcdeifbaa", sum := "f07abd82ed3a723e72fb822c38e8447d46033334779f78fa27d9bedaf6a3728e", func := "loop.example/linkboy/laws.FnTxSend", spec := "fnTxSend", unfollowed := true, recurses := true, apart := false, narrowed := true }
def FnTxSendUptoSaid : Prop := fnTxSendUptoRow.holds Try.pinned (OpenSpec.upto fnTxSendSpec)

/-- 'laws.FnTxAgain', WHERE WHAT IT READS IS OF BULK AT MOST 1048576: true; the input reads as it did. -/
def fnTxAgainUptoRow : OpenClaim := { program := "ytfcllghcdeifbaa", sum := "f07abd82ed3a723e72fb822c38e8447d46033334779f78fa27d9bedaf6a3728e", func := "loop.example/linkboy/laws.FnTxAgain", spec := "fnTxAgain", unfollowed := true, recurses := true, apart := false, narrowed := true }
def FnTxAgainUptoSaid : Prop := fnTxAgainUptoRow.holds Try.pinned (OpenSpec.upto fnTxAgainSpec)

/-- 'laws.FnExactTxHear', WHERE WHAT IT READS IS OF BULK AT MOST 1048576: true; the input reads as it did. -/
def fnExactTxHearUptoRow : OpenClaim := { program := "ytfcllghcdeifbaa", sum := "f07abd82ed3a723e72fb822c38e8447d46033334779f78fa27d9bedaf6a3728e", func := "loop.example/linkboy/laws.FnExactTxHear", spec := "fnExactTxHear", unfollowed := true, recurses := true, apart := false, narrowed := true }
def FnExactTxHearUptoSaid : Prop := fnExactTxHearUptoRow.holds Try.pinned (OpenSpec.upto fnExactTxHearSpec)

/-- 'laws.FnTxFinal', WHERE WHAT IT READS IS OF BULK AT MOST 1048576: true; the input reads as it did. -/
def fnTxFinalUptoRow : OpenClaim := { program := "ytfcllghcdeifbaa", sum := "f07abd82ed3a723e72fb822c38e8447d46033334779f78fa27d9bedaf6a3728e", func := "loop.example/linkboy/laws.FnTxFinal", spec := "fnTxFinal", unfollowed := true, recurses := true, apart := false, narrowed := true }
def FnTxFinalUptoSaid : Prop := fnTxFinalUptoRow.holds Try.pinned (OpenSpec.upto fnTxFinalSpec)

/-- 'laws.FnTxHear', WHERE WHAT IT READS IS OF BULK AT MOST 1048576: true; the input reads as it did. -/
def fnTxHearUptoRow : OpenClaim := { program := "ytfcllghcdeifbaa", sum := "f07abd82ed3a723e72fb822c38e8447d46033334779f78fa27d9bedaf6a3728e", func := "loop.example/linkboy/laws.FnTxHear", spec := "fnTxHear", unfollowed := true, recurses := true, apart := false, narrowed := true }
def FnTxHearUptoSaid : Prop := fnTxHearUptoRow.holds Try.pinned (OpenSpec.upto fnTxHearSpec)

/-- 'laws.FnTxWrong', WHERE WHAT IT READS IS OF BULK AT MOST 1048576: true; the input reads as it did. -/
def fnTxWrongUptoRow : OpenClaim := { program := "ytfcllghcdeifbaa", sum := "f07abd82ed3a723e72fb822c38e8447d46033334779f78fa27d9bedaf6a3728e", func := "loop.example/linkboy/laws.FnTxWrong", spec := "fnTxWrong", unfollowed := true, recurses := true, apart := false, narrowed := true }
def FnTxWrongUptoSaid : Prop := fnTxWrongUptoRow.holds Try.pinned (OpenSpec.upto fnTxWrongSpec)

end Rows
end Go.Proofs.Ytfcllghcdeifbaa
