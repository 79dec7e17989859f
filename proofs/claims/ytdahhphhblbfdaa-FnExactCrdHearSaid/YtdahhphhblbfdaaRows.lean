/-
  No cell of these rows narrows 'for every input' (looked for: loops, veiled, ifaces, maps, wideKeys, modest, calm, conditions, laid).
  DERIVED. THE GIVEN ROWS OF THIS SEAT. 5 by the template 'for every input the law returns true; each argument reads behind the call as it read before'; 0 by the template 'total and deterministic' (their statements: YtdahhphhblbfdaaTotals.lean).
  GIVEN WITH THE SEED: the statements are not yours to turn. If you find one false, say at which input.
  Laid BY PROGRAM, IN A SANDBOX (cutbox-rows.mjs): the forced cells as the released guide's own fill.sh prints them over the translation d62479917f7e7a90… (all of the seat's roots in one cut). By AI agents, Wed Nov 11 2026. No macro, syntax, notation, axiom, sorry.
-/
import Derived.Test.YtdahhphhblbfdaaChecked
import GoSem.Claim
import GoSem.ClaimJoined
import GoSem.ClaimMapViews
import Derived.JoinedTies
import Derived.KernelRfl
namespace Go.Proofs.Ytdahhphhblbfdaa
/- THE CELL 'sum', in the pinned program and in every row, IS THE sha256 OF THE DUMP (.gsa) THAT YtdahhphhblbfdaaProg.lean LOADS. Nothing in Lean hashes anything: it is a label: what it is worth is what the hold of that sum in a sandbox is worth. -/
noncomputable def Try.pinned : Pinned := { name := "ytdahhphhblbfdaa", sum := "d62479917f7e7a901e9fd89080e138cdfbc57f10abb0d4667414799ff3293006", checked := Try.checked }
namespace Rows
def none {H : Type} : Left H := { results := [], args := [] }

/-- 'laws.FnExactCrdGrant': WHATEVER THE INPUT: true; the input reads as it did. -/
def fnExactCrdGrantSpec : ChangeSpec := { name := "fnExactCrdGrant", fn := fun _ => fun
  | [d] => { results := [.lit (.bool true)], args := [d] }
  | _ => none }
def fnExactCrdGrantRow : OpenClaim := { program := "ytdahhphhblbfdaa", sum := "d62479917f7e7a901e9fd89080e138cdfbc57f10abb0d4667414799ff3293006", func := "loop.example/linkboy/laws.FnExactCrdGrant", spec := "fnExactCrdGrant", apart := false }
def FnExactCrdGrantSaid : Prop := fnExactCrdGrantRow.holds Try.pinned (OpenSpec.ofChange fnExactCrdGrantSpec)

/-- ITS FALSE NEIGHBOUR: 'it returns false'. Refute it at one input. -/
def fnExactCrdGrantWrong : ChangeSpec := { name := "fnExactCrdGrant", fn := fun _ => fun
  | [d] => { results := [.lit (.bool false)], args := [d] }
  | _ => none }
def FnExactCrdGrantWrongFalsely : Prop := fnExactCrdGrantRow.holds Try.pinned (OpenSpec.ofChange fnExactCrdGrantWrong)

/-- 'laws.FnExactCrdTake': WHATEVER THE INPUT: true; the input reads as it did. -/
def fnExactCrdTakeSpec : ChangeSpec := { name := "fnExactCrdTake", fn := fun _ => fun
  | [d1, d2, d3] => { results := [.lit (.bool true)], args := [d1, d2, d3] }
  | _ => none }
def fnExactCrdTakeRow : OpenClaim := { program := "ytdahhphhblbfdaa", sum := "d62479917f7e7a901e9fd89080e138cdfbc57f10abb0d4667414799ff3293006", func := "loop.example/linkboy/laws.FnExactCrdTake", spec := "fnExactCrdTake", unfollowed := true, recurses := true, apart := false }
def FnExactCrdTakeSaid : Prop := fnExactCrdTakeRow.holds Try.pinned (OpenSpec.ofChange fnExactCrdTakeSpec)

/-- ITS FALSE NEIGHBOUR: 'it returns false'. Refute it at one input. -/
def fnExactCrdTakeWrong : ChangeSpec := { name := "fnExactCrdTake", fn := fun _ => fun
  | [d1, d2, d3] => { results := [.lit (.bool false)], args := [d1, d2, d3] }
  | _ => none }
def FnExactCrdTakeWrongFalsely : Prop := fnExactCrdTakeRow.holds Try.pinned (OpenSpec.ofChange fnExactCrdTakeWrong)

/-- 'laws.FnExactCrdPut': WHATEVER THE INPUT: true; the input reads as it did. -/
def fnExactCrdPutSpec : ChangeSpec := { name := "fnExactCrdPut", fn := fun _ => fun
  | [d1, d2, d3] => { results := [.lit (.bool true)], args := [d1, d2, d3] }
  | _ => none }
def fnExactCrdPutRow : OpenClaim := { program := "ytdahhphhblbfdaa", sum := "d62479917f7e7a901e9fd89080e138cdfbc57f10abb0d4667414799ff3293006", func := "loop.example/linkboy/laws.FnExactCrdPut", spec := "fnExactCrdPut", unfollowed := true, recurses := true, apart := false }
def FnExactCrdPutSaid : Prop := fnExactCrdPutRow.holds Try.pinned (OpenSpec.ofChange fnExactCrdPutSpec)

/-- ITS FALSE NEIGHBOUR: 'it returns false'. Refute it at one input. -/
def fnExactCrdPutWrong : ChangeSpec := { name := "fnExactCrdPut", fn := fun _ => fun
  | [d1, d2, d3] => { results := [.lit (.bool false)], args := [d1, d2, d3] }
  | _ => none }
def FnExactCrdPutWrongFalsely : Prop := fnExactCrdPutRow.holds Try.pinned (OpenSpec.ofChange fnExactCrdPutWrong)

/-- 'laws.FnExactCrdSend': WHATEVER THE INPUT: true; the input reads as it did. -/
def fnExactCrdSendSpec : ChangeSpec := { name := "fnExactCrdSend", fn := fun _ => fun
  | [d1, d2] => { results := [.lit (.bool true)], args := [d1, d2] }
  | _ => none }
def fnExactCrdSendRow : OpenClaim := { program := "ytdahhphhblbfdaa", sum := "d62479917f7e7a901e9fd89080e138cdfbc57f10abb0d4667414799ff3293006", func := "loop.example/linkboy/laws.FnExactCrdSend", spec := "fnExactCrdSend", unfollowed := true, recurses := true, apart := false }
def FnExactCrdSendSaid : Prop := fnExactCrdSendRow.holds Try.pinned (OpenSpec.ofChange fnExactCrdSendSpec)

/-- ITS FALSE NEIGHBOUR: 'it returns false'. Refute it at one input. -/
def fnExactCrdSendWrong : ChangeSpec := { name := "fnExactCrdSend", fn := fun _ => fun
  | [d1, d2] => { results := [.lit (.bool false)], args := [d1, d2] }
  | _ => none }
def FnExactCrdSendWrongFalsely : Prop := fnExactCrdSendRow.holds Try.pinned (OpenSpec.ofChange fnExactCrdSendWrong)

/-- 'laws.FnExactCrdHear': WHATEVER THE INPUT: true; the input reads as it did. -/
def fnExactCrdHearSpec : ChangeSpec := { name := "fnExactCrdHear", fn := fun _ => fun
  | [d1, d2, d3] => { results := [.lit (.bool true)], args := [d1, d2, d3] }
  | _ => none }
def fnExactCrdHearRow : OpenClaim := { program := "ytdahhphhblbfdaa", sum := "d62479917f7e7a901e9fd89080e138cdfbc57f10abb0d4667414799ff3293006", func := "loop.example/linkboy/laws.FnExactCrdHear", spec := "fnExactCrdHear", apart := false }
def FnExactCrdHearSaid : Prop := fnExactCrdHearRow.holds Try.pinned (OpenSpec.ofChange fnExactCrdHearSpec)

/-- ITS FALSE NEIGHBOUR: 'it returns false'. Refute it at one input. -/
def fnExactCrdHearWrong : ChangeSpec := { name := "fnExactCrdHear", fn := fun _ => fun
  | [d1, d2, d3] => { results := [.lit (.bool false)], args := [d1, d2, d3] }
  | _ => none }
def FnExactCrdHearWrongFalsely : Prop := fnExactCrdHearRow.holds Try.pinned (OpenSpec.ofChange fnExactCrdHearWrong)

/- THE SECOND FORM. 'bulk': how many values and letters a reading holds, each counted each time it is reached (what is shared counts as often as it is met; a slice's spare places count too). A statement '..UptoSaid' is the law's where the arguments, and the package variables that the reading takes, are together of bulk at most 1048576: NARROWER than '..Said'. Prove '..Said' where nothing that the law and all that it calls make is longer than what came in: it says more and counts as full. Else prove '..UptoSaid'. A law counts once. -/
mutual
def uptoBulk {H : Type} : DataW H → Nat
  | .lit (.string bytes) => bytes.length + 1
  | .lit _ => 1
  | .nil => 1
  | .ptr d => uptoBulk d + 1
  | .slice elems spare => uptoBulkAll elems + uptoBulkAll spare + 1
  | .agg parts => uptoBulkAll parts + 1
  | .iface _ d => uptoBulk d + 1
  | .map entries => uptoBulkEntries entries + 1
  | .held _ => 1
def uptoBulkAll {H : Type} : List (DataW H) → Nat
  | [] => 0
  | d :: r => uptoBulk d + uptoBulkAll r
def uptoBulkEntries {H : Type} : List (Lit × DataW H) → Nat
  | [] => 0
  | x :: r => uptoBulkEntry x + uptoBulkEntries r
def uptoBulkEntry {H : Type} : Lit × DataW H → Nat
  | (.string bytes, d) => bytes.length + uptoBulk d + 1
  | (_, d) => uptoBulk d + 1
 end
def uptoSmall : (H : Type) → List (DataW H) → Bool := fun _ ds => decide (uptoBulkAll ds ≤ 1048576)
def OpenSpec.upto (s : _root_.Go.ChangeSpec) : _root_.Go.OpenSpec := { _root_.Go.OpenSpec.ofChange s with cond := some uptoSmall }

/-- 'laws.FnExactCrdGrant', WHERE WHAT IT READS IS OF BULK AT MOST 1048576: true; the input reads as it did. -/
def fnExactCrdGrantUptoRow : OpenClaim := { program := "ytdahhphhblbfdaa", sum := "d62479917f7e7a901e9fd89080e138cdfbc57f10abb0d4667414799ff3293006", func := "loop.example/linkboy/laws.FnExactCrdGrant", spec := "fnExactCrdGrant", apart := false, narrowed := true }
def FnExactCrdGrantUptoSaid : Prop := fnExactCrdGrantUptoRow.holds Try.pinned (OpenSpec.upto fnExactCrdGrantSpec)

/-- 'laws.FnExactCrdTake', WHERE WHAT IT READS IS OF BULK AT MOST 1048576: true; the input reads as it did. -/
def fnExactCrdTakeUptoRow : OpenClaim := { program := "ytdahhphhblbfdaa", sum := "d62479917f7e7a901e9fd89080e138cdfbc57f10abb0d4667414799ff3293006", func := "loop.example/linkboy/laws.FnExactCrdTake", spec := "fnExactCrdTake", unfollowed := true, recurses := true, apart := false, narrowed := true }
def FnExactCrdTakeUptoSaid : Prop := fnExactCrdTakeUptoRow.holds Try.pinned (OpenSpec.upto fnExactCrdTakeSpec)

/-- 'laws.FnExactCrdPut', WHERE WHAT IT READS IS OF BULK AT MOST 1048576: true; the input reads as it did. -/
def fnExactCrdPutUptoRow : OpenClaim := { program := "ytdahhphhblbfdaa", sum := "d62479917f7e7a901e9fd89080e138cdfbc57f10abb0d4667414799ff3293006", func := "loop.example/linkboy/laws.FnExactCrdPut", spec := "fnExactCrdPut", unfollowed := true, recurses := true, apart := false, narrowed := true }
def FnExactCrdPutUptoSaid : Prop := fnExactCrdPutUptoRow.holds Try.pinned (OpenSpec.upto fnExactCrdPutSpec)

/-- 'laws.FnExactCrdSend', WHERE WHAT IT READS IS OF BULK AT MOST 1048576: true; the input reads as it did. -/
def fnExactCrdSendUptoRow : OpenClaim := { program := "ytdahhphhblbfdaa", sum := "d62479917f7e7a901e9fd89080e138cdfbc57f10abb0d4667414799ff3293006", func := "loop.example/linkboy/laws.FnExactCrdSend", spec := "fnExactCrdSend", unfollowed := true, recurses := true, apart := false, narrowed := true }
def FnExactCrdSendUptoSaid : Prop := fnExactCrdSendUptoRow.holds Try.pinned (OpenSpec.upto fnExactCrdSendSpec)

/-- 'laws.FnExactCrdHear', WHERE WHAT IT READS IS OF BULK AT MOST 1048576: true; the input reads as it did. -/
def fnExactCrdHearUptoRow : OpenClaim := { program := "ytdahhphhblbfdaa", sum := "d62479917f7e7a901e9fd89080e138cdfbc57f10abb0d4667414799ff3293006", func := "loop.example/linkboy/laws.FnExactCrdHear", spec := "fnExactCrdHear", apart := false, narrowed := true }
def FnExactCrdHearUptoSaid : Prop := fnExactCrdHearUptoRow.holds Try.pinned (OpenSpec.upto fnExactCrdHearSpec)

end Rows
end Go.Proofs.Ytdahhphhblbfdaa
