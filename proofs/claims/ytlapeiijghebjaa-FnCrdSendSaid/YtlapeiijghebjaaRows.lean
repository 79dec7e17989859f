/-
  No cell of these rows narrows 'for every input' (looked for: loops, veiled, ifaces, maps, wideKeys, modest, calm, conditions, laid).
  DERIVED. THE GIVEN ROWS OF THIS SEAT. 11 by the template 'for every input the law returns true; each argument reads behind the call as it read before'; 0 by the template 'total and deterministic' (their statements: YtlapeiijghebjaaTotals.lean).
  GIVEN WITH THE SEED: the statements are not yours to turn. If you find one false, say at which input.
  Laid BY PROGRAM, IN A SANDBOX (cutbox-rows.mjs): the forced cells as the released guide's own fill.sh prints them over the translation 7736ca137ad004f8… (all of the seat's roots in one cut). By AI agents, Wed Nov 11 2026. No macro, syntax, notation, axiom, sorry.
-/
import Derived.Test.YtlapeiijghebjaaChecked
import GoSem.Claim
import GoSem.ClaimJoined
import GoSem.ClaimMapViews
import Derived.JoinedTies
import Derived.KernelRfl
namespace Go.Proofs.Ytlapeiijghebjaa
/- THE CELL 'sum', in the pinned program and in every row, IS THE sha256 OF THE DUMP (.gsa) THAT YtlapeiijghebjaaProg.lean LOADS. Nothing in Lean hashes anything: it is a label: what it is worth is what the hold of that sum in a sandbox is worth. -/
noncomputable def Try.pinned : Pinned := { name := "ytlapeiijghebjaa", sum := "7736ca137ad004f8bb35cd35a8a5468b3edffbc5da433929b76627c6ceecd574", checked := Try.checked }
namespace Rows
def none {H : Type} : Left H := { results := [], args := [] }

/-- 'laws.FnCrdGrant': WHATEVER THE INPUT: true; the input reads as it did. -/
def fnCrdGrantSpec : ChangeSpec := { name := "fnCrdGrant", fn := fun _ => fun
  | [d] => { results := [.lit (.bool true)], args := [d] }
  | _ => none }
def fnCrdGrantRow : OpenClaim := { program := "ytlapeiijghebjaa", sum := "7736ca137ad004f8bb35cd35a8a5468b3edffbc5da433929b76627c6ceecd574", func := "loop.example/linkboy/laws.FnCrdGrant", spec := "fnCrdGrant", apart := false }
def FnCrdGrantSaid : Prop := fnCrdGrantRow.holds Try.pinned (OpenSpec.ofChange fnCrdGrantSpec)

/-- ITS FALSE NEIGHBOUR: 'it returns false'. Refute it at one input. -/
def fnCrdGrantWrong : ChangeSpec := { name := "fnCrdGrant", fn := fun _ => fun
  | [d] => { results := [.lit (.bool false)], args := [d] }
  | _ => none }
def FnCrdGrantWrongFalsely : Prop := fnCrdGrantRow.holds Try.pinned (OpenSpec.ofChange fnCrdGrantWrong)

/-- 'laws.FnExactCrdGrant': WHATEVER THE INPUT: true; the input reads as it did. -/
def fnExactCrdGrantSpec : ChangeSpec := { name := "fnExactCrdGrant", fn := fun _ => fun
  | [d] => { results := [.lit (.bool true)], args := [d] }
  | _ => none }
def fnExactCrdGrantRow : OpenClaim := { program := "ytlapeiijghebjaa", sum := "7736ca137ad004f8bb35cd35a8a5468b3edffbc5da433929b76627c6ceecd574", func := "loop.example/linkboy/laws.FnExactCrdGrant", spec := "fnExactCrdGrant", apart := false }
def FnExactCrdGrantSaid : Prop := fnExactCrdGrantRow.holds Try.pinned (OpenSpec.ofChange fnExactCrdGrantSpec)

/-- ITS FALSE NEIGHBOUR: 'it returns false'. Refute it at one input. -/
def fnExactCrdGrantWrong : ChangeSpec := { name := "fnExactCrdGrant", fn := fun _ => fun
  | [d] => { results := [.lit (.bool false)], args := [d] }
  | _ => none }
def FnExactCrdGrantWrongFalsely : Prop := fnExactCrdGrantRow.holds Try.pinned (OpenSpec.ofChange fnExactCrdGrantWrong)

/-- 'laws.FnCrdLimit': WHATEVER THE INPUT: true; the input reads as it did. -/
def fnCrdLimitSpec : ChangeSpec := { name := "fnCrdLimit", fn := fun _ => fun
  | [d] => { results := [.lit (.bool true)], args := [d] }
  | _ => none }
def fnCrdLimitRow : OpenClaim := { program := "ytlapeiijghebjaa", sum := "7736ca137ad004f8bb35cd35a8a5468b3edffbc5da433929b76627c6ceecd574", func := "loop.example/linkboy/laws.FnCrdLimit", spec := "fnCrdLimit", unfollowed := true, recurses := true, apart := false }
def FnCrdLimitSaid : Prop := fnCrdLimitRow.holds Try.pinned (OpenSpec.ofChange fnCrdLimitSpec)

/-- ITS FALSE NEIGHBOUR: 'it returns false'. Refute it at one input. -/
def fnCrdLimitWrong : ChangeSpec := { name := "fnCrdLimit", fn := fun _ => fun
  | [d] => { results := [.lit (.bool false)], args := [d] }
  | _ => none }
def FnCrdLimitWrongFalsely : Prop := fnCrdLimitRow.holds Try.pinned (OpenSpec.ofChange fnCrdLimitWrong)

/-- 'laws.FnExactCrdTake': WHATEVER THE INPUT: true; the input reads as it did. -/
def fnExactCrdTakeSpec : ChangeSpec := { name := "fnExactCrdTake", fn := fun _ => fun
  | [d1, d2, d3] => { results := [.lit (.bool true)], args := [d1, d2, d3] }
  | _ => none }
def fnExactCrdTakeRow : OpenClaim := { program := "ytlapeiijghebjaa", sum := "7736ca137ad004f8bb35cd35a8a5468b3edffbc5da433929b76627c6ceecd574", func := "loop.example/linkboy/laws.FnExactCrdTake", spec := "fnExactCrdTake", unfollowed := true, recurses := true, apart := false }
def FnExactCrdTakeSaid : Prop := fnExactCrdTakeRow.holds Try.pinned (OpenSpec.ofChange fnExactCrdTakeSpec)

/-- ITS FALSE NEIGHBOUR: 'it returns false'. Refute it at one input. -/
def fnExactCrdTakeWrong : ChangeSpec := { name := "fnExactCrdTake", fn := fun _ => fun
  | [d1, d2, d3] => { results := [.lit (.bool false)], args := [d1, d2, d3] }
  | _ => none }
def FnExactCrdTakeWrongFalsely : Prop := fnExactCrdTakeRow.holds Try.pinned (OpenSpec.ofChange fnExactCrdTakeWrong)

/-- 'laws.FnCrdTake': WHATEVER THE INPUT: true; the input reads as it did. -/
def fnCrdTakeSpec : ChangeSpec := { name := "fnCrdTake", fn := fun _ => fun
  | [d] => { results := [.lit (.bool true)], args := [d] }
  | _ => none }
def fnCrdTakeRow : OpenClaim := { program := "ytlapeiijghebjaa", sum := "7736ca137ad004f8bb35cd35a8a5468b3edffbc5da433929b76627c6ceecd574", func := "loop.example/linkboy/laws.FnCrdTake", spec := "fnCrdTake", unfollowed := true, recurses := true, apart := false }
def FnCrdTakeSaid : Prop := fnCrdTakeRow.holds Try.pinned (OpenSpec.ofChange fnCrdTakeSpec)

/-- ITS FALSE NEIGHBOUR: 'it returns false'. Refute it at one input. -/
def fnCrdTakeWrong : ChangeSpec := { name := "fnCrdTake", fn := fun _ => fun
  | [d] => { results := [.lit (.bool false)], args := [d] }
  | _ => none }
def FnCrdTakeWrongFalsely : Prop := fnCrdTakeRow.holds Try.pinned (OpenSpec.ofChange fnCrdTakeWrong)

/-- 'laws.FnCrdPut': WHATEVER THE INPUT: true; the input reads as it did. -/
def fnCrdPutSpec : ChangeSpec := { name := "fnCrdPut", fn := fun _ => fun
  | [d] => { results := [.lit (.bool true)], args := [d] }
  | _ => none }
def fnCrdPutRow : OpenClaim := { program := "ytlapeiijghebjaa", sum := "7736ca137ad004f8bb35cd35a8a5468b3edffbc5da433929b76627c6ceecd574", func := "loop.example/linkboy/laws.FnCrdPut", spec := "fnCrdPut", unfollowed := true, recurses := true, apart := false }
def FnCrdPutSaid : Prop := fnCrdPutRow.holds Try.pinned (OpenSpec.ofChange fnCrdPutSpec)

/-- ITS FALSE NEIGHBOUR: 'it returns false'. Refute it at one input. -/
def fnCrdPutWrong : ChangeSpec := { name := "fnCrdPut", fn := fun _ => fun
  | [d] => { results := [.lit (.bool false)], args := [d] }
  | _ => none }
def FnCrdPutWrongFalsely : Prop := fnCrdPutRow.holds Try.pinned (OpenSpec.ofChange fnCrdPutWrong)

/-- 'laws.FnExactCrdPut': WHATEVER THE INPUT: true; the input reads as it did. -/
def fnExactCrdPutSpec : ChangeSpec := { name := "fnExactCrdPut", fn := fun _ => fun
  | [d1, d2, d3] => { results := [.lit (.bool true)], args := [d1, d2, d3] }
  | _ => none }
def fnExactCrdPutRow : OpenClaim := { program := "ytlapeiijghebjaa", sum := "7736ca137ad004f8bb35cd35a8a5468b3edffbc5da433929b76627c6ceecd574", func := "loop.example/linkboy/laws.FnExactCrdPut", spec := "fnExactCrdPut", unfollowed := true, recurses := true, apart := false }
def FnExactCrdPutSaid : Prop := fnExactCrdPutRow.holds Try.pinned (OpenSpec.ofChange fnExactCrdPutSpec)

/-- ITS FALSE NEIGHBOUR: 'it returns false'. Refute it at one input. -/
def fnExactCrdPutWrong : ChangeSpec := { name := "fnExactCrdPut", fn := fun _ => fun
  | [d1, d2, d3] => { results := [.lit (.bool false)], args := [d1, d2, d3] }
  | _ => none }
def FnExactCrdPutWrongFalsely : Prop := fnExactCrdPutRow.holds Try.pinned (OpenSpec.ofChange fnExactCrdPutWrong)

/-- 'laws.FnExactCrdSend': WHATEVER THE INPUT: true; the input reads as it did. -/
def fnExactCrdSendSpec : ChangeSpec := { name := "fnExactCrdSend", fn := fun _ => fun
  | [d1, d2] => { results := [.lit (.bool true)], args := [d1, d2] }
  | _ => none }
def fnExactCrdSendRow : OpenClaim := { program := "ytlapeiijghebjaa", sum := "7736ca137ad004f8bb35cd35a8a5468b3edffbc5da433929b76627c6ceecd574", func := "loop.example/linkboy/laws.FnExactCrdSend", spec := "fnExactCrdSend", unfollowed := true, recurses := true, apart := false }
def FnExactCrdSendSaid : Prop := fnExactCrdSendRow.holds Try.pinned (OpenSpec.ofChange fnExactCrdSendSpec)

/-- ITS FALSE NEIGHBOUR: 'it returns false'. Refute it at one input. -/
def fnExactCrdSendWrong : ChangeSpec := { name := "fnExactCrdSend", fn := fun _ => fun
  | [d1, d2] => { results := [.lit (.bool false)], args := [d1, d2] }
  | _ => none }
def FnExactCrdSendWrongFalsely : Prop := fnExactCrdSendRow.holds Try.pinned (OpenSpec.ofChange fnExactCrdSendWrong)

/-- 'laws.FnCrdSend': WHATEVER THE INPUT: true; the input reads as it did. -/
def fnCrdSendSpec : ChangeSpec := { name := "fnCrdSend", fn := fun _ => fun
  | [d] => { results := [.lit (.bool true)], args := [d] }
  | _ => none }
def fnCrdSendRow : OpenClaim := { program := "ytlapeiijghebjaa", sum := "7736ca137ad004f8bb35cd35a8a5468b3edffbc5da433929b76627c6ceecd574", func := "loop.example/linkboy/laws.FnCrdSend", spec := "fnCrdSend", unfollowed := true, recurses := true, apart := false }
def FnCrdSendSaid : Prop := fnCrdSendRow.holds Try.pinned (OpenSpec.ofChange fnCrdSendSpec)

/-- ITS FALSE NEIGHBOUR: 'it returns false'. Refute it at one input. -/
def fnCrdSendWrong : ChangeSpec := { name := "fnCrdSend", fn := fun _ => fun
  | [d] => { results := [.lit (.bool false)], args := [d] }
  | _ => none }
def FnCrdSendWrongFalsely : Prop := fnCrdSendRow.holds Try.pinned (OpenSpec.ofChange fnCrdSendWrong)

/-- 'laws.FnCrdHear': WHATEVER THE INPUT: true; the input reads as it did. -/
def fnCrdHearSpec : ChangeSpec := { name := "fnCrdHear", fn := fun _ => fun
  | [d] => { results := [.lit (.bool true)], args := [d] }
  | _ => none }
def fnCrdHearRow : OpenClaim := { program := "ytlapeiijghebjaa", sum := "7736ca137ad004f8bb35cd35a8a5468b3edffbc5da433929b76627c6ceecd574", func := "loop.example/linkboy/laws.FnCrdHear", spec := "fnCrdHear", apart := false }
def FnCrdHearSaid : Prop := fnCrdHearRow.holds Try.pinned (OpenSpec.ofChange fnCrdHearSpec)

/-- ITS FALSE NEIGHBOUR: 'it returns false'. Refute it at one input. -/
def fnCrdHearWrong : ChangeSpec := { name := "fnCrdHear", fn := fun _ => fun
  | [d] => { results := [.lit (.bool false)], args := [d] }
  | _ => none }
def FnCrdHearWrongFalsely : Prop := fnCrdHearRow.holds Try.pinned (OpenSpec.ofChange fnCrdHearWrong)

/-- 'laws.FnExactCrdHear': WHATEVER THE INPUT: true; the input reads as it did. -/
def fnExactCrdHearSpec : ChangeSpec := { name := "fnExactCrdHear", fn := fun _ => fun
  | [d1, d2, d3] => { results := [.lit (.bool true)], args := [d1, d2, d3] }
  | _ => none }
def fnExactCrdHearRow : OpenClaim := { program := "ytlapeiijghebjaa", sum := "7736ca137ad004f8bb35cd35a8a5468b3edffbc5da433929b76627c6ceecd574", func := "loop.example/linkboy/laws.FnExactCrdHear", spec := "fnExactCrdHear", apart := false }
def FnExactCrdHearSaid : Prop := fnExactCrdHearRow.holds Try.pinned (OpenSpec.ofChange fnExactCrdHearSpec)

/-- ITS FALSE NEIGHBOUR: 'it returns false'. Refute it at one input. -/
def fnExactCrdHearWrong : ChangeSpec := { name := "fnExactCrdHear", fn := fun _ => fun
  | [d1, d2, d3] => { results := [.lit (.bool false)], args := [d1, d2, d3] }
  | _ => none }
def FnExactCrdHearWrongFalsely : Prop := fnExactCrdHearRow.holds Try.pinned (OpenSpec.ofChange fnExactCrdHearWrong)

/- THE SECOND FORM. 'bulk': how many values and letters a reading holds, each counted each time it is reached (what is shared counts as often as it is met; a slice's spare places count too). A statement '..UptoSaid' is the law's where the arguments, and the package variables that the reading takes, are together of bulk at most 1048576: NARROWER than '..Said'. Prove '..Said' where nothing that the law and all that it calls make is longer than what came in: it says more and counts as full. Else prove '..UptoSaid'. A law counts once. -/
mutual
def uptoBulk {H : Type} : DataW H → Nat
  | .lit (.string bytes) => bytes.length + 1
  | .lit _ => 1
  | .nil => 1
  | .ptr d => uptoBulk d + 1
  | .slice elems spare => uptoBulkAll elems + uptoBulkAll spare + 1
  | .agg parts => uptoBulkAll parts + 1
  | .iface _ d => uptoBulk d + 1
  | .map entries => uptoBulkEntries entries + 1
  | .held _ => 1
def uptoBulkAll {H : Type} : List (DataW H) → Nat
  | [] => 0
  | d :: r => uptoBulk d + uptoBulkAll r
def uptoBulkEntries {H : Type} : List (Lit × DataW H) → Nat
  | [] => 0
  | x :: r => uptoBulkEntry x + uptoBulkEntries r
def uptoBulkEntry {H : Type} : Lit × DataW H → Nat
  | (.string bytes, d) => bytes.length + uptoBulk d + 1
  | (_, d) => uptoBulk d + 1
 end
def uptoSmall : (H : Type) → List (DataW H) → Bool := fun _ ds => decide (uptoBulkAll ds ≤ 1048576)
def OpenSpec.upto (s : _root_.Go.ChangeSpec) : _root_.Go.OpenSpec := { _root_.Go.OpenSpec.ofChange s with cond := some uptoSmall }

/-- 'laws.FnCrdGrant', WHERE WHAT IT READS IS OF BULK AT MOST 1048576: true; the input reads as it did. -/
def fnCrdGrantUptoRow : OpenClaim := { program := "ytlapeiijghebjaa", sum := "7736ca137ad004f8bb35cd35a8a5468b3edffbc5da433929b76627c6ceecd574", func := "loop.example/linkboy/laws.FnCrdGrant", spec := "fnCrdGrant", apart := false, narrowed := true }
def FnCrdGrantUptoSaid : Prop := fnCrdGrantUptoRow.holds Try.pinned (OpenSpec.upto fnCrdGrantSpec)

/-- 'laws.FnExactCrdGrant', WHERE WHAT IT READS IS OF BULK AT MOST 1048576: true; the input reads as it did. -/
def fnExactCrdGrantUptoRow : OpenClaim := { program := "ytlapeiijghebjaa", sum := "7736ca137ad004f8bb35cd35a8a5468b3edffbc5da433929b76627c6ceecd574", func := "loop.example/linkboy/laws.FnExactCrdGrant", spec := "fnExactCrdGrant", apart := false, narrowed := true }
def FnExactCrdGrantUptoSaid : Prop := fnExactCrdGrantUptoRow.holds Try.pinned (OpenSpec.upto fnExactCrdGrantSpec)

/-- 'laws.FnCrdLimit', WHERE WHAT IT READS IS OF BULK AT MOST 1048576: true; the input reads as it did. -/
def fnCrdLimitUptoRow : OpenClaim := { program := "ytlapeiijghebjaa", sum := "7736ca137ad004f8bb35cd35a8a5468b3edffbc5da433929b76627c6ceecd574", func := "loop.example/linkboy/laws.FnCrdLimit", spec := "fnCrdLimit", unfollowed := true, recurses := true, apart := false, narrowed := true }
def FnCrdLimitUptoSaid : Prop := fnCrdLimitUptoRow.holds Try.pinned (OpenSpec.upto fnCrdLimitSpec)

/-- 'laws.FnExactCrdTake', WHERE WHAT IT READS IS OF BULK AT MOST 1048576: true; the input reads as it did. -/
def fnExactCrdTakeUptoRow : OpenClaim := { program := "ytlapeiijghebjaa", sum := "7736ca137ad004f8bb35cd35a8a5468b3edffbc5da433929b76627c6ceecd574", func := "loop.example/linkboy/laws.FnExactCrdTake", spec := "fnExactCrdTake", unfollowed := true, recurses := true, apart := false, narrowed := true }
def FnExactCrdTakeUptoSaid : Prop := fnExactCrdTakeUptoRow.holds Try.pinned (OpenSpec.upto fnExactCrdTakeSpec)

/-- 'laws.FnCrdTake', WHERE WHAT IT READS IS OF BULK AT MOST 1048576: true; the input reads as it did. -/
def fnCrdTakeUptoRow : OpenClaim := { program := "ytlapeiijghebjaa", sum := "7736ca137ad004f8bb35cd35a8a5468b3edffbc5da433929b76627c6ceecd574", func := "loop.example/linkboy/laws.FnCrdTake", spec := "fnCrdTake", unfollowed := true, recurses := true, apart := false, narrowed := true }
def FnCrdTakeUptoSaid : Prop := fnCrdTakeUptoRow.holds Try.pinned (OpenSpec.upto fnCrdTakeSpec)

/-- 'laws.FnCrdPut', WHERE WHAT IT READS IS OF BULK AT MOST 1048576: true; the input reads as it did. -/
def fnCrdPutUptoRow : OpenClaim := { program := "ytlapeiijghebjaa", sum := "7736ca137ad004f8bb35cd35a8a5468b3edffbc5da433929b76627c6ceecd574", func := "loop.example/linkboy/laws.FnCrdPut", spec := "fnCrdPut", unfollowed := true, recurses := true, apart := false, narrowed := true }
def FnCrdPutUptoSaid : Prop := fnCrdPutUptoRow.holds Try.pinned (OpenSpec.upto fnCrdPutSpec)

/-- 'laws.FnExactCrdPut', WHERE WHAT IT READS IS OF BULK AT MOST 1048576: true; the input reads as it did. -/
def fnExactCrdPutUptoRow : OpenClaim := { program := "ytlapeiijghebjaa", sum := "7736ca137ad004f8bb35cd35a8a5468b3edffbc5da433929b76627c6ceecd574", func := "loop.example/linkboy/laws.FnExactCrdPut", spec := "fnExactCrdPut", unfollowed := true, recurses := true, apart := false, narrowed := true }
def FnExactCrdPutUptoSaid : Prop := fnExactCrdPutUptoRow.holds Try.pinned (OpenSpec.upto fnExactCrdPutSpec)

/-- 'laws.FnExactCrdSend', WHERE WHAT IT READS IS OF BULK AT MOST 1048576: true; the input reads as it did. -/
def fnExactCrdSendUptoRow : OpenClaim := { program := "ytlapeiijghebjaa", sum := "7736ca137ad004f8bb35cd35a8a5468b3edffbc5da433929b76627c6ceecd574", func := "loop.example/linkboy/laws.FnExactCrdSend", spec := "fnExactCrdSend", unfollowed := true, recurses := true, apart := false, narrowed := true }
def FnExactCrdSendUptoSaid : Prop := fnExactCrdSendUptoRow.holds Try.pinned (OpenSpec.upto fnExactCrdSendSpec)

/-- 'laws.FnCrdSend', WHERE WHAT IT READS IS OF BULK AT MOST 1048576: true; the input reads as it did. -/
def fnCrdSendUptoRow : OpenClaim := { program := "ytlapeiijghebjaa", sum := "7736ca137ad004f8bb35cd35a8a5468b3edffbc5da433929b76627c6ceecd574", func := "loop.example/linkboy/laws.FnCrdSend", spec := "fnCrdSend", unfollowed := true, recurses := true, apart := false, narrowed := true }
def FnCrdSendUptoSaid : Prop := fnCrdSendUptoRow.holds Try.pinned (OpenSpec.upto fnCrdSendSpec)

/-- 'laws.FnCrdHear', WHERE WHAT IT READS IS OF BULK AT MOST 1048576: true; the input reads as it did. -/
def fnCrdHearUptoRow : OpenClaim := { program := "ytlapeiijghebjaa", sum := "7736ca137ad004f8bb35cd35a8a5468b3edffbc5da433929b76627c6ceecd574", func := "loop.example/linkboy/laws.FnCrdHear", spec := "fnCrdHear", apart := false, narrowed := true }
def FnCrdHearUptoSaid : Prop := fnCrdHearUptoRow.holds Try.pinned (OpenSpec.upto fnCrdHearSpec)

/-- 'laws.FnExactCrdHear', WHERE WHAT IT READS IS OF BULK AT MOST 1048576: true; the input reads as it did. -/
def fnExactCrdHearUptoRow : OpenClaim := { program := "ytlapeiijghebjaa", sum := "7736ca137ad004f8bb35cd35a8a5468b3edffbc5da433929b76627c6ceecd574", func := "loop.example/linkboy/laws.FnExactCrdHear", spec := "fnExactCrdHear", apart := false, narrowed := true }
def FnExactCrdHearUptoSaid : Prop := fnExactCrdHearUptoRow.holds Try.pinned (OpenSpec.upto fnExactCrdHearSpec)

end Rows
end Go.Proofs.Ytlapeiijghebjaa
