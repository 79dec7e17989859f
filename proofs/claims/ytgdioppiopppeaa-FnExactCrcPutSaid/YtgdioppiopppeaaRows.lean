/-
  No cell of these rows narrows 'for every input' (looked for: loops, veiled, ifaces, maps, wideKeys, modest, calm, conditions, laid).
  DERIVED. THE GIVEN ROWS OF THIS SEAT. 6 by the template 'for every input the law returns true; each argument reads behind the call as it read before'; 0 by the template 'total and deterministic' (their statements: YtgdioppiopppeaaTotals.lean).
  GIVEN WITH THE SEED: the statements are not yours to turn. If you find one false, say at which input.
  Laid BY PROGRAM, IN A SANDBOX (cutbox-rows.mjs): the forced cells as the released guide's own fill.sh prints them over the translation ecaf5d016ddf4ca4… (all of the seat's roots in one cut). By AI agents, Wed Nov 11 2026. No macro, syntax, notation, axiom, sorry.
-/
import Derived.Test.YtgdioppiopppeaaChecked
import GoSem.Claim
import GoSem.ClaimJoined
import GoSem.ClaimMapViews
import Derived.JoinedTies
import Derived.KernelRfl
namespace Go.Proofs.Ytgdioppiopppeaa
/- THE CELL 'sum', in the pinned program and in every row, IS THE sha256 OF THE DUMP (.gsa) THAT YtgdioppiopppeaaProg.lean LOADS. Nothing in Lean hashes anything: it is a label: what it is worth is what the hold of that sum in a sandbox is worth. -/
noncomputable def Try.pinned : Pinned := { name := "ytgdioppiopppeaa", sum := "ecaf5d016ddf4ca4b564a54aeefc6d1f2e68033f6b80ccf76c1248687c3185c1", checked := Try.checked }
namespace Rows
def none {H : Type} : Left H := { results := [], args := [] }

/-- 'laws.FnCrcStep': WHATEVER THE INPUT: true; the input reads as it did. -/
def fnCrcStepSpec : ChangeSpec := { name := "fnCrcStep", fn := fun _ => fun
  | [d1, d2] => { results := [.lit (.bool true)], args := [d1, d2] }
  | _ => none }
def fnCrcStepRow : OpenClaim := { program := "ytgdioppiopppeaa", sum := "ecaf5d016ddf4ca4b564a54aeefc6d1f2e68033f6b80ccf76c1248687c3185c1", func := "loop.example/linkboy/laws.FnCrcStep", spec := "fnCrcStep", apart := false }
def FnCrcStepSaid : Prop := fnCrcStepRow.holds Try.pinned (OpenSpec.ofChange fnCrcStepSpec)

/-- ITS FALSE NEIGHBOUR: 'it returns false'. Refute it at one input. -/
def fnCrcStepWrong : ChangeSpec := { name := "fnCrcStep", fn := fun _ => fun
  | [d1, d2] => { results := [.lit (.bool false)], args := [d1, d2] }
  | _ => none }
def FnCrcStepWrongFalsely : Prop := fnCrcStepRow.holds Try.pinned (OpenSpec.ofChange fnCrcStepWrong)

/-- 'laws.FnCrcBurst': WHATEVER THE INPUT: true; the input reads as it did. -/
def fnCrcBurstSpec : ChangeSpec := { name := "fnCrcBurst", fn := fun _ => fun
  | [d1, d2] => { results := [.lit (.bool true)], args := [d1, d2] }
  | _ => none }
def fnCrcBurstRow : OpenClaim := { program := "ytgdioppiopppeaa", sum := "ecaf5d016ddf4ca4b564a54aeefc6d1f2e68033f6b80ccf76c1248687c3185c1", func := "loop.example/linkboy/laws.FnCrcBurst", spec := "fnCrcBurst", apart := false }
def FnCrcBurstSaid : Prop := fnCrcBurstRow.holds Try.pinned (OpenSpec.ofChange fnCrcBurstSpec)

/-- ITS FALSE NEIGHBOUR: 'it returns false'. Refute it at one input. -/
def fnCrcBurstWrong : ChangeSpec := { name := "fnCrcBurst", fn := fun _ => fun
  | [d1, d2] => { results := [.lit (.bool false)], args := [d1, d2] }
  | _ => none }
def FnCrcBurstWrongFalsely : Prop := fnCrcBurstRow.holds Try.pinned (OpenSpec.ofChange fnCrcBurstWrong)

/-- 'laws.FnCrcLinear': WHATEVER THE INPUT: true; the input reads as it did. -/
def fnCrcLinearSpec : ChangeSpec := { name := "fnCrcLinear", fn := fun _ => fun
  | [d1, d2] => { results := [.lit (.bool true)], args := [d1, d2] }
  | _ => none }
def fnCrcLinearRow : OpenClaim := { program := "ytgdioppiopppeaa", sum := "ecaf5d016ddf4ca4b564a54aeefc6d1f2e68033f6b80ccf76c1248687c3185c1", func := "loop.example/linkboy/laws.FnCrcLinear", spec := "fnCrcLinear", apart := false }
def FnCrcLinearSaid : Prop := fnCrcLinearRow.holds Try.pinned (OpenSpec.ofChange fnCrcLinearSpec)

/-- ITS FALSE NEIGHBOUR: 'it returns false'. Refute it at one input. -/
def fnCrcLinearWrong : ChangeSpec := { name := "fnCrcLinear", fn := fun _ => fun
  | [d1, d2] => { results := [.lit (.bool false)], args := [d1, d2] }
  | _ => none }
def FnCrcLinearWrongFalsely : Prop := fnCrcLinearRow.holds Try.pinned (OpenSpec.ofChange fnCrcLinearWrong)

/-- 'laws.FnExactCrcPut': WHATEVER THE INPUT: true; the input reads as it did. -/
def fnExactCrcPutSpec : ChangeSpec := { name := "fnExactCrcPut", fn := fun _ => fun
  | [d] => { results := [.lit (.bool true)], args := [d] }
  | _ => none }
def fnExactCrcPutRow : OpenClaim := { program := "ytgdioppiopppeaa", sum := "ecaf5d016ddf4ca4b564a54aeefc6d1f2e68033f6b80ccf76c1248687c3185c1", func := "loop.example/linkboy/laws.FnExactCrcPut", spec := "fnExactCrcPut", apart := false }
def FnExactCrcPutSaid : Prop := fnExactCrcPutRow.holds Try.pinned (OpenSpec.ofChange fnExactCrcPutSpec)

/-- ITS FALSE NEIGHBOUR: 'it returns false'. Refute it at one input. -/
def fnExactCrcPutWrong : ChangeSpec := { name := "fnExactCrcPut", fn := fun _ => fun
  | [d] => { results := [.lit (.bool false)], args := [d] }
  | _ => none }
def FnExactCrcPutWrongFalsely : Prop := fnExactCrcPutRow.holds Try.pinned (OpenSpec.ofChange fnExactCrcPutWrong)

/-- 'laws.FnCrcOf': WHATEVER THE INPUT: true; the input reads as it did. -/
def fnCrcOfSpec : ChangeSpec := { name := "fnCrcOf", fn := fun _ => fun
  | [d] => { results := [.lit (.bool true)], args := [d] }
  | _ => none }
def fnCrcOfRow : OpenClaim := { program := "ytgdioppiopppeaa", sum := "ecaf5d016ddf4ca4b564a54aeefc6d1f2e68033f6b80ccf76c1248687c3185c1", func := "loop.example/linkboy/laws.FnCrcOf", spec := "fnCrcOf", apart := false }
def FnCrcOfSaid : Prop := fnCrcOfRow.holds Try.pinned (OpenSpec.ofChange fnCrcOfSpec)

/-- ITS FALSE NEIGHBOUR: 'it returns false'. Refute it at one input. -/
def fnCrcOfWrong : ChangeSpec := { name := "fnCrcOf", fn := fun _ => fun
  | [d] => { results := [.lit (.bool false)], args := [d] }
  | _ => none }
def FnCrcOfWrongFalsely : Prop := fnCrcOfRow.holds Try.pinned (OpenSpec.ofChange fnCrcOfWrong)

/-- 'laws.FnExactCrcCut': WHATEVER THE INPUT: true; the input reads as it did. -/
def fnExactCrcCutSpec : ChangeSpec := { name := "fnExactCrcCut", fn := fun _ => fun
  | [d] => { results := [.lit (.bool true)], args := [d] }
  | _ => none }
def fnExactCrcCutRow : OpenClaim := { program := "ytgdioppiopppeaa", sum := "ecaf5d016ddf4ca4b564a54aeefc6d1f2e68033f6b80ccf76c1248687c3185c1", func := "loop.example/linkboy/laws.FnExactCrcCut", spec := "fnExactCrcCut", apart := false }
def FnExactCrcCutSaid : Prop := fnExactCrcCutRow.holds Try.pinned (OpenSpec.ofChange fnExactCrcCutSpec)

/-- ITS FALSE NEIGHBOUR: 'it returns false'. Refute it at one input. -/
def fnExactCrcCutWrong : ChangeSpec := { name := "fnExactCrcCut", fn := fun _ => fun
  | [d] => { results := [.lit (.bool false)], args := [d] }
  | _ => none }
def FnExactCrcCutWrongFalsely : Prop := fnExactCrcCutRow.holds Try.pinned (OpenSpec.ofChange fnExactCrcCutWrong)

/- THE SECOND FORM. 'bulk': how many values and letters a reading holds, each counted each time it is reached (what is shared counts as often as it is met; a slice's spare places count too). A statement '..UptoSaid' is the law's where the arguments, and the package variables that the reading takes, are together of bulk at most 1048576: NARROWER than '..Said'. Prove '..Said' where nothing that the law and all that it calls make is longer than what came in: it says more and counts as full. Else prove '..UptoSaid'. A law counts once. -/
mutual
def uptoBulk {H : Type} : DataW H → Nat
  | .lit (.string bytes) => bytes.length + 1
  | .lit _ => 1
  | .nil => 1
  | .ptr d => uptoBulk d + 1
  | .slice elems spare => uptoBulkAll elems + uptoBulkAll spare + 1
  | .agg parts => uptoBulkAll parts + 1
  | .iface _ d => uptoBulk d + 1
  | .map entries => uptoBulkEntries entries + 1
  | .held _ => 1
def uptoBulkAll {H : Type} : List (DataW H) → Nat
  | [] => 0
  | d :: r => uptoBulk d + uptoBulkAll r
def uptoBulkEntries {H : Type} : List (Lit × DataW H) → Nat
  | [] => 0
  | x :: r => uptoBulkEntry x + uptoBulkEntries r
def uptoBulkEntry {H : Type} : Lit × DataW H → Nat
  | (.string bytes, d) => bytes.length + uptoBulk d + 1
  | (_, d) => uptoBulk d + 1
 end
def uptoSmall : (H : Type) → List (DataW H) → Bool := fun _ ds => decide (uptoBulkAll ds ≤ 1048576)
def OpenSpec.upto (s : _root_.Go.ChangeSpec) : _root_.Go.OpenSpec := { _root_.Go.OpenSpec.ofChange s with cond := some uptoSmall }

/-- 'laws.FnCrcStep', WHERE WHAT IT READS IS OF BULK AT MOST 1048576: true; the input reads as it did. -/
def fnCrcStepUptoRow : OpenClaim := { program := "ytgdioppiopppeaa", sum := "ecaf5d016ddf4ca4b564a54aeefc6d1f2e68033f6b80ccf76c1248687c3185c1", func := "loop.example/linkboy/laws.FnCrcStep", spec := "fnCrcStep", apart := false, narrowed := true }
def FnCrcStepUptoSaid : Prop := fnCrcStepUptoRow.holds Try.pinned (OpenSpec.upto fnCrcStepSpec)

/-- 'laws.FnCrcBurst', WHERE WHAT IT READS IS OF BULK AT MOST 1048576: true; the input reads as it did. -/
def fnCrcBurstUptoRow : OpenClaim := { program := "ytgdioppiopppeaa", sum := "ecaf5d016ddf4ca4b564a54aeefc6d1f2e68033f6b80ccf76c1248687c3185c1", func := "loop.example/linkboy/laws.FnCrcBurst", spec := "fnCrcBurst", apart := false, narrowed := true }
def FnCrcBurstUptoSaid : Prop := fnCrcBurstUptoRow.holds Try.pinned (OpenSpec.upto fnCrcBurstSpec)

/-- 'laws.FnCrcLinear', WHERE WHAT IT READS IS OF BULK AT MOST 1048576: true; the input reads as it did. -/
def fnCrcLinearUptoRow : OpenClaim := { program := "ytgdioppiopppeaa", sum := "ecaf5d016ddf4ca4b564a54aeefc6d1f2e68033f6b80ccf76c1248687c3185c1", func := "loop.example/linkboy/laws.FnCrcLinear", spec := "fnCrcLinear", apart := false, narrowed := true }
def FnCrcLinearUptoSaid : Prop := fnCrcLinearUptoRow.holds Try.pinned (OpenSpec.upto fnCrcLinearSpec)

/-- 'laws.FnExactCrcPut', WHERE WHAT IT READS IS OF BULK AT MOST 1048576: true; the input reads as it did. -/
def fnExactCrcPutUptoRow : OpenClaim := { program := "ytgdioppiopppeaa", sum := "ecaf5d016ddf4ca4b564a54aeefc6d1f2e68033f6b80ccf76c1248687c3185c1", func := "loop.example/linkboy/laws.FnExactCrcPut", spec := "fnExactCrcPut", apart := false, narrowed := true }
def FnExactCrcPutUptoSaid : Prop := fnExactCrcPutUptoRow.holds Try.pinned (OpenSpec.upto fnExactCrcPutSpec)

/-- 'laws.FnCrcOf', WHERE WHAT IT READS IS OF BULK AT MOST 1048576: true; the input reads as it did. -/
def fnCrcOfUptoRow : OpenClaim := { program := "ytgdioppiopppeaa", sum := "ecaf5d016ddf4ca4b564a54aeefc6d1f2e68033f6b80ccf76c1248687c3185c1", func := "loop.example/linkboy/laws.FnCrcOf", spec := "fnCrcOf", apart := false, narrowed := true }
def FnCrcOfUptoSaid : Prop := fnCrcOfUptoRow.holds Try.pinned (OpenSpec.upto fnCrcOfSpec)

/-- 'laws.FnExactCrcCut', WHERE WHAT IT READS IS OF BULK AT MOST 1048576: true; the input reads as it did. -/
def fnExactCrcCutUptoRow : OpenClaim := { program := "ytgdioppiopppeaa", sum := "ecaf5d016ddf4ca4b564a54aeefc6d1f2e68033f6b80ccf76c1248687c3185c1", func := "loop.example/linkboy/laws.FnExactCrcCut", spec := "fnExactCrcCut", apart := false, narrowed := true }
def FnExactCrcCutUptoSaid : Prop := fnExactCrcCutUptoRow.holds Try.pinned (OpenSpec.upto fnExactCrcCutSpec)

end Rows
end Go.Proofs.Ytgdioppiopppeaa
