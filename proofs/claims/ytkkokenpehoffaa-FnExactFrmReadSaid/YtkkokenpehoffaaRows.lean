/-
  No cell of these rows narrows 'for every input' (looked for: loops, veiled, ifaces, maps, wideKeys, modest, calm, conditions, laid).
  DERIVED. THE GIVEN ROWS OF THIS SEAT. 5 by the template 'for every input the law returns true; each argument reads behind the call as it read before'; 0 by the template 'total and deterministic' (their statements: YtkkokenpehoffaaTotals.lean).
  GIVEN WITH THE SEED: the statements are not yours to turn. If you find one false, say at which input.
  Laid BY PROGRAM, IN A SANDBOX (cutbox-rows.mjs): the forced cells as the released guide's own fill.sh prints them over the translation 71bee72d2e090c57… (all of the seat's roots in one cut). By AI agents, Wed Nov 11 2026. No macro, syntax, notation, axiom, sorry.
-/
import Derived.Test.YtkkokenpehoffaaChecked
import GoSem.Claim
import GoSem.ClaimJoined
import GoSem.ClaimMapViews
import Derived.JoinedTies
import Derived.KernelRfl
namespace Go.Proofs.Ytkkokenpehoffaa
/- THE CELL 'sum', in the pinned program and in every row, IS THE sha256 OF THE DUMP (.gsa) THAT YtkkokenpehoffaaProg.lean LOADS. Nothing in Lean hashes anything: it is a label: what it is worth is what the hold of that sum in a sandbox is worth. -/
noncomputable def Try.pinned : Pinned := { name := "ytkkokenpehoffaa", sum := "71bee72d2e090c5748d930b7ab657db1c58fb7ac1bbf14aabf12c2a960fac312", checked := Try.checked }
namespace Rows
def none {H : Type} : Left H := { results := [], args := [] }

/-- 'laws.FnCrcCut': WHATEVER THE INPUT: true; the input reads as it did. -/
def fnCrcCutSpec : ChangeSpec := { name := "fnCrcCut", fn := fun _ => fun
  | [d1, d2] => { results := [.lit (.bool true)], args := [d1, d2] }
  | _ => none }
def fnCrcCutRow : OpenClaim := { program := "ytkkokenpehoffaa", sum := "71bee72d2e090c5748d930b7ab657db1c58fb7ac1bbf14aabf12c2a960fac312", func := "loop.example/linkboy/laws.FnCrcCut", spec := "fnCrcCut", apart := false }
def FnCrcCutSaid : Prop := fnCrcCutRow.holds Try.pinned (OpenSpec.ofChange fnCrcCutSpec)

/-- ITS FALSE NEIGHBOUR: 'it returns false'. Refute it at one input. -/
def fnCrcCutWrong : ChangeSpec := { name := "fnCrcCut", fn := fun _ => fun
  | [d1, d2] => { results := [.lit (.bool false)], args := [d1, d2] }
  | _ => none }
def FnCrcCutWrongFalsely : Prop := fnCrcCutRow.holds Try.pinned (OpenSpec.ofChange fnCrcCutWrong)

/-- 'laws.FnExactFrmRead': WHATEVER THE INPUT: true; the input reads as it did. -/
def fnExactFrmReadSpec : ChangeSpec := { name := "fnExactFrmRead", fn := fun _ => fun
  | [d] => { results := [.lit (.bool true)], args := [d] }
  | _ => none }
def fnExactFrmReadRow : OpenClaim := { program := "ytkkokenpehoffaa", sum := "71bee72d2e090c5748d930b7ab657db1c58fb7ac1bbf14aabf12c2a960fac312", func := "loop.example/linkboy/laws.FnExactFrmRead", spec := "fnExactFrmRead", apart := false }
def FnExactFrmReadSaid : Prop := fnExactFrmReadRow.holds Try.pinned (OpenSpec.ofChange fnExactFrmReadSpec)

/-- ITS FALSE NEIGHBOUR: 'it returns false'. Refute it at one input. -/
def fnExactFrmReadWrong : ChangeSpec := { name := "fnExactFrmRead", fn := fun _ => fun
  | [d] => { results := [.lit (.bool false)], args := [d] }
  | _ => none }
def FnExactFrmReadWrongFalsely : Prop := fnExactFrmReadRow.holds Try.pinned (OpenSpec.ofChange fnExactFrmReadWrong)

/-- 'laws.FnExactFrmBytes': WHATEVER THE INPUT: true; the input reads as it did. -/
def fnExactFrmBytesSpec : ChangeSpec := { name := "fnExactFrmBytes", fn := fun _ => fun
  | [d] => { results := [.lit (.bool true)], args := [d] }
  | _ => none }
def fnExactFrmBytesRow : OpenClaim := { program := "ytkkokenpehoffaa", sum := "71bee72d2e090c5748d930b7ab657db1c58fb7ac1bbf14aabf12c2a960fac312", func := "loop.example/linkboy/laws.FnExactFrmBytes", spec := "fnExactFrmBytes", apart := false }
def FnExactFrmBytesSaid : Prop := fnExactFrmBytesRow.holds Try.pinned (OpenSpec.ofChange fnExactFrmBytesSpec)

/-- ITS FALSE NEIGHBOUR: 'it returns false'. Refute it at one input. -/
def fnExactFrmBytesWrong : ChangeSpec := { name := "fnExactFrmBytes", fn := fun _ => fun
  | [d] => { results := [.lit (.bool false)], args := [d] }
  | _ => none }
def FnExactFrmBytesWrongFalsely : Prop := fnExactFrmBytesRow.holds Try.pinned (OpenSpec.ofChange fnExactFrmBytesWrong)

/-- 'laws.FnFrmApart': WHATEVER THE INPUT: true; the input reads as it did. -/
def fnFrmApartSpec : ChangeSpec := { name := "fnFrmApart", fn := fun _ => fun
  | [d1, d2] => { results := [.lit (.bool true)], args := [d1, d2] }
  | _ => none }
def fnFrmApartRow : OpenClaim := { program := "ytkkokenpehoffaa", sum := "71bee72d2e090c5748d930b7ab657db1c58fb7ac1bbf14aabf12c2a960fac312", func := "loop.example/linkboy/laws.FnFrmApart", spec := "fnFrmApart", apart := false }
def FnFrmApartSaid : Prop := fnFrmApartRow.holds Try.pinned (OpenSpec.ofChange fnFrmApartSpec)

/-- ITS FALSE NEIGHBOUR: 'it returns false'. Refute it at one input. -/
def fnFrmApartWrong : ChangeSpec := { name := "fnFrmApart", fn := fun _ => fun
  | [d1, d2] => { results := [.lit (.bool false)], args := [d1, d2] }
  | _ => none }
def FnFrmApartWrongFalsely : Prop := fnFrmApartRow.holds Try.pinned (OpenSpec.ofChange fnFrmApartWrong)

/-- 'laws.FnFrmBytes': WHATEVER THE INPUT: true; the input reads as it did. -/
def fnFrmBytesSpec : ChangeSpec := { name := "fnFrmBytes", fn := fun _ => fun
  | [d1, d2] => { results := [.lit (.bool true)], args := [d1, d2] }
  | _ => none }
def fnFrmBytesRow : OpenClaim := { program := "ytkkokenpehoffaa", sum := "71bee72d2e090c5748d930b7ab657db1c58fb7ac1bbf14aabf12c2a960fac312", func := "loop.example/linkboy/laws.FnFrmBytes", spec := "fnFrmBytes", apart := false }
def FnFrmBytesSaid : Prop := fnFrmBytesRow.holds Try.pinned (OpenSpec.ofChange fnFrmBytesSpec)

/-- ITS FALSE NEIGHBOUR: 'it returns false'. Refute it at one input. -/
def fnFrmBytesWrong : ChangeSpec := { name := "fnFrmBytes", fn := fun _ => fun
  | [d1, d2] => { results := [.lit (.bool false)], args := [d1, d2] }
  | _ => none }
def FnFrmBytesWrongFalsely : Prop := fnFrmBytesRow.holds Try.pinned (OpenSpec.ofChange fnFrmBytesWrong)

/- THE SECOND FORM. 'bulk': how many values and letters a reading holds, each counted each time it is reached (what is shared counts as often as it is met; a slice's spare places count too). A statement '..UptoSaid' is the law's where the arguments, and the package variables that the reading takes, are together of bulk at most 1048576: NARROWER than '..Said'. Prove '..Said' where nothing that the law and all that it calls make is longer than what came in: it says more and counts as full. Else prove '..UptoSaid'. A law counts once. -/
mutual
def uptoBulk {H : Type} : DataW H → Nat
  | .lit (.string bytes) => bytes.length + 1
  | .lit _ => 1
  | .nil => 1
  | .ptr d => uptoBulk d + 1
  | .slice elems spare => uptoBulkAll elems + uptoBulkAll spare + 1
  | .agg parts => uptoBulkAll parts + 1
  | .iface _ d => uptoBulk d + 1
  | .map entries => uptoBulkEntries entries + 1
  | .held _ => 1
def uptoBulkAll {H : Type} : List (DataW H) → Nat
  | [] => 0
  | d :: r => uptoBulk d + uptoBulkAll r
def uptoBulkEntries {H : Type} : List (Lit × DataW H) → Nat
  | [] => 0
  | x :: r => uptoBulkEntry x + uptoBulkEntries r
def uptoBulkEntry {H : Type} : Lit × DataW H → Nat
  | (.string bytes, d) => bytes.length + uptoBulk d + 1
  | (_, d) => uptoBulk d + 1
 end
def uptoSmall : (H : Type) → List (DataW H) → Bool := fun _ ds => decide (uptoBulkAll ds ≤ 1048576)
def OpenSpec.upto (s : _root_.Go.ChangeSpec) : _root_.Go.OpenSpec := { _root_.Go.OpenSpec.ofChange s with cond := some uptoSmall }

/-- 'laws.FnCrcCut', WHERE WHAT IT READS IS OF BULK AT MOST 1048576: true; the input reads as it did. -/
def fnCrcCutUptoRow : OpenClaim := { program := "ytkkokenpehoffaa", sum := "71bee72d2e090c5748d930b7ab657db1c58fb7ac1bbf14aabf12c2a960fac312", func := "loop.example/linkboy/laws.FnCrcCut", spec := "fnCrcCut", apart := false, narrowed := true }
def FnCrcCutUptoSaid : Prop := fnCrcCutUptoRow.holds Try.pinned (OpenSpec.upto fnCrcCutSpec)

/-- 'laws.FnExactFrmRead', WHERE WHAT IT READS IS OF BULK AT MOST 1048576: true; the input reads as it did. -/
def fnExactFrmReadUptoRow : OpenClaim := { program := "ytkkokenpehoffaa", sum := "71bee72d2e090c5748d930b7ab657db1c58fb7ac1bbf14aabf12c2a960fac312", func := "loop.example/linkboy/laws.FnExactFrmRead", spec := "fnExactFrmRead", apart := false, narrowed := true }
def FnExactFrmReadUptoSaid : Prop := fnExactFrmReadUptoRow.holds Try.pinned (OpenSpec.upto fnExactFrmReadSpec)

/-- 'laws.FnExactFrmBytes', WHERE WHAT IT READS IS OF BULK AT MOST 1048576: true; the input reads as it did. -/
def fnExactFrmBytesUptoRow : OpenClaim := { program := "ytkkokenpehoffaa", sum := "71bee72d2e090c5748d930b7ab657db1c58fb7ac1bbf14aabf12c2a960fac312", func := "loop.example/linkboy/laws.FnExactFrmBytes", spec := "fnExactFrmBytes", apart := false, narrowed := true }
def FnExactFrmBytesUptoSaid : Prop := fnExactFrmBytesUptoRow.holds Try.pinned (OpenSpec.upto fnExactFrmBytesSpec)

/-- 'laws.FnFrmApart', WHERE WHAT IT READS IS OF BULK AT MOST 1048576: true; the input reads as it did. -/
def fnFrmApartUptoRow : OpenClaim := { program := "ytkkokenpehoffaa", sum := "71bee72d2e090c5748d930b7ab657db1c58fb7ac1bbf14aabf12c2a960fac312", func := "loop.example/linkboy/laws.FnFrmApart", spec := "fnFrmApart", apart := false, narrowed := true }
def FnFrmApartUptoSaid : Prop := fnFrmApartUptoRow.holds Try.pinned (OpenSpec.upto fnFrmApartSpec)

/-- 'laws.FnFrmBytes', WHERE WHAT IT READS IS OF BULK AT MOST 1048576: true; the input reads as it did. -/
def fnFrmBytesUptoRow : OpenClaim := { program := "ytkkokenpehoffaa", sum := "71bee72d2e090c5748d930b7ab657db1c58fb7ac1bbf14aabf12c2a960fac312", func := "loop.example/linkboy/laws.FnFrmBytes", spec := "fnFrmBytes", apart := false, narrowed := true }
def FnFrmBytesUptoSaid : Prop := fnFrmBytesUptoRow.holds Try.pinned (OpenSpec.upto fnFrmBytesSpec)

end Rows
end Go.Proofs.Ytkkokenpehoffaa
