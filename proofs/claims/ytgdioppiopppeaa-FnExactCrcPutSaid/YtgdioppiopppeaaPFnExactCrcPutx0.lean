/- The program's functions as plain Lean functions, each with the proof that its call answers so. Conditions: none. -/
import Derived.Test.YtgdioppiopppeaaProg
import Derived.Below
import Derived.Deep.Draws
import Derived.Deep.AppendLies
import Derived.Maps.AppendAt
import Derived.OwnWalk
import Derived.Laws.BytesArg
import Derived.Laws.MakeOwn
import Derived.Laws.OwnMore
import Derived.Deep.OwnRows
import Derived.Tactics
import Derived.Lib.ConvBytes
import Derived.Laws.Slices
import Derived.WalkKit
import Derived.KernelRfl
import Derived.RowKit3
import Derived.Deep.LoopGhost
import Derived.Deep.QuietTactic
import Derived.BigQuiet
import Derived.WideLaws
import Derived.Deep.DeepCutAuto
import Derived.Deep.CutBlock
import Derived.Deep.RegionHeld3
import Derived.Laws.Rows
import Derived.Lib.AppendStr
import Derived.ArgAppend
import Derived.Laws.IdiomCopy
import Derived.OrdersHeld
import Derived.Laws.BitsLemmas
import Derived.RowKit
import Derived.Test.YtgdioppiopppeaaVWords
import Derived.Test.YtgdioppiopppeaaVLast
import Derived.Test.YtgdioppiopppeaaVTab
import Derived.Test.YtgdioppiopppeaaVFour
import Derived.Test.YtgdioppiopppeaaVQPut
import Derived.Test.YtgdioppiopppeaaVApart
import Derived.Test.YtgdioppiopppeaaVArr
import Derived.Test.YtgdioppiopppeaaVZeros
import Derived.Test.YtgdioppiopppeaaVFoot
import Derived.Test.YtgdioppiopppeaaVKept
import Derived.Test.YtgdioppiopppeaaVShare
import Derived.Test.YtgdioppiopppeaaVN
import Derived.Test.YtgdioppiopppeaaVFootNe
import Derived.Test.YtgdioppiopppeaaVAt
import Derived.Test.YtgdioppiopppeaaVEqStruct
import Derived.Test.YtgdioppiopppeaaVRepsOne
import Derived.Test.YtgdioppiopppeaaVInv
import Derived.Test.YtgdioppiopppeaaVInvWords
import Derived.Test.YtgdioppiopppeaaVGuard
import Derived.Test.YtgdioppiopppeaaVNEv
import Derived.Test.YtgdioppiopppeaaVMore
import Derived.Test.YtgdioppiopppeaaVClip
namespace Go.Proofs.Ytgdioppiopppeaa.PFnExactCrcPut
open Go.RowKit Go.Proofs.YtgdioppiopppeaaV.PrintWords Go.Proofs.YtgdioppiopppeaaV.PrintLast Go.Proofs.YtgdioppiopppeaaV.PrintMore
attribute [local go_sem] max2_int min2_int max_two min_two max_three min_three max_four min_four   -- for this text's walks alone
set_option linter.unusedVariables false
set_option linter.unusedSimpArgs false



def errW : Option Int → Value
  | none => .nilIface
  | some c => .iface 0 (.int .i64 c)
theorem errW_none : errW none = .nilIface := rfl
theorem errW_some (c : Int) : errW (some c) = .iface 0 (.int .i64 c) := rfl

theorem info5 : (Try.prog.info? 5).map (fun i => (i.zero, i.size, i.bytes)) = some (some (.int .u8 0), 1, 1) := by kernel_rfl
-- the values' own types

end Go.Proofs.Ytgdioppiopppeaa.PFnExactCrcPut
