/- A part of the proof of laws of the program: what calls of the program answer. Conditions: none. -/
import Derived.Test.YtfcllghcdeifbaaM6a9b75b2
set_option linter.unusedVariables false
set_option linter.unusedSimpArgs false
set_option linter.unusedSectionVars false

/- Contracts: C. Conditions: none. -/
set_option linter.unusedVariables false
set_option maxHeartbeats 1600000
namespace Go.Proofs.YtfcllghcdeifbaaE
open Go
/-- Who reads stands well, at p at most. -/
def RdOk (r : RdS) (p : Int) : Prop := Bytes r.b ∧ r.b.length ≤ 2000 ∧ 0 ≤ r.p ∧ r.p ≤ p
/-- Who read on, n steps at most. -/
def RdOn (r q : RdS) (n : Int) : Prop := q.b = r.b ∧ r.p ≤ q.p ∧ q.p ≤ r.p + n

/-! spec.l20Open -/
/-! (*spec.l20Rd).pick -/
end Go.Proofs.YtfcllghcdeifbaaE


/- Calls answer what is promised: C. Conditions: none. -/
set_option linter.unusedVariables false
set_option maxHeartbeats 1600000
namespace Go.Proofs.YtfcllghcdeifbaaE
open Go
end Go.Proofs.YtfcllghcdeifbaaE
