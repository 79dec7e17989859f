/- A part of the proof of laws of the program: what calls of the program answer. Conditions: none. -/
import Derived.Test.YtjjplncopjimdaaM894634c5
set_option linter.unusedVariables false
set_option linter.unusedSimpArgs false
set_option linter.unusedSectionVars false
/- Contracts: C. Conditions: none. -/
set_option linter.unusedVariables false
set_option maxHeartbeats 1600000
namespace Go.Proofs.YtjjplncopjimdaaE
open Go
/-- Who reads stands well, at p at most. -/
def RdOk (r : RdS) (p : Int) : Prop := Bytes r.b ∧ r.b.length ≤ 2000 ∧ 0 ≤ r.p ∧ r.p ≤ p
/-- Who read on, n steps at most. -/
def RdOn (r q : RdS) (n : Int) : Prop := q.b = r.b ∧ r.p ≤ q.p ∧ q.p ≤ r.p + n

end Go.Proofs.YtjjplncopjimdaaE

/- Calls answer what is promised: C. Conditions: none. -/
set_option linter.unusedVariables false
set_option maxHeartbeats 1600000
namespace Go.Proofs.YtjjplncopjimdaaE
open Go
end Go.Proofs.YtjjplncopjimdaaE
