/- A part of the proof of laws of the program: what calls of the program answer. Conditions: none. -/
import Derived.Test.YtkencmgcibbfaaaMf748c64e
set_option linter.unusedVariables false
set_option linter.unusedSimpArgs false
set_option linter.unusedSectionVars false
/- Contracts: B. Conditions: none. -/
set_option linter.unusedVariables false
set_option maxHeartbeats 1600000
namespace Go.Proofs.YtkencmgcibbfaaaE
open Go
end Go.Proofs.YtkencmgcibbfaaaE

/- Calls answer what is promised: B. Conditions: none. -/
set_option linter.unusedVariables false
set_option maxHeartbeats 1600000
namespace Go.Proofs.YtkencmgcibbfaaaE
open Go
end Go.Proofs.YtkencmgcibbfaaaE
