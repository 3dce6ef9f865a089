import Derived.Test.YtdeikigmgdnojaaGreatDoorT33
/- A part of the proof of one law. -/
set_option maxRecDepth 100000
set_option maxHeartbeats 8000000
set_option linter.unusedVariables false
set_option linter.unusedSimpArgs false
namespace Go.Ab
open Go Go.Ab.Tryz Go.Proofs
end Go.Ab
