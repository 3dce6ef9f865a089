import Derived.Test.YtdeikigmgdnojaaGreatDoorT11
import Derived.JoinedOf
/- A part of the proof of one law. -/
set_option maxRecDepth 100000
set_option maxHeartbeats 8000000
set_option linter.unusedVariables false
set_option linter.unusedSimpArgs false
namespace Go.Proofs.YtdeikigmgdnojaaGreatDoor
theorem jf9:joinedFacts Tryz.prog 9 Tryz.f9 Rows.machineTextsSpec Rows.machineTextsRow=true:=by
 unfold joinedFacts
 simp only [Bool.and_eq_true]
 repeat' apply And.intro
 all_goals as_aux_lemma=>kernel_rfl
end Go.Proofs.YtdeikigmgdnojaaGreatDoor
