/- The run of the machine that wakes. -/
import Derived.Test.YtnfoaablgldjcaaGreatGTab1
set_option linter.unusedVariables false
set_option maxRecDepth 100000
set_option maxHeartbeats 0
namespace Go.Sy
noncomputable section
theorem runW : callA2 FT XT1 60 18 [] sAll (kIs (vBool true)) = true := by kernel_rfl
end
end Go.Sy
