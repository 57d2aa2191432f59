/- The run of VmPart at fork 10. -/
import Derived.Test.YtnfoaablgldjcaaGreatGTab2
set_option linter.unusedVariables false
set_option maxRecDepth 100000
set_option maxHeartbeats 0
namespace Go.Sy
noncomputable section
theorem run10 : callA2 FT XT 60 3 [argSmall] ⟨.leaf, 0, phiSmall (maskOf 10)⟩ kTrue = true := by kernel_rfl
end
end Go.Sy
