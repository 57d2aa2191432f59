/- The run of VmGives at fork 5. -/
import Derived.Test.YtnfoaablgldjcaaGreatGTab2
set_option linter.unusedVariables false
set_option maxRecDepth 100000
set_option maxHeartbeats 0
namespace Go.Sy
noncomputable section
theorem run5k0 : callA2 FT XT 60 5 [argSmall] ⟨.leaf, 0, phiAt (maskOf 5) 1003 0⟩ kTrue = true := by kernel_rfl
theorem run5k1 : callA2 FT XT 60 5 [argSmall] ⟨.leaf, 0, phiAt (maskOf 5) 1003 1⟩ kTrue = true := by kernel_rfl
theorem run5k2 : callA2 FT XT 60 5 [argSmall] ⟨.leaf, 0, phiAt (maskOf 5) 1003 2⟩ kTrue = true := by kernel_rfl
end
end Go.Sy
