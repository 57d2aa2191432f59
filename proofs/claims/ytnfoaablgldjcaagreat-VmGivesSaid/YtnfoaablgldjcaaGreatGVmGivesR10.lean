/- The run of VmGives at fork 10. -/
import Derived.Test.YtnfoaablgldjcaaGreatGTab2
set_option linter.unusedVariables false
set_option maxRecDepth 100000
set_option maxHeartbeats 0
namespace Go.Sy
noncomputable section
theorem run10k0 : callA2 FT XT 60 5 [argSmall] ⟨.leaf, 0, phiAt (maskOf 10) 1003 0⟩ kTrue = true := by kernel_rfl
theorem run10k1 : callA2 FT XT 60 5 [argSmall] ⟨.leaf, 0, phiAt (maskOf 10) 1003 1⟩ kTrue = true := by kernel_rfl
theorem run10k2 : callA2 FT XT 60 5 [argSmall] ⟨.leaf, 0, phiAt (maskOf 10) 1003 2⟩ kTrue = true := by kernel_rfl
end
end Go.Sy
