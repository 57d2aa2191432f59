/- The run of VmThere at fork 7. -/
import Derived.Test.YtnfoaablgldjcaaGreatGTab2
set_option linter.unusedVariables false
set_option maxRecDepth 100000
set_option maxHeartbeats 0
namespace Go.Sy
noncomputable section
theorem run7p0 : callA2 FT XT 60 7 [argSmall] ⟨.leaf, 0, phiIn (maskOf 7) 1256 0 95⟩ kTrue = true := by kernel_rfl
theorem run7p1 : callA2 FT XT 60 7 [argSmall] ⟨.leaf, 0, phiIn (maskOf 7) 1256 96 239⟩ kTrue = true := by kernel_rfl
theorem run7p2 : callA2 FT XT 60 7 [argSmall] ⟨.leaf, 0, phiIn (maskOf 7) 1256 240 255⟩ kTrue = true := by kernel_rfl
end
end Go.Sy
