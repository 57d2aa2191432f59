/- What Keccak answers to known bytes. -/
import Derived.Test.YtnfoaablgldjcaaGreatGTab1
set_option linter.unusedVariables false
set_option maxRecDepth 100000
set_option maxHeartbeats 0
namespace Go.Sy
noncomputable section
def kM0 : M1 := ⟨0, 23, (.op 0), (.row [nu8 214, nu8 148, nu8 170, zu8, zu8, zu8, zu8, zu8, zu8, zu8, zu8, zu8, zu8, zu8, zu8, zu8, zu8, zu8, zu8, zu8, zu8, zu8, nu8 1] 5 1), (.w (.agg [nu8 199, nu8 32, nu8 51, nu8 180, nu8 238, nu8 177, nu8 14, nu8 143, nu8 16, nu8 102, nu8 63, nu8 15, nu8 167, nu8 169, nu8 62, nu8 142, nu8 86, nu8 76, nu8 199, nu8 238, nu8 220, nu8 120, nu8 130, nu8 203, nu8 88, nu8 125, nu8 217, nu8 54, nu8 158, nu8 109, nu8 168, nu8 201]))⟩
theorem kr0 : callA2 FT XT1 60 101 [argM kM0] (st1 kM0.o) (kIs1 kM0) = true := by kernel_rfl
end
end Go.Sy
