/- What Keccak answers to known bytes. -/
import Derived.Test.YtnfoaablgldjcaaGreatGTab1
set_option linter.unusedVariables false
set_option maxRecDepth 100000
set_option maxHeartbeats 0
namespace Go.Sy
noncomputable section
def kM3 : M1 := ⟨1, 1, (.op 1), (.row [zu8, zu8, zu8, zu8, zu8, zu8, zu8, zu8, zu8, zu8, zu8, zu8, zu8, zu8, zu8, zu8, zu8, zu8, zu8, zu8, zu8, zu8, zu8, zu8, zu8, zu8, zu8, zu8, zu8, zu8, zu8, zu8] 5 1), (.w (.agg [nu8 188, nu8 54, nu8 120, nu8 158, nu8 122, nu8 30, nu8 40, nu8 20, nu8 54, nu8 70, nu8 66, nu8 41, nu8 130, nu8 143, nu8 129, nu8 125, nu8 102, nu8 18, nu8 247, nu8 180, nu8 119, nu8 214, nu8 101, nu8 145, nu8 255, nu8 150, nu8 169, nu8 224, nu8 100, nu8 188, nu8 201, nu8 138]))⟩
theorem kr3 : callA2 FT XT1 60 101 [argM kM3] (st1 kM3.o) (kIs1 kM3) = true := by kernel_rfl
end
end Go.Sy
