/- What Keccak answers to known bytes. -/
import Derived.Test.YtnfoaablgldjcaaGreatGTab1
set_option linter.unusedVariables false
set_option maxRecDepth 100000
set_option maxHeartbeats 0
namespace Go.Sy
noncomputable section
def kM2 : M1 := ⟨0, 85, (.op 0), (.row [nu8 255, nu8 170, zu8, zu8, zu8, zu8, zu8, zu8, zu8, zu8, zu8, zu8, zu8, zu8, zu8, zu8, zu8, zu8, zu8, zu8, zu8, zu8, zu8, zu8, zu8, zu8, zu8, zu8, zu8, zu8, zu8, zu8, zu8, zu8, zu8, zu8, zu8, zu8, zu8, zu8, zu8, zu8, zu8, zu8, zu8, zu8, zu8, zu8, zu8, zu8, zu8, zu8, nu8 1, nu8 188, nu8 54, nu8 120, nu8 158, nu8 122, nu8 30, nu8 40, nu8 20, nu8 54, nu8 70, nu8 66, nu8 41, nu8 130, nu8 143, nu8 129, nu8 125, nu8 102, nu8 18, nu8 247, nu8 180, nu8 119, nu8 214, nu8 101, nu8 145, nu8 255, nu8 150, nu8 169, nu8 224, nu8 100, nu8 188, nu8 201, nu8 138] 5 1), (.w (.agg [nu8 103, nu8 3, nu8 159, nu8 247, nu8 40, nu8 54, nu8 111, nu8 86, nu8 46, nu8 131, nu8 95, nu8 174, nu8 242, nu8 152, nu8 59, nu8 195, nu8 16, nu8 45, nu8 80, nu8 132, nu8 61, nu8 182, nu8 11, nu8 18, nu8 29, nu8 72, nu8 2, nu8 23, nu8 170, nu8 79, nu8 49, nu8 122]))⟩
theorem kr2 : callA2 FT XT1 60 101 [argM kM2] (st1 kM2.o) (kIs1 kM2) = true := by kernel_rfl
end
end Go.Sy
