/- What Keccak answers to known bytes, all. -/
import Derived.Test.YtnfoaablgldjcaaGreatGKc0
import Derived.Test.YtnfoaablgldjcaaGreatGKc1
import Derived.Test.YtnfoaablgldjcaaGreatGKc2
import Derived.Test.YtnfoaablgldjcaaGreatGKc3
set_option linter.unusedVariables false
set_option maxRecDepth 100000
set_option maxHeartbeats 0
namespace Go.Sy
noncomputable section
def kecT : List M1 := [kM0, kM1, kM2, kM3]
theorem hkec : ∀ m ∈ kecT, callA2 FT XT1 60 101 [argM m] (st1 m.o) (kIs1 m) = true ∧ okM m = true := by
  intro m hm
  simp only [kecT, List.mem_cons, List.not_mem_nil, or_false] at hm
  rcases hm with rfl | rfl | rfl | rfl
  · exact ⟨kr0, by kernel_rfl⟩
  · exact ⟨kr1, by kernel_rfl⟩
  · exact ⟨kr2, by kernel_rfl⟩
  · exact ⟨kr3, by kernel_rfl⟩
end
end Go.Sy
