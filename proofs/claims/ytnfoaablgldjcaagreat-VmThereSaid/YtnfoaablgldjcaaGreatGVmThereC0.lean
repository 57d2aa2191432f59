/- Closed facts of the row. -/
import Derived.Test.YtnfoaablgldjcaaGreatRows
import Derived.ProofKit
namespace Go.Proofs.YtnfoaablgldjcaaGreat
open Go
set_option maxRecDepth 100000
theorem c_laid : (laidOutB Tryz.prog) = true := by kernel_rfl
theorem c_rowed : (mapsRowed Tryz.prog) = true := by kernel_rfl
end Go.Proofs.YtnfoaablgldjcaaGreat
