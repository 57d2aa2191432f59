/- Closed facts of the row. -/
import Derived.Test.YtnfoaablgldjcaaGreatRows
import Derived.ProofKit
namespace Go.Proofs.YtnfoaablgldjcaaGreat
open Go
set_option maxRecDepth 100000
theorem c_rcs : (Rows.vmGivesRow.recurses == Tryz.prog.recurses 5) = true := by kernel_rfl
theorem c_nam : (Rows.vmGivesRow.named == Tryz.prog.varsNamed 5) = true := by kernel_rfl
end Go.Proofs.YtnfoaablgldjcaaGreat
