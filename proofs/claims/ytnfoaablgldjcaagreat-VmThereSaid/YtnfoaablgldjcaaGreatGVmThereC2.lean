/- Closed facts of the row. -/
import Derived.Test.YtnfoaablgldjcaaGreatRows
import Derived.ProofKit
namespace Go.Proofs.YtnfoaablgldjcaaGreat
open Go
set_option maxRecDepth 100000
theorem c_rcs : (Rows.vmThereRow.recurses == Tryz.prog.recurses 7) = true := by kernel_rfl
theorem c_nam : (Rows.vmThereRow.named == Tryz.prog.varsNamed 7) = true := by kernel_rfl
end Go.Proofs.YtnfoaablgldjcaaGreat
