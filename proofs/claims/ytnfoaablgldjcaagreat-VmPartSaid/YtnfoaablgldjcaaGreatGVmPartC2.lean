/- Closed facts of the row. -/
import Derived.Test.YtnfoaablgldjcaaGreatRows
import Derived.ProofKit
namespace Go.Proofs.YtnfoaablgldjcaaGreat
open Go
set_option maxRecDepth 100000
theorem c_rcs : (Rows.vmPartRow.recurses == Tryz.prog.recurses 3) = true := by kernel_rfl
theorem c_nam : (Rows.vmPartRow.named == Tryz.prog.varsNamed 3) = true := by kernel_rfl
end Go.Proofs.YtnfoaablgldjcaaGreat
