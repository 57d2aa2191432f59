/- Closed facts of the row. -/
import Derived.Test.YtnfoaablgldjcaaGreatRows
import Derived.ProofKit
namespace Go.Proofs.YtnfoaablgldjcaaGreat
open Go
set_option maxRecDepth 100000
theorem c_inp : (Rows.vmGuardsRow.inPlace == Tryz.prog.inPlace 4) = true := by kernel_rfl
theorem c_unf : (Rows.vmGuardsRow.unfollowed == Tryz.prog.unfollowed 4) = true := by kernel_rfl
end Go.Proofs.YtnfoaablgldjcaaGreat
