/- Closed facts of the row. -/
import Derived.Test.YtnfoaablgldjcaaGreatRows
import Derived.ProofKit
namespace Go.Proofs.YtnfoaablgldjcaaGreat
open Go
set_option maxRecDepth 100000
theorem c_inp : (Rows.vmThereRow.inPlace == Tryz.prog.inPlace 7) = true := by kernel_rfl
theorem c_unf : (Rows.vmThereRow.unfollowed == Tryz.prog.unfollowed 7) = true := by kernel_rfl
end Go.Proofs.YtnfoaablgldjcaaGreat
