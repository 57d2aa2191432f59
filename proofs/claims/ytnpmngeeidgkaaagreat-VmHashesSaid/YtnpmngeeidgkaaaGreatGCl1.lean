/- Closed facts of the row. -/
import Derived.Test.YtnpmngeeidgkaaaGreatRows
import Derived.ProofKit
namespace Go.Proofs.YtnpmngeeidgkaaaGreat
open Go
set_option maxRecDepth 100000
theorem c_inp : (Rows.vmHashesRow.inPlace == Tryz.prog.inPlace 3) = true := by kernel_rfl
theorem c_unf : (Rows.vmHashesRow.unfollowed == Tryz.prog.unfollowed 3) = true := by kernel_rfl
end Go.Proofs.YtnpmngeeidgkaaaGreat
