/- Closed facts of the row. -/
import Derived.Test.YtnpmngeeidgkaaaGreatRows
import Derived.ProofKit
namespace Go.Proofs.YtnpmngeeidgkaaaGreat
open Go
set_option maxRecDepth 100000
theorem c_rcs : (Rows.vmHashesRow.recurses == Tryz.prog.recurses 3) = true := by kernel_rfl
theorem c_nam : (Rows.vmHashesRow.named == Tryz.prog.varsNamed 3) = true := by kernel_rfl
end Go.Proofs.YtnpmngeeidgkaaaGreat
