/- Closed facts of the row. -/
import Derived.Test.YtcpeflfonacdgaaGreatRows
import Derived.ProofKit
namespace Go.Proofs.YtcpeflfonacdgaaGreat
open Go
set_option maxRecDepth 100000
theorem c_rcs : (Rows.vmTransientRow.recurses == Tryz.prog.recurses 5) = true := by kernel_rfl
theorem c_nam : (Rows.vmTransientRow.named == Tryz.prog.varsNamed 5) = true := by kernel_rfl
end Go.Proofs.YtcpeflfonacdgaaGreat
