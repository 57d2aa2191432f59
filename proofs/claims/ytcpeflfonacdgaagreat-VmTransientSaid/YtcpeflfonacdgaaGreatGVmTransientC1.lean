/- Closed facts of the row. -/
import Derived.Test.YtcpeflfonacdgaaGreatRows
import Derived.ProofKit
namespace Go.Proofs.YtcpeflfonacdgaaGreat
open Go
set_option maxRecDepth 100000
theorem c_inp : (Rows.vmTransientRow.inPlace == Tryz.prog.inPlace 5) = true := by kernel_rfl
theorem c_unf : (Rows.vmTransientRow.unfollowed == Tryz.prog.unfollowed 5) = true := by kernel_rfl
end Go.Proofs.YtcpeflfonacdgaaGreat
