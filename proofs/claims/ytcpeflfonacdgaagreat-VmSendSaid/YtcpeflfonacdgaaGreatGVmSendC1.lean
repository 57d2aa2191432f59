/- Closed facts of the row. -/
import Derived.Test.YtcpeflfonacdgaaGreatRows
import Derived.ProofKit
namespace Go.Proofs.YtcpeflfonacdgaaGreat
open Go
set_option maxRecDepth 100000
theorem c_inp : (Rows.vmSendRow.inPlace == Tryz.prog.inPlace 3) = true := by kernel_rfl
theorem c_unf : (Rows.vmSendRow.unfollowed == Tryz.prog.unfollowed 3) = true := by kernel_rfl
end Go.Proofs.YtcpeflfonacdgaaGreat
