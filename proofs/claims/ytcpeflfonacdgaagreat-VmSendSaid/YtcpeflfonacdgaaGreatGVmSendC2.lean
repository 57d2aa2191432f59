/- Closed facts of the row. -/
import Derived.Test.YtcpeflfonacdgaaGreatRows
import Derived.ProofKit
namespace Go.Proofs.YtcpeflfonacdgaaGreat
open Go
set_option maxRecDepth 100000
theorem c_rcs : (Rows.vmSendRow.recurses == Tryz.prog.recurses 3) = true := by kernel_rfl
theorem c_nam : (Rows.vmSendRow.named == Tryz.prog.varsNamed 3) = true := by kernel_rfl
end Go.Proofs.YtcpeflfonacdgaaGreat
