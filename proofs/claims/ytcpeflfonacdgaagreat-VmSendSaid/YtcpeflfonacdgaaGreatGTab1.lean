/- The table of summaries. -/
import Derived.Test.YtcpeflfonacdgaaGreatGPop
import Derived.Test.YtcpeflfonacdgaaGreatGBas
set_option linter.unusedVariables false
set_option maxRecDepth 100000
set_option maxHeartbeats 0
namespace Go.Sy
noncomputable section
def XT1 : Tree CallY := (.node (.node .leaf none (.node (.node (.node .leaf none (.node .leaf (some (fun _ => xMemo (popTab popT))) (.node .leaf (some (fun _ => xSub)) .leaf))) none .leaf) none (.node .leaf none (.node (.node (.node .leaf (some (fun call => runD call da77)) .leaf) none .leaf) none .leaf)))) none (.node (.node .leaf none (.node .leaf (some (xN fa12)) .leaf)) none (.node (.node (.node .leaf none (.node .leaf (some (fun _ => xMemo (baseTab rulesT basT))) .leaf)) (some (xVia fa10 convFork)) .leaf) none (.node (.node (.node (.node (.node .leaf (some (fun _ => xAdd)) .leaf) none .leaf) none .leaf) none .leaf) none .leaf))))
theorem xOk1 (hm : Go.Proofs.Tryz.prog.follows .mixedOrders = true) : XOk Go.Proofs.Tryz.prog XT1 := xOk_of (Tree.allNode (Tree.allNode Tree.allLeaf allN (Tree.allNode (Tree.allNode (Tree.allNode Tree.allLeaf allN (Tree.allNode Tree.allLeaf (allS (fun _ _ => pop_ok (hOk0 hm 60) runPop)) (Tree.allNode Tree.allLeaf (allS (fun _ _ => xSub_ok (fun args w => run_callFunc_extern Go.Proofs.Tryz.func113 (by kernel_rfl) (by kernel_rfl) (by kernel_rfl) (by kernel_rfl) args w))) Tree.allLeaf))) allN Tree.allLeaf) allN (Tree.allNode Tree.allLeaf allN (Tree.allNode (Tree.allNode (Tree.allNode Tree.allLeaf (allS (xD_ok tOk hm do77)) Tree.allLeaf) allN Tree.allLeaf) allN Tree.allLeaf)))) allN (Tree.allNode (Tree.allNode Tree.allLeaf allN (Tree.allNode Tree.allLeaf (allS (xN_ok tOk hm fo12)) Tree.allLeaf)) allN (Tree.allNode (Tree.allNode (Tree.allNode Tree.allLeaf allN (Tree.allNode Tree.allLeaf (allS (fun _ _ => base_ok (hOk0 hm 60) (by kernel_rfl) runBas)) Tree.allLeaf)) (allS (via_ok tOk hm fo10 convFork_ok)) Tree.allLeaf) allN (Tree.allNode (Tree.allNode (Tree.allNode (Tree.allNode (Tree.allNode Tree.allLeaf (allS (fun _ _ => xAdd_ok (fun args w => run_callFunc_extern Go.Proofs.Tryz.func134 (by kernel_rfl) (by kernel_rfl) (by kernel_rfl) (by kernel_rfl) args w))) Tree.allLeaf) allN Tree.allLeaf) allN Tree.allLeaf) allN Tree.allLeaf) allN Tree.allLeaf))))
theorem hOk1 (hm : Go.Proofs.Tryz.prog.follows .mixedOrders = true) (n : Nat) : CallOk Go.Proofs.Tryz.prog (callA FT XT1 n) := callA_ok tOk hm fOk (xOk1 hm) n
end
end Go.Sy
