/- THE LAW 'AgentNames' SAYS TRUE: ITS RUN, IN THE KERNEL. No condition. -/
import Derived.Test.YtinecjjgnjkgmaaGreatDoorAgentNamesM1
namespace Go.Proofs.YtinecjjgnjkgmaaGreatDoor.agentNames
open Go.Sy
variable (mx : Int)
set_option maxRecDepth 100000 in
theorem runs : saysTrue (enterM (tabM [m1]) (spec mx) table (globs mx) 1000 60 3 [] [] 0) = true := by kernel_rfl
theorem memo_ok : MemoOK Tryz.prog (globs mx) (tabM [m1]) := tabM_ok (okCons (o1 mx) (okNil))
end Go.Proofs.YtinecjjgnjkgmaaGreatDoor.agentNames
