/- THE LAW 'AgentNil' SAYS TRUE: ITS RUN, IN THE KERNEL. No condition. -/
import Derived.Test.YtinecjjgnjkgmaaGreatDoorAgentNilM1
namespace Go.Proofs.YtinecjjgnjkgmaaGreatDoor.agentNil
open Go.Sy
variable (mx : Int)
set_option maxRecDepth 100000 in
theorem runs : saysTrue (fAVs [.agg (symsAt 0 15)] fun a => enterM (tabM [m0]) (spec mx) table (globs mx) 1000 60 4 a [] 0) = true := by kernel_rfl
theorem memo_ok : MemoOK Tryz.prog (globs mx) (tabM [m0]) := tabM_ok (okCons (o0 mx) (okNil))
end Go.Proofs.YtinecjjgnjkgmaaGreatDoor.agentNil
