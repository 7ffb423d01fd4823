/- THE LAW 'RolloutNames' SAYS TRUE: ITS RUN, IN THE KERNEL. No condition. -/
import Derived.Test.YtiihhmbpbcnbcaaGreatDoorRolloutNamesM1
namespace Go.Proofs.YtiihhmbpbcnbcaaGreatDoor.rolloutNames
open Go.Sy
set_option maxRecDepth 100000 in
theorem runs : saysTrue (enterM (tabM [m1]) spec table globs 1000 60 6 [] [] 0) = true := by kernel_rfl
theorem memo_ok : MemoOK Tryz.prog globs (tabM [m1]) := tabM_ok (okCons o1 (okNil))
end Go.Proofs.YtiihhmbpbcnbcaaGreatDoor.rolloutNames
