/- THE LAW 'StateNames' SAYS TRUE: ITS RUN, IN THE KERNEL. No condition. -/
import Derived.Test.YtiihhmbpbcnbcaaGreatDoorStateNamesM1
namespace Go.Proofs.YtiihhmbpbcnbcaaGreatDoor.stateNames
open Go.Sy
set_option maxRecDepth 100000 in
theorem runs : saysTrue (enterM (tabM [m8]) spec table globs 1000 60 7 [] [] 0) = true := by kernel_rfl
theorem memo_ok : MemoOK Tryz.prog globs (tabM [m8]) := tabM_ok (okCons o8 (okNil))
end Go.Proofs.YtiihhmbpbcnbcaaGreatDoor.stateNames
