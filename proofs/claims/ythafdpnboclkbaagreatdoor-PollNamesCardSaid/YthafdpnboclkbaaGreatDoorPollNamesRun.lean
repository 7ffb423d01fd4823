/- THE LAW 'PollNames' SAYS TRUE: ITS RUN, IN THE KERNEL. No condition. -/
import Derived.Test.YthafdpnboclkbaaGreatDoorPollNamesM1
namespace Go.Proofs.YthafdpnboclkbaaGreatDoor.pollNames
open Go.Sy
variable (mx : Int)
set_option maxRecDepth 100000 in
theorem runs : saysTrue (enterM (tabM [m3]) (spec mx) table (globs mx) 1000 60 3 [] [] 0) = true := by kernel_rfl
theorem memo_ok : MemoOK Tryz.prog (globs mx) (tabM [m3]) := tabM_ok (okCons (o3 mx) (okNil))
end Go.Proofs.YthafdpnboclkbaaGreatDoor.pollNames
