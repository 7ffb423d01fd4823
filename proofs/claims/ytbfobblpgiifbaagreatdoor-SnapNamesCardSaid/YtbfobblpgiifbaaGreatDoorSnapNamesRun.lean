/- THE LAW 'SnapNames' SAYS TRUE: ITS RUN, IN THE KERNEL. No condition. -/
import Derived.Test.YtbfobblpgiifbaaGreatDoorSnapNamesM1
namespace Go.Proofs.YtbfobblpgiifbaaGreatDoor.snapNames
open Go.Sy
variable (mx : Int)
set_option maxRecDepth 100000 in
theorem runs : saysTrue (enterM (tabM [m1]) (spec mx) table (globs mx) 1000 60 4 [] [] 0) = true := by kernel_rfl
theorem memo_ok : MemoOK Tryz.prog (globs mx) (tabM [m1]) := tabM_ok (okCons (o1 mx) (okNil))
end Go.Proofs.YtbfobblpgiifbaaGreatDoor.snapNames
