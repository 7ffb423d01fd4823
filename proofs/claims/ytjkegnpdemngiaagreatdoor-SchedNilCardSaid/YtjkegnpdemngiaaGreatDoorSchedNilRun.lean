/- THE LAW 'SchedNil' SAYS TRUE: ITS RUN, IN THE KERNEL. No condition. -/
import Derived.Test.YtjkegnpdemngiaaGreatDoorSchedNilM1
namespace Go.Proofs.YtjkegnpdemngiaaGreatDoor.schedNil
open Go.Sy
set_option maxRecDepth 100000 in
theorem runs : saysTrue (fAVs [.agg (symsAt 0 5)] fun a => enterM (tabM [m5]) spec table globs 1000 60 3 a [] 0) = true := by kernel_rfl
theorem memo_ok : MemoOK Tryz.prog globs (tabM [m5]) := tabM_ok (okCons o5 (okNil))
end Go.Proofs.YtjkegnpdemngiaaGreatDoor.schedNil
