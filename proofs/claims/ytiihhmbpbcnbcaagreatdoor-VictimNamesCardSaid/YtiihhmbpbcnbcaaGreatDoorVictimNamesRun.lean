/- THE LAW 'VictimNames' SAYS TRUE: ITS RUN, IN THE KERNEL. No condition. -/
import Derived.Test.YtiihhmbpbcnbcaaGreatDoorVictimNamesM2
namespace Go.Proofs.YtiihhmbpbcnbcaaGreatDoor.victimNames
open Go.Sy
set_option maxRecDepth 100000 in
theorem runs : saysTrue (enterM (tabM [m0, m1, m2, m3, m4, m5]) spec table globs 1000 60 5 [] [] 0) = true := by kernel_rfl
theorem memo_ok : MemoOK Tryz.prog globs (tabM [m0, m1, m2, m3, m4, m5]) := tabM_ok (okCons o0 (okCons o1 (okCons o2 (okCons o3 (okCons o4 (okCons o5 (okNil)))))))
end Go.Proofs.YtiihhmbpbcnbcaaGreatDoor.victimNames
