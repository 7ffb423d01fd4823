/- THE LAW 'SchedNames' SAYS TRUE: ITS RUN, IN THE KERNEL. No condition. -/
import Derived.Test.YtdodmofhdmnenaaGreatDoorSchedNamesM2
namespace Go.Proofs.YtdodmofhdmnenaaGreatDoor.schedNames
open Go.Sy
set_option maxRecDepth 100000 in
theorem runs : saysTrue (enterM (tabM [m27]) spec table globs 1000 60 3 [] [] 0) = true := by kernel_rfl
theorem memo_ok : MemoOK Tryz.prog globs (tabM [m27]) := tabM_ok (okCons o27 (okNil))
end Go.Proofs.YtdodmofhdmnenaaGreatDoor.schedNames
