/- THE LAW 'JournalNil' SAYS TRUE: ITS RUN, IN THE KERNEL. No condition. -/
import Derived.Test.YtafkpinlnjeckaaGreatDoorJournalNilM1
namespace Go.Proofs.YtafkpinlnjeckaaGreatDoor.journalNil
open Go.Sy
set_option maxRecDepth 100000 in
theorem runs : saysTrue (fAVs [.sym 0, .sym 1] fun a => enterM (tabM [m0]) spec table globs 1000 60 3 a [] 0) = true := by kernel_rfl
theorem memo_ok : MemoOK Tryz.prog globs (tabM [m0]) := tabM_ok (okCons o0 (okNil))
end Go.Proofs.YtafkpinlnjeckaaGreatDoor.journalNil
