/- THE LAW 'JournalNames' SAYS TRUE: ITS RUN, IN THE KERNEL. No condition. -/
import Derived.Test.YtkhjbgpkkeioeaaGreatDoorJournalNamesBase
namespace Go.Proofs.YtkhjbgpkkeioeaaGreatDoor.journalNames
open Go.Sy
set_option maxRecDepth 100000 in
theorem runs : saysTrue (enterM (tabM []) spec table globs 1000 60 3 [] [] 0) = true := by kernel_rfl
theorem memo_ok : MemoOK Tryz.prog globs (tabM []) := tabM_ok (okNil)
end Go.Proofs.YtkhjbgpkkeioeaaGreatDoor.journalNames
