/- CALLS OF THE LAW 'JournalNil', RUN ONCE IN THE KERNEL AND KNOWN FROM THERE ON: part 1. No condition. -/
import Derived.Test.YtafkpinlnjeckaaGreatDoorJournalNilBase
namespace Go.Proofs.YtafkpinlnjeckaaGreatDoor.journalNil
open Go.Sy
noncomputable def a0 : List AV := []
noncomputable def v0 : AV := .bool true
noncomputable def m0 : Nat × ME := (13, .any a0 v0)
set_option maxRecDepth 100000 in
theorem r0 : givesV v0 (fAVs a0 fun a => enterM (tabM []) spec table globs 1000 60 13 a [] 0) = true := by kernel_rfl
theorem o0 : m0.2.ok Tryz.prog globs m0.1 := any_of_gives (tabM_ok (okNil)) spec_ok table_ok globs_meth mixed globs_pure (by kernel_rfl) r0
end Go.Proofs.YtafkpinlnjeckaaGreatDoor.journalNil
