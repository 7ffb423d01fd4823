/- CALLS OF THE LAW 'VictimNames', RUN ONCE IN THE KERNEL AND KNOWN FROM THERE ON: part 1. No condition. -/
import Derived.Test.YtiihhmbpbcnbcaaGreatDoorVictimNamesBase
namespace Go.Proofs.YtiihhmbpbcnbcaaGreatDoor.victimNames
open Go.Sy
noncomputable def a0 : List AV := [.int .i64 2, .int .i64 5]
noncomputable def v0 : AV := .str [98]
noncomputable def m0 : Nat × ME := (23, .any a0 v0)
set_option maxRecDepth 100000 in
theorem r0 : givesV v0 (fAVs a0 fun a => enterM (tabM []) spec table globs 1000 60 23 a [] 0) = true := by kernel_rfl
theorem o0 : m0.2.ok Tryz.prog globs m0.1 := any_of_gives (tabM_ok (okNil)) spec_ok table_ok globs_meth mixed globs_pure (by kernel_rfl) r0
noncomputable def a1 : List AV := [.int .i64 2, .int .i64 7]
noncomputable def v1 : AV := .str [97, 98]
noncomputable def m1 : Nat × ME := (23, .any a1 v1)
set_option maxRecDepth 100000 in
theorem r1 : givesV v1 (fAVs a1 fun a => enterM (tabM []) spec table globs 1000 60 23 a [] 0) = true := by kernel_rfl
theorem o1 : m1.2.ok Tryz.prog globs m1.1 := any_of_gives (tabM_ok (okNil)) spec_ok table_ok globs_meth mixed globs_pure (by kernel_rfl) r1
end Go.Proofs.YtiihhmbpbcnbcaaGreatDoor.victimNames
