/- CALLS OF THE LAW 'RolloutNames', RUN ONCE IN THE KERNEL AND KNOWN FROM THERE ON: part 1. No condition. -/
import Derived.Test.YtiihhmbpbcnbcaaGreatDoorRolloutNamesBase
namespace Go.Proofs.YtiihhmbpbcnbcaaGreatDoor.rolloutNames
open Go.Sy
noncomputable def a0 : List AV := []
noncomputable def v0 : AV := .bool true
noncomputable def m0 : Nat × ME := (27, .any a0 v0)
set_option maxRecDepth 100000 in
theorem r0 : givesV v0 (fAVs a0 fun a => enterM (tabM []) spec table globs 1000 60 27 a [] 0) = true := by kernel_rfl
theorem o0 : m0.2.ok Tryz.prog globs m0.1 := any_of_gives (tabM_ok (okNil)) spec_ok table_ok globs_meth mixed globs_pure (by kernel_rfl) r0
noncomputable def a1 : List AV := []
noncomputable def v1 : AV := .bool true
noncomputable def m1 : Nat × ME := (6, .any a1 v1)
set_option maxRecDepth 100000 in
theorem r1 : givesV v1 (fAVs a1 fun a => enterM (tabM [m0]) spec table globs 1000 60 6 a [] 0) = true := by kernel_rfl
theorem o1 : m1.2.ok Tryz.prog globs m1.1 := any_of_gives (tabM_ok (okCons o0 (okNil))) spec_ok table_ok globs_meth mixed globs_pure (by kernel_rfl) r1
end Go.Proofs.YtiihhmbpbcnbcaaGreatDoor.rolloutNames
