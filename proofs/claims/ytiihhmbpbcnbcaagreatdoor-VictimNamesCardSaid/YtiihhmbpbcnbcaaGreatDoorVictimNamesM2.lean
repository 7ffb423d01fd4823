/- CALLS OF THE LAW 'VictimNames', RUN ONCE IN THE KERNEL AND KNOWN FROM THERE ON: part 2. No condition. -/
import Derived.Test.YtiihhmbpbcnbcaaGreatDoorVictimNamesM1
namespace Go.Proofs.YtiihhmbpbcnbcaaGreatDoor.victimNames
open Go.Sy
noncomputable def a2 : List AV := [.int .i64 2, .int .i64 2]
noncomputable def v2 : AV := .str [97]
noncomputable def m2 : Nat × ME := (23, .any a2 v2)
set_option maxRecDepth 100000 in
theorem r2 : givesV v2 (fAVs a2 fun a => enterM (tabM []) spec table globs 1000 60 23 a [] 0) = true := by kernel_rfl
theorem o2 : m2.2.ok Tryz.prog globs m2.1 := any_of_gives (tabM_ok (okNil)) spec_ok table_ok globs_meth mixed globs_pure (by kernel_rfl) r2
noncomputable def a3 : List AV := [.int .i64 1, .int .i64 2]
noncomputable def v3 : AV := .str [97]
noncomputable def m3 : Nat × ME := (23, .any a3 v3)
set_option maxRecDepth 100000 in
theorem r3 : givesV v3 (fAVs a3 fun a => enterM (tabM []) spec table globs 1000 60 23 a [] 0) = true := by kernel_rfl
theorem o3 : m3.2.ok Tryz.prog globs m3.1 := any_of_gives (tabM_ok (okNil)) spec_ok table_ok globs_meth mixed globs_pure (by kernel_rfl) r3
noncomputable def a4 : List AV := [.int .i64 1, .int .i64 3]
noncomputable def v4 : AV := .str [63]
noncomputable def m4 : Nat × ME := (23, .any a4 v4)
set_option maxRecDepth 100000 in
theorem r4 : givesV v4 (fAVs a4 fun a => enterM (tabM []) spec table globs 1000 60 23 a [] 0) = true := by kernel_rfl
theorem o4 : m4.2.ok Tryz.prog globs m4.1 := any_of_gives (tabM_ok (okNil)) spec_ok table_ok globs_meth mixed globs_pure (by kernel_rfl) r4
noncomputable def a5 : List AV := [.int .i64 3, .int .i64 8]
noncomputable def v5 : AV := .str [63]
noncomputable def m5 : Nat × ME := (23, .any a5 v5)
set_option maxRecDepth 100000 in
theorem r5 : givesV v5 (fAVs a5 fun a => enterM (tabM []) spec table globs 1000 60 23 a [] 0) = true := by kernel_rfl
theorem o5 : m5.2.ok Tryz.prog globs m5.1 := any_of_gives (tabM_ok (okNil)) spec_ok table_ok globs_meth mixed globs_pure (by kernel_rfl) r5
end Go.Proofs.YtiihhmbpbcnbcaaGreatDoor.victimNames
