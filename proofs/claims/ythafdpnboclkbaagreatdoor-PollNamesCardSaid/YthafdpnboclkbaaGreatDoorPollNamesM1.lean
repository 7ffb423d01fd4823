/- CALLS OF THE LAW 'PollNames', RUN ONCE IN THE KERNEL AND KNOWN FROM THERE ON: part 1. No condition. -/
import Derived.Test.YthafdpnboclkbaaGreatDoorPollNamesBase
namespace Go.Proofs.YthafdpnboclkbaaGreatDoor.pollNames
open Go.Sy
variable (mx : Int)
noncomputable def a0 : List AV := [.agg [.int .u64 1, .int .u64 4, .lst 10 [.agg [.str [109], .int .i64 10, .int .i64 0, .int .i64 0, .int .i64 0, .nilslice, .bool true, .bool true, .int .u64 1, .int .u64 0]], .lst 22 [.agg [.int .i64 1, .str [119, 101, 98], .str [97, 110, 110], .int .i64 0, .int .i64 2, .int .i64 1, .str [], .int .i64 5, .int .i64 0, .int .i64 0, .int .i64 0, .lst 6 [.agg [.int .i64 1, .str [], .str [], .int .i64 0, .int .i64 (-1), .int .i64 (-1)]], .int .i64 0, .bool false, .bool false, .bool false, .int .i64 0, .int .i64 0, .int .i64 0, .int .i64 0, .int .i64 0, .lst 11 [.agg [.int .i64 2, .str [109], .str [], .int .u64 3, .int .i64 5, .int .i64 0, .int .i64 0, .int .i64 0, .bool false, .int .i64 0, .int .i64 0], .agg [.int .i64 2, .str [109], .str [], .int .u64 4, .int .i64 5, .int .i64 0, .int .i64 0, .int .i64 0, .bool false, .int .i64 4, .int .i64 4]]]], .nilslice]]
noncomputable def v0 : AV := .int .i64 0
noncomputable def m0 : Nat × ME := (28, .any a0 v0)
set_option maxRecDepth 100000 in
theorem r0 : givesV v0 (fAVs a0 fun a => enterM (tabM []) (spec mx) table (globs mx) 1000 60 28 a [] 0) = true := by kernel_rfl
theorem o0 : m0.2.ok Tryz.prog (globs mx) m0.1 := any_of_gives (tabM_ok (okNil)) (spec_ok mx) table_ok (globs_meth mx) mixed (globs_pure mx) (by kernel_rfl) (r0 mx)
noncomputable def a1 : List AV := [.agg [.int .u64 1, .int .u64 4, .lst 10 [.agg [.str [109], .int .i64 10, .int .i64 0, .int .i64 0, .int .i64 0, .nilslice, .bool true, .bool true, .int .u64 1, .int .u64 1]], .lst 22 [.agg [.int .i64 1, .str [119, 101, 98], .str [97, 110, 110], .int .i64 0, .int .i64 2, .int .i64 1, .str [], .int .i64 5, .int .i64 0, .int .i64 0, .int .i64 0, .lst 6 [.agg [.int .i64 1, .str [], .str [], .int .i64 0, .int .i64 (-1), .int .i64 (-1)]], .int .i64 0, .bool false, .bool false, .bool false, .int .i64 0, .int .i64 0, .int .i64 0, .int .i64 0, .int .i64 0, .lst 11 [.agg [.int .i64 2, .str [109], .str [], .int .u64 3, .int .i64 5, .int .i64 0, .int .i64 0, .int .i64 0, .bool false, .int .i64 0, .int .i64 0], .agg [.int .i64 1, .str [], .str [], .int .u64 4, .int .i64 0, .int .i64 0, .int .i64 0, .int .i64 0, .bool false, .int .i64 0, .int .i64 4]]]], .nilslice]]
noncomputable def v1 : AV := .int .i64 0
noncomputable def m1 : Nat × ME := (28, .any a1 v1)
set_option maxRecDepth 100000 in
theorem r1 : givesV v1 (fAVs a1 fun a => enterM (tabM []) (spec mx) table (globs mx) 1000 60 28 a [] 0) = true := by kernel_rfl
theorem o1 : m1.2.ok Tryz.prog (globs mx) m1.1 := any_of_gives (tabM_ok (okNil)) (spec_ok mx) table_ok (globs_meth mx) mixed (globs_pure mx) (by kernel_rfl) (r1 mx)
noncomputable def a2 : List AV := [.agg [.int .u64 1, .int .u64 4, .lst 10 [.agg [.str [109], .int .i64 10, .int .i64 0, .int .i64 0, .int .i64 0, .nilslice, .bool true, .bool true, .int .u64 1, .int .u64 0]], .lst 22 [.agg [.int .i64 1, .str [119, 101, 98], .str [97, 110, 110], .int .i64 0, .int .i64 2, .int .i64 1, .str [], .int .i64 5, .int .i64 0, .int .i64 0, .int .i64 0, .lst 6 [.agg [.int .i64 1, .str [], .str [], .int .i64 0, .int .i64 (-1), .int .i64 (-1)]], .int .i64 0, .bool false, .bool false, .bool false, .int .i64 0, .int .i64 0, .int .i64 0, .int .i64 0, .int .i64 0, .lst 11 [.agg [.int .i64 2, .str [109], .str [], .int .u64 3, .int .i64 5, .int .i64 0, .int .i64 0, .int .i64 0, .bool true, .int .i64 0, .int .i64 0], .agg [.int .i64 2, .str [109], .str [], .int .u64 4, .int .i64 5, .int .i64 0, .int .i64 0, .int .i64 0, .bool false, .int .i64 4, .int .i64 4]]]], .nilslice]]
noncomputable def v2 : AV := .int .i64 0
noncomputable def m2 : Nat × ME := (28, .any a2 v2)
set_option maxRecDepth 100000 in
theorem r2 : givesV v2 (fAVs a2 fun a => enterM (tabM []) (spec mx) table (globs mx) 1000 60 28 a [] 0) = true := by kernel_rfl
theorem o2 : m2.2.ok Tryz.prog (globs mx) m2.1 := any_of_gives (tabM_ok (okNil)) (spec_ok mx) table_ok (globs_meth mx) mixed (globs_pure mx) (by kernel_rfl) (r2 mx)
noncomputable def a3 : List AV := []
noncomputable def v3 : AV := .bool true
noncomputable def m3 : Nat × ME := (3, .any a3 v3)
set_option maxRecDepth 100000 in
theorem r3 : givesV v3 (fAVs a3 fun a => enterM (tabM [m0, m1, m2]) (spec mx) table (globs mx) 1000 60 3 a [] 0) = true := by kernel_rfl
theorem o3 : m3.2.ok Tryz.prog (globs mx) m3.1 := any_of_gives (tabM_ok (okCons (o0 mx) (okCons (o1 mx) (okCons (o2 mx) (okNil))))) (spec_ok mx) table_ok (globs_meth mx) mixed (globs_pure mx) (by kernel_rfl) (r3 mx)
end Go.Proofs.YthafdpnboclkbaaGreatDoor.pollNames
