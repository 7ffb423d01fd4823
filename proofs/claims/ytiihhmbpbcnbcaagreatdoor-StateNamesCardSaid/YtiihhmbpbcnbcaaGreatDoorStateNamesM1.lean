/- CALLS OF THE LAW 'StateNames', RUN ONCE IN THE KERNEL AND KNOWN FROM THERE ON: part 1. No condition. -/
import Derived.Test.YtiihhmbpbcnbcaaGreatDoorStateNamesBase
namespace Go.Proofs.YtiihhmbpbcnbcaaGreatDoor.stateNames
open Go.Sy
noncomputable def a0 : List AV := [.str [106, 111, 98, 32, 119, 101, 98, 32, 117, 115, 101, 114, 61, 97, 110, 110, 32, 98, 97, 110, 100, 61, 112, 114, 111, 100, 32, 99, 112, 117, 61, 53]]
noncomputable def v0 : AV := .tup [.lst 13 [.agg [.int .i64 1, .str [119, 101, 98], .str [97, 110, 110], .int .i64 2, .int .i64 1, .int .i64 1, .str [], .int .i64 5, .int .i64 0, .int .i64 0, .int .i64 0, .lst 6 [.agg [.int .i64 1, .str [], .str [], .int .i64 0, .int .i64 (-1), .int .i64 (-1)]], .int .i64 0]], .agg [.int .i64 0, .int .i64 0]]
noncomputable def m0 : Nat × ME := (68, .any a0 v0)
set_option maxRecDepth 100000 in
theorem r0 : givesV v0 (fAVs a0 fun a => enterM (tabM []) spec table globs 1000 60 68 a [] 0) = true := by kernel_rfl
theorem o0 : m0.2.ok Tryz.prog globs m0.1 := any_of_gives (tabM_ok (okNil)) spec_ok table_ok globs_meth mixed globs_pure (by kernel_rfl) r0
noncomputable def a1 : List AV := [.agg [.int .i64 5, .str [], .int .i64 0, .int .i64 0, .int .i64 0, .int .i64 0, .int .i64 0, .nilslice, .int .i64 1, .str [119, 101, 98], .str [97, 110, 110], .int .i64 2, .int .i64 1, .int .i64 1, .str [], .int .i64 5, .int .i64 0, .int .i64 0, .int .i64 0, .lst 6 [.agg [.int .i64 1, .str [], .str [], .int .i64 0, .int .i64 (-1), .int .i64 (-1)]], .int .i64 0, .str [], .int .i64 0, .str [], .int .i64 0, .str [], .str [], .int .u64 0, .int .u64 0, .int .i64 0, .bool false]]
noncomputable def v1 : AV := .int .i64 0
noncomputable def m1 : Nat × ME := (92, .any a1 v1)
set_option maxRecDepth 100000 in
theorem r1 : givesV v1 (fAVs a1 fun a => enterM (tabM []) spec table globs 1000 60 92 a [] 0) = true := by kernel_rfl
theorem o1 : m1.2.ok Tryz.prog globs m1.1 := any_of_gives (tabM_ok (okNil)) spec_ok table_ok globs_meth mixed globs_pure (by kernel_rfl) r1
noncomputable def a2 : List AV := [.agg [.int .u64 1, .int .u64 0, .lst 10 [.agg [.str [109], .int .i64 10, .int .i64 0, .int .i64 0, .int .i64 0, .nilslice, .bool false, .bool true, .int .u64 1, .int .u64 0]], .lst 22 [.agg [.int .i64 1, .str [119, 101, 98], .str [97, 110, 110], .int .i64 2, .int .i64 1, .int .i64 1, .str [], .int .i64 5, .int .i64 0, .int .i64 0, .int .i64 0, .lst 6 [.agg [.int .i64 1, .str [], .str [], .int .i64 0, .int .i64 (-1), .int .i64 (-1)]], .int .i64 0, .bool false, .bool false, .bool false, .int .i64 0, .int .i64 0, .int .i64 0, .int .i64 0, .int .i64 0, .lst 11 [.agg [.int .i64 1, .str [], .str [], .int .u64 0, .int .i64 0, .int .i64 0, .int .i64 0, .int .i64 0, .bool false, .int .i64 0, .int .i64 0]]]], .lst 6 [.agg [.str [97, 110, 110], .int .i64 2, .int .i64 5, .int .i64 0, .int .i64 0, .int .i64 0]]], .agg [.int .i64 10, .str [], .int .i64 0, .int .i64 0, .int .i64 0, .int .i64 0, .int .i64 0, .nilslice, .int .i64 0, .str [], .str [], .int .i64 0, .int .i64 0, .int .i64 0, .str [], .int .i64 0, .int .i64 0, .int .i64 0, .int .i64 0, .nilslice, .int .i64 0, .str [119, 101, 98], .int .i64 0, .str [], .int .i64 0, .str [109], .str [], .int .u64 1, .int .u64 0, .int .i64 0, .bool false]]
noncomputable def v2 : AV := .tup [.agg [.int .u64 1, .int .u64 1, .lst 10 [.agg [.str [109], .int .i64 10, .int .i64 0, .int .i64 0, .int .i64 0, .nilslice, .bool false, .bool true, .int .u64 1, .int .u64 0]], .lst 22 [.agg [.int .i64 1, .str [119, 101, 98], .str [97, 110, 110], .int .i64 2, .int .i64 1, .int .i64 1, .str [], .int .i64 5, .int .i64 0, .int .i64 0, .int .i64 0, .lst 6 [.agg [.int .i64 1, .str [], .str [], .int .i64 0, .int .i64 (-1), .int .i64 (-1)]], .int .i64 0, .bool false, .bool false, .bool false, .int .i64 0, .int .i64 0, .int .i64 0, .int .i64 0, .int .i64 0, .lst 11 [.agg [.int .i64 2, .str [109], .str [], .int .u64 1, .int .i64 5, .int .i64 0, .int .i64 0, .int .i64 0, .bool false, .int .i64 0, .int .i64 0]]]], .lst 6 [.agg [.str [97, 110, 110], .int .i64 2, .int .i64 5, .int .i64 0, .int .i64 0, .int .i64 0]]], .int .i64 0]
noncomputable def m2 : Nat × ME := (67, .any a2 v2)
set_option maxRecDepth 100000 in
theorem r2 : givesV v2 (fAVs a2 fun a => enterM (tabM []) spec table globs 1000 60 67 a [] 0) = true := by kernel_rfl
theorem o2 : m2.2.ok Tryz.prog globs m2.1 := any_of_gives (tabM_ok (okNil)) spec_ok table_ok globs_meth mixed globs_pure (by kernel_rfl) r2
noncomputable def a3 : List AV := []
noncomputable def v3 : AV := .bool true
noncomputable def m3 : Nat × ME := (30, .any a3 v3)
set_option maxRecDepth 100000 in
theorem r3 : givesV v3 (fAVs a3 fun a => enterM (tabM [m0, m1, m2]) spec table globs 1000 60 30 a [] 0) = true := by kernel_rfl
theorem o3 : m3.2.ok Tryz.prog globs m3.1 := any_of_gives (tabM_ok (okCons o0 (okCons o1 (okCons o2 (okNil))))) spec_ok table_ok globs_meth mixed globs_pure (by kernel_rfl) r3
noncomputable def a4 : List AV := [.agg [.int .u64 1, .int .u64 1, .lst 10 [.agg [.str [109], .int .i64 10, .int .i64 0, .int .i64 0, .int .i64 0, .nilslice, .bool false, .bool true, .int .u64 1, .int .u64 0]], .lst 22 [.agg [.int .i64 1, .str [119, 101, 98], .str [97, 110, 110], .int .i64 2, .int .i64 1, .int .i64 1, .str [], .int .i64 5, .int .i64 0, .int .i64 0, .int .i64 0, .lst 6 [.agg [.int .i64 1, .str [], .str [], .int .i64 0, .int .i64 (-1), .int .i64 (-1)]], .int .i64 0, .bool false, .bool false, .bool false, .int .i64 0, .int .i64 0, .int .i64 0, .int .i64 0, .int .i64 0, .lst 11 [.agg [.int .i64 2, .str [109], .str [], .int .u64 1, .int .i64 5, .int .i64 0, .int .i64 0, .int .i64 0, .bool false, .int .i64 0, .int .i64 0]]]], .lst 6 [.agg [.str [97, 110, 110], .int .i64 2, .int .i64 5, .int .i64 0, .int .i64 0, .int .i64 0]]], .agg [.int .i64 10, .str [], .int .i64 0, .int .i64 0, .int .i64 0, .int .i64 0, .int .i64 0, .nilslice, .int .i64 0, .str [], .str [], .int .i64 0, .int .i64 0, .int .i64 0, .str [], .int .i64 0, .int .i64 0, .int .i64 0, .int .i64 0, .nilslice, .int .i64 0, .str [119, 101, 98], .int .i64 0, .str [], .int .i64 0, .str [109], .str [], .int .u64 2, .int .u64 0, .int .i64 0, .bool false]]
noncomputable def v4 : AV := .tup [.agg [.int .u64 0, .int .u64 0, .nilslice, .nilslice, .nilslice], .int .i64 13]
noncomputable def m4 : Nat × ME := (67, .any a4 v4)
set_option maxRecDepth 100000 in
theorem r4 : givesV v4 (fAVs a4 fun a => enterM (tabM []) spec table globs 1000 60 67 a [] 0) = true := by kernel_rfl
theorem o4 : m4.2.ok Tryz.prog globs m4.1 := any_of_gives (tabM_ok (okNil)) spec_ok table_ok globs_meth mixed globs_pure (by kernel_rfl) r4
noncomputable def a5 : List AV := [.agg [.int .u64 1, .int .u64 1, .lst 10 [.agg [.str [109], .int .i64 10, .int .i64 0, .int .i64 0, .int .i64 0, .nilslice, .bool false, .bool true, .int .u64 1, .int .u64 0]], .lst 22 [.agg [.int .i64 1, .str [119, 101, 98], .str [97, 110, 110], .int .i64 2, .int .i64 1, .int .i64 1, .str [], .int .i64 5, .int .i64 0, .int .i64 0, .int .i64 0, .lst 6 [.agg [.int .i64 1, .str [], .str [], .int .i64 0, .int .i64 (-1), .int .i64 (-1)]], .int .i64 0, .bool false, .bool false, .bool false, .int .i64 0, .int .i64 0, .int .i64 0, .int .i64 0, .int .i64 0, .lst 11 [.agg [.int .i64 2, .str [109], .str [], .int .u64 1, .int .i64 5, .int .i64 0, .int .i64 0, .int .i64 0, .bool true, .int .i64 0, .int .i64 0]]]], .lst 6 [.agg [.str [97, 110, 110], .int .i64 2, .int .i64 5, .int .i64 0, .int .i64 0, .int .i64 0]]]]
noncomputable def v5 : AV := .int .i64 0
noncomputable def m5 : Nat × ME := (66, .any a5 v5)
set_option maxRecDepth 100000 in
theorem r5 : givesV v5 (fAVs a5 fun a => enterM (tabM []) spec table globs 1000 60 66 a [] 0) = true := by kernel_rfl
theorem o5 : m5.2.ok Tryz.prog globs m5.1 := any_of_gives (tabM_ok (okNil)) spec_ok table_ok globs_meth mixed globs_pure (by kernel_rfl) r5
noncomputable def a6 : List AV := [.agg [.int .u64 1, .int .u64 1, .lst 10 [.agg [.str [109], .int .i64 10, .int .i64 0, .int .i64 0, .int .i64 0, .nilslice, .bool false, .bool true, .int .u64 1, .int .u64 0]], .lst 22 [.agg [.int .i64 1, .str [119, 101, 98], .str [97, 110, 110], .int .i64 2, .int .i64 1, .int .i64 1, .str [], .int .i64 5, .int .i64 0, .int .i64 0, .int .i64 0, .lst 6 [.agg [.int .i64 1, .str [], .str [], .int .i64 0, .int .i64 (-1), .int .i64 (-1)]], .int .i64 0, .bool true, .bool false, .bool false, .int .i64 0, .int .i64 0, .int .i64 0, .int .i64 0, .int .i64 0, .lst 11 [.agg [.int .i64 2, .str [109], .str [], .int .u64 1, .int .i64 5, .int .i64 0, .int .i64 0, .int .i64 0, .bool true, .int .i64 1, .int .i64 0]]]], .lst 6 [.agg [.str [97, 110, 110], .int .i64 2, .int .i64 5, .int .i64 0, .int .i64 0, .int .i64 0]]]]
noncomputable def v6 : AV := .int .i64 0
noncomputable def m6 : Nat × ME := (66, .any a6 v6)
set_option maxRecDepth 100000 in
theorem r6 : givesV v6 (fAVs a6 fun a => enterM (tabM []) spec table globs 1000 60 66 a [] 0) = true := by kernel_rfl
theorem o6 : m6.2.ok Tryz.prog globs m6.1 := any_of_gives (tabM_ok (okNil)) spec_ok table_ok globs_meth mixed globs_pure (by kernel_rfl) r6
noncomputable def a7 : List AV := [.agg [.int .u64 1, .int .u64 1, .lst 10 [.agg [.str [109], .int .i64 10, .int .i64 0, .int .i64 0, .int .i64 0, .nilslice, .bool false, .bool true, .int .u64 1, .int .u64 0]], .lst 22 [.agg [.int .i64 1, .str [119, 101, 98], .str [97, 110, 110], .int .i64 2, .int .i64 1, .int .i64 1, .str [], .int .i64 5, .int .i64 0, .int .i64 0, .int .i64 0, .lst 6 [.agg [.int .i64 1, .str [], .str [], .int .i64 0, .int .i64 (-1), .int .i64 (-1)]], .int .i64 0, .bool true, .bool false, .bool false, .int .i64 0, .int .i64 0, .int .i64 0, .int .i64 0, .int .i64 0, .lst 11 [.agg [.int .i64 2, .str [109], .str [], .int .u64 1, .int .i64 5, .int .i64 0, .int .i64 0, .int .i64 0, .bool true, .int .i64 1, .int .i64 0]]]], .lst 6 [.agg [.str [97, 110, 110], .int .i64 2, .int .i64 5, .int .i64 0, .int .i64 0, .int .i64 0]]], .agg [.int .i64 14, .str [109], .int .i64 0, .int .i64 0, .int .i64 0, .int .i64 0, .int .i64 0, .nilslice, .int .i64 0, .str [], .str [], .int .i64 0, .int .i64 0, .int .i64 0, .str [], .int .i64 0, .int .i64 0, .int .i64 0, .int .i64 0, .nilslice, .int .i64 0, .str [119, 101, 98], .int .i64 0, .str [], .int .i64 0, .str [], .str [], .int .u64 1, .int .u64 1, .int .i64 256, .bool false]]
noncomputable def v7 : AV := .tup [.agg [.int .u64 1, .int .u64 1, .lst 10 [.agg [.str [109], .int .i64 10, .int .i64 0, .int .i64 0, .int .i64 0, .nilslice, .bool false, .bool true, .int .u64 1, .int .u64 1]], .lst 22 [], .lst 6 [.agg [.str [97, 110, 110], .int .i64 2, .int .i64 5, .int .i64 0, .int .i64 0, .int .i64 0]]], .int .i64 0]
noncomputable def m7 : Nat × ME := (67, .any a7 v7)
set_option maxRecDepth 100000 in
theorem r7 : givesV v7 (fAVs a7 fun a => enterM (tabM []) spec table globs 1000 60 67 a [] 0) = true := by kernel_rfl
theorem o7 : m7.2.ok Tryz.prog globs m7.1 := any_of_gives (tabM_ok (okNil)) spec_ok table_ok globs_meth mixed globs_pure (by kernel_rfl) r7
noncomputable def a8 : List AV := []
noncomputable def v8 : AV := .bool true
noncomputable def m8 : Nat × ME := (7, .any a8 v8)
set_option maxRecDepth 100000 in
theorem r8 : givesV v8 (fAVs a8 fun a => enterM (tabM [m0, m1, m2, m3, m4, m5, m6, m7]) spec table globs 1000 60 7 a [] 0) = true := by kernel_rfl
theorem o8 : m8.2.ok Tryz.prog globs m8.1 := any_of_gives (tabM_ok (okCons o0 (okCons o1 (okCons o2 (okCons o3 (okCons o4 (okCons o5 (okCons o6 (okCons o7 (okNil)))))))))) spec_ok table_ok globs_meth mixed globs_pure (by kernel_rfl) r8
end Go.Proofs.YtiihhmbpbcnbcaaGreatDoor.stateNames
