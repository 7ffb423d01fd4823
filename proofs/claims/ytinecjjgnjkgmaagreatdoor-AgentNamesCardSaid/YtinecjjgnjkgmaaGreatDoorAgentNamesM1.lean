/- CALLS OF THE LAW 'AgentNames', RUN ONCE IN THE KERNEL AND KNOWN FROM THERE ON: part 1. No condition. -/
import Derived.Test.YtinecjjgnjkgmaaGreatDoorAgentNamesBase
namespace Go.Proofs.YtinecjjgnjkgmaaGreatDoor.agentNames
open Go.Sy
variable (mx : Int)
noncomputable def a0 : List AV := []
noncomputable def v0 : AV := .bool true
noncomputable def m0 : Nat × ME := (5, .any a0 v0)
set_option maxRecDepth 100000 in
theorem r0 : givesV v0 (fAVs a0 fun a => enterM (tabM []) (spec mx) table (globs mx) 1000 60 5 a [] 0) = true := by kernel_rfl
theorem o0 : m0.2.ok Tryz.prog (globs mx) m0.1 := any_of_gives (tabM_ok (okNil)) (spec_ok mx) table_ok (globs_meth mx) mixed (globs_pure mx) (by kernel_rfl) (r0 mx)
noncomputable def a1 : List AV := []
noncomputable def v1 : AV := .bool true
noncomputable def m1 : Nat × ME := (3, .any a1 v1)
set_option maxRecDepth 100000 in
theorem r1 : givesV v1 (fAVs a1 fun a => enterM (tabM [m0]) (spec mx) table (globs mx) 1000 60 3 a [] 0) = true := by kernel_rfl
theorem o1 : m1.2.ok Tryz.prog (globs mx) m1.1 := any_of_gives (tabM_ok (okCons (o0 mx) (okNil))) (spec_ok mx) table_ok (globs_meth mx) mixed (globs_pure mx) (by kernel_rfl) (r1 mx)
end Go.Proofs.YtinecjjgnjkgmaaGreatDoor.agentNames
