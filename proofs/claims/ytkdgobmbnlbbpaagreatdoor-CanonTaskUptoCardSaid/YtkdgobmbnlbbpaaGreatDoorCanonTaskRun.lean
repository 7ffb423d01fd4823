/- THE EXAMPLE THAT THE LAW 'CanonTask' ASKS FIRST SAYS TRUE: ITS RUN, IN THE KERNEL. No condition. -/
import Derived.Test.YtkdgobmbnlbbpaaGreatDoorCanonTaskM1
namespace Go.Proofs.YtkdgobmbnlbbpaaGreatDoor.canonTask
open Go.Sy
variable (mx : Int)
noncomputable def aL : List AV := []
noncomputable def vL : AV := .bool true
noncomputable def mL : Nat × ME := (4, .any aL vL)
set_option maxRecDepth 100000 in
theorem rL : givesV vL (fAVs aL fun a => enterM (tabM [m0]) spec table (globs mx) 1000 60 4 a [] 0) = true := by kernel_rfl
theorem oL : mL.2.ok Tryz.prog (globs mx) mL.1 := any_of_gives (tabM_ok (okCons (o0 mx) (okNil))) (spec_ok mx) table_ok (globs_meth mx) mixed (globs_pure mx) (by kernel_rfl) (rL mx)
end Go.Proofs.YtkdgobmbnlbbpaaGreatDoor.canonTask
