/- THE EXAMPLE THAT THE LAW 'CacheBound' ASKS FIRST SAYS TRUE: ITS RUN, IN THE KERNEL. No condition. -/
import Derived.Test.YtmmmpgnkglhkjaaGreatDoorCacheBoundBase
namespace Go.Proofs.YtmmmpgnkglhkjaaGreatDoor.cacheBound
open Go.Sy
noncomputable def aL : List AV := []
noncomputable def vL : AV := .bool true
noncomputable def mL : Nat × ME := (4, .any aL vL)
set_option maxRecDepth 100000 in
theorem rL : givesV vL (fAVs aL fun a => enterM (tabM []) spec table globs 1000 60 4 a [] 0) = true := by kernel_rfl
theorem oL : mL.2.ok Tryz.prog globs mL.1 := any_of_gives (tabM_ok (okNil)) spec_ok table_ok globs_meth mixed globs_pure (by kernel_rfl) rL
end Go.Proofs.YtmmmpgnkglhkjaaGreatDoor.cacheBound
