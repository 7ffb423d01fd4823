/- THE LAW 'CacheNames' SAYS TRUE: ITS RUN, IN THE KERNEL. No condition. -/
import Derived.Test.YteaghohpdchkgaaGreatDoorBase
namespace Go.Proofs.YteaghohpdchkgaaGreatDoor.cacheNames
open Go.Sy
set_option maxRecDepth 100000 in
theorem runs : saysTrue (enter table noGlobals 1000 60 4 [] [] 0) = true := by kernel_rfl
end Go.Proofs.YteaghohpdchkgaaGreatDoor.cacheNames
