/- THE LAW 'CanonNames' SAYS TRUE: ITS RUN, IN THE KERNEL. No condition. -/
import Derived.Test.YtjimmhpohcibhaaGreatDoorCanonNamesBase
namespace Go.Proofs.YtjimmhpohcibhaaGreatDoor.canonNames
open Go.Sy
set_option maxRecDepth 100000 in
theorem runs : saysTrue (enterF spec table globs 1000 60 7 [] [] 0) = true := by kernel_rfl
end Go.Proofs.YtjimmhpohcibhaaGreatDoor.canonNames
