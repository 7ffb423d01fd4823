/- THE LAW 'SpecNames' SAYS TRUE: ITS RUN, IN THE KERNEL. No condition. -/
import Derived.Test.YtjimmhpohcibhaaGreatDoorBase3
namespace Go.Proofs.YtjimmhpohcibhaaGreatDoor.specNames
open Go.Sy
set_option maxRecDepth 100000 in
theorem runs : saysTrue (enterF spec table globs 1000 60 3 [] [] 0) = true := by kernel_rfl
end Go.Proofs.YtjimmhpohcibhaaGreatDoor.specNames
