/- THE LAW 'RecordNames' SAYS TRUE: ITS RUN, IN THE KERNEL. No condition. -/
import Derived.Test.YtjimmhpohcibhaaGreatDoorBase2
namespace Go.Proofs.YtjimmhpohcibhaaGreatDoor.recordNames
open Go.Sy
set_option maxRecDepth 100000 in
theorem runs : saysTrue (enterF noSpec table globs 1000 60 8 [] [] 0) = true := by kernel_rfl
end Go.Proofs.YtjimmhpohcibhaaGreatDoor.recordNames
