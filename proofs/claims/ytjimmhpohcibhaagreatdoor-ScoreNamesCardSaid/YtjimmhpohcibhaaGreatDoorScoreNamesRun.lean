/- THE LAW 'ScoreNames' SAYS TRUE: ITS RUN, IN THE KERNEL. No condition. -/
import Derived.Test.YtjimmhpohcibhaaGreatDoorBase
namespace Go.Proofs.YtjimmhpohcibhaaGreatDoor.scoreNames
open Go.Sy
set_option maxRecDepth 100000 in
theorem runs : saysTrue (enterF table noGlobals 1000 60 4 [] [] 0) = true := by kernel_rfl
end Go.Proofs.YtjimmhpohcibhaaGreatDoor.scoreNames
