/- THE SEAT'S OWN TABLES: every function of the program, compiled for the run in the kernel. No condition. -/
import Derived.Test.YtjimmhpohcibhaaGreatDoorChecked
import Derived.Test.YtjimmhpohcibhaaGreatDoorSyD
import Derived.WalkKit
namespace Go.Proofs.YtjimmhpohcibhaaGreatDoor
open Go.Sy
theorem own : ownKnob Tryz.prog.godebug = none := by kernel_rfl
theorem mixed : Tryz.prog.follows .mixedOrders = true := by kernel_rfl
noncomputable def pol : Nat → Pol := fun _ => .keep
noncomputable def table : Nat → Option (XF × Pol) := tableF Tryz.prog pol
theorem table_ok : TableOK Tryz.prog table := by
  unfold table
  rw [tableF_eq]
  exact tableOf_ok (by kernel_rfl)
end Go.Proofs.YtjimmhpohcibhaaGreatDoor
