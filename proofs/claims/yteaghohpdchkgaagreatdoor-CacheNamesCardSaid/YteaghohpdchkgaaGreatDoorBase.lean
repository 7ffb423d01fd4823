/- THE SEAT'S OWN TABLES: every function of the program, compiled for the run in the kernel. No condition. -/
import Derived.Test.YteaghohpdchkgaaGreatDoorChecked
import Derived.Test.YteaghohpdchkgaaGreatDoorSyB
import Derived.WalkKit
namespace Go.Proofs.YteaghohpdchkgaaGreatDoor
open Go.Sy
theorem own : ownKnob Tryz.prog.godebug = none := by kernel_rfl
theorem mixed : Tryz.prog.follows .mixedOrders = true := by kernel_rfl
noncomputable def table : Nat → Option (XF × Pol) := tableOf Tryz.prog fun _ => .keep
theorem table_ok : TableOK Tryz.prog table := tableOf_ok (by kernel_rfl)
end Go.Proofs.YteaghohpdchkgaaGreatDoor
