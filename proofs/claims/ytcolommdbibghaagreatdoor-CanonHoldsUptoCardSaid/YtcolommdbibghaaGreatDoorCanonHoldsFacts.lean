/- THE ROW'S CLOSED FACTS OF THE LAW 'CanonHolds'. No condition. -/
import Derived.Test.YtcolommdbibghaaGreatDoorCards
import Derived.Test.YtcolommdbibghaaGreatDoorTie
import Derived.JoinedCond
import Derived.KernelRfl
namespace Go.Proofs.YtcolommdbibghaaGreatDoor.canonHolds
open Go
set_option linter.unusedVariables false
theorem both{a b : Bool}(h : a = true)(k : b = true) : (a && b) = true := by rw[h, k]; rfl
theorem zNX : Tryz.pinned.checked.prog = Tryz.prog := by kernel_rfl
set_option maxRecDepth 100000 in
set_option maxHeartbeats 4000000 in
theorem zYa : joinedFacts Tryz.prog 4 Tryz.f4 (Rows.OpenSpec.upto Rows.canonHoldsSpec).bare Rows.canonHoldsUptoRow = true := by
  unfold joinedFacts
  repeat' with_reducible refine both ?_ ?_
  all_goals as_aux_lemma => kernel_rfl
theorem closed : joinedFacts Tryz.pinned.checked.prog 4 Tryz.f4 (Rows.OpenSpec.upto Rows.canonHoldsSpec).bare Rows.canonHoldsUptoRow = true := by
  rw[zNX];exact zYa
theorem named : Tryz.prog.funcNamed "berthmaster/berthmasterlaw13.CanonHolds" = some 4 := by kernel_rfl
theorem zZg : Tryz.pinned.checked.prog.funcNamed Rows.canonHoldsUptoRow.func = some 4 := by rw[zNX]; exact named
theorem zVb : decide (Tryz.f4.isInstance Tryz.prog Rows.canonHoldsUptoRow.origin Rows.canonHoldsUptoRow.targs) = true := by kernel_rfl
theorem zad : Tryz.f4.isInstance Tryz.pinned.checked.prog Rows.canonHoldsUptoRow.origin Rows.canonHoldsUptoRow.targs := by rw[zNX]; exact of_decide_eq_true zVb
theorem looked : true = Tryz.pinned.checked.prog.looks [] := by kernel_rfl
end Go.Proofs.YtcolommdbibghaaGreatDoor.canonHolds
