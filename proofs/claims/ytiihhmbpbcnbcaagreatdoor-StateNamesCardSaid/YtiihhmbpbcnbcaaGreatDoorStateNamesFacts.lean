/- THE ROW'S CLOSED FACTS OF THE LAW 'StateNames'. No condition. -/
import Derived.Test.YtiihhmbpbcnbcaaGreatDoorCards
import Derived.Test.YtiihhmbpbcnbcaaGreatDoorTie
import Derived.JoinedCond
import Derived.KernelRfl
namespace Go.Proofs.YtiihhmbpbcnbcaaGreatDoor.stateNames
open Go
set_option linter.unusedVariables false
theorem both {a b : Bool} (h : a = true) (k : b = true) : (a && b) = true := by rw [h, k]; rfl
theorem prog_eq : Tryz.pinned.checked.prog = Tryz.prog := by kernel_rfl
set_option maxRecDepth 100000 in
set_option maxHeartbeats 4000000 in
theorem closed' : joinedFacts Tryz.prog 7 Tryz.f7 (OpenSpec.ofChange Rows.stateNamesSpec).bare Rows.stateNamesRow = true := by
  unfold joinedFacts
  repeat' with_reducible refine both ?_ ?_
  all_goals as_aux_lemma => kernel_rfl
theorem closed : joinedFacts Tryz.pinned.checked.prog 7 Tryz.f7 (OpenSpec.ofChange Rows.stateNamesSpec).bare Rows.stateNamesRow = true := by
  rw [prog_eq]
  exact closed'
theorem named : Tryz.prog.funcNamed "berthmaster/berthmasterlaw16.StateNames" = some 7 := by kernel_rfl
theorem named' : Tryz.pinned.checked.prog.funcNamed Rows.stateNamesRow.func = some 7 := by rw [prog_eq]; exact named
theorem instance' : decide (Tryz.f7.isInstance Tryz.prog Rows.stateNamesRow.origin Rows.stateNamesRow.targs) = true := by kernel_rfl
theorem inst' : Tryz.f7.isInstance Tryz.pinned.checked.prog Rows.stateNamesRow.origin Rows.stateNamesRow.targs := by rw [prog_eq]; exact of_decide_eq_true instance'
theorem looked : true = Tryz.pinned.checked.prog.looks [] := by kernel_rfl
end Go.Proofs.YtiihhmbpbcnbcaaGreatDoor.stateNames
