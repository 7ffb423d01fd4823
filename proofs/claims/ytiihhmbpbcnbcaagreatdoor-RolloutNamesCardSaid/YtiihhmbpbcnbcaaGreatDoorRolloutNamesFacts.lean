/- THE ROW'S CLOSED FACTS OF THE LAW 'RolloutNames'. No condition. -/
import Derived.Test.YtiihhmbpbcnbcaaGreatDoorCards
import Derived.Test.YtiihhmbpbcnbcaaGreatDoorTie
import Derived.JoinedCond
import Derived.KernelRfl
namespace Go.Proofs.YtiihhmbpbcnbcaaGreatDoor.rolloutNames
open Go
set_option linter.unusedVariables false
theorem both {a b : Bool} (h : a = true) (k : b = true) : (a && b) = true := by rw [h, k]; rfl
theorem prog_eq : Tryz.pinned.checked.prog = Tryz.prog := by kernel_rfl
set_option maxRecDepth 100000 in
set_option maxHeartbeats 4000000 in
theorem closed' : joinedFacts Tryz.prog 6 Tryz.f6 (OpenSpec.ofChange Rows.rolloutNamesSpec).bare Rows.rolloutNamesRow = true := by
  unfold joinedFacts
  repeat' with_reducible refine both ?_ ?_
  all_goals as_aux_lemma => kernel_rfl
theorem closed : joinedFacts Tryz.pinned.checked.prog 6 Tryz.f6 (OpenSpec.ofChange Rows.rolloutNamesSpec).bare Rows.rolloutNamesRow = true := by
  rw [prog_eq]
  exact closed'
theorem named : Tryz.prog.funcNamed "berthmaster/berthmasterlaw23.RolloutNames" = some 6 := by kernel_rfl
theorem named' : Tryz.pinned.checked.prog.funcNamed Rows.rolloutNamesRow.func = some 6 := by rw [prog_eq]; exact named
theorem instance' : decide (Tryz.f6.isInstance Tryz.prog Rows.rolloutNamesRow.origin Rows.rolloutNamesRow.targs) = true := by kernel_rfl
theorem inst' : Tryz.f6.isInstance Tryz.pinned.checked.prog Rows.rolloutNamesRow.origin Rows.rolloutNamesRow.targs := by rw [prog_eq]; exact of_decide_eq_true instance'
theorem looked : true = Tryz.pinned.checked.prog.looks [] := by kernel_rfl
end Go.Proofs.YtiihhmbpbcnbcaaGreatDoor.rolloutNames
