/- THE ROW'S CLOSED FACTS OF THE LAW 'ScoreBounds'. No condition. -/
import Derived.Test.YthiefohjkbdjeaaGreatDoorCards
import Derived.Test.YthiefohjkbdjeaaGreatDoorTie
import Derived.JoinedCond
import Derived.KernelRfl
namespace Go.Proofs.YthiefohjkbdjeaaGreatDoor.scoreBounds
open Go
set_option linter.unusedVariables false
theorem both {a b : Bool} (h : a = true) (k : b = true) : (a && b) = true := by rw [h, k]; rfl
theorem prog_eq : Tryz.pinned.checked.prog = Tryz.prog := by kernel_rfl
set_option maxRecDepth 100000 in
set_option maxHeartbeats 4000000 in
theorem closed' : joinedFacts Tryz.prog 4 Tryz.f4 (Rows.OpenSpec.upto Rows.scoreBoundsSpec).bare Rows.scoreBoundsUptoRow = true := by
  unfold joinedFacts
  repeat' with_reducible refine both ?_ ?_
  all_goals as_aux_lemma => kernel_rfl
theorem closed : joinedFacts Tryz.pinned.checked.prog 4 Tryz.f4 (Rows.OpenSpec.upto Rows.scoreBoundsSpec).bare Rows.scoreBoundsUptoRow = true := by
  rw [prog_eq]
  exact closed'
theorem named : Tryz.prog.funcNamed "berthmaster/berthmasterlaw18.ScoreBounds" = some 4 := by kernel_rfl
theorem named' : Tryz.pinned.checked.prog.funcNamed Rows.scoreBoundsUptoRow.func = some 4 := by rw [prog_eq]; exact named
theorem instance' : decide (Tryz.f4.isInstance Tryz.prog Rows.scoreBoundsUptoRow.origin Rows.scoreBoundsUptoRow.targs) = true := by kernel_rfl
theorem inst' : Tryz.f4.isInstance Tryz.pinned.checked.prog Rows.scoreBoundsUptoRow.origin Rows.scoreBoundsUptoRow.targs := by rw [prog_eq]; exact of_decide_eq_true instance'
theorem looked : true = Tryz.pinned.checked.prog.looks [] := by kernel_rfl
end Go.Proofs.YthiefohjkbdjeaaGreatDoor.scoreBounds
