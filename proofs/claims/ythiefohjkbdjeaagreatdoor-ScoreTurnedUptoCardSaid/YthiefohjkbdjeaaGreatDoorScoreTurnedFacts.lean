/- THE ROW'S CLOSED FACTS OF THE LAW 'ScoreTurned'. No condition. -/
import Derived.Test.YthiefohjkbdjeaaGreatDoorCards
import Derived.Test.YthiefohjkbdjeaaGreatDoorTie
import Derived.JoinedCond
import Derived.KernelRfl
namespace Go.Proofs.YthiefohjkbdjeaaGreatDoor.scoreTurned
open Go
set_option linter.unusedVariables false
theorem both {a b : Bool} (h : a = true) (k : b = true) : (a && b) = true := by rw [h, k]; rfl
theorem zMt : Tryz.pinned.checked.prog = Tryz.prog := by kernel_rfl
set_option maxRecDepth 100000 in
set_option maxHeartbeats 4000000 in
theorem closed' : joinedFacts Tryz.prog 5 Tryz.f5 (Rows.OpenSpec.upto Rows.scoreTurnedSpec).bare Rows.scoreTurnedUptoRow = true := by
  unfold joinedFacts
  repeat' with_reducible refine both ?_ ?_
  all_goals as_aux_lemma => kernel_rfl
theorem closed : joinedFacts Tryz.pinned.checked.prog 5 Tryz.f5 (Rows.OpenSpec.upto Rows.scoreTurnedSpec).bare Rows.scoreTurnedUptoRow = true := by
  rw [zMt];exact closed'
theorem named : Tryz.prog.funcNamed "berthmaster/berthmasterlaw18.ScoreTurned" = some 5 := by kernel_rfl
theorem named' : Tryz.pinned.checked.prog.funcNamed Rows.scoreTurnedUptoRow.func = some 5 := by rw [zMt]; exact named
theorem instance' : decide (Tryz.f5.isInstance Tryz.prog Rows.scoreTurnedUptoRow.origin Rows.scoreTurnedUptoRow.targs) = true := by kernel_rfl
theorem inst' : Tryz.f5.isInstance Tryz.pinned.checked.prog Rows.scoreTurnedUptoRow.origin Rows.scoreTurnedUptoRow.targs := by rw [zMt]; exact of_decide_eq_true instance'
theorem looked : true = Tryz.pinned.checked.prog.looks [] := by kernel_rfl
end Go.Proofs.YthiefohjkbdjeaaGreatDoor.scoreTurned
