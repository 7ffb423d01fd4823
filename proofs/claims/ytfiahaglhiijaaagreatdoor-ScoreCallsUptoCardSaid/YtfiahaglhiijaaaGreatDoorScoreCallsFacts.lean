/- THE ROW'S CLOSED FACTS OF THE LAW 'ScoreCalls'. No condition. -/
import Derived.Test.YtfiahaglhiijaaaGreatDoorCards
import Derived.Test.YtfiahaglhiijaaaGreatDoorTie
import Derived.JoinedCond
import Derived.KernelRfl
namespace Go.Proofs.YtfiahaglhiijaaaGreatDoor.scoreCalls
open Go
set_option linter.unusedVariables false
theorem both {a b : Bool} (h : a = true) (k : b = true) : (a && b) = true := by rw [h, k]; rfl
theorem prog_eq : Tryz.pinned.checked.prog = Tryz.prog := by kernel_rfl
set_option maxRecDepth 100000 in
set_option maxHeartbeats 4000000 in
theorem closed' : joinedFacts Tryz.prog 3 Tryz.f3 (Rows.OpenSpec.upto Rows.scoreCallsSpec).bare Rows.scoreCallsUptoRow = true := by
  unfold joinedFacts
  repeat' with_reducible refine both ?_ ?_
  all_goals as_aux_lemma => kernel_rfl
theorem closed : joinedFacts Tryz.pinned.checked.prog 3 Tryz.f3 (Rows.OpenSpec.upto Rows.scoreCallsSpec).bare Rows.scoreCallsUptoRow = true := by
  rw [prog_eq]
  exact closed'
theorem named : Tryz.prog.funcNamed "berthmaster/berthmasterlaw18.ScoreCalls" = some 3 := by kernel_rfl
theorem named' : Tryz.pinned.checked.prog.funcNamed Rows.scoreCallsUptoRow.func = some 3 := by rw [prog_eq]; exact named
theorem instance' : decide (Tryz.f3.isInstance Tryz.prog Rows.scoreCallsUptoRow.origin Rows.scoreCallsUptoRow.targs) = true := by kernel_rfl
theorem inst' : Tryz.f3.isInstance Tryz.pinned.checked.prog Rows.scoreCallsUptoRow.origin Rows.scoreCallsUptoRow.targs := by rw [prog_eq]; exact of_decide_eq_true instance'
theorem looked : true = Tryz.pinned.checked.prog.looks [] := by kernel_rfl
end Go.Proofs.YtfiahaglhiijaaaGreatDoor.scoreCalls
