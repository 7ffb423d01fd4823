/- THE ROW'S CLOSED FACTS OF THE LAW 'SpecLines'. No condition. -/
import Derived.Test.YtdeeimaahdgeaaaGreatDoorCards
import Derived.Test.YtdeeimaahdgeaaaGreatDoorTie
import Derived.JoinedCond
import Derived.KernelRfl
namespace Go.Proofs.YtdeeimaahdgeaaaGreatDoor.specLines
open Go
set_option linter.unusedVariables false
theorem both {a b : Bool} (h : a = true) (k : b = true) : (a && b) = true := by rw [h, k]; rfl
theorem prog_eq : Tryz.pinned.checked.prog = Tryz.prog := by kernel_rfl
set_option maxRecDepth 100000 in
set_option maxHeartbeats 4000000 in
theorem closed' : joinedFacts Tryz.prog 6 Tryz.f6 (Rows.OpenSpec.upto Rows.specLinesSpec).bare Rows.specLinesUptoRow = true := by
  unfold joinedFacts
  repeat' with_reducible refine both ?_ ?_
  all_goals as_aux_lemma => kernel_rfl
theorem closed : joinedFacts Tryz.pinned.checked.prog 6 Tryz.f6 (Rows.OpenSpec.upto Rows.specLinesSpec).bare Rows.specLinesUptoRow = true := by
  rw [prog_eq]
  exact closed'
theorem named : Tryz.prog.funcNamed "berthmaster/berthmasterlaw12.SpecLines" = some 6 := by kernel_rfl
theorem named' : Tryz.pinned.checked.prog.funcNamed Rows.specLinesUptoRow.func = some 6 := by rw [prog_eq]; exact named
theorem instance' : decide (Tryz.f6.isInstance Tryz.prog Rows.specLinesUptoRow.origin Rows.specLinesUptoRow.targs) = true := by kernel_rfl
theorem inst' : Tryz.f6.isInstance Tryz.pinned.checked.prog Rows.specLinesUptoRow.origin Rows.specLinesUptoRow.targs := by rw [prog_eq]; exact of_decide_eq_true instance'
theorem looked : true = Tryz.pinned.checked.prog.looks [] := by kernel_rfl
end Go.Proofs.YtdeeimaahdgeaaaGreatDoor.specLines
