/- THE ROW'S CLOSED FACTS OF THE LAW 'SpecBack'. No condition. -/
import Derived.Test.YtdeeimaahdgeaaaGreatDoorCards
import Derived.Test.YtdeeimaahdgeaaaGreatDoorTie
import Derived.JoinedCond
import Derived.KernelRfl
namespace Go.Proofs.YtdeeimaahdgeaaaGreatDoor.specBack
open Go
set_option linter.unusedVariables false
theorem both {a b : Bool} (h : a = true) (k : b = true) : (a && b) = true := by rw [h, k]; rfl
theorem zM9 : Tryz.pinned.checked.prog = Tryz.prog := by kernel_rfl
set_option maxRecDepth 100000 in
set_option maxHeartbeats 4000000 in
theorem closed' : joinedFacts Tryz.prog 5 Tryz.f5 (Rows.OpenSpec.upto Rows.specBackSpec).bare Rows.specBackUptoRow = true := by
  unfold joinedFacts
  repeat' with_reducible refine both ?_ ?_
  all_goals as_aux_lemma => kernel_rfl
theorem closed : joinedFacts Tryz.pinned.checked.prog 5 Tryz.f5 (Rows.OpenSpec.upto Rows.specBackSpec).bare Rows.specBackUptoRow = true := by
  rw [zM9];exact closed'
theorem named : Tryz.prog.funcNamed "berthmaster/berthmasterlaw12.SpecBack" = some 5 := by kernel_rfl
theorem named' : Tryz.pinned.checked.prog.funcNamed Rows.specBackUptoRow.func = some 5 := by rw [zM9]; exact named
theorem instance' : decide (Tryz.f5.isInstance Tryz.prog Rows.specBackUptoRow.origin Rows.specBackUptoRow.targs) = true := by kernel_rfl
theorem inst' : Tryz.f5.isInstance Tryz.pinned.checked.prog Rows.specBackUptoRow.origin Rows.specBackUptoRow.targs := by rw [zM9]; exact of_decide_eq_true instance'
theorem looked : true = Tryz.pinned.checked.prog.looks [] := by kernel_rfl
end Go.Proofs.YtdeeimaahdgeaaaGreatDoor.specBack
