/- THE ROW'S CLOSED FACTS OF THE LAW 'RecordBack'. No condition. -/
import Derived.Test.YtjfcepbllmdfcaaGreatDoorCards
import Derived.Test.YtjfcepbllmdfcaaGreatDoorTie
import Derived.JoinedCond
import Derived.KernelRfl
namespace Go.Proofs.YtjfcepbllmdfcaaGreatDoor.recordBack
open Go
set_option linter.unusedVariables false
theorem both{a b : Bool}(h : a = true)(k : b = true) : (a && b) = true := by rw[h, k]; rfl
theorem zTa : Tryz.pinned.checked.prog = Tryz.prog := by kernel_rfl
set_option maxRecDepth 100000 in
set_option maxHeartbeats 4000000 in
theorem zdQ : joinedFacts Tryz.prog 3 Tryz.f3 (Rows.OpenSpec.upto Rows.recordBackSpec).bare Rows.recordBackUptoRow = true := by
  unfold joinedFacts
  repeat' with_reducible refine both ?_ ?_
  all_goals as_aux_lemma => kernel_rfl
theorem closed : joinedFacts Tryz.pinned.checked.prog 3 Tryz.f3 (Rows.OpenSpec.upto Rows.recordBackSpec).bare Rows.recordBackUptoRow = true := by
  rw[zTa];exact zdQ
theorem named : Tryz.prog.funcNamed "berthmaster/berthmasterlaw15.RecordBack" = some 3 := by kernel_rfl
theorem ze5 : Tryz.pinned.checked.prog.funcNamed Rows.recordBackUptoRow.func = some 3 := by rw[zTa]; exact named
theorem zaf : decide (Tryz.f3.isInstance Tryz.prog Rows.recordBackUptoRow.origin Rows.recordBackUptoRow.targs) = true := by kernel_rfl
theorem zgm : Tryz.f3.isInstance Tryz.pinned.checked.prog Rows.recordBackUptoRow.origin Rows.recordBackUptoRow.targs := by rw[zTa]; exact of_decide_eq_true zaf
theorem looked : true = Tryz.pinned.checked.prog.looks [] := by kernel_rfl
end Go.Proofs.YtjfcepbllmdfcaaGreatDoor.recordBack
