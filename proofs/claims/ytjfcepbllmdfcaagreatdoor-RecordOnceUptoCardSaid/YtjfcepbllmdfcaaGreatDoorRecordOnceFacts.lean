/- THE ROW'S CLOSED FACTS OF THE LAW 'RecordOnce'. No condition. -/
import Derived.Test.YtjfcepbllmdfcaaGreatDoorCards
import Derived.Test.YtjfcepbllmdfcaaGreatDoorTie
import Derived.JoinedCond
import Derived.KernelRfl
namespace Go.Proofs.YtjfcepbllmdfcaaGreatDoor.recordOnce
open Go
set_option linter.unusedVariables false
theorem both{a b : Bool}(h : a = true)(k : b = true) : (a && b) = true := by rw[h, k]; rfl
theorem zRi : Tryz.pinned.checked.prog = Tryz.prog := by kernel_rfl
set_option maxRecDepth 100000 in
set_option maxHeartbeats 4000000 in
theorem zaX : joinedFacts Tryz.prog 4 Tryz.f4 (Rows.OpenSpec.upto Rows.recordOnceSpec).bare Rows.recordOnceUptoRow = true := by
  unfold joinedFacts
  repeat' with_reducible refine both ?_ ?_
  all_goals as_aux_lemma => kernel_rfl
theorem closed : joinedFacts Tryz.pinned.checked.prog 4 Tryz.f4 (Rows.OpenSpec.upto Rows.recordOnceSpec).bare Rows.recordOnceUptoRow = true := by
  rw[zRi];exact zaX
theorem named : Tryz.prog.funcNamed "berthmaster/berthmasterlaw15.RecordOnce" = some 4 := by kernel_rfl
theorem zb4 : Tryz.pinned.checked.prog.funcNamed Rows.recordOnceUptoRow.func = some 4 := by rw[zRi]; exact named
theorem zXV : decide (Tryz.f4.isInstance Tryz.prog Rows.recordOnceUptoRow.origin Rows.recordOnceUptoRow.targs) = true := by kernel_rfl
theorem zdh : Tryz.f4.isInstance Tryz.pinned.checked.prog Rows.recordOnceUptoRow.origin Rows.recordOnceUptoRow.targs := by rw[zRi]; exact of_decide_eq_true zXV
theorem looked : true = Tryz.pinned.checked.prog.looks [] := by kernel_rfl
end Go.Proofs.YtjfcepbllmdfcaaGreatDoor.recordOnce
