/- THE ROW'S CLOSED FACTS OF THE LAW 'SpecCalls'. No condition. -/
import Derived.Test.YtdeeimaahdgeaaaGreatDoorCards
import Derived.Test.YtdeeimaahdgeaaaGreatDoorTie
import Derived.JoinedCond
import Derived.KernelRfl
namespace Go.Proofs.YtdeeimaahdgeaaaGreatDoor.specCalls
open Go
set_option linter.unusedVariables false
theorem both {a b : Bool} (h : a = true) (k : b = true) : (a && b) = true := by rw [h, k]; rfl
theorem zOl : Tryz.pinned.checked.prog = Tryz.prog := by kernel_rfl
set_option maxRecDepth 100000 in
set_option maxHeartbeats 4000000 in
theorem closed' : joinedFacts Tryz.prog 4 Tryz.f4 (Rows.OpenSpec.upto Rows.specCallsSpec).bare Rows.specCallsUptoRow = true := by
  unfold joinedFacts
  repeat' with_reducible refine both ?_ ?_
  all_goals as_aux_lemma => kernel_rfl
theorem closed : joinedFacts Tryz.pinned.checked.prog 4 Tryz.f4 (Rows.OpenSpec.upto Rows.specCallsSpec).bare Rows.specCallsUptoRow = true := by
  rw [zOl];exact closed'
theorem named : Tryz.prog.funcNamed "berthmaster/berthmasterlaw12.SpecCalls" = some 4 := by kernel_rfl
theorem named' : Tryz.pinned.checked.prog.funcNamed Rows.specCallsUptoRow.func = some 4 := by rw [zOl]; exact named
theorem instance' : decide (Tryz.f4.isInstance Tryz.prog Rows.specCallsUptoRow.origin Rows.specCallsUptoRow.targs) = true := by kernel_rfl
theorem inst' : Tryz.f4.isInstance Tryz.pinned.checked.prog Rows.specCallsUptoRow.origin Rows.specCallsUptoRow.targs := by rw [zOl]; exact of_decide_eq_true instance'
theorem looked : true = Tryz.pinned.checked.prog.looks [] := by kernel_rfl
end Go.Proofs.YtdeeimaahdgeaaaGreatDoor.specCalls
