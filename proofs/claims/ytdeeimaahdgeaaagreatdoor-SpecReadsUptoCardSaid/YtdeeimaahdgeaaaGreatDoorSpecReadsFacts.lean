/- THE ROW'S CLOSED FACTS OF THE LAW 'SpecReads'. No condition. -/
import Derived.Test.YtdeeimaahdgeaaaGreatDoorCards
import Derived.Test.YtdeeimaahdgeaaaGreatDoorTie
import Derived.JoinedCond
import Derived.KernelRfl
namespace Go.Proofs.YtdeeimaahdgeaaaGreatDoor.specReads
open Go
set_option linter.unusedVariables false
theorem both {a b : Bool} (h : a = true) (k : b = true) : (a && b) = true := by rw [h, k]; rfl
theorem zQq : Tryz.pinned.checked.prog = Tryz.prog := by kernel_rfl
set_option maxRecDepth 100000 in
set_option maxHeartbeats 4000000 in
theorem closed' : joinedFacts Tryz.prog 3 Tryz.f3 (Rows.OpenSpec.upto Rows.specReadsSpec).bare Rows.specReadsUptoRow = true := by
  unfold joinedFacts
  repeat' with_reducible refine both ?_ ?_
  all_goals as_aux_lemma => kernel_rfl
theorem closed : joinedFacts Tryz.pinned.checked.prog 3 Tryz.f3 (Rows.OpenSpec.upto Rows.specReadsSpec).bare Rows.specReadsUptoRow = true := by
  rw [zQq];exact closed'
theorem named : Tryz.prog.funcNamed "berthmaster/berthmasterlaw12.SpecReads" = some 3 := by kernel_rfl
theorem named' : Tryz.pinned.checked.prog.funcNamed Rows.specReadsUptoRow.func = some 3 := by rw [zQq]; exact named
theorem instance' : decide (Tryz.f3.isInstance Tryz.prog Rows.specReadsUptoRow.origin Rows.specReadsUptoRow.targs) = true := by kernel_rfl
theorem inst' : Tryz.f3.isInstance Tryz.pinned.checked.prog Rows.specReadsUptoRow.origin Rows.specReadsUptoRow.targs := by rw [zQq]; exact of_decide_eq_true instance'
theorem looked : true = Tryz.pinned.checked.prog.looks [] := by kernel_rfl
end Go.Proofs.YtdeeimaahdgeaaaGreatDoor.specReads
