/- THE ROW'S CLOSED FACTS OF THE LAW 'SchedNil'. No condition. -/
import Derived.Test.YtjkegnpdemngiaaGreatDoorCards
import Derived.Test.YtjkegnpdemngiaaGreatDoorTie
import Derived.JoinedCond
import Derived.KernelRfl
namespace Go.Proofs.YtjkegnpdemngiaaGreatDoor.schedNil
open Go
set_option linter.unusedVariables false
theorem both {a b : Bool} (h : a = true) (k : b = true) : (a && b) = true := by rw [h, k]; rfl
theorem goes_off {P : Program} (h : (P.funcs.toList.all fun fn => !fn.goes) = true) {c : OpenClaim} (hs : c.start = .entering) : false = c.goesBy P := by
  have hn : ∀ g : Nat, (P.funcs[g]?).any Func.goes = false := fun g => by
    cases e : P.funcs[g]? with
    | none => rfl
    | some fn =>
      have h1 := List.all_eq_true.1 h fn (Array.mem_toList_iff.2 (Array.mem_of_getElem? e))
      simpa using h1
  have ha : P.funcs.any Func.goes = false := by
    rw [← Array.any_toList, List.any_eq_false]
    intro fn hf
    have h1 := List.all_eq_true.1 h fn hf
    simpa using h1
  have hf : ∀ f, P.goes f = false := fun f => by
    unfold Program.goes
    rw [ha, Bool.and_false, Bool.or_false, List.any_eq_false]
    intro g _
    rw [hn g]; simp
  unfold OpenClaim.goesBy Program.goesAt Program.goesFrom
  rw [hs]
  cases P.funcNamed c.func with
  | none => rfl
  | some f => simp [hf]
theorem nogo : (Tryz.prog.funcs.toList.all fun fn => !fn.goes) = true := by kernel_rfl
theorem prog_eq : Tryz.pinned.checked.prog = Tryz.prog := by kernel_rfl
set_option maxRecDepth 100000 in
set_option maxHeartbeats 4000000 in
theorem closed' : joinedFacts Tryz.prog 3 Tryz.f3 (OpenSpec.ofChange Rows.schedNilSpec).bare Rows.schedNilRow = true := by
  unfold joinedFacts
  repeat' with_reducible refine both ?_ ?_
  all_goals as_aux_lemma => kernel_rfl
theorem closed : joinedFacts Tryz.pinned.checked.prog 3 Tryz.f3 (OpenSpec.ofChange Rows.schedNilSpec).bare Rows.schedNilRow = true := by
  rw [prog_eq]
  exact closed'
theorem named : Tryz.prog.funcNamed "berthmaster/berthmasterlaw24.SchedNil" = some 3 := by kernel_rfl
theorem named' : Tryz.pinned.checked.prog.funcNamed Rows.schedNilRow.func = some 3 := by rw [prog_eq]; exact named
theorem instance' : decide (Tryz.f3.isInstance Tryz.prog Rows.schedNilRow.origin Rows.schedNilRow.targs) = true := by kernel_rfl
theorem inst' : Tryz.f3.isInstance Tryz.pinned.checked.prog Rows.schedNilRow.origin Rows.schedNilRow.targs := by rw [prog_eq]; exact of_decide_eq_true instance'
theorem goesOff : false = (Rows.schedNilRow).goesBy Tryz.pinned.checked.prog := by rw [prog_eq]; exact goes_off nogo rfl
theorem looked : true = Tryz.pinned.checked.prog.looks [] := by kernel_rfl
end Go.Proofs.YtjkegnpdemngiaaGreatDoor.schedNil
