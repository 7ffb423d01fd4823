/- CACHEBOUND, ALL ITS CALLS KNOWN: true, whatever the numbers. No condition but on the package variables. -/
import Derived.Test.YtmmmpgnkglhkjaaGreatDoorLaw
import Derived.Test.YtmmmpgnkglhkjaaGreatDoorCacheBoundRun
set_option linter.unusedVariables false
set_option linter.unusedSimpArgs false
namespace Go.Proofs.YtmmmpgnkglhkjaaGreatDoor.cacheBound
open Go.Sy Go.Proofs.YtmmmpgnkglhkjaaGreatDoor.cacheW
def aN : List AV := [.str [121], .int .i64 5]
def vN : AV := .agg nV
set_option maxRecDepth 100000 in
theorem rN : givesV vN (fAVs aN fun a => enterM (tabM []) spec table globs 1000 60 9 a [] 0) = true := by kernel_rfl
theorem oN : (ME.any aN vN).ok Tryz.prog globs 9 := any_of_gives (tabM_ok okNil) spec_ok table_ok globs_meth mixed globs_pure (by kernel_rfl) rN
def aW : List AV := [.str [97], .int .i64 10]
def vW : AV := .agg (.str [97] :: vR)
set_option maxRecDepth 100000 in
theorem rW : givesV vW (fAVs aW fun a => enterM (tabM []) spec table globs 1000 60 10 a [] 0) = true := by kernel_rfl
theorem oW : (ME.any aW vW).ok Tryz.prog globs 10 := any_of_gives (tabM_ok okNil) spec_ok table_ok globs_meth mixed globs_pure (by kernel_rfl) rW
def aS : List AV := [.agg nV, .agg (.str [97] :: vR)]
def vS : AV := .tup [.int .i64 13500, .int .i64 0]
set_option maxRecDepth 100000 in
theorem rS : givesV vS (fAVs aS fun a => enterM (tabM []) spec table globs 1000 60 19 a [] 0) = true := by kernel_rfl
theorem oS : (ME.any aS vS).ok Tryz.prog globs 19 := any_of_gives (tabM_ok okNil) spec_ok table_ok globs_meth mixed globs_pure (by kernel_rfl) rS
/-- A call that is known at its arguments alone. -/
noncomputable def justP (a : List AV) (v : AV) : List AV → Option AV := fun b => (Classical.propDecidable (b = a)).casesOn (fun _ => none) (fun _ => some v)
theorem justP_at (a : List AV) (v : AV) : justP a v a = some v := by
  unfold justP
  cases Classical.propDecidable (a = a) with
  | isTrue h => rfl
  | isFalse h => exact absurd rfl h
theorem justP_ok {f : Nat} {a : List AV} {v : AV} (h : (ME.any a v).ok Tryz.prog globs f) : PureOK Tryz.prog globs f (justP a v) := by
  intro b u hb
  unfold justP at hb
  cases hd : Classical.propDecidable (b = a) with
  | isTrue e =>
    rw [hd] at hb
    cases hb
    subst e
    exact h
  | isFalse e => rw [hd] at hb; cases hb
theorem lives_p : PureOK Tryz.prog globs 4 (justP [] (.bool true)) := justP_ok oL
noncomputable def tbl : TblH := [(4, liftP (justP [] (.bool true))), (5, liftP gPick), (8, liftP gKey), (9, liftP (justP aN vN)), (10, liftP (justP aW vW)), (6, newF), (7, scoreF (justP aS vS)), (11, heldF), (12, knownF)]
theorem tbl_ok : CallOK Tryz.prog globs (callH tbl) :=
  callH_cons lives_p.heap (callH_cons (pick_pure globs_pure globs_meth mixed).heap (callH_cons (key_pure globs_pure globs_meth mixed).heap (callH_cons (justP_ok oN).heap (callH_cons (justP_ok oW).heap
    (callH_cons (new_ok globs_meth mixed) (callH_cons (score_ok globs_meth mixed globs_pure (justP_ok oS)) (callH_cons (held_ok globs_meth mixed) (callH_cons (known_ok globs_meth mixed) callH_nil))))))))
theorem law_true (x y : Int) : ∃ H' n', FnT Tryz.prog globs 3 [.int .i64 x, .int .i64 y] [] 0 (.bool true) H' n' := by
  obtain ⟨_, H', n', _, h⟩ := law_walk (gS := justP aS vS) (justP_at aS vS) globs_meth mixed tbl_ok x y
    (fun H nx => by
      show liftP (justP [] (.bool true)) [] H nx = _
      simp only [liftP, justP_at])
    (fun x n H nx h1 h2 => by
      have e : (Nat.blt 0 n && Nat.blt n 100000) = true := by rw [Bool.and_eq_true, Nat.blt_eq, Nat.blt_eq]; exact ⟨h1, h2⟩
      show liftP gPick [.int .i64 x, .int .i64 (.ofNat n)] H nx = _
      simp only [liftP, gPick, e])
    (fun i H nx => rfl)
    (fun H nx => by
      show liftP (justP aN vN) aN H nx = _
      simp only [liftP, justP_at]
      rfl)
    (fun H nx => by
      show liftP (justP aW vW) aW H nx = _
      simp only [liftP, justP_at]
      rfl)
    (fun H nx => rfl) (fun a H nx => rfl) (fun a H nx => rfl) (fun a H nx => rfl)
  exact ⟨H', n', h⟩
end Go.Proofs.YtmmmpgnkglhkjaaGreatDoor.cacheBound
