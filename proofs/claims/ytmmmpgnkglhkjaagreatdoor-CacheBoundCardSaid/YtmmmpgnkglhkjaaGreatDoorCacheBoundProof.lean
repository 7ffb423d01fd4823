/- THE LAW CacheBound SAYS TRUE, WHATEVER ITS ARGUMENTS ('Rows.CacheBoundCardSaid'). No condition but the statement's own. -/
import Derived.Test.YtmmmpgnkglhkjaaGreatDoorCards
import Derived.Test.YtmmmpgnkglhkjaaGreatDoorTie
import Derived.Test.YtmmmpgnkglhkjaaGreatDoorJoin
import Derived.Test.YtmmmpgnkglhkjaaGreatDoorCacheBoundFacts
import Derived.WalkKit
import Derived.ProofKit
import Derived.OpenShut
import Derived.Carry
import Derived.ChangeMaps5
import Derived.Deep.DeepHandedRow
import Derived.Lib.LaidTab
import Derived.Lay
set_option linter.unusedVariables false
set_option linter.unusedSimpArgs false
namespace Go.Proofs.YtmmmpgnkglhkjaaGreatDoor.cacheBound
open Go.ChangeShapes Go.WideShapes Go.ChangeAt Go.RowKit Go.Sy

set_option maxRecDepth 100000 in
theorem contract (H : Type) (enc : TypeId × Value → H) (W : World) (base : Nat) (args : Array Value) (ds gs : List (DataW H)) (before : List MemPlace)
    (hval : ∀ (j : Nat) t v, Tryz.f3.params[j]? = some t → args[j]? = some v → Value.okWide Tryz.prog W .any base t v)
    (hW : DataW.Whole enc Tryz.prog Tryz.f3.params.toList Rows.cacheBoundSpec.vars false W args.toList ds gs before)  (hL : laidMet Tryz.prog Rows.cacheBoundRow.laid W) (hSh : W.ShapedOpen Tryz.prog) :
    Calls Tryz.prog 3 args W fun e W' => ∃ v, e = .returned v ∧ Rows.cacheBoundSpec.post enc Tryz.prog Tryz.f3 false true false false W args v W' := by
  have hW' := hW
  obtain ⟨p, q, hA0, hV, rfl, hfz, hnd⟩ := hW
  have hA : DataW.TrodAll enc Tryz.prog W 0 (fun _ => true) true Tryz.f3.params.toList args.toList ds p := hA0
  rw [Tryz.params3] at hA
  obtain ⟨v0, v1, d0, d1, p0, p1, rfl, rfl, rfl, h0, h1⟩ := trodAll_two hA
  obtain ⟨rfl, rfl⟩ := trodVars_none hV
  clear hA0
  simp only [List.append_nil, List.append_assoc] at hW'
  have o0 := hval 0 3 v0 (by rw [Tryz.params3]; rfl) rfl
  have o1 := hval 1 3 v1 (by rw [Tryz.params3]; rfl) rfl
  have hlt : ∀ x ∈ p0 ++ p1, x.block < W.heap.size := fun x hx => hW'.lt x (by simpa using hx)
  have t0 : ∀ sp : Nat → Bool, (∀ x ∈ p0 ++ p1, sp x.block = true) → ∀ W', Kept W W' → DataW.Trod enc Tryz.prog W' 0 sp true 3 v0 d0 p0 := fun sp hsp W' hg => trod_kept (by kernel_rfl) (by kernel_rfl) (of_decide_eq_true (by kernel_rfl)) h0 hg (fun x hx => hlt x (List.mem_append_left _ hx)) (fun x hx => hsp x (List.mem_append_left _ hx))
  have t1 : ∀ sp : Nat → Bool, (∀ x ∈ p0 ++ p1, sp x.block = true) → ∀ W', Kept W W' → DataW.Trod enc Tryz.prog W' 0 sp true 3 v1 d1 p1 := fun sp hsp W' hg => trod_kept (by kernel_rfl) (by kernel_rfl) (of_decide_eq_true (by kernel_rfl)) h1 hg (fun x hx => hlt x (List.mem_append_right _ (hx))) (fun x hx => hsp x (List.mem_append_right _ (hx)))
  have hs3 : ∀ fs, Tryz.prog.underlying 3 ≠ some (.struct fs) := fun fs h => by rw [Tryz.underlying3] at h; cases h
  have ha3 : ∀ n e, Tryz.prog.underlying 3 ≠ some (.array n e) := fun n e h => by rw [Tryz.underlying3] at h; cases h
  obtain ⟨x, rfl, hx⟩ := cell_int Tryz.underlying3 (okWide_cell hs3 ha3 o0)
  obtain ⟨y, rfl, hy⟩ := cell_int Tryz.underlying3 (okWide_cell hs3 ha3 o1)
  have hv : VRs (Env.still W) W [.int .i64 x, .int .i64 y] [.int .i64 x, .int .i64 y] := .cons (.int _ _ hx) (.cons (.int _ _ hy) .nil)
  obtain ⟨H', n', hfn⟩ := law_true x y
  have key := calls_true (cargs := #[.int .i64 x, .int .i64 y]) hfn hv (globs_ok hL (List.mem_of_getElem? (i := 0) (by kernel_rfl)) (List.mem_of_getElem? (i := 1) (by kernel_rfl)) (List.mem_of_getElem? (i := 2) (by kernel_rfl)) (List.mem_of_getElem? (i := 3) (by kernel_rfl)) (List.mem_of_getElem? (i := 4) (by kernel_rfl)))
  refine key.mono fun e W' ⟨he, hg⟩ => ?_
  subst he
  exact ⟨_, rfl, post_kept (pa := p0 ++ p1) (pv := []) hW' (fun _ _ _ => trodAll_cons_mk (shut_bool Tryz.underlying4 _) trodAll_mk0) (fun sp hsp => trodAll_mk2 (t0 sp hsp W' hg) (t1 sp hsp W' hg)) (fun _ _ => rfl) (by simp)
    hg (ok_one (by kernel_rfl) rfl (okWide_bool_mk Tryz.underlying4 _))⟩

noncomputable def zeroOf (t : TypeId) : Value := ((Tryz.prog.info? t).bind (·.zero)).getD (.bool true)
noncomputable def wargs : Array Value := #[zeroOf 3, zeroOf 3]
/-- A world for the witness: the listed variables as their initialisers lay them. -/
theorem laid_met (os : Os) : laidMet Tryz.prog Rows.cacheBoundRow.laid (((World.laidAll Tryz.prog os Rows.cacheBoundRow.laid)).forCall (fun _ _ => 0) ⟨#[], wargs, []⟩).memory :=
  laidMet_laidAll wargs (by kernel_rfl) (by kernel_rfl)
def small0 : (H : Type) → List (DataW H) → Bool := fun _ _ => true
def noVars {H : Type} : Option (List (DataW H) × List (DataW H) × List MemPlace) → Bool
  | some (ds, [], _) => small0 H ds
  | _ => false
theorem noVars_spec {H : Type} {x : Option (List (DataW H) × List (DataW H) × List MemPlace)} (h : noVars x = true) : ∃ ds ps, x = some (ds, [], ps) ∧ small0 H (ds ++ []) = true := by
  unfold noVars at h
  split at h
  · exact ⟨_, _, rfl, by rw [List.append_nil]; exact h⟩
  · cases h
theorem reads (os : Os) {H : Type} (enc : TypeId × Value → H) : ∃ ds places, DataW.whole enc Tryz.prog ((World.laidAll Tryz.prog os Rows.cacheBoundRow.laid).forCall (fun _ _ => 0) ⟨#[], wargs, []⟩).memory Tryz.f3.params.toList Rows.cacheBoundSpec.vars false wargs.toList 8 = some (ds, [], places) ∧ small0 H (ds ++ []) = true :=
  noVars_spec (by kernel_rfl)

set_option maxRecDepth 100000 in
theorem lifted (os : Os) (started : os.Started) (H : Type) (enc : TypeId × Value → H) (F : Stop.Interp) :
    ReturnsInHanded {} Tryz.checked os 3 .any ((OpenSpec.ofChange Rows.cacheBoundSpec).preRow enc Tryz.prog Tryz.f3 Rows.cacheBoundRow.domain false Rows.cacheBoundRow.laid) (((OpenSpec.ofChange Rows.cacheBoundSpec).at F).post enc Tryz.prog Tryz.f3 false true false false) := by
  obtain ⟨ds, places, hx, hsm⟩ := reads os enc
  refine returnsInHanded_of_row (C := Tryz.checked) (s := (OpenSpec.ofChange Rows.cacheBoundSpec)) own started (by kernel_rfl) Tryz.func3
    (witness_row_at (enc := enc) (C := Tryz.checked) false (World.laidAll Tryz.prog os Rows.cacheBoundRow.laid) wargs (World.laidAll_os _ _ _) (by kernel_rfl) (by kernel_rfl) (by kernel_rfl)
      (OpenSpec.preRow_of_cond 8 hx (by kernel_rfl) (fun k hk => by cases hk) (by kernel_rfl) (laid_met os))) ?_
  intro W base args ds gs before hval hW _ hk _ hL hSh _
  exact contract H enc W base args ds gs before hval hW  hL hSh

set_option maxRecDepth 100000 in
theorem said : Rows.CacheBoundSaid :=
  OpenClaim.holds_of_cond 3 Tryz.f3 rfl rfl rfl rfl rfl rfl rfl ⟨rfl, rfl, rfl, rfl, rfl⟩ rfl rfl rfl rfl rfl named' Tryz.func3 closed
    inst' (by unfold Func.isWrapper; first | (rw [if_pos (by decide +kernel)]; kernel_rfl) | (rw [if_neg (by decide +kernel)]; exact ⟨rfl, rfl⟩))
    (fun os started H enc _ F => by rw [OpenClaim.pre_eq_preRow]; exact lifted os started H enc F)

theorem plain (f : FuncId) (fn : Func) (hf : Tryz.pinned.checked.prog.funcNamed "berthmaster/berthmasterlaw19.CacheBound" = some f) (hfn : Tryz.pinned.checked.prog.funcs[f]? = some fn) :
    true = Tryz.pinned.checked.prog.looks [] ∧ ∀ (j : Nat) t, fn.params[j]? = some t → Tryz.pinned.checked.prog.wantsStandIn t = false := by
  obtain rfl : f = 3 := Option.some.inj (named.symm.trans hf) |>.symm
  obtain rfl : fn = Tryz.f3 := (Option.some.inj (Tryz.func3.symm.trans hfn)).symm
  refine ⟨looked, fun j t ht => ?_⟩
  rw [Tryz.params3] at ht
  have e : t = 3 ∨ t = 3 := by
    match j, ht with
    | 0, ht => exact .inl (Option.some.inj ht).symm
    | 1, ht => exact .inr ((Option.some.inj ht).symm)
    | j + 2, ht => simp at ht
  rcases e with rfl | rfl
  · exact (show Tryz.pinned.checked.prog.wantsStandIn 3 = false by kernel_rfl)
  · exact (show Tryz.pinned.checked.prog.wantsStandIn 3 = false by kernel_rfl)

set_option maxRecDepth 100000 in
theorem card : Rows.CacheBoundCardSaid := by
  refine Claim7.holds_tied_plain_at .later [] _ _ _ _ said (fun _ h => by cases h) ?_ (fun _ h => by cases h) cacheBound_row_tie ?_ ⟨?_, ?_⟩ ?_ ?_ plain ?_
  all_goals as_aux_lemma => kernel_rfl
#print axioms card
end Go.Proofs.YtmmmpgnkglhkjaaGreatDoor.cacheBound
