/- THE LAW SchedNil, WHICH HAS NO ARGUMENT, SAYS TRUE ('Rows.SchedNilCardSaid'). No condition. -/
import Derived.Test.YtjkegnpdemngiaaGreatDoorCards
import Derived.Test.YtjkegnpdemngiaaGreatDoorTie
import Derived.Test.YtjkegnpdemngiaaGreatDoorSchedNilRun
import Derived.Test.YtjkegnpdemngiaaGreatDoorSchedNilFacts
import Derived.WalkKit
import Derived.ProofKit
import Derived.OpenShut
import Derived.Deep.DeepHandedRow
import Derived.Lib.LaidTab
import Derived.Lay
namespace Go.Proofs.YtjkegnpdemngiaaGreatDoor.schedNil
open Go.ChangeShapes Go.WideShapes Go.ChangeAt Go.RowKit Go.Sy

set_option maxRecDepth 100000 in
theorem contract (H : Type) (enc : TypeId × Value → H) (W : World) (base : Nat) (args : Array Value) (ds gs : List (DataW H)) (before : List MemPlace)
    (hval : ∀ (j : Nat) t v, Tryz.f3.params[j]? = some t → args[j]? = some v → Value.okWide Tryz.prog W .any base t v)
    (hW : DataW.Whole enc Tryz.prog Tryz.f3.params.toList Rows.schedNilSpec.vars false W args.toList ds gs before) (hL : laidMet Tryz.prog Rows.schedNilRow.laid W) :
    Calls Tryz.prog 3 args W fun e W' => ∃ v, e = .returned v ∧ Rows.schedNilSpec.post enc Tryz.prog Tryz.f3 false true false false W args v W' := by
  have hW' := hW
  obtain ⟨p, q, hA0, hV, rfl, hfz, hnd⟩ := hW
  have hA : DataW.TrodAll enc Tryz.prog W 0 (fun _ => true) true Tryz.f3.params.toList args.toList ds p := hA0
  rw [Tryz.params3] at hA
  obtain ⟨v0, d0, rfl, rfl, h0⟩ := trodAll_one hA
  obtain ⟨rfl, rfl⟩ := trodVars_none hV
  clear hA0
  simp only [List.append_nil] at hW'
  have o0 := hval 0 27 v0 (by rw [Tryz.params3]; rfl) rfl
  obtain ⟨cs0, rfl, s0, e0⟩ := okWide_cells Tryz.underlying27 o0
  have z0 : cs0.size = 5 := s0.trans (by kernel_rfl)
  have hv : VRs (Env.still W fun i => (cs0.toList).getD i (.bool true)) W [.agg (symsAt 0 5)] [.agg cs0] := .cons (agg_symsAt z0 e0 fun i c hc => by simp [hc]) (.nil)
  have hr := runs
  rw [fAVs_eq] at hr
  refine (calls_runM memo_ok spec_ok table_ok globs_meth mixed hr hv (globs_ok hL (List.mem_of_getElem? (i := 0) (by kernel_rfl)) (List.mem_of_getElem? (i := 1) (by kernel_rfl)) (List.mem_of_getElem? (i := 2) (by kernel_rfl)) (List.mem_of_getElem? (i := 3) (by kernel_rfl)) (List.mem_of_getElem? (i := 4) (by kernel_rfl)))).mono fun e W' ⟨he, hg⟩ => ?_
  subst he
  have hlt : ∀ x ∈ p, x.block < W.heap.size := fun x hx => hW'.lt x hx
  exact ⟨_, rfl, post_kept (pa := p) (pv := []) hW' (fun _ _ _ => trodAll_cons_mk (shut_bool Tryz.underlying4 _) trodAll_mk0) (fun sp hsp => trodAll_mk1 (trod_kept (by kernel_rfl) (by kernel_rfl) (of_decide_eq_true (by kernel_rfl)) h0 hg (fun x hx => hlt x (hx)) (fun x hx => hsp x (hx)))) (fun _ _ => rfl) (by simp)
    hg (ok_one (by kernel_rfl) rfl (okWide_bool_mk Tryz.underlying4 _))⟩

noncomputable def zeroOf (t : TypeId) : Value := ((Tryz.prog.info? t).bind (·.zero)).getD (.bool true)
noncomputable def wargs : Array Value := #[zeroOf 27]
/-- A world for the witness: the listed variables as their initialisers lay them. -/
theorem laid_met (os : Os) : laidMet Tryz.prog Rows.schedNilRow.laid (((World.laidAll Tryz.prog os Rows.schedNilRow.laid)).forCall (fun _ _ => 0) ⟨#[], wargs, []⟩).memory :=
  laidMet_laidAll wargs (by kernel_rfl) (by kernel_rfl)
def noVars {H : Type} : Option (List (DataW H) × List (DataW H) × List MemPlace) → Bool
  | some (_, [], _) => true
  | _ => false
theorem noVars_spec {H : Type} {x : Option (List (DataW H) × List (DataW H) × List MemPlace)} (h : noVars x = true) : ∃ ds ps, x = some (ds, [], ps) := by
  unfold noVars at h
  split at h
  · exact ⟨_, _, rfl⟩
  · cases h
theorem reads (os : Os) {H : Type} (enc : TypeId × Value → H) : ∃ ds places, DataW.whole enc Tryz.prog ((World.laidAll Tryz.prog os Rows.schedNilRow.laid).forCall (fun _ _ => 0) ⟨#[], wargs, []⟩).memory Tryz.f3.params.toList Rows.schedNilSpec.vars false wargs.toList 8 = some (ds, [], places) :=
  noVars_spec (by kernel_rfl)

set_option maxRecDepth 100000 in
theorem lifted (os : Os) (started : os.Started) (H : Type) (enc : TypeId × Value → H) (F : Stop.Interp) :
    ReturnsInHanded {} Tryz.checked os 3 .any ((OpenSpec.ofChange Rows.schedNilSpec).preRow enc Tryz.prog Tryz.f3 Rows.schedNilRow.domain false Rows.schedNilRow.laid) (((OpenSpec.ofChange Rows.schedNilSpec).at F).post enc Tryz.prog Tryz.f3 false true false false) := by
  obtain ⟨ds, places, hx⟩ := reads os enc
  refine returnsInHanded_of_row (C := Tryz.checked) (s := OpenSpec.ofChange Rows.schedNilSpec) own started (by kernel_rfl) Tryz.func3
    (witness_row_at (enc := enc) (C := Tryz.checked) false (World.laidAll Tryz.prog os Rows.schedNilRow.laid) wargs (World.laidAll_os _ _ _) (by kernel_rfl) (by kernel_rfl) (by kernel_rfl)
      (OpenSpec.preRow_of_cond 8 hx (by kernel_rfl) (fun k hk => by cases hk) (by kernel_rfl) (laid_met os))) ?_
  intro W base args ds gs before hval hW _ _ _ hL _ _
  exact contract H enc W base args ds gs before hval hW hL

set_option maxRecDepth 100000 in
theorem said : Rows.SchedNilSaid :=
  OpenClaim.holds_of_cond 3 Tryz.f3 rfl rfl rfl rfl rfl rfl rfl ⟨rfl, rfl, rfl, rfl, rfl⟩ rfl rfl rfl rfl rfl named' Tryz.func3 closed
    inst' (by unfold Func.isWrapper; first | (rw [if_pos (by decide +kernel)]; kernel_rfl) | (rw [if_neg (by decide +kernel)]; exact ⟨rfl, rfl⟩))
    (fun os started H enc _ F => by rw [OpenClaim.pre_eq_preRow]; exact lifted os started H enc F)

theorem plain (f : FuncId) (fn : Func) (hf : Tryz.pinned.checked.prog.funcNamed "berthmaster/berthmasterlaw24.SchedNil" = some f) (hfn : Tryz.pinned.checked.prog.funcs[f]? = some fn) :
    true = Tryz.pinned.checked.prog.looks [] ∧ ∀ (j : Nat) t, fn.params[j]? = some t → Tryz.pinned.checked.prog.wantsStandIn t = false := by
  obtain rfl : f = 3 := Option.some.inj (named.symm.trans hf) |>.symm
  obtain rfl : fn = Tryz.f3 := (Option.some.inj (Tryz.func3.symm.trans hfn)).symm
  refine ⟨looked, fun j t ht => ?_⟩
  rw [Tryz.params3] at ht
  have e : t = 27 := by
    match j, ht with
    | 0, ht => exact (Option.some.inj ht).symm
    | j + 1, ht => simp at ht
  rcases e with rfl
  · exact (show Tryz.pinned.checked.prog.wantsStandIn 27 = false by kernel_rfl)

theorem card : Rows.SchedNilCardSaid := by
  refine Claim7.holds_tied_plain_at .later [] _ _ _ _ said (fun _ h => by cases h) ?_ (fun _ h => by cases h) schedNil_row_tie ?_ ⟨?_, ?_⟩ ?_ ?_ plain goesOff
  all_goals as_aux_lemma => kernel_rfl
#print axioms card
end Go.Proofs.YtjkegnpdemngiaaGreatDoor.schedNil
