/- THE LAW AgentNil, WHICH HAS NO ARGUMENT, SAYS TRUE ('Rows.AgentNilCardSaid'). No condition. -/
import Derived.Test.YtinecjjgnjkgmaaGreatDoorCards
import Derived.Test.YtinecjjgnjkgmaaGreatDoorTie
import Derived.Test.YtinecjjgnjkgmaaGreatDoorAgentNilRun
import Derived.Test.YtinecjjgnjkgmaaGreatDoorAgentNilFacts
import Derived.WalkKit
import Derived.ProofKit
import Derived.OpenShut
import Derived.Deep.DeepHandedRow
import Derived.Lib.LaidTab
import Derived.Lay
namespace Go.Proofs.YtinecjjgnjkgmaaGreatDoor.agentNil
open Go.ChangeShapes Go.WideShapes Go.ChangeAt Go.RowKit Go.Sy

set_option maxRecDepth 100000 in
theorem contract (H : Type) (enc : TypeId × Value → H) (W : World) (base : Nat) (args : Array Value) (ds gs : List (DataW H)) (before : List MemPlace)
    (hval : ∀ (j : Nat) t v, Tryz.f4.params[j]? = some t → args[j]? = some v → Value.okWide Tryz.prog W .any base t v)
    (hW : DataW.Whole enc Tryz.prog Tryz.f4.params.toList Rows.agentNilSpec.vars false W args.toList ds gs before) (hL : laidMet Tryz.prog Rows.agentNilRow.laid W) (hSh : W.ShapedOpen Tryz.prog) :
    Calls Tryz.prog 4 args W fun e W' => ∃ v, e = .returned v ∧ Rows.agentNilSpec.post enc Tryz.prog Tryz.f4 false true false false W args v W' := by
  obtain ⟨mx, hmx⟩ := Tryz.laysM145.s1_3 W hSh
  have hmr : has .i64 mx := shaped_int (g := 0) (t := 3) (u := 3) (zero := #[.int .i64 0]) hSh (by decide +kernel) (by kernel_rfl) (by kernel_rfl) (by kernel_rfl) (by kernel_rfl) hmx
  have hW' := hW
  obtain ⟨p, q, hA0, hV, rfl, hfz, hnd⟩ := hW
  have hA : DataW.TrodAll enc Tryz.prog W 0 (fun _ => true) true Tryz.f4.params.toList args.toList ds p := hA0
  rw [Tryz.params4] at hA
  obtain ⟨v0, d0, rfl, rfl, h0⟩ := trodAll_one hA
  obtain ⟨rfl, rfl⟩ := trodVars_none hV
  clear hA0
  simp only [List.append_nil] at hW'
  have o0 := hval 0 62 v0 (by rw [Tryz.params4]; rfl) rfl
  obtain ⟨cs0, rfl, s0, e0⟩ := okWide_cells Tryz.underlying62 o0
  have z0 : cs0.size = 15 := s0.trans (by kernel_rfl)
  have hv : VRs (Env.still W fun i => (cs0.toList).getD i (.bool true)) W [.agg (symsAt 0 15)] [.agg cs0] := .cons (agg_symsAt z0 e0 fun i c hc => by simp [hc]) (.nil)
  have hr := (runs mx)
  rw [fAVs_eq] at hr
  refine (calls_runM (memo_ok mx) (spec_ok mx) table_ok (globs_meth mx) mixed hr hv ((globs_ok mx) hL (List.mem_of_getElem? (i := 0) (by kernel_rfl)) (List.mem_of_getElem? (i := 1) (by kernel_rfl)) (List.mem_of_getElem? (i := 2) (by kernel_rfl)) (List.mem_of_getElem? (i := 3) (by kernel_rfl)) (List.mem_of_getElem? (i := 4) (by kernel_rfl)) hmx hmr)).mono fun e W' ⟨he, hg⟩ => ?_
  subst he
  have hlt : ∀ x ∈ p, x.block < W.heap.size := fun x hx => hW'.lt x hx
  exact ⟨_, rfl, post_kept (pa := p) (pv := []) hW' (fun _ _ _ => trodAll_cons_mk (shut_bool Tryz.underlying4 _) trodAll_mk0) (fun sp hsp => trodAll_mk1 (trod_kept (by kernel_rfl) (by kernel_rfl) (of_decide_eq_true (by kernel_rfl)) h0 hg (fun x hx => hlt x (hx)) (fun x hx => hsp x (hx)))) (fun _ _ => rfl) (by simp)
    hg (ok_one (by kernel_rfl) rfl (okWide_bool_mk Tryz.underlying4 _))⟩

noncomputable def zeroOf (t : TypeId) : Value := ((Tryz.prog.info? t).bind (·.zero)).getD (.bool true)
noncomputable def wargs : Array Value := #[zeroOf 62]
/-- A world for the witness: the listed variables as their initialisers lay them. -/
theorem laid_met (os : Os) : laidMet Tryz.prog Rows.agentNilRow.laid (((World.laidAll Tryz.prog os Rows.agentNilRow.laid)).forCall (fun _ _ => 0) ⟨#[], wargs, []⟩).memory :=
  laidMet_laidAll wargs (by kernel_rfl) (by kernel_rfl)
def noVars {H : Type} : Option (List (DataW H) × List (DataW H) × List MemPlace) → Bool
  | some (_, [], _) => true
  | _ => false
theorem noVars_spec {H : Type} {x : Option (List (DataW H) × List (DataW H) × List MemPlace)} (h : noVars x = true) : ∃ ds ps, x = some (ds, [], ps) := by
  unfold noVars at h
  split at h
  · exact ⟨_, _, rfl⟩
  · cases h
theorem reads (os : Os) {H : Type} (enc : TypeId × Value → H) : ∃ ds places, DataW.whole enc Tryz.prog ((World.laidAll Tryz.prog os Rows.agentNilRow.laid).forCall (fun _ _ => 0) ⟨#[], wargs, []⟩).memory Tryz.f4.params.toList Rows.agentNilSpec.vars false wargs.toList 8 = some (ds, [], places) :=
  noVars_spec (by kernel_rfl)

set_option maxRecDepth 100000 in
theorem lifted (os : Os) (started : os.Started) (H : Type) (enc : TypeId × Value → H) (F : Stop.Interp) :
    ReturnsInHanded {} Tryz.checked os 4 .any ((OpenSpec.ofChange Rows.agentNilSpec).preRow enc Tryz.prog Tryz.f4 Rows.agentNilRow.domain false Rows.agentNilRow.laid) (((OpenSpec.ofChange Rows.agentNilSpec).at F).post enc Tryz.prog Tryz.f4 false true false false) := by
  obtain ⟨ds, places, hx⟩ := reads os enc
  refine returnsInHanded_of_row (C := Tryz.checked) (s := OpenSpec.ofChange Rows.agentNilSpec) own started (by kernel_rfl) Tryz.func4
    (witness_row_at (enc := enc) (C := Tryz.checked) false (World.laidAll Tryz.prog os Rows.agentNilRow.laid) wargs (World.laidAll_os _ _ _) (by kernel_rfl) (by kernel_rfl) (by kernel_rfl)
      (OpenSpec.preRow_of_cond 8 hx (by kernel_rfl) (fun k hk => by cases hk) (by kernel_rfl) (laid_met os))) ?_
  intro W base args ds gs before hval hW _ _ _ hL hSh _
  exact contract H enc W base args ds gs before hval hW hL hSh

set_option maxRecDepth 100000 in
theorem said : Rows.AgentNilSaid :=
  OpenClaim.holds_of_cond 4 Tryz.f4 rfl rfl rfl rfl rfl rfl rfl ⟨rfl, rfl, rfl, rfl, rfl⟩ rfl rfl rfl rfl rfl named' Tryz.func4 closed
    inst' (by unfold Func.isWrapper; first | (rw [if_pos (by decide +kernel)]; kernel_rfl) | (rw [if_neg (by decide +kernel)]; exact ⟨rfl, rfl⟩))
    (fun os started H enc _ F => by rw [OpenClaim.pre_eq_preRow]; exact lifted os started H enc F)

theorem plain (f : FuncId) (fn : Func) (hf : Tryz.pinned.checked.prog.funcNamed "berthmaster/berthmasterlaw27.AgentNil" = some f) (hfn : Tryz.pinned.checked.prog.funcs[f]? = some fn) :
    true = Tryz.pinned.checked.prog.looks [] ∧ ∀ (j : Nat) t, fn.params[j]? = some t → Tryz.pinned.checked.prog.wantsStandIn t = false := by
  obtain rfl : f = 4 := Option.some.inj (named.symm.trans hf) |>.symm
  obtain rfl : fn = Tryz.f4 := (Option.some.inj (Tryz.func4.symm.trans hfn)).symm
  refine ⟨looked, fun j t ht => ?_⟩
  rw [Tryz.params4] at ht
  have e : t = 62 := by
    match j, ht with
    | 0, ht => exact (Option.some.inj ht).symm
    | j + 1, ht => simp at ht
  rcases e with rfl
  · exact (show Tryz.pinned.checked.prog.wantsStandIn 62 = false by kernel_rfl)

theorem card : Rows.AgentNilCardSaid :=
  Claim7.holds_tied_plain_at .later [] _ _ _ _ said (fun _ h => by cases h) (by kernel_rfl) (fun _ h => by cases h) agentNil_row_tie rfl ⟨rfl, rfl⟩ (by kernel_rfl) rfl plain (by kernel_rfl)
#print axioms card
end Go.Proofs.YtinecjjgnjkgmaaGreatDoor.agentNil
