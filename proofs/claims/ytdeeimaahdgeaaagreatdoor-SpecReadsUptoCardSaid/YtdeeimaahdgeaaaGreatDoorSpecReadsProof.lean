/- THE LAW SpecReads SAYS TRUE, WHATEVER ITS ARGUMENTS ('Rows.SpecReadsUptoCardSaid'). No condition but the statement's own. -/
import Derived.Test.YtdeeimaahdgeaaaGreatDoorCards
import Derived.Test.YtdeeimaahdgeaaaGreatDoorTie
import Derived.Test.YtdeeimaahdgeaaaGreatDoorSpecReadsLaw
import Derived.Test.YtdeeimaahdgeaaaGreatDoorSpecReadsFacts
import Derived.WalkKit
import Derived.ProofKit
import Derived.OpenShut
import Derived.Carry
import Derived.ChangeMaps5
import Derived.Deep.DeepHandedRow
import Derived.Lib.LaidTab
import Derived.Lay
set_option linter.unusedVariables false
set_option linter.unusedSimpArgs false
namespace Go.Proofs.YtdeeimaahdgeaaaGreatDoor.specReads
open Go.ChangeShapes Go.WideShapes Go.ChangeAt Go.RowKit Go.Sy Go.Proofs.YtdeeimaahdgeaaaGreatDoor.spec

set_option maxRecDepth 100000 in
theorem contract (H : Type) (enc : TypeId × Value → H) (W : World) (base : Nat) (args : Array Value) (ds gs : List (DataW H)) (before : List MemPlace)
    (hval : ∀ (j : Nat) t v, Tryz.f3.params[j]? = some t → args[j]? = some v → Value.okWide Tryz.prog W .any base t v)
    (hW : DataW.Whole enc Tryz.prog Tryz.f3.params.toList Rows.specReadsSpec.vars false W args.toList ds gs before) (hk : Rows.uptoSmall H (ds ++ gs) = true) (hL : laidMet Tryz.prog Rows.specReadsUptoRow.laid W) (hSh : W.ShapedOpen Tryz.prog) :
    Calls Tryz.prog 3 args W fun e W' => ∃ v, e = .returned v ∧ Rows.specReadsSpec.post enc Tryz.prog Tryz.f3 false true false false W args v W' := by
  have hW' := hW;obtain ⟨p, q, hA0, hV, rfl, hfz, hnd⟩ := hW;have hA : DataW.TrodAll enc Tryz.prog W 0 (fun _ => true) true Tryz.f3.params.toList args.toList ds p := hA0
  rw [Tryz.params3] at hA;obtain ⟨v0, d0, rfl, rfl, h0⟩ := trodAll_one hA;obtain ⟨rfl, rfl⟩ := trodVars_none hV
  clear hA0
  simp only [List.append_nil, List.append_assoc] at hW' hk;have o0 := hval 0 9 v0 (by rw [Tryz.params3]; rfl) rfl
  obtain ⟨mx, hmx⟩ := Tryz.laysM145.s1_3 W hSh;obtain ⟨hb1, hmr⟩ := zUf (g := 1) (t := 3) (u := 3) (zero := #[.int .i64 0]) hSh (by decide +kernel) (by kernel_rfl) rfl (by kernel_rfl) (by kernel_rfl) (by kernel_rfl) hmx
  letI : MX := ⟨mx⟩
  have hlt : ∀ x ∈ p, x.block < W.heap.size := fun x hx => hW'.lt x (by simpa using hx)
  have t0 : ∀ sp : Nat → Bool, (∀ x ∈ p, sp x.block = true) → ∀ W', Kept W W' → DataW.Trod enc Tryz.prog W' 0 sp true 9 v0 d0 p := fun sp hsp W' hg => zVn (by kernel_rfl) (by kernel_rfl) (of_decide_eq_true (by kernel_rfl)) h0 hg (fun x hx => hlt x (hx)) (fun x hx => hsp x (hx))
  obtain ⟨s0, rfl, rfl, hp0, hmax0⟩ := Go.ChangeMaps.open_string Tryz.underlying9 o0 h0;have hb : Rows.uptoBulkAll [DataW.lit (H := H) (.string s0.data.toList)] ≤ 1048576 := of_decide_eq_true hk;simp only [Rows.uptoBulkAll, Rows.uptoBulk] at hb;have hl0 : s0.size ≤ ze := by
    have e : s0.data.toList.length = s0.size := by rw [Array.length_toList]; rfl
    unfold ze;omega
  have hv : VRs (Env.still W) W [.str (lets s0)] [.string s0] := .cons (VR.lets hl0) .nil;have h8 : ∀ c ∈ lets s0, c < 256 := fun c hc => by
    obtain ⟨x, _, rfl⟩ := List.mem_map.1 hc;exact x.toNat_lt
  have key := zT2 (cargs := #[.string s0]) (zYZ (lets s0) h8) hv (zWo hL hb1 hmx hmr (List.mem_of_getElem? (i := 0) (by kernel_rfl)) (List.mem_of_getElem? (i := 1) (by kernel_rfl)) (List.mem_of_getElem? (i := 2) (by kernel_rfl)) (List.mem_of_getElem? (i := 4) (by kernel_rfl)) (List.mem_of_getElem? (i := 5) (by kernel_rfl)))
  refine key.mono fun e W' ⟨he, hg⟩ => ?_
  subst he;exact ⟨_, rfl, zUZ (C := p) (A := []) hW' (fun _ _ _ => trodAll_cons_mk (shut_bool Tryz.underlying4 _) trodAll_mk0) (fun sp hsp => trodAll_mk1 (t0 sp hsp W' hg)) (fun _ _ => rfl) (by simp)
    hg (ok_one (by kernel_rfl) rfl (okWide_bool_mk Tryz.underlying4 _))⟩

noncomputable def zY0 (t : TypeId) : Value := ((Tryz.prog.info? t).bind (·.zero)).getD (.bool true)
noncomputable def wargs : Array Value := #[zY0 9]
/-- A world for the witness: the listed variables as their initialisers lay them. -/
theorem zWO (os : Os) : laidMet Tryz.prog Rows.specReadsUptoRow.laid (((World.laidAll Tryz.prog os Rows.specReadsUptoRow.laid)).forCall (fun _ _ => 0) ⟨#[], wargs, []⟩).memory :=
  laidMet_laidAll wargs (by kernel_rfl) (by kernel_rfl)
def zSS : (H : Type) → List (DataW H) → Bool := Rows.uptoSmall
def zVS {H : Type} : Option (List (DataW H) × List (DataW H) × List MemPlace) → Bool
  | some (ds, [], _) => zSS H ds
  | _ => false
theorem zTc {H : Type} {x : Option (List (DataW H) × List (DataW H) × List MemPlace)} (h : zVS x = true) : ∃ ds ps, x = some (ds, [], ps) ∧ zSS H (ds ++ []) = true := by
  unfold zVS at h;split at h
  · exact ⟨_, _, rfl, by rw [List.append_nil]; exact h⟩
  · cases h
theorem reads (os : Os) {H : Type} (enc : TypeId × Value → H) : ∃ ds places, DataW.whole enc Tryz.prog ((World.laidAll Tryz.prog os Rows.specReadsUptoRow.laid).forCall (fun _ _ => 0) ⟨#[], wargs, []⟩).memory Tryz.f3.params.toList Rows.specReadsSpec.vars false wargs.toList 8 = some (ds, [], places) ∧ zSS H (ds ++ []) = true :=
  zTc (by kernel_rfl)

set_option maxRecDepth 100000 in
theorem lifted (os : Os) (started : os.Started) (H : Type) (enc : TypeId × Value → H) (F : Stop.Interp) :
    ReturnsInHanded {} Tryz.checked os 3 .any ((Rows.OpenSpec.upto Rows.specReadsSpec).preRow enc Tryz.prog Tryz.f3 Rows.specReadsUptoRow.domain false Rows.specReadsUptoRow.laid) (((Rows.OpenSpec.upto Rows.specReadsSpec).at F).post enc Tryz.prog Tryz.f3 false true false false) := by
  obtain ⟨ds, places, hx, hsm⟩ := reads os enc;refine returnsInHanded_of_row (C := Tryz.checked) (s := (Rows.OpenSpec.upto Rows.specReadsSpec)) own started (by kernel_rfl) Tryz.func3
    (witness_row_at (enc := enc) (C := Tryz.checked) false (World.laidAll Tryz.prog os Rows.specReadsUptoRow.laid) wargs (World.laidAll_os _ _ _) (by kernel_rfl) (by kernel_rfl) (by kernel_rfl)
      (OpenSpec.preRow_of_cond 8 hx (by kernel_rfl) (fun k hk => by cases hk; exact hsm) (by kernel_rfl) (zWO os))) ?_
  intro W base args ds gs before hval hW _ hk _ hL hSh _;exact contract H enc W base args ds gs before hval hW (hk _ rfl) hL hSh

set_option maxRecDepth 100000 in
theorem said : Rows.SpecReadsUptoSaid :=
  OpenClaim.holds_of_cond 3 Tryz.f3 rfl rfl rfl rfl rfl rfl rfl ⟨rfl, rfl, rfl, rfl, rfl⟩ rfl rfl rfl rfl rfl named' Tryz.func3 closed
    inst' (by unfold Func.isWrapper; first | (rw [if_pos (by decide +kernel)]; kernel_rfl) | (rw [if_neg (by decide +kernel)]; exact ⟨rfl, rfl⟩))
    (fun os started H enc _ F => by rw [OpenClaim.pre_eq_preRow]; exact lifted os started H enc F)

theorem plain (f : FuncId) (fn : Func) (hf : Tryz.pinned.checked.prog.funcNamed "berthmaster/berthmasterlaw12.SpecReads" = some f) (hfn : Tryz.pinned.checked.prog.funcs[f]? = some fn) :
    true = Tryz.pinned.checked.prog.looks [] ∧ ∀ (j : Nat) t, fn.params[j]? = some t → Tryz.pinned.checked.prog.wantsStandIn t = false := by
  obtain rfl : f = 3 := Option.some.inj (named.symm.trans hf) |>.symm;obtain rfl : fn = Tryz.f3 := (Option.some.inj (Tryz.func3.symm.trans hfn)).symm;refine ⟨looked, fun j t ht => ?_⟩
  rw [Tryz.params3] at ht;have e : t = 9 := by
    match j, ht with
    | 0, ht => exact (Option.some.inj ht).symm
    | j + 1, ht => simp at ht
  rcases e with rfl
  · exact (show Tryz.pinned.checked.prog.wantsStandIn 9 = false by kernel_rfl)

set_option maxRecDepth 100000 in
theorem card : Rows.SpecReadsUptoCardSaid := by
  refine Claim7.holds_tied_plain_at .later [] _ _ _ _ said (fun _ h => by cases h) ?_ (fun _ h => by cases h) specReadsUpto_row_tie ?_ ⟨?_, ?_⟩ ?_ ?_ plain ?_
  all_goals as_aux_lemma => kernel_rfl
#print axioms card
end Go.Proofs.YtdeeimaahdgeaaaGreatDoor.specReads
