/- THE LAW SpecCalls SAYS TRUE, WHATEVER ITS ARGUMENTS ('Rows.SpecCallsUptoCardSaid'). No condition but the statement's own. -/
import Derived.Test.YtdeeimaahdgeaaaGreatDoorCards
import Derived.Test.YtdeeimaahdgeaaaGreatDoorTie
import Derived.Test.YtdeeimaahdgeaaaGreatDoorSpecCallsLaw
import Derived.Test.YtdeeimaahdgeaaaGreatDoorSpecCallsFacts
import Derived.WalkKit
import Derived.ProofKit
import Derived.OpenShut
import Derived.Carry
import Derived.ChangeMaps5
import Derived.Deep.DeepHandedRow
import Derived.Lib.LaidTab
import Derived.Lay
set_option linter.unusedVariables false
set_option linter.unusedSimpArgs false
namespace Go.Proofs.YtdeeimaahdgeaaaGreatDoor.specCalls
open Go.ChangeShapes Go.WideShapes Go.ChangeAt Go.RowKit Go.Sy Go.Proofs.YtdeeimaahdgeaaaGreatDoor.spec

set_option maxRecDepth 100000 in
theorem contract (H : Type) (enc : TypeId × Value → H) (W : World) (base : Nat) (args : Array Value) (ds gs : List (DataW H)) (before : List MemPlace)
    (hval : ∀ (j : Nat) t v, Tryz.f4.params[j]? = some t → args[j]? = some v → Value.okWide Tryz.prog W .any base t v)
    (hW : DataW.Whole enc Tryz.prog Tryz.f4.params.toList Rows.specCallsSpec.vars false W args.toList ds gs before) (hk : Rows.uptoSmall H (ds ++ gs) = true) (hL : laidMet Tryz.prog Rows.specCallsUptoRow.laid W) (hSh : W.ShapedOpen Tryz.prog) :
    Calls Tryz.prog 4 args W fun e W' => ∃ v, e = .returned v ∧ Rows.specCallsSpec.post enc Tryz.prog Tryz.f4 false true false false W args v W' := by
  have hW' := hW;obtain ⟨p, q, hA0, hV, rfl, hfz, hnd⟩ := hW;have hA : DataW.TrodAll enc Tryz.prog W 0 (fun _ => true) true Tryz.f4.params.toList args.toList ds p := hA0
  rw [Tryz.params4] at hA;obtain ⟨v0, v1, v2, d0, d1, d2, p0, p1, p2, rfl, rfl, rfl, h0, h1, h2⟩ := trodAll_three hA;obtain ⟨rfl, rfl⟩ := trodVars_none hV
  clear hA0
  simp only [List.append_nil, List.append_assoc] at hW' hk;have o0 := hval 0 37 v0 (by rw [Tryz.params4]; rfl) rfl
  have o1 := hval 1 9 v1 (by rw [Tryz.params4]; rfl) rfl
  have o2 := hval 2 3 v2 (by rw [Tryz.params4]; rfl) rfl
  obtain ⟨mx, hmx⟩ := Tryz.laysM145.s1_3 W hSh;obtain ⟨hb1, hmr⟩ := zR5 (g := 1) (t := 3) (u := 3) (zero := #[.int .i64 0]) hSh (by decide +kernel) (by kernel_rfl) rfl (by kernel_rfl) (by kernel_rfl) (by kernel_rfl) hmx
  letI : MX := ⟨mx⟩
  have hlt : ∀ x ∈ p0 ++ (p1 ++ p2), x.block < W.heap.size := fun x hx => hW'.lt x (by simpa using hx)
  have t0 : ∀ sp : Nat → Bool, (∀ x ∈ p0 ++ (p1 ++ p2), sp x.block = true) → ∀ W', Kept W W' → DataW.Trod enc Tryz.prog W' 0 sp true 37 v0 d0 p0 := fun sp hsp W' hg => zLW (by kernel_rfl) (by kernel_rfl) (of_decide_eq_true (by kernel_rfl)) h0 hg (fun x hx => hlt x (List.mem_append_left _ hx)) (fun x hx => hsp x (List.mem_append_left _ hx))
  have t1 : ∀ sp : Nat → Bool, (∀ x ∈ p0 ++ (p1 ++ p2), sp x.block = true) → ∀ W', Kept W W' → DataW.Trod enc Tryz.prog W' 0 sp true 9 v1 d1 p1 := fun sp hsp W' hg => zLW (by kernel_rfl) (by kernel_rfl) (of_decide_eq_true (by kernel_rfl)) h1 hg (fun x hx => hlt x (List.mem_append_right _ (List.mem_append_left _ hx))) (fun x hx => hsp x (List.mem_append_right _ (List.mem_append_left _ hx)))
  have t2 : ∀ sp : Nat → Bool, (∀ x ∈ p0 ++ (p1 ++ p2), sp x.block = true) → ∀ W', Kept W W' → DataW.Trod enc Tryz.prog W' 0 sp true 3 v2 d2 p2 := fun sp hsp W' hg => zLW (by kernel_rfl) (by kernel_rfl) (of_decide_eq_true (by kernel_rfl)) h2 hg (fun x hx => hlt x (List.mem_append_right _ (List.mem_append_right _ (hx)))) (fun x hx => hsp x (List.mem_append_right _ (List.mem_append_right _ (hx))))
  obtain ⟨cs0, rfl⟩ := zR6 Tryz.underlying37 o0;obtain ⟨s1, rfl, rfl, hp1, hmax1⟩ := Go.ChangeMaps.open_string Tryz.underlying9 o1 h1;obtain ⟨bd, rfl, rfl, hp2, hwf2⟩ := Go.ChangeShapes.open_int Tryz.underlying3 o2 h2;have hb : Rows.uptoBulkAll [d0, DataW.lit (H := H) (.string s1.data.toList), DataW.lit (H := H) (.int .i64 bd)] ≤ 1048576 := of_decide_eq_true hk;have hb2 : Rows.uptoBulkAll [d0, DataW.lit (H := H) (.string s1.data.toList), DataW.lit (H := H) (.int .i64 bd)] = Rows.uptoBulk d0 + (Rows.uptoBulk (DataW.lit (H := H) (.string s1.data.toList)) + (Rows.uptoBulk (DataW.lit (H := H) (.int .i64 bd)) + 0)) := rfl;have hb3 : Rows.uptoBulk (DataW.lit (H := H) (.string s1.data.toList)) = s1.data.toList.length + 1 := rfl;obtain ⟨f0, e0⟩ := h0;obtain ⟨_, ⟨x0, q0, w0, _⟩, one0⟩ := zOk (zTD H) (E := Env.still W) (fun b h => h) 9 f0 37 zN7 cs0.toList _ zVT e0
  have b0 : (zTD H).f d0 ≤ 2000000 := by show Rows.uptoBulk d0 ≤ _; omega
  have hl0 : s1.size ≤ zc := by
    have e : s1.data.toList.length = s1.size := by rw [Array.length_toList]; rfl
    unfold zc;omega
  have hl1 : (lets s1).length ≤ 2000000 := by unfold lets; rw [List.length_map]; omega
  have hfn := zWJ (bd := bd) (Nat.le_refl _) (q0.mono b0) hl1;have hbd : has .i64 bd := by
    have h := (Bool.and_eq_true _ _).mp hwf2;exact ⟨of_decide_eq_true h.1, of_decide_eq_true h.2⟩
  have hv : VRs (Env.still W) W [.agg x0, .str (lets s1), .int .i64 bd] [.agg cs0, .string s1, .int .i64 bd] := .cons (VR.qM w0 one0) (.cons (VR.lets hl0) (.cons (.int _ _ hbd) .nil));have key := zRS (cargs := #[.agg cs0, .string s1, .int .i64 bd]) hfn hv (zUb hL hb1 hmx hmr (List.mem_of_getElem? (i := 0) (by kernel_rfl)) (List.mem_of_getElem? (i := 1) (by kernel_rfl)) (List.mem_of_getElem? (i := 2) (by kernel_rfl)) (List.mem_of_getElem? (i := 4) (by kernel_rfl)) (List.mem_of_getElem? (i := 5) (by kernel_rfl)))
  refine key.mono fun e W' ⟨he, hg⟩ => ?_
  subst he;exact ⟨_, rfl, zSM (pa := p0 ++ (p1 ++ p2)) (pv := []) hW' (fun _ _ _ => trodAll_cons_mk (shut_bool Tryz.underlying4 _) trodAll_mk0) (fun sp hsp => trodAll_mk3 (t0 sp hsp W' hg) (t1 sp hsp W' hg) (t2 sp hsp W' hg)) (fun _ _ => rfl) (by simp)
    hg (ok_one (by kernel_rfl) rfl (okWide_bool_mk Tryz.underlying4 _))⟩

noncomputable def zQB (t : TypeId) : Value := ((Tryz.prog.info? t).bind (·.zero)).getD (.bool true)
noncomputable def wargs : Array Value := #[zQB 37, zQB 9, zQB 3]
/-- A world for the witness: the listed variables as their initialisers lay them. -/
theorem zUs (os : Os) : laidMet Tryz.prog Rows.specCallsUptoRow.laid (((World.laidAll Tryz.prog os Rows.specCallsUptoRow.laid)).forCall (fun _ _ => 0) ⟨#[], wargs, []⟩).memory :=
  laidMet_laidAll wargs (by kernel_rfl) (by kernel_rfl)
def zQC : (H : Type) → List (DataW H) → Bool := Rows.uptoSmall
def zTE {H : Type} : Option (List (DataW H) × List (DataW H) × List MemPlace) → Bool
  | some (ds, [], _) => zQC H ds
  | _ => false
theorem zQZ {H : Type} {x : Option (List (DataW H) × List (DataW H) × List MemPlace)} (h : zTE x = true) : ∃ ds ps, x = some (ds, [], ps) ∧ zQC H (ds ++ []) = true := by
  unfold zTE at h;split at h
  · exact ⟨_, _, rfl, by rw [List.append_nil]; exact h⟩
  · cases h
theorem reads (os : Os) {H : Type} (enc : TypeId × Value → H) : ∃ ds places, DataW.whole enc Tryz.prog ((World.laidAll Tryz.prog os Rows.specCallsUptoRow.laid).forCall (fun _ _ => 0) ⟨#[], wargs, []⟩).memory Tryz.f4.params.toList Rows.specCallsSpec.vars false wargs.toList 8 = some (ds, [], places) ∧ zQC H (ds ++ []) = true :=
  zQZ (by kernel_rfl)

set_option maxRecDepth 100000 in
theorem lifted (os : Os) (started : os.Started) (H : Type) (enc : TypeId × Value → H) (F : Stop.Interp) :
    ReturnsInHanded {} Tryz.checked os 4 .any ((Rows.OpenSpec.upto Rows.specCallsSpec).preRow enc Tryz.prog Tryz.f4 Rows.specCallsUptoRow.domain false Rows.specCallsUptoRow.laid) (((Rows.OpenSpec.upto Rows.specCallsSpec).at F).post enc Tryz.prog Tryz.f4 false true false false) := by
  obtain ⟨ds, places, hx, hsm⟩ := reads os enc;refine returnsInHanded_of_row (C := Tryz.checked) (s := (Rows.OpenSpec.upto Rows.specCallsSpec)) own started (by kernel_rfl) Tryz.func4
    (witness_row_at (enc := enc) (C := Tryz.checked) false (World.laidAll Tryz.prog os Rows.specCallsUptoRow.laid) wargs (World.laidAll_os _ _ _) (by kernel_rfl) (by kernel_rfl) (by kernel_rfl)
      (OpenSpec.preRow_of_cond 8 hx (by kernel_rfl) (fun k hk => by cases hk; exact hsm) (by kernel_rfl) (zUs os))) ?_
  intro W base args ds gs before hval hW _ hk _ hL hSh _;exact contract H enc W base args ds gs before hval hW (hk _ rfl) hL hSh

set_option maxRecDepth 100000 in
theorem said : Rows.SpecCallsUptoSaid :=
  OpenClaim.holds_of_cond 4 Tryz.f4 rfl rfl rfl rfl rfl rfl rfl ⟨rfl, rfl, rfl, rfl, rfl⟩ rfl rfl rfl rfl rfl named' Tryz.func4 closed
    inst' (by unfold Func.isWrapper; first | (rw [if_pos (by decide +kernel)]; kernel_rfl) | (rw [if_neg (by decide +kernel)]; exact ⟨rfl, rfl⟩))
    (fun os started H enc _ F => by rw [OpenClaim.pre_eq_preRow]; exact lifted os started H enc F)

theorem plain (f : FuncId) (fn : Func) (hf : Tryz.pinned.checked.prog.funcNamed "berthmaster/berthmasterlaw12.SpecCalls" = some f) (hfn : Tryz.pinned.checked.prog.funcs[f]? = some fn) :
    true = Tryz.pinned.checked.prog.looks [] ∧ ∀ (j : Nat) t, fn.params[j]? = some t → Tryz.pinned.checked.prog.wantsStandIn t = false := by
  obtain rfl : f = 4 := Option.some.inj (named.symm.trans hf) |>.symm;obtain rfl : fn = Tryz.f4 := (Option.some.inj (Tryz.func4.symm.trans hfn)).symm;refine ⟨looked, fun j t ht => ?_⟩
  rw [Tryz.params4] at ht;have e : t = 37 ∨ t = 9 ∨ t = 3 := by
    match j, ht with
    | 0, ht => exact .inl (Option.some.inj ht).symm
    | 1, ht => exact .inr (.inl (Option.some.inj ht).symm)
    | 2, ht => exact .inr (.inr ((Option.some.inj ht).symm))
    | j + 3, ht => simp at ht
  rcases e with rfl | rfl | rfl
  · exact (show Tryz.pinned.checked.prog.wantsStandIn 37 = false by kernel_rfl)
  · exact (show Tryz.pinned.checked.prog.wantsStandIn 9 = false by kernel_rfl)
  · exact (show Tryz.pinned.checked.prog.wantsStandIn 3 = false by kernel_rfl)

set_option maxRecDepth 100000 in
theorem card : Rows.SpecCallsUptoCardSaid := by
  refine Claim7.holds_tied_plain_at .later [] _ _ _ _ said (fun _ h => by cases h) ?_ (fun _ h => by cases h) specCallsUpto_row_tie ?_ ⟨?_, ?_⟩ ?_ ?_ plain ?_
  all_goals as_aux_lemma => kernel_rfl
#print axioms card
end Go.Proofs.YtdeeimaahdgeaaaGreatDoor.specCalls
