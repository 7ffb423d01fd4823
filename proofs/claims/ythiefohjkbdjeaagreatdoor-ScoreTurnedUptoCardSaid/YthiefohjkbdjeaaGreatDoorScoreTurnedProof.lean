/- THE LAW ScoreTurned SAYS TRUE, WHATEVER ITS ARGUMENTS ('Rows.ScoreTurnedUptoCardSaid'). No condition but the statement's own. -/
import Derived.Test.YthiefohjkbdjeaaGreatDoorCards
import Derived.Test.YthiefohjkbdjeaaGreatDoorTie
import Derived.Test.YthiefohjkbdjeaaGreatDoorScoreTurnedLaw
import Derived.Test.YthiefohjkbdjeaaGreatDoorScoreTurnedFacts
import Derived.WalkKit
import Derived.ProofKit
import Derived.OpenShut
import Derived.Carry
import Derived.ChangeMaps5
import Derived.Deep.DeepHandedRow
import Derived.Lib.LaidTab
import Derived.Lay
set_option linter.unusedVariables false
set_option linter.unusedSimpArgs false
namespace Go.Proofs.YthiefohjkbdjeaaGreatDoor.scoreTurned
open Go.ChangeShapes Go.WideShapes Go.ChangeAt Go.RowKit Go.Sy

set_option maxRecDepth 100000 in
theorem contract (H : Type) (enc : TypeId × Value → H) (W : World) (base : Nat) (args : Array Value) (ds gs : List (DataW H)) (before : List MemPlace)
    (hval : ∀ (j : Nat) t v, Tryz.f5.params[j]? = some t → args[j]? = some v → Value.okWide Tryz.prog W .any base t v)
    (hW : DataW.Whole enc Tryz.prog Tryz.f5.params.toList Rows.scoreTurnedSpec.vars false W args.toList ds gs before) (hk : Rows.uptoSmall H (ds ++ gs) = true) (hL : laidMet Tryz.prog Rows.scoreTurnedUptoRow.laid W) (hSh : W.ShapedOpen Tryz.prog) :
    Calls Tryz.prog 5 args W fun e W' => ∃ v, e = .returned v ∧ Rows.scoreTurnedSpec.post enc Tryz.prog Tryz.f5 false true false false W args v W' := by
  have hW' := hW;obtain ⟨p, q, hA0, hV, rfl, hfz, hnd⟩ := hW;have hA : DataW.TrodAll enc Tryz.prog W 0 (fun _ => true) true Tryz.f5.params.toList args.toList ds p := hA0
  rw [Tryz.params5] at hA;obtain ⟨v0, v1, v2, d0, d1, d2, p0, p1, p2, rfl, rfl, rfl, h0, h1, h2⟩ := trodAll_three hA;obtain ⟨rfl, rfl⟩ := trodVars_none hV
  clear hA0
  simp only [List.append_nil, List.append_assoc] at hW' hk;have o0 := hval 0 37 v0 (by rw [Tryz.params5]; rfl) rfl
  have o1 := hval 1 52 v1 (by rw [Tryz.params5]; rfl) rfl
  have o2 := hval 2 3 v2 (by rw [Tryz.params5]; rfl) rfl
  have hlt : ∀ x ∈ p0 ++ (p1 ++ p2), x.block < W.heap.size := fun x hx => hW'.lt x (by simpa using hx)
  have t0 : ∀ sp : Nat → Bool, (∀ x ∈ p0 ++ (p1 ++ p2), sp x.block = true) → ∀ W', Kept W W' → DataW.Trod enc Tryz.prog W' 0 sp true 37 v0 d0 p0 := fun sp hsp W' hg => zI3 (by kernel_rfl) (by kernel_rfl) (of_decide_eq_true (by kernel_rfl)) h0 hg (fun x hx => hlt x (List.mem_append_left _ hx)) (fun x hx => hsp x (List.mem_append_left _ hx))
  have t1 : ∀ sp : Nat → Bool, (∀ x ∈ p0 ++ (p1 ++ p2), sp x.block = true) → ∀ W', Kept W W' → DataW.Trod enc Tryz.prog W' 0 sp true 52 v1 d1 p1 := fun sp hsp W' hg => zI3 (by kernel_rfl) (by kernel_rfl) (of_decide_eq_true (by kernel_rfl)) h1 hg (fun x hx => hlt x (List.mem_append_right _ (List.mem_append_left _ hx))) (fun x hx => hsp x (List.mem_append_right _ (List.mem_append_left _ hx)))
  have t2 : ∀ sp : Nat → Bool, (∀ x ∈ p0 ++ (p1 ++ p2), sp x.block = true) → ∀ W', Kept W W' → DataW.Trod enc Tryz.prog W' 0 sp true 3 v2 d2 p2 := fun sp hsp W' hg => zI3 (by kernel_rfl) (by kernel_rfl) (of_decide_eq_true (by kernel_rfl)) h2 hg (fun x hx => hlt x (List.mem_append_right _ (List.mem_append_right _ (hx)))) (fun x hx => hsp x (List.mem_append_right _ (List.mem_append_right _ (hx))))
  obtain ⟨cs0, rfl⟩ := zQx Tryz.underlying37 o0;have one1' : v1.oneCell' = true := zQv o1 (fun fs h => by rw [Tryz.underlying52] at h; cases h) (fun n e h => by rw [Tryz.underlying52] at h; cases h)
  have hs3 : ∀ fs, Tryz.prog.underlying 3 ≠ some (.struct fs) := fun fs h => by rw [Tryz.underlying3] at h; cases h
  have ha3 : ∀ n e, Tryz.prog.underlying 3 ≠ some (.array n e) := fun n e h => by rw [Tryz.underlying3] at h; cases h
  obtain ⟨k2, rfl, hk2⟩ := zSu Tryz.underlying3 (zPv hs3 ha3 o2);have hb : Rows.uptoBulkAll [d0, d1, d2] ≤ 1048576 := of_decide_eq_true hk;have hb2 : Rows.uptoBulkAll [d0, d1, d2] = Rows.uptoBulk d0 + (Rows.uptoBulk d1 + (Rows.uptoBulk d2 + 0)) := rfl;obtain ⟨f0, e0⟩ := h0;obtain ⟨f1, e1⟩ := h1;rw [zRZ one1'] at e1;obtain ⟨_, ⟨x0, q0, w0, _⟩, one0⟩ := zJF (zLT H) (E := Env.still W) (fun b h => h) 9 f0 37 zLS cs0.toList _ zVi e0
  obtain ⟨_, ⟨x1, q1, w1, _⟩, _⟩ := zJF (zLT H) (E := Env.still W) (fun b h => h) 10 f1 52 [.sl zJd false] [v1] _ zSO e1
  have b0 : (zLT H).f d0 ≤ 2000000 := by show Rows.uptoBulk d0 ≤ _; omega
  have b1 : (zLT H).f d1 ≤ 2000000 := by show Rows.uptoBulk d1 ≤ _; omega
  obtain ⟨y1, r1, rfl, q3, q2⟩ := zx q1;obtain rfl := zHa q2;have hfn := zWa (Nat.le_refl _) k2 (q0.mono b0) (q3.mono b1);have hv : VRs (Env.still W) W [.agg x0, y1, .int .i64 k2] [.agg cs0, v1, .int .i64 k2] := .cons (VR.mk_agg w0 one0) (.cons (w1.2 0 _ _ rfl rfl) (.cons (.int _ _ hk2) .nil));have key := zQm (cargs := #[.agg cs0, v1, .int .i64 k2]) hfn hv (zSz hL (List.mem_of_getElem? (i := 0) (by kernel_rfl)) (List.mem_of_getElem? (i := 1) (by kernel_rfl)) (List.mem_of_getElem? (i := 2) (by kernel_rfl)) (List.mem_of_getElem? (i := 3) (by kernel_rfl)) (List.mem_of_getElem? (i := 4) (by kernel_rfl)))
  refine key.mono fun e W' ⟨he, hg⟩ => ?_
  subst he;exact ⟨_, rfl, zRf (pa := p0 ++ (p1 ++ p2)) (pv := []) hW' (fun _ _ _ => trodAll_cons_mk (shut_bool Tryz.underlying4 _) trodAll_mk0) (fun sp hsp => trodAll_mk3 (t0 sp hsp W' hg) (t1 sp hsp W' hg) (t2 sp hsp W' hg)) (fun _ _ => rfl) (by simp)
    hg (ok_one (by kernel_rfl) rfl (okWide_bool_mk Tryz.underlying4 _))⟩

noncomputable def zPc (t : TypeId) : Value := ((Tryz.prog.info? t).bind (·.zero)).getD (.bool true)
noncomputable def wargs : Array Value := #[zPc 37, zPc 52, zPc 3]
/-- A world for the witness: the listed variables as their initialisers lay them. -/
theorem zSP (os : Os) : laidMet Tryz.prog Rows.scoreTurnedUptoRow.laid (((World.laidAll Tryz.prog os Rows.scoreTurnedUptoRow.laid)).forCall (fun _ _ => 0) ⟨#[], wargs, []⟩).memory :=
  laidMet_laidAll wargs (by kernel_rfl) (by kernel_rfl)
def zPd : (H : Type) → List (DataW H) → Bool := Rows.uptoSmall
def zR0 {H : Type} : Option (List (DataW H) × List (DataW H) × List MemPlace) → Bool
  | some (ds, [], _) => zPd H ds
  | _ => false
theorem zPH {H : Type} {x : Option (List (DataW H) × List (DataW H) × List MemPlace)} (h : zR0 x = true) : ∃ ds ps, x = some (ds, [], ps) ∧ zPd H (ds ++ []) = true := by
  unfold zR0 at h;split at h
  · exact ⟨_, _, rfl, by rw [List.append_nil]; exact h⟩
  · cases h
theorem reads (os : Os) {H : Type} (enc : TypeId × Value → H) : ∃ ds places, DataW.whole enc Tryz.prog ((World.laidAll Tryz.prog os Rows.scoreTurnedUptoRow.laid).forCall (fun _ _ => 0) ⟨#[], wargs, []⟩).memory Tryz.f5.params.toList Rows.scoreTurnedSpec.vars false wargs.toList 8 = some (ds, [], places) ∧ zPd H (ds ++ []) = true :=
  zPH (by kernel_rfl)

set_option maxRecDepth 100000 in
theorem lifted (os : Os) (started : os.Started) (H : Type) (enc : TypeId × Value → H) (F : Stop.Interp) :
    ReturnsInHanded {} Tryz.checked os 5 .any ((Rows.OpenSpec.upto Rows.scoreTurnedSpec).preRow enc Tryz.prog Tryz.f5 Rows.scoreTurnedUptoRow.domain false Rows.scoreTurnedUptoRow.laid) (((Rows.OpenSpec.upto Rows.scoreTurnedSpec).at F).post enc Tryz.prog Tryz.f5 false true false false) := by
  obtain ⟨ds, places, hx, hsm⟩ := reads os enc;refine returnsInHanded_of_row (C := Tryz.checked) (s := (Rows.OpenSpec.upto Rows.scoreTurnedSpec)) own started (by kernel_rfl) Tryz.func5
    (witness_row_at (enc := enc) (C := Tryz.checked) false (World.laidAll Tryz.prog os Rows.scoreTurnedUptoRow.laid) wargs (World.laidAll_os _ _ _) (by kernel_rfl) (by kernel_rfl) (by kernel_rfl)
      (OpenSpec.preRow_of_cond 8 hx (by kernel_rfl) (fun k hk => by cases hk; exact hsm) (by kernel_rfl) (zSP os))) ?_
  intro W base args ds gs before hval hW _ hk _ hL hSh _;exact contract H enc W base args ds gs before hval hW (hk _ rfl) hL hSh

set_option maxRecDepth 100000 in
theorem said : Rows.ScoreTurnedUptoSaid :=
  OpenClaim.holds_of_cond 5 Tryz.f5 rfl rfl rfl rfl rfl rfl rfl ⟨rfl, rfl, rfl, rfl, rfl⟩ rfl rfl rfl rfl rfl named' Tryz.func5 closed
    inst' (by unfold Func.isWrapper; first | (rw [if_pos (by decide +kernel)]; kernel_rfl) | (rw [if_neg (by decide +kernel)]; exact ⟨rfl, rfl⟩))
    (fun os started H enc _ F => by rw [OpenClaim.pre_eq_preRow]; exact lifted os started H enc F)

theorem plain (f : FuncId) (fn : Func) (hf : Tryz.pinned.checked.prog.funcNamed "berthmaster/berthmasterlaw18.ScoreTurned" = some f) (hfn : Tryz.pinned.checked.prog.funcs[f]? = some fn) :
    true = Tryz.pinned.checked.prog.looks [] ∧ ∀ (j : Nat) t, fn.params[j]? = some t → Tryz.pinned.checked.prog.wantsStandIn t = false := by
  obtain rfl : f = 5 := Option.some.inj (named.symm.trans hf) |>.symm;obtain rfl : fn = Tryz.f5 := (Option.some.inj (Tryz.func5.symm.trans hfn)).symm;refine ⟨looked, fun j t ht => ?_⟩
  rw [Tryz.params5] at ht;have e : t = 37 ∨ t = 52 ∨ t = 3 := by
    match j, ht with
    | 0, ht => exact .inl (Option.some.inj ht).symm
    | 1, ht => exact .inr (.inl (Option.some.inj ht).symm)
    | 2, ht => exact .inr (.inr ((Option.some.inj ht).symm))
    | j + 3, ht => simp at ht
  rcases e with rfl | rfl | rfl
  · exact (show Tryz.pinned.checked.prog.wantsStandIn 37 = false by kernel_rfl)
  · exact (show Tryz.pinned.checked.prog.wantsStandIn 52 = false by kernel_rfl)
  · exact (show Tryz.pinned.checked.prog.wantsStandIn 3 = false by kernel_rfl)

set_option maxRecDepth 100000 in
theorem card : Rows.ScoreTurnedUptoCardSaid := by
  refine Claim7.holds_tied_plain_at .later [] _ _ _ _ said (fun _ h => by cases h) ?_ (fun _ h => by cases h) scoreTurnedUpto_row_tie ?_ ⟨?_, ?_⟩ ?_ ?_ plain ?_
  all_goals as_aux_lemma => kernel_rfl
#print axioms card
end Go.Proofs.YthiefohjkbdjeaaGreatDoor.scoreTurned
