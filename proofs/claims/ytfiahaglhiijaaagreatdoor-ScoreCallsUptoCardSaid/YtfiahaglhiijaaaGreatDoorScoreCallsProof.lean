/- THE LAW ScoreCalls SAYS TRUE, WHATEVER ITS ARGUMENTS ('Rows.ScoreCallsUptoCardSaid'). No condition but the statement's own. -/
import Derived.Test.YtfiahaglhiijaaaGreatDoorCards
import Derived.Test.YtfiahaglhiijaaaGreatDoorTie
import Derived.Test.YtfiahaglhiijaaaGreatDoorScoreCallsLaw
import Derived.Test.YtfiahaglhiijaaaGreatDoorScoreCallsFacts
import Derived.WalkKit
import Derived.ProofKit
import Derived.OpenShut
import Derived.Carry
import Derived.ChangeMaps5
import Derived.Deep.DeepHandedRow
import Derived.Lib.LaidTab
import Derived.Lay
set_option linter.unusedVariables false
set_option linter.unusedSimpArgs false
namespace Go.Proofs.YtfiahaglhiijaaaGreatDoor.scoreCalls
open Go.ChangeShapes Go.WideShapes Go.ChangeAt Go.RowKit Go.Sy Go.Proofs.YtfiahaglhiijaaaGreatDoor.score

set_option maxRecDepth 100000 in
theorem contract(H : Type)(enc : TypeId × Value → H)(W : World)(base : Nat)(args : Array Value)(ds gs : List (DataW H))(before : List MemPlace)
    (hval : ∀(j : Nat) t v, Tryz.f3.params[j]?=some t → args[j]?=some v → Value.okWide Tryz.prog W .any base t v)
    (hW : DataW.Whole enc Tryz.prog Tryz.f3.params.toList Rows.scoreCallsSpec.vars false W args.toList ds gs before) (hk : Rows.uptoSmall H (ds ++ gs) = true) (hL : laidMet Tryz.prog Rows.scoreCallsUptoRow.laid W) (hSh : W.ShapedOpen Tryz.prog) :
    Calls Tryz.prog 3 args W λe W' => ∃v, e = .returned v ∧ Rows.scoreCallsSpec.post enc Tryz.prog Tryz.f3 false true false false W args v W' := by
  have hW' := hW;obtain⟨p, q, hA0, hV, rfl, hfz, hnd⟩ := hW;have hA : DataW.TrodAll enc Tryz.prog W 0 (λ_ => true) true Tryz.f3.params.toList args.toList ds p := hA0
  rw[Tryz.params3]at hA;obtain⟨v0, v1, d0, d1, p0, p1, rfl, rfl, rfl, h0, h1⟩ := trodAll_two hA;obtain⟨rfl, rfl⟩ := trodVars_none hV
  clear hA0
  simp only[List.append_nil, List.append_assoc]at hW' hk;have o0 := hval 0 28 v0 (by rw[Tryz.params3]; rfl) rfl
  have o1 := hval 1 29 v1 (by rw[Tryz.params3]; rfl) rfl
  have hlt : ∀x ∈ p0 ++ p1, x.block < W.heap.size := λx hx => hW'.lt x (by simpa using hx)
  have t0 : ∀sp : Nat → Bool, (∀x ∈ p0 ++ p1, sp x.block = true) → ∀W', Kept W W' → DataW.Trod enc Tryz.prog W' 0 sp true 28 v0 d0 p0 := λsp hsp W' hg => zhM (by kernel_rfl) (by kernel_rfl) (of_decide_eq_true (by kernel_rfl)) h0 hg (λx hx => hlt x (List.mem_append_left _ hx)) (λx hx => hsp x (List.mem_append_left _ hx))
  have t1 : ∀sp : Nat → Bool, (∀x ∈ p0 ++ p1, sp x.block = true) → ∀W', Kept W W' → DataW.Trod enc Tryz.prog W' 0 sp true 29 v1 d1 p1 := λsp hsp W' hg => zhM (by kernel_rfl) (by kernel_rfl) (of_decide_eq_true (by kernel_rfl)) h1 hg (λx hx => hlt x (List.mem_append_right _ (hx))) (λx hx => hsp x (List.mem_append_right _ (hx)))
  obtain⟨cs0, rfl⟩ := zgB Tryz.underlying28 o0;have one1' : v1.oneCell' = true := zgA o1 (λfs h => by rw[Tryz.underlying29]at h; cases h) (λn e h => by rw[Tryz.underlying29]at h; cases h)
  have hb : Rows.uptoBulkAll [d0, d1] ≤ 1048576 := of_decide_eq_true hk;have hb2 : Rows.uptoBulkAll [d0, d1] = Rows.uptoBulk d0 + (Rows.uptoBulk d1 + 0) := rfl;obtain⟨f0, e0⟩ := h0;obtain⟨f1, e1⟩ := h1;rw[zhN one1']at e1;obtain⟨_, ⟨x0, q0, w0, _⟩, one0⟩ := zZj (zhZ H) (E := Env.still W) (λb h => h) 9 f0 28 zYk cs0.toList _ zhX e0
  obtain⟨_, ⟨x1, q1, w1, _⟩, _⟩ := zZj (zhZ H) (E := Env.still W) (λb h => h) 10 f1 29 [.sl zYl false] [v1] _ zhP e1
  have b0 : (zhZ H).f d0 ≤ 2000000 := by show Rows.uptoBulk d0 ≤ _; omega
  have b1 : (zhZ H).f d1 ≤ 2000000 := by show Rows.uptoBulk d1 ≤ _; omega
  obtain⟨y1, r1, rfl, q3, q2⟩ := z3 q1;obtain rfl := zRN q2;have hfn := zhY (Nat.le_refl _) (q0.mono b0) (q3.mono b1);have hv : VRs (Env.still W) W [.agg x0, y1] [.agg cs0, v1] := .cons (VR.qN w0 one0) (.cons (w1.2 0 _ _ rfl rfl) .nil);have key := zgu (cargs := #[.agg cs0, v1]) hfn hv (zhO hL (List.mem_of_getElem? (i := 0) (by kernel_rfl)) (List.mem_of_getElem? (i := 1) (by kernel_rfl)) (List.mem_of_getElem? (i := 2) (by kernel_rfl)) (List.mem_of_getElem? (i := 3) (by kernel_rfl)) (List.mem_of_getElem? (i := 4) (by kernel_rfl)))
  refine key.mono λe W' ⟨he, hg⟩ => ?_
  subst he;exact⟨_, rfl, zhL (pa := p0 ++ p1) (pv := []) hW' (λ_ _ _ => trodAll_cons_mk (shut_bool Tryz.underlying4 _) trodAll_mk0) (λsp hsp => trodAll_mk2 (t0 sp hsp W' hg) (t1 sp hsp W' hg)) (λ_ _ => rfl) (by simp)
    hg (ok_one (by kernel_rfl) rfl (okWide_bool_mk Tryz.underlying4 _))⟩

noncomputable def zeroOf(t : TypeId) : Value := ((Tryz.prog.info? t).bind (·.zero)).getD (.bool true)
noncomputable def wargs : Array Value := #[zeroOf 28, zeroOf 29]
/-- A world for the witness: the listed variables as their initialisers lay them. -/
theorem laid_met(os : Os) : laidMet Tryz.prog Rows.scoreCallsUptoRow.laid (((World.laidAll Tryz.prog os Rows.scoreCallsUptoRow.laid)).forCall (λ_ _ => 0) ⟨#[], wargs, []⟩).memory :=
  laidMet_laidAll wargs (by kernel_rfl) (by kernel_rfl)
def small0 : (H : Type) → List (DataW H) → Bool := Rows.uptoSmall
def noVars{H : Type} : Option (List (DataW H) × List (DataW H) × List MemPlace) → Bool
  |some (ds, [], _) => small0 H ds
  |_ => false
theorem noVars_spec{H : Type}{x : Option (List (DataW H) × List (DataW H) × List MemPlace)}(h : noVars x = true) : ∃ds ps, x = some (ds, [], ps) ∧ small0 H (ds ++ []) = true := by
  unfold noVars at h;split at h
  · exact⟨_, _, rfl, by rw[List.append_nil]; exact h⟩
  · cases h
theorem reads(os : Os){H : Type}(enc : TypeId × Value → H) : ∃ds places, DataW.whole enc Tryz.prog ((World.laidAll Tryz.prog os Rows.scoreCallsUptoRow.laid).forCall (λ_ _ => 0) ⟨#[], wargs, []⟩).memory Tryz.f3.params.toList Rows.scoreCallsSpec.vars false wargs.toList 8 = some (ds, [], places) ∧ small0 H (ds ++ []) = true :=
  noVars_spec (by kernel_rfl)

set_option maxRecDepth 100000 in
theorem lifted(os : Os)(started : os.Started)(H : Type)(enc : TypeId × Value → H)(F : Stop.Interp) :
    ReturnsInHanded {} Tryz.checked os 3 .any ((Rows.OpenSpec.upto Rows.scoreCallsSpec).preRow enc Tryz.prog Tryz.f3 Rows.scoreCallsUptoRow.domain false Rows.scoreCallsUptoRow.laid) (((Rows.OpenSpec.upto Rows.scoreCallsSpec).at F).post enc Tryz.prog Tryz.f3 false true false false) := by
  obtain⟨ds, places, hx, hsm⟩ := reads os enc;refine returnsInHanded_of_row (C := Tryz.checked) (s := (Rows.OpenSpec.upto Rows.scoreCallsSpec)) own started (by kernel_rfl) Tryz.func3
    (witness_row_at (enc := enc) (C := Tryz.checked) false (World.laidAll Tryz.prog os Rows.scoreCallsUptoRow.laid) wargs (World.laidAll_os _ _ _) (by kernel_rfl) (by kernel_rfl) (by kernel_rfl)
      (OpenSpec.preRow_of_cond 8 hx (by kernel_rfl) (λk hk => by cases hk; exact hsm) (by kernel_rfl) (laid_met os))) ?_
  intro W base args ds gs before hval hW _ hk _ hL hSh _;exact contract H enc W base args ds gs before hval hW (hk _ rfl) hL hSh

set_option maxRecDepth 100000 in
theorem said : Rows.ScoreCallsUptoSaid :=
  OpenClaim.holds_of_cond 3 Tryz.f3 rfl rfl rfl rfl rfl rfl rfl ⟨rfl, rfl, rfl, rfl, rfl⟩ rfl rfl rfl rfl rfl named' Tryz.func3 closed
    inst' (by unfold Func.isWrapper; first|(rw[if_pos (by decide +kernel)]; kernel_rfl)|(rw[if_neg (by decide +kernel)]; exact⟨rfl, rfl⟩))
    (λos started H enc _ F => by rw[OpenClaim.pre_eq_preRow]; exact lifted os started H enc F)

theorem plain (f : FuncId) (fn : Func) (hf : Tryz.pinned.checked.prog.funcNamed "berthmaster/berthmasterlaw18.ScoreCalls" = some f) (hfn : Tryz.pinned.checked.prog.funcs[f]?=some fn) :
    true = Tryz.pinned.checked.prog.looks [] ∧ ∀(j : Nat) t, fn.params[j]?=some t → Tryz.pinned.checked.prog.wantsStandIn t = false := by
  obtain rfl : f = 3 := Option.some.inj (named.symm.trans hf) |>.symm;obtain rfl : fn = Tryz.f3 := (Option.some.inj (Tryz.func3.symm.trans hfn)).symm;refine⟨looked, λj t ht => ?_⟩
  rw[Tryz.params3]at ht;have e : t = 28 ∨ t = 29 := by
    match j, ht with
    |0, ht => exact .inl (Option.some.inj ht).symm
    |1, ht => exact .inr ((Option.some.inj ht).symm)
    |j + 2, ht => simp at ht
  rcases e with rfl|rfl
  · exact(show Tryz.pinned.checked.prog.wantsStandIn 28 = false by kernel_rfl)
  · exact(show Tryz.pinned.checked.prog.wantsStandIn 29 = false by kernel_rfl)

set_option maxRecDepth 100000 in
theorem card : Rows.ScoreCallsUptoCardSaid := by
  refine Claim7.holds_tied_plain_at .later [] _ _ _ _ said (λ_ h => by cases h) ?_ (λ_ h => by cases h) scoreCallsUpto_row_tie ?_ ⟨?_, ?_⟩ ?_ ?_ plain ?_
  all_goals as_aux_lemma => kernel_rfl
#print axioms card
end Go.Proofs.YtfiahaglhiijaaaGreatDoor.scoreCalls
