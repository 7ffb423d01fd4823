/- THE LAW CanonHolds SAYS TRUE, WHATEVER ITS ARGUMENTS ('Rows.CanonHoldsUptoCardSaid'). No condition but the statement's own. -/
import Derived.Test.YtcolommdbibghaaGreatDoorCards
import Derived.Test.YtcolommdbibghaaGreatDoorTie
import Derived.Test.YtcolommdbibghaaGreatDoorCanonHoldsLaw
import Derived.Test.YtcolommdbibghaaGreatDoorCanonHoldsFacts
import Derived.WalkKit
import Derived.ProofKit
import Derived.OpenShut
import Derived.Carry
import Derived.ChangeMaps5
import Derived.Deep.DeepHandedRow
import Derived.Lib.LaidTab
import Derived.Lay
set_option linter.unusedVariables false
set_option linter.unusedSimpArgs false
namespace Go.Proofs.YtcolommdbibghaaGreatDoor.canonHolds
open Go.ChangeShapes Go.WideShapes Go.ChangeAt Go.RowKit Go.Sy Go.Proofs.YtcolommdbibghaaGreatDoor.canon

set_option maxRecDepth 100000 in
theorem zWa(H : Type)(enc : TypeId × Value → H)(W : World)(base : Nat)(args : Array Value)(ds gs : List (DataW H))(before : List MemPlace)
    (hval : ∀(j : Nat) t v, Tryz.f4.params[j]?=some t → args[j]?=some v → Value.okWide Tryz.prog W .any base t v)
    (hW : DataW.Whole enc Tryz.prog Tryz.f4.params.toList Rows.canonHoldsSpec.vars false W args.toList ds gs before) (hk : Rows.uptoSmall H (ds ++ gs) = true) (hL : laidMet Tryz.prog Rows.canonHoldsUptoRow.laid W) (hSh : W.ShapedOpen Tryz.prog) :
    Calls Tryz.prog 4 args W λe W' => ∃v, e = .returned v ∧ Rows.canonHoldsSpec.post enc Tryz.prog Tryz.f4 false true false false W args v W' := by
  have hW' := hW;obtain⟨p, q, hA0, hV, rfl, hfz, hnd⟩ := hW;have hA : DataW.TrodAll enc Tryz.prog W 0 (λ_ => true) true Tryz.f4.params.toList args.toList ds p := hA0
  rw[Tryz.params4]at hA;obtain⟨v0, v1, d0, d1, p0, p1, rfl, rfl, rfl, h0, h1⟩ := trodAll_two hA;obtain⟨rfl, rfl⟩ := trodVars_none hV
  clear hA0
  simp only[List.append_nil, List.append_assoc]at hW' hk;have o0 := hval 0 9 v0 (by rw[Tryz.params4]; rfl) rfl
  have o1 := hval 1 37 v1 (by rw[Tryz.params4]; rfl) rfl
  have hlt : ∀x ∈ p0 ++ p1, x.block < W.heap.size := λx hx => hW'.lt x (by simpa using hx)
  have t0 : ∀sp : Nat → Bool, (∀x ∈ p0 ++ p1, sp x.block = true) → ∀W', Kept W W' → DataW.Trod enc Tryz.prog W' 0 sp true 9 v0 d0 p0 := λsp hsp W' hg => zPc (by kernel_rfl) (by kernel_rfl) (of_decide_eq_true (by kernel_rfl)) h0 hg (λx hx => hlt x (List.mem_append_left _ hx)) (λx hx => hsp x (List.mem_append_left _ hx))
  have t1 : ∀sp : Nat → Bool, (∀x ∈ p0 ++ p1, sp x.block = true) → ∀W', Kept W W' → DataW.Trod enc Tryz.prog W' 0 sp true 37 v1 d1 p1 := λsp hsp W' hg => zPc (by kernel_rfl) (by kernel_rfl) (of_decide_eq_true (by kernel_rfl)) h1 hg (λx hx => hlt x (List.mem_append_right _ (hx))) (λx hx => hsp x (List.mem_append_right _ (hx)))
  have one0' : v0.oneCell' = true := zNM o0 (λfs h => by rw[Tryz.underlying9]at h; cases h) (λn e h => by rw[Tryz.underlying9]at h; cases h)
  have one1' : v1.oneCell' = true := zNM o1 (λfs h => by rw[Tryz.underlying37]at h; cases h) (λn e h => by rw[Tryz.underlying37]at h; cases h)
  have hb : Rows.uptoBulkAll [d0, d1] ≤ 1048576 := of_decide_eq_true hk;have hb2 : Rows.uptoBulkAll [d0, d1] = Rows.uptoBulk d0 + (Rows.uptoBulk d1 + 0) := rfl;obtain⟨f0, e0⟩ := h0;obtain⟨f1, e1⟩ := h1;rw[zOM one0']at e0;rw[zOM one1']at e1;obtain⟨_, ⟨x0, q0, w0, _⟩, _⟩ := zLJ (zM1 H) (E := Env.still W) (λb h => h) 9 f0 9 [.str] [v0] _ zYv e0
  obtain⟨_, ⟨x1, q1, w1, _⟩, _⟩ := zLJ (zM1 H) (E := Env.still W) (λb h => h) 10 f1 37 [.sl zM0 false] [v1] _ zYw e1
  have b0 : (zM1 H).f d0 ≤ 2000000 := by show Rows.uptoBulk d0 ≤ _; omega
  have b1 : (zM1 H).f d1 ≤ 2000000 := by show Rows.uptoBulk d1 ≤ _; omega
  obtain⟨y0, r0, rfl, q3, q2⟩ := zLv q0;obtain rfl := zQB q2;obtain⟨y1, r1, rfl, q5, q4⟩ := zLv q1;obtain rfl := zQB q4;have hfn := zYu (Nat.le_refl _) (q3.mono b0) (q5.mono b1);have hv : VRs (Env.still W) W [y0, y1] [v0, v1] := .cons (w0.2 0 _ _ rfl rfl) (.cons (w1.2 0 _ _ rfl rfl) .nil);have key := zTi (cargs := #[v0, v1]) hfn hv (zVc hL (List.mem_of_getElem? (i := 0) (by kernel_rfl)) (List.mem_of_getElem? (i := 1) (by kernel_rfl)) (List.mem_of_getElem? (i := 2) (by kernel_rfl)) (List.mem_of_getElem? (i := 3) (by kernel_rfl)) (List.mem_of_getElem? (i := 4) (by kernel_rfl)))
  refine key.mono λe W' ⟨he, hg⟩ => ?_
  subst he;exact⟨_, rfl, zUD (pa := p0 ++ p1) (pv := []) hW' (λ_ _ _ => trodAll_cons_mk (shut_bool Tryz.underlying4 _) trodAll_mk0) (λsp hsp => trodAll_mk2 (t0 sp hsp W' hg) (t1 sp hsp W' hg)) (λ_ _ => rfl) (by simp)
    hg (ok_one (by kernel_rfl) rfl (okWide_bool_mk Tryz.underlying4 _))⟩

noncomputable def zUb(t : TypeId) : Value := ((Tryz.prog.info? t).bind (·.zero)).getD (.bool true)
noncomputable def zNU : Array Value := #[zUb 9, zUb 37]
/-- A world for the witness: the listed variables as their initialisers lay them. -/
theorem zVx(os : Os) : laidMet Tryz.prog Rows.canonHoldsUptoRow.laid (((World.laidAll Tryz.prog os Rows.canonHoldsUptoRow.laid)).forCall (λ_ _ => 0) ⟨#[], zNU, []⟩).memory :=
  laidMet_laidAll zNU (by kernel_rfl) (by kernel_rfl)
def zQC : (H : Type) → List (DataW H) → Bool := Rows.uptoSmall
def zUc{H : Type} : Option (List (DataW H) × List (DataW H) × List MemPlace) → Bool
  |some (ds, [], _) => zQC H ds
  |_ => false
theorem zRH{H : Type}{x : Option (List (DataW H) × List (DataW H) × List MemPlace)}(h : zUc x = true) : ∃ds ps, x = some (ds, [], ps) ∧ zQC H (ds ++ []) = true := by
  unfold zUc at h;split at h
  · exact⟨_, _, rfl, by rw[List.append_nil]; exact h⟩
  · cases h
theorem reads(os : Os){H : Type}(enc : TypeId × Value → H) : ∃ds places, DataW.whole enc Tryz.prog ((World.laidAll Tryz.prog os Rows.canonHoldsUptoRow.laid).forCall (λ_ _ => 0) ⟨#[], zNU, []⟩).memory Tryz.f4.params.toList Rows.canonHoldsSpec.vars false zNU.toList 8 = some (ds, [], places) ∧ zQC H (ds ++ []) = true :=
  zRH (by kernel_rfl)

set_option maxRecDepth 100000 in
theorem lifted(os : Os)(started : os.Started)(H : Type)(enc : TypeId × Value → H)(F : Stop.Interp) :
    ReturnsInHanded {} Tryz.checked os 4 .any ((Rows.OpenSpec.upto Rows.canonHoldsSpec).preRow enc Tryz.prog Tryz.f4 Rows.canonHoldsUptoRow.domain false Rows.canonHoldsUptoRow.laid) (((Rows.OpenSpec.upto Rows.canonHoldsSpec).at F).post enc Tryz.prog Tryz.f4 false true false false) := by
  obtain⟨ds, places, hx, hsm⟩ := reads os enc;refine returnsInHanded_of_row (C := Tryz.checked) (s := (Rows.OpenSpec.upto Rows.canonHoldsSpec)) own started (by kernel_rfl) Tryz.func4
    (witness_row_at (enc := enc) (C := Tryz.checked) false (World.laidAll Tryz.prog os Rows.canonHoldsUptoRow.laid) zNU (World.laidAll_os _ _ _) (by kernel_rfl) (by kernel_rfl) (by kernel_rfl)
      (OpenSpec.preRow_of_cond 8 hx (by kernel_rfl) (λk hk => by cases hk; exact hsm) (by kernel_rfl) (zVx os))) ?_
  intro W base args ds gs before hval hW _ hk _ hL hSh _;exact zWa H enc W base args ds gs before hval hW (hk _ rfl) hL hSh

set_option maxRecDepth 100000 in
theorem said : Rows.CanonHoldsUptoSaid :=
  OpenClaim.holds_of_cond 4 Tryz.f4 rfl rfl rfl rfl rfl rfl rfl ⟨rfl, rfl, rfl, rfl, rfl⟩ rfl rfl rfl rfl rfl zZg Tryz.func4 closed
    zad (by unfold Func.isWrapper; first|(rw[if_pos (by decide +kernel)]; kernel_rfl)|(rw[if_neg (by decide +kernel)]; exact⟨rfl, rfl⟩))
    (λos started H enc _ F => by rw[OpenClaim.pre_eq_preRow]; exact lifted os started H enc F)

theorem plain (f : FuncId) (fn : Func) (hf : Tryz.pinned.checked.prog.funcNamed "berthmaster/berthmasterlaw13.CanonHolds" = some f) (hfn : Tryz.pinned.checked.prog.funcs[f]?=some fn) :
    true = Tryz.pinned.checked.prog.looks [] ∧ ∀(j : Nat) t, fn.params[j]?=some t → Tryz.pinned.checked.prog.wantsStandIn t = false := by
  obtain rfl : f = 4 := Option.some.inj (named.symm.trans hf) |>.symm;obtain rfl : fn = Tryz.f4 := (Option.some.inj (Tryz.func4.symm.trans hfn)).symm;refine⟨looked, λj t ht => ?_⟩
  rw[Tryz.params4]at ht;have e : t = 9 ∨ t = 37 := by
    match j, ht with
    |0, ht => exact .inl (Option.some.inj ht).symm
    |1, ht => exact .inr ((Option.some.inj ht).symm)
    |j + 2, ht => simp at ht
  rcases e with rfl|rfl
  · exact(show Tryz.pinned.checked.prog.wantsStandIn 9 = false by kernel_rfl)
  · exact(show Tryz.pinned.checked.prog.wantsStandIn 37 = false by kernel_rfl)

set_option maxRecDepth 100000 in
theorem card : Rows.CanonHoldsUptoCardSaid := by
  refine Claim7.holds_tied_plain_at .later [] _ _ _ _ said (λ_ h => by cases h) ?_ (λ_ h => by cases h) canonHoldsUpto_row_tie ?_ ⟨?_, ?_⟩ ?_ ?_ plain ?_
  all_goals as_aux_lemma => kernel_rfl
#print axioms card
end Go.Proofs.YtcolommdbibghaaGreatDoor.canonHolds
