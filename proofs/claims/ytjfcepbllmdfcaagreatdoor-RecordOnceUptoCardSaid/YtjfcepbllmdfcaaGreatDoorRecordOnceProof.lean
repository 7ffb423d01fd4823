/- THE LAW RecordOnce SAYS TRUE, WHATEVER ITS ARGUMENTS ('Rows.RecordOnceUptoCardSaid'). No condition but the statement's own. -/
import Derived.Test.YtjfcepbllmdfcaaGreatDoorCards
import Derived.Test.YtjfcepbllmdfcaaGreatDoorTie
import Derived.Test.YtjfcepbllmdfcaaGreatDoorRecordOnceLaw
import Derived.Test.YtjfcepbllmdfcaaGreatDoorRecordOnceFacts
import Derived.WalkKit
import Derived.ProofKit
import Derived.OpenShut
import Derived.Carry
import Derived.ChangeMaps5
import Derived.Deep.DeepHandedRow
import Derived.Lib.LaidTab
import Derived.Lay
set_option linter.unusedVariables false
set_option linter.unusedSimpArgs false
namespace Go.Proofs.YtjfcepbllmdfcaaGreatDoor.recordOnce
open Go.ChangeShapes Go.WideShapes Go.ChangeAt Go.RowKit Go.Sy Go.Proofs.YtjfcepbllmdfcaaGreatDoor.record

set_option maxRecDepth 100000 in
theorem zY8(H : Type)(enc : TypeId × Value → H)(W : World)(base : Nat)(args : Array Value)(ds gs : List (DataW H))(before : List MemPlace)
    (hval : ∀(j : Nat) t v, Tryz.f4.params[j]?=some t → args[j]?=some v → Value.okWide Tryz.prog W .any base t v)
    (hW : DataW.Whole enc Tryz.prog Tryz.f4.params.toList Rows.recordOnceSpec.vars false W args.toList ds gs before) (hk : Rows.uptoSmall H (ds ++ gs) = true) (hL : laidMet Tryz.prog Rows.recordOnceUptoRow.laid W) (hSh : W.ShapedOpen Tryz.prog) :
    Calls Tryz.prog 4 args W λe W' => ∃v, e = .returned v ∧ Rows.recordOnceSpec.post enc Tryz.prog Tryz.f4 false true false false W args v W' := by
  have hW' := hW;obtain⟨p, q, hA0, hV, rfl, hfz, hnd⟩ := hW;have hA : DataW.TrodAll enc Tryz.prog W 0 (λ_ => true) true Tryz.f4.params.toList args.toList ds p := hA0
  rw[Tryz.params4]at hA;obtain⟨v0, v1, d0, d1, p0, p1, rfl, rfl, rfl, h0, h1⟩ := trodAll_two hA;obtain⟨rfl, rfl⟩ := trodVars_none hV
  clear hA0
  simp only[List.append_nil, List.append_assoc]at hW' hk;have o0 := hval 0 22 v0 (by rw[Tryz.params4]; rfl) rfl
  have o1 := hval 1 22 v1 (by rw[Tryz.params4]; rfl) rfl
  obtain⟨mx, hmx⟩ := Tryz.laysM145.s1_3 W hSh;obtain⟨vJ, hmr⟩ := zVD (g := 0) (t := 3) (u := 3) (zero := #[.int .i64 0]) hSh (by decide +kernel) (by kernel_rfl) rfl (by kernel_rfl) (by kernel_rfl) (by kernel_rfl) hmx
  letI : MX := ⟨mx⟩
  have hlt : ∀x ∈ p0 ++ p1, x.block < W.heap.size := λx hx => hW'.lt x (by simpa using hx)
  have t0 : ∀sp : Nat → Bool, (∀x ∈ p0 ++ p1, sp x.block = true) → ∀W', Kept W W' → DataW.Trod enc Tryz.prog W' 0 sp true 22 v0 d0 p0 := λsp hsp W' hg => zR4 (by kernel_rfl) (by kernel_rfl) (of_decide_eq_true (by kernel_rfl)) h0 hg (λx hx => hlt x (List.mem_append_left _ hx)) (λx hx => hsp x (List.mem_append_left _ hx))
  have t1 : ∀sp : Nat → Bool, (∀x ∈ p0 ++ p1, sp x.block = true) → ∀W', Kept W W' → DataW.Trod enc Tryz.prog W' 0 sp true 22 v1 d1 p1 := λsp hsp W' hg => zR4 (by kernel_rfl) (by kernel_rfl) (of_decide_eq_true (by kernel_rfl)) h1 hg (λx hx => hlt x (List.mem_append_right _ (hx))) (λx hx => hsp x (List.mem_append_right _ (hx)))
  have one0' : v0.oneCell' = true := zQP o0 (λfs h => by rw[Tryz.underlying22]at h; cases h) (λn e h => by rw[Tryz.underlying22]at h; cases h)
  have one1' : v1.oneCell' = true := zQP o1 (λfs h => by rw[Tryz.underlying22]at h; cases h) (λn e h => by rw[Tryz.underlying22]at h; cases h)
  have hb : Rows.uptoBulkAll [d0, d1] ≤ 1048576 := of_decide_eq_true hk;have qS : Rows.uptoBulkAll [d0, d1] = Rows.uptoBulk d0 + (Rows.uptoBulk d1 + 0) := rfl;obtain⟨f0, e0⟩ := h0;obtain⟨f1, e1⟩ := h1;rw[zSd one0']at e0;rw[zSd one1']at e1;obtain⟨_, ⟨x0, q0, w0, _⟩, _⟩ := zOF (zQZ H) (E := Env.still W) (λb h => h) 10 f0 22 [.sl zOL false] [v0] _ zU9 e0
  obtain⟨_, ⟨x1, q1, w1, _⟩, _⟩ := zOF (zQZ H) (E := Env.still W) (λb h => h) 10 f1 22 [.sl zOL false] [v1] _ zU9 e1
  have b0 : (zQZ H).f d0 ≤ 2000000 := by show Rows.uptoBulk d0 ≤ _; omega
  have b1 : (zQZ H).f d1 ≤ 2000000 := by show Rows.uptoBulk d1 ≤ _; omega
  obtain⟨y0, r0, rfl, q3, q2⟩ := zD q0;obtain rfl := zNX q2;obtain⟨y1, r1, rfl, q5, q4⟩ := zD q1;obtain rfl := zNX q4;have hfn := zbX (Nat.le_refl _) (q3.mono b0) (q5.mono b1);have hv : VRs (Env.still W) W [y0, y1] [v0, v1] := .cons (w0.2 0 _ _ rfl rfl) (.cons (w1.2 0 _ _ rfl rfl) .nil);have key := zVo (cargs := #[v0, v1]) hfn hv (zYr hL vJ hmx hmr (List.mem_of_getElem? (i := 0) (by kernel_rfl)) (List.mem_of_getElem? (i := 1) (by kernel_rfl)) (List.mem_of_getElem? (i := 2) (by kernel_rfl)) (List.mem_of_getElem? (i := 4) (by kernel_rfl)) (List.mem_of_getElem? (i := 5) (by kernel_rfl)))
  refine key.mono λe W' ⟨he, hg⟩ => ?_
  subst he;exact⟨_, rfl, zWG (pa := p0 ++ p1) (pv := []) hW' (λ_ _ _ => trodAll_cons_mk (shut_bool Tryz.underlying4 _) trodAll_mk0) (λsp hsp => trodAll_mk2 (t0 sp hsp W' hg) (t1 sp hsp W' hg)) (λ_ _ => rfl) (by simp)
    hg (ok_one (by kernel_rfl) rfl (okWide_bool_mk Tryz.underlying4 _))⟩

noncomputable def zXT(t : TypeId) : Value := ((Tryz.prog.info? t).bind (·.zero)).getD (.bool true)
noncomputable def zQ5 : Array Value := #[zXT 22, zXT 22]
/-- A world for the witness: the listed variables as their initialisers lay them. -/
theorem zYV(os : Os) : laidMet Tryz.prog Rows.recordOnceUptoRow.laid (((World.laidAll Tryz.prog os Rows.recordOnceUptoRow.laid)).forCall (λ_ _ => 0) ⟨#[], zQ5, []⟩).memory :=
  laidMet_laidAll zQ5 (by kernel_rfl) (by kernel_rfl)
def zTN : (H : Type) → List (DataW H) → Bool := Rows.uptoSmall
def zXU{H : Type} : Option (List (DataW H) × List (DataW H) × List MemPlace) → Bool
  |some (ds, [], _) => zTN H ds
  |_ => false
theorem zUq{H : Type}{x : Option (List (DataW H) × List (DataW H) × List MemPlace)}(h : zXU x = true) : ∃ds ps, x = some (ds, [], ps) ∧ zTN H (ds ++ []) = true := by
  unfold zXU at h;split at h
  · exact⟨_, _, rfl, by rw[List.append_nil]; exact h⟩
  · cases h
theorem reads(os : Os){H : Type}(enc : TypeId × Value → H) : ∃ds places, DataW.whole enc Tryz.prog ((World.laidAll Tryz.prog os Rows.recordOnceUptoRow.laid).forCall (λ_ _ => 0) ⟨#[], zQ5, []⟩).memory Tryz.f4.params.toList Rows.recordOnceSpec.vars false zQ5.toList 8 = some (ds, [], places) ∧ zTN H (ds ++ []) = true :=
  zUq (by kernel_rfl)

set_option maxRecDepth 100000 in
theorem lifted(os : Os)(started : os.Started)(H : Type)(enc : TypeId × Value → H)(F : Stop.Interp) :
    ReturnsInHanded {} Tryz.checked os 4 .any ((Rows.OpenSpec.upto Rows.recordOnceSpec).preRow enc Tryz.prog Tryz.f4 Rows.recordOnceUptoRow.domain false Rows.recordOnceUptoRow.laid) (((Rows.OpenSpec.upto Rows.recordOnceSpec).at F).post enc Tryz.prog Tryz.f4 false true false false) := by
  obtain⟨ds, places, hx, hsm⟩ := reads os enc;refine returnsInHanded_of_row (C := Tryz.checked) (s := (Rows.OpenSpec.upto Rows.recordOnceSpec)) own started (by kernel_rfl) Tryz.func4
    (witness_row_at (enc := enc) (C := Tryz.checked) false (World.laidAll Tryz.prog os Rows.recordOnceUptoRow.laid) zQ5 (World.laidAll_os _ _ _) (by kernel_rfl) (by kernel_rfl) (by kernel_rfl)
      (OpenSpec.preRow_of_cond 8 hx (by kernel_rfl) (λk hk => by cases hk; exact hsm) (by kernel_rfl) (zYV os))) ?_
  intro W base args ds gs before hval hW _ hk _ hL hSh _;exact zY8 H enc W base args ds gs before hval hW (hk _ rfl) hL hSh

set_option maxRecDepth 100000 in
theorem said : Rows.RecordOnceUptoSaid :=
  OpenClaim.holds_of_cond 4 Tryz.f4 rfl rfl rfl rfl rfl rfl rfl ⟨rfl, rfl, rfl, rfl, rfl⟩ rfl rfl rfl rfl rfl zb4 Tryz.func4 closed
    zdh (by unfold Func.isWrapper; first|(rw[if_pos (by decide +kernel)]; kernel_rfl)|(rw[if_neg (by decide +kernel)]; exact⟨rfl, rfl⟩))
    (λos started H enc _ F => by rw[OpenClaim.pre_eq_preRow]; exact lifted os started H enc F)

theorem plain (f : FuncId) (fn : Func) (hf : Tryz.pinned.checked.prog.funcNamed "berthmaster/berthmasterlaw15.RecordOnce" = some f) (hfn : Tryz.pinned.checked.prog.funcs[f]?=some fn) :
    true = Tryz.pinned.checked.prog.looks [] ∧ ∀(j : Nat) t, fn.params[j]?=some t → Tryz.pinned.checked.prog.wantsStandIn t = false := by
  obtain rfl : f = 4 := Option.some.inj (named.symm.trans hf) |>.symm;obtain rfl : fn = Tryz.f4 := (Option.some.inj (Tryz.func4.symm.trans hfn)).symm;refine⟨looked, λj t ht => ?_⟩
  rw[Tryz.params4]at ht;have e : t = 22 ∨ t = 22 := by
    match j, ht with
    |0, ht => exact .inl (Option.some.inj ht).symm
    |1, ht => exact .inr ((Option.some.inj ht).symm)
    |j + 2, ht => simp at ht
  rcases e with rfl|rfl
  · exact(show Tryz.pinned.checked.prog.wantsStandIn 22 = false by kernel_rfl)
  · exact(show Tryz.pinned.checked.prog.wantsStandIn 22 = false by kernel_rfl)

set_option maxRecDepth 100000 in
theorem card : Rows.RecordOnceUptoCardSaid := by
  refine Claim7.holds_tied_plain_at .later [] _ _ _ _ said (λ_ h => by cases h) ?_ (λ_ h => by cases h) recordOnceUpto_row_tie ?_ ⟨?_, ?_⟩ ?_ ?_ plain ?_
  all_goals as_aux_lemma => kernel_rfl
#print axioms card
end Go.Proofs.YtjfcepbllmdfcaaGreatDoor.recordOnce
