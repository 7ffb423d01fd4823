/- THE LAW RecordBack SAYS TRUE, WHATEVER ITS ARGUMENTS ('Rows.RecordBackUptoCardSaid'). No condition but the statement's own. -/
import Derived.Test.YtjfcepbllmdfcaaGreatDoorCards
import Derived.Test.YtjfcepbllmdfcaaGreatDoorTie
import Derived.Test.YtjfcepbllmdfcaaGreatDoorRecordBackLaw
import Derived.Test.YtjfcepbllmdfcaaGreatDoorRecordBackFacts
import Derived.WalkKit
import Derived.ProofKit
import Derived.OpenShut
import Derived.Carry
import Derived.ChangeMaps5
import Derived.Deep.DeepHandedRow
import Derived.Lib.LaidTab
import Derived.Lay
set_option linter.unusedVariables false
set_option linter.unusedSimpArgs false
namespace Go.Proofs.YtjfcepbllmdfcaaGreatDoor.recordBack
open Go.ChangeShapes Go.WideShapes Go.ChangeAt Go.RowKit Go.Sy Go.Proofs.YtjfcepbllmdfcaaGreatDoor.record

set_option maxRecDepth 100000 in
theorem zbC(H : Type)(enc : TypeId × Value → H)(W : World)(base : Nat)(args : Array Value)(ds gs : List (DataW H))(before : List MemPlace)
    (hval : ∀(j : Nat) t v, Tryz.f3.params[j]?=some t → args[j]?=some v → Value.okWide Tryz.prog W .any base t v)
    (hW : DataW.Whole enc Tryz.prog Tryz.f3.params.toList Rows.recordBackSpec.vars false W args.toList ds gs before) (hk : Rows.uptoSmall H (ds ++ gs) = true) (hL : laidMet Tryz.prog Rows.recordBackUptoRow.laid W) (hSh : W.ShapedOpen Tryz.prog) :
    Calls Tryz.prog 3 args W λe W' => ∃v, e = .returned v ∧ Rows.recordBackSpec.post enc Tryz.prog Tryz.f3 false true false false W args v W' := by
  have hW' := hW;obtain⟨p, q, hA0, hV, rfl, hfz, hnd⟩ := hW;have hA : DataW.TrodAll enc Tryz.prog W 0 (λ_ => true) true Tryz.f3.params.toList args.toList ds p := hA0
  rw[Tryz.params3]at hA;obtain⟨v0, v1, d0, d1, p0, p1, rfl, rfl, rfl, h0, h1⟩ := trodAll_two hA;obtain⟨rfl, rfl⟩ := trodVars_none hV
  clear hA0
  simp only[List.append_nil, List.append_assoc]at hW' hk;have o0 := hval 0 22 v0 (by rw[Tryz.params3]; rfl) rfl
  have o1 := hval 1 5 v1 (by rw[Tryz.params3]; rfl) rfl
  obtain⟨mx, hmx⟩ := Tryz.laysM145.s1_3 W hSh;obtain⟨vJ, hmr⟩ := zXO (g := 0) (t := 3) (u := 3) (zero := #[.int .i64 0]) hSh (by decide +kernel) (by kernel_rfl) rfl (by kernel_rfl) (by kernel_rfl) (by kernel_rfl) hmx
  letI : MX := ⟨mx⟩
  have hlt : ∀x ∈ p0 ++ p1, x.block < W.heap.size := λx hx => hW'.lt x (by simpa using hx)
  have t0 : ∀sp : Nat → Bool, (∀x ∈ p0 ++ p1, sp x.block = true) → ∀W', Kept W W' → DataW.Trod enc Tryz.prog W' 0 sp true 22 v0 d0 p0 := λsp hsp W' hg => zT2 (by kernel_rfl) (by kernel_rfl) (of_decide_eq_true (by kernel_rfl)) h0 hg (λx hx => hlt x (List.mem_append_left _ hx)) (λx hx => hsp x (List.mem_append_left _ hx))
  have t1 : ∀sp : Nat → Bool, (∀x ∈ p0 ++ p1, sp x.block = true) → ∀W', Kept W W' → DataW.Trod enc Tryz.prog W' 0 sp true 5 v1 d1 p1 := λsp hsp W' hg => zT2 (by kernel_rfl) (by kernel_rfl) (of_decide_eq_true (by kernel_rfl)) h1 hg (λx hx => hlt x (List.mem_append_right _ (hx))) (λx hx => hsp x (List.mem_append_right _ (hx)))
  have one0' : v0.oneCell' = true := zXL o0 (λfs h => by rw[Tryz.underlying22]at h; cases h) (λn e h => by rw[Tryz.underlying22]at h; cases h)
  obtain⟨m, rfl, rfl, hp2, hwf2⟩ := Go.ChangeShapes.open_int Tryz.underlying5 o1 h1;have hb : Rows.uptoBulkAll [d0, DataW.lit (H := H) (.int .u8 m)] ≤ 1048576 := of_decide_eq_true hk;have we : Rows.uptoBulkAll [d0, DataW.lit (H := H) (.int .u8 m)] = Rows.uptoBulk d0 + (Rows.uptoBulk (DataW.lit (H := H) (.int .u8 m)) + 0) := rfl;obtain⟨f0, e0⟩ := h0;rw[zab one0']at e0;obtain⟨_, ⟨x0, q0, w0, _⟩, _⟩ := zS9 (zac H) (E := Env.still W) (λb h => h) 10 f0 22 [.sl zUH false] [v0] _ zdP e0
  have b0 : (zac H).f d0 ≤ 2000000 := by show Rows.uptoBulk d0 ≤ _; omega
  obtain⟨y0, r0, rfl, q3, q2⟩ := zE q0;obtain rfl := zSP q2;have hbd : has .u8 m := by
    have h := (Bool.and_eq_true _ _).mp hwf2;exact⟨of_decide_eq_true h.1, of_decide_eq_true h.2⟩
  have hfn := zeY (Nat.le_refl _) (q3.mono b0) hbd;have hv : VRs (Env.still W) W [y0, .int .u8 m] [v0, .int .u8 m] := .cons (w0.2 0 _ _ rfl rfl) (.cons (.int _ _ hbd) .nil);have key := zXy (cargs := #[v0, .int .u8 m]) hfn hv (zaL hL vJ hmx hmr (List.mem_of_getElem? (i := 0) (by kernel_rfl)) (List.mem_of_getElem? (i := 1) (by kernel_rfl)) (List.mem_of_getElem? (i := 2) (by kernel_rfl)) (List.mem_of_getElem? (i := 4) (by kernel_rfl)) (List.mem_of_getElem? (i := 5) (by kernel_rfl)))
  refine key.mono λe W' ⟨he, hg⟩ => ?_
  subst he;exact⟨_, rfl, zYV (pa := p0 ++ p1) (pv := []) hW' (λ_ _ _ => trodAll_cons_mk (shut_bool Tryz.underlying4 _) trodAll_mk0) (λsp hsp => trodAll_mk2 (t0 sp hsp W' hg) (t1 sp hsp W' hg)) (λ_ _ => rfl) (by simp)
    hg (ok_one (by kernel_rfl) rfl (okWide_bool_mk Tryz.underlying4 _))⟩

noncomputable def zad(t : TypeId) : Value := ((Tryz.prog.info? t).bind (·.zero)).getD (.bool true)
noncomputable def zSW : Array Value := #[zad 22, zad 5]
/-- A world for the witness: the listed variables as their initialisers lay them. -/
theorem zbp(os : Os) : laidMet Tryz.prog Rows.recordBackUptoRow.laid (((World.laidAll Tryz.prog os Rows.recordBackUptoRow.laid)).forCall (λ_ _ => 0) ⟨#[], zSW, []⟩).memory :=
  laidMet_laidAll zSW (by kernel_rfl) (by kernel_rfl)
def zVQ : (H : Type) → List (DataW H) → Bool := Rows.uptoSmall
def zae{H : Type} : Option (List (DataW H) × List (DataW H) × List MemPlace) → Bool
  |some (ds, [], _) => zVQ H ds
  |_ => false
theorem zWu{H : Type}{x : Option (List (DataW H) × List (DataW H) × List MemPlace)}(h : zae x = true) : ∃ds ps, x = some (ds, [], ps) ∧ zVQ H (ds ++ []) = true := by
  unfold zae at h;split at h
  · exact⟨_, _, rfl, by rw[List.append_nil]; exact h⟩
  · cases h
theorem reads(os : Os){H : Type}(enc : TypeId × Value → H) : ∃ds places, DataW.whole enc Tryz.prog ((World.laidAll Tryz.prog os Rows.recordBackUptoRow.laid).forCall (λ_ _ => 0) ⟨#[], zSW, []⟩).memory Tryz.f3.params.toList Rows.recordBackSpec.vars false zSW.toList 8 = some (ds, [], places) ∧ zVQ H (ds ++ []) = true :=
  zWu (by kernel_rfl)

set_option maxRecDepth 100000 in
theorem lifted(os : Os)(started : os.Started)(H : Type)(enc : TypeId × Value → H)(F : Stop.Interp) :
    ReturnsInHanded {} Tryz.checked os 3 .any ((Rows.OpenSpec.upto Rows.recordBackSpec).preRow enc Tryz.prog Tryz.f3 Rows.recordBackUptoRow.domain false Rows.recordBackUptoRow.laid) (((Rows.OpenSpec.upto Rows.recordBackSpec).at F).post enc Tryz.prog Tryz.f3 false true false false) := by
  obtain⟨ds, places, hx, hsm⟩ := reads os enc;refine returnsInHanded_of_row (C := Tryz.checked) (s := (Rows.OpenSpec.upto Rows.recordBackSpec)) own started (by kernel_rfl) Tryz.func3
    (witness_row_at (enc := enc) (C := Tryz.checked) false (World.laidAll Tryz.prog os Rows.recordBackUptoRow.laid) zSW (World.laidAll_os _ _ _) (by kernel_rfl) (by kernel_rfl) (by kernel_rfl)
      (OpenSpec.preRow_of_cond 8 hx (by kernel_rfl) (λk hk => by cases hk; exact hsm) (by kernel_rfl) (zbp os))) ?_
  intro W base args ds gs before hval hW _ hk _ hL hSh _;exact zbC H enc W base args ds gs before hval hW (hk _ rfl) hL hSh

set_option maxRecDepth 100000 in
theorem said : Rows.RecordBackUptoSaid :=
  OpenClaim.holds_of_cond 3 Tryz.f3 rfl rfl rfl rfl rfl rfl rfl ⟨rfl, rfl, rfl, rfl, rfl⟩ rfl rfl rfl rfl rfl ze5 Tryz.func3 closed
    zgm (by unfold Func.isWrapper; first|(rw[if_pos (by decide +kernel)]; kernel_rfl)|(rw[if_neg (by decide +kernel)]; exact⟨rfl, rfl⟩))
    (λos started H enc _ F => by rw[OpenClaim.pre_eq_preRow]; exact lifted os started H enc F)

theorem plain (f : FuncId) (fn : Func) (hf : Tryz.pinned.checked.prog.funcNamed "berthmaster/berthmasterlaw15.RecordBack" = some f) (hfn : Tryz.pinned.checked.prog.funcs[f]?=some fn) :
    true = Tryz.pinned.checked.prog.looks [] ∧ ∀(j : Nat) t, fn.params[j]?=some t → Tryz.pinned.checked.prog.wantsStandIn t = false := by
  obtain rfl : f = 3 := Option.some.inj (named.symm.trans hf) |>.symm;obtain rfl : fn = Tryz.f3 := (Option.some.inj (Tryz.func3.symm.trans hfn)).symm;refine⟨looked, λj t ht => ?_⟩
  rw[Tryz.params3]at ht;have e : t = 22 ∨ t = 5 := by
    match j, ht with
    |0, ht => exact .inl (Option.some.inj ht).symm
    |1, ht => exact .inr ((Option.some.inj ht).symm)
    |j + 2, ht => simp at ht
  rcases e with rfl|rfl
  · exact(show Tryz.pinned.checked.prog.wantsStandIn 22 = false by kernel_rfl)
  · exact(show Tryz.pinned.checked.prog.wantsStandIn 5 = false by kernel_rfl)

set_option maxRecDepth 100000 in
theorem card : Rows.RecordBackUptoCardSaid := by
  refine Claim7.holds_tied_plain_at .later [] _ _ _ _ said (λ_ h => by cases h) ?_ (λ_ h => by cases h) recordBackUpto_row_tie ?_ ⟨?_, ?_⟩ ?_ ?_ plain ?_
  all_goals as_aux_lemma => kernel_rfl
#print axioms card
end Go.Proofs.YtjfcepbllmdfcaaGreatDoor.recordBack
