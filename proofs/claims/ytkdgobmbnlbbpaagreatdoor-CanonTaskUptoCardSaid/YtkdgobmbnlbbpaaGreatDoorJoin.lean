/- CANONTASK, ALL ITS CALLS KNOWN: true, whatever the task and the text (of at most 4,294,967,280 letters). No condition but on the package variables. -/
import Derived.Test.YtkdgobmbnlbbpaaGreatDoorLaw
import Derived.Test.YtkdgobmbnlbbpaaGreatDoorCanonTaskRun
import Derived.Test.YtkdgobmbnlbbpaaGreatDoorShelf
import Derived.Lib.AtoiAllCases
set_option linter.unusedVariables false
set_option linter.unusedSimpArgs false
namespace Go.Proofs.YtkdgobmbnlbbpaaGreatDoor.canonTask
open Go.Sy Go.RowKit
variable (mx : Int)
theorem name_p : PureOK Tryz.prog (globs mx) 8 gName := name_pure (globs_pure mx) (globs_meth mx) mixed
theorem itoa_p : PureOK Tryz.prog (globs mx) 9 itoaG := by
  have hbo : Tryz.f9.body.isSome = true := by kernel_rfl
  obtain ⟨body, hbo⟩ := Option.isSome_iff_exists.1 hbo
  exact itoa_pure Tryz.func9 hbo (by kernel_rfl) (fun i hi w => Tryz.strconv_Itoa_small i hi w) (globs_pure mx)
theorem cut_p : PureOK Tryz.prog (globs mx) 10 fun a => cutA a [] := by
  have hbo : Tryz.f10.body.isSome = true := by kernel_rfl
  obtain ⟨body, hbo⟩ := Option.isSome_iff_exists.1 hbo
  refine pure_of_known (fun call => cut_known (g := 0) (m := mx) (by kernel_rfl) (fun s sep m w h1 h2 => Tryz.strings_Cut s sep m w h1 h2) Tryz.func10 hbo (by kernel_rfl) call) fun args H => ?_
  unfold cutA
  split <;> rfl
theorem atoi_p : ∃ T es er, PureOK Tryz.prog (globs mx) 11 (atoiG T es er) := by
  have hbo : Tryz.f11.body.isSome = true := by kernel_rfl
  obtain ⟨body, hbo⟩ := Option.isSome_iff_exists.1 hbo
  refine ⟨_, _, _, atoi_pure (gs := 1) (gr := 2) Tryz.func11 hbo (by kernel_rfl) rfl rfl (fun s hmax v h w => (Tryz.strconv_Atoi_ok s hmax v h w).mono fun e w' h => ⟨h.1, ?_⟩) (fun s hlim h h' ev w hv hev => Any.strconv_Atoi_syntax Tryz.laysC172 s hlim (by
    revert h h'
    cases Lib.atoiAll s.data.toList with
    | ok v => exact fun h _ => absurd rfl (h v)
    | range => exact fun _ h => absurd rfl h
    | _ => exact fun _ _ => rfl) ev w hv hev) Tryz.strconv_Atoi_range (fun l v h => Lib.atoiAll_bounds h) (fun l => Lib.atoiSat_bounds l)⟩
  rcases h.2 with rfl | ⟨t, rfl⟩
  · exact Below.refl _ _
  · exact Lib.bytesWorld_below _ _ _
theorem task_p : PureOK Tryz.prog (globs mx) 5 gTask :=
  task_pure (globs_pure mx) (globs_meth mx) mixed [(8, gName), (9, itoaG)] (callP_cons (name_p mx) (callP_cons (itoa_p mx) callP_nil)) (fun s H nx => rfl) fun i H nx hi => by
    have : Nat.blt i 100 = true := by rw [Nat.blt_eq]; exact hi
    show (match itoaG [.int .i64 (.ofNat i)] with | some v => some (v, H, nx) | none => none) = _
    simp only [itoaG, this]
theorem parse_p : PureOK Tryz.prog (globs mx) 6 gParse := by
  obtain ⟨T, es, er, ha⟩ := atoi_p mx
  refine parse_pure (T := T) (es := es) (er := er) (globs_pure mx) (globs_meth mx) mixed [(10, fun a => cutA a []), (11, atoiG T es er), (5, gTask)] (callP_cons (cut_p mx) (callP_cons ha (callP_cons (task_p mx) callP_nil))) (fun a H nx => ?_) (fun a H nx => ?_) (fun j n H nx => rfl)
  · show (match cutA a [] with | some v => some (v, H, nx) | none => none) = _
    cases cutA a [] <;> rfl
  · show (match atoiG T es er a with | some v => some (v, H, nx) | none => none) = _
    cases atoiG T es er a <;> rfl
def gTrue : List AV → Option AV
  | [] => some (.bool true)
  | _ => none
theorem lives_p : PureOK Tryz.prog (globs mx) 4 gTrue := by
  intro args v h
  unfold gTrue at h
  split at h
  · cases h; exact oL mx
  · cases h
theorem law_true (j s : List Nat) (n : Int) (hs : s.length ≤ 4294967280) : FnT Tryz.prog (globs mx) 3 [.agg [.str j, .int .i64 n], .str s] [] 0 (.bool true) [] 0 :=
  (law_walk (globs_pure mx) (globs_meth mx) mixed [(4, gTrue), (5, gTask), (6, gParse)] (callP_cons (lives_p mx) (callP_cons (task_p mx) (callP_cons (parse_p mx) callP_nil))) j s n (fun H nx => rfl) (fun j n H nx => rfl) (fun s H nx hs => by
    have : Nat.ble s.length 4294967280 = true := by rw [Nat.ble_eq]; exact hs
    show (match gParse [.str s] with | some v => some (v, H, nx) | none => none) = _
    simp only [gParse, this]) hs).2 [] 0
end Go.Proofs.YtkdgobmbnlbbpaaGreatDoor.canonTask
