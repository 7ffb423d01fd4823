/- THE SEAT'S OWN TABLES: every function of the program, compiled for the run in the kernel; the package variables that hold tables of numbers. No condition. -/
import Derived.Test.YtjimmhpohcibhaaGreatDoorChecked
import Derived.Test.YtjimmhpohcibhaaGreatDoorSzE
import Derived.Test.YtjimmhpohcibhaaGreatDoorShelf
import Derived.WalkKit
namespace Go.Proofs.YtjimmhpohcibhaaGreatDoor
open Go.Sy
theorem own : ownKnob Tryz.prog.godebug = none := by kernel_rfl
theorem mixed : Tryz.prog.follows .mixedOrders = true := by kernel_rfl
/-- Functions behind whose calls nothing of what they made is held. -/
def drops : Nat → List Nat → Bool
  | _, [] => false
  | n, a :: r => match Nat.beq a n with
    | true => true
    | false => drops n r
noncomputable def pol : Nat → Pol := fun f => match drops f [7, 12, 13, 28, 29, 30, 31, 32, 42, 60, 61, 62, 63, 64, 65, 66, 81, 85, 86, 89, 91, 103, 111, 115, 116, 117, 118, 119, 120, 121, 122, 123, 124, 160, 161, 166, 168, 169, 170, 174, 175, 188, 190, 205, 207, 213, 214, 215, 242, 253, 274, 297, 298, 300, 301, 302, 303, 304, 305, 323, 324, 325, 354, 355, 358, 364, 373, 374, 376, 387, 388, 389] with
  | true => .drop
  | false => .keep
noncomputable def table : Nat → Option (XF × Pol) := tableF Tryz.prog pol
theorem table_ok : TableOK Tryz.prog table := by
  unfold table
  rw [tableF_eq]
  exact tableOf_ok (by kernel_rfl)
noncomputable def ints5 : List Int := [1, 10, 100, 1000, 10000, 100000, 1000000, 10000000, 100000000, 1000000000, 10000000000, 100000000000, 1000000000000, 10000000000000, 100000000000000, 1000000000000000, 10000000000000000, 100000000000000000, 1000000000000000000, 10000000000000000000]
noncomputable def tab5 : List AV := [.int .u64 1, .int .u64 10, .int .u64 100, .int .u64 1000, .int .u64 10000, .int .u64 100000, .int .u64 1000000, .int .u64 10000000, .int .u64 100000000, .int .u64 1000000000, .int .u64 10000000000, .int .u64 100000000000, .int .u64 1000000000000, .int .u64 10000000000000, .int .u64 100000000000000, .int .u64 1000000000000000, .int .u64 10000000000000000, .int .u64 100000000000000000, .int .u64 1000000000000000000, .int .u64 10000000000000000000]
noncomputable def globs : Cx := ⟨fun n => match Nat.beq n 5 with
  | true => some (.eptr (.agg tab5) 0)
  | false => none, fun _ _ => none⟩
theorem globs_meth : MethOK Tryz.prog globs := fun _ _ _ h => by cases h
theorem glob5 {l : List (String × DataW Unit)} {W : World} (hL : laidMet Tryz.prog l W) (hm : ("internal/strconv.uint64pow10", Lib.tabData .u64 ints5) ∈ l) : VR (Env.still W) W (.eptr (.agg tab5) 0) (.pointer (some ⟨5, 0, none⟩)) := by
  have e : tab5 = ints5.map fun z => .int .u64 z := by kernel_rfl
  rw [e]
  exact glob_tab hL hm (by kernel_rfl) (t := 394) (e := 53) (len := 20) (by kernel_rfl) (by kernel_rfl) (by kernel_rfl) (by kernel_rfl) (by kernel_rfl) (by kernel_rfl)
theorem globs_ok {l : List (String × DataW Unit)} {W : World} (hL : laidMet Tryz.prog l W) (h5 : ("internal/strconv.uint64pow10", Lib.tabData .u64 ints5) ∈ l) : GR globs (Env.still W) W := fun g v h => by
  simp only [globs] at h
  split at h
  · rename_i hb
    cases h
    rw [Nat.eq_of_beq_eq_true hb]
    exact glob5 hL h5
  cases h
noncomputable def spec : Nat → Option FunC := fun n => match Nat.beq n 83 with
  | true => some (known joinA)
  | false => match Nat.beq n 310 with
    | true => some (known cloneA)
    | false => none
theorem spec_ok {G : Cx} : SpecOK Tryz.prog G spec := by
  intro f g h call hc
  simp only [spec] at h
  split at h
  · rename_i hb
    cases h
    have hf : f = 83 := Nat.eq_of_beq_eq_true hb
    subst hf
    have hbo : Tryz.f83.body.isSome = true := by kernel_rfl
    obtain ⟨body, hbo⟩ := Option.isSome_iff_exists.1 hbo
    exact spec_ofH Tryz.func83 hbo (by kernel_rfl) (join_known Tryz.strings_Join_none Tryz.strings_Join) call
  · split at h
    · rename_i hb
      cases h
      have hf : f = 310 := Nat.eq_of_beq_eq_true hb
      subst hf
      have hbo : Tryz.f310.body.isSome = true := by kernel_rfl
      obtain ⟨body, hbo⟩ := Option.isSome_iff_exists.1 hbo
      exact spec_ofH Tryz.func310 hbo (by kernel_rfl) (clone_known Tryz.stringslite_Clone) call
    · cases h
end Go.Proofs.YtjimmhpohcibhaaGreatDoor
