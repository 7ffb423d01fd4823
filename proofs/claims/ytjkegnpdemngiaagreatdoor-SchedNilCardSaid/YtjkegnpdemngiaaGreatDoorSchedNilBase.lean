/- THE SEAT'S OWN TABLES FOR THE LAW 'SchedNil': every function of the program, compiled for the run in the kernel; the package variables that hold tables of numbers or errors; functions that are known. No condition. -/
import Derived.Test.YtjkegnpdemngiaaGreatDoorChecked
import Derived.Test.YtjkegnpdemngiaaGreatDoorSvE
import Derived.Test.YtjkegnpdemngiaaGreatDoorShelf
import Derived.WalkKit
namespace Go.Proofs.YtjkegnpdemngiaaGreatDoor.schedNil
open Go.Sy
theorem own : ownKnob Tryz.prog.godebug = none := by kernel_rfl
theorem mixed : Tryz.prog.follows .mixedOrders = true := by kernel_rfl
/-- Functions behind whose calls nothing of what they made is held. -/
def drops : Nat → List Nat → Bool
  | _, [] => false
  | n, a :: r => match Nat.beq a n with
    | true => true
    | false => drops n r
noncomputable def pol : Nat → Pol := fun f => match drops f [3, 4, 5, 6, 7, 16, 19, 20, 21, 22, 23, 24, 36, 37, 42, 43, 44, 45, 46, 47, 48, 49, 50, 53, 54, 55, 56, 57, 60, 61, 62, 63, 72, 73, 74, 77, 83, 84, 87, 88, 94, 95, 96, 99, 100, 102, 103, 104, 106, 107, 109, 110, 111, 112, 114, 115, 116, 117, 118, 128, 133, 135, 136, 139, 141, 142, 144, 145, 146, 148, 149, 150, 151, 152, 153, 158, 162, 164, 165, 168, 169, 178, 179, 182, 184, 185, 186, 196, 198, 203, 207, 211, 212, 213, 214, 216, 220, 222, 224, 225, 227, 229, 232, 233, 234, 240, 241, 245, 246, 247, 249, 250, 251, 252, 253, 255, 256, 264, 267, 268, 269, 281, 294, 295, 296, 297, 298, 302, 303, 306, 310, 311, 335, 343, 351, 359, 386, 387, 388] with
  | true => .drop
  | false => match drops f [8, 15, 17, 18, 40, 71, 81] with
    | true => .shut
    | false => .keep
noncomputable def table : Nat → Option (XF × Pol) := tableF Tryz.prog pol
theorem table_ok : TableOK Tryz.prog table := by
  unfold table
  rw [tableF_eq]
  exact tableOf_ok (by kernel_rfl)
noncomputable def ints4 : List Int := [0, 1, 28, 2, 29, 14, 24, 3, 30, 22, 20, 15, 25, 17, 4, 8, 31, 27, 13, 23, 21, 19, 16, 7, 26, 12, 18, 6, 11, 5, 10, 9]
noncomputable def tab4 : List AV := [.int .u8 0, .int .u8 1, .int .u8 28, .int .u8 2, .int .u8 29, .int .u8 14, .int .u8 24, .int .u8 3, .int .u8 30, .int .u8 22, .int .u8 20, .int .u8 15, .int .u8 25, .int .u8 17, .int .u8 4, .int .u8 8, .int .u8 31, .int .u8 27, .int .u8 13, .int .u8 23, .int .u8 21, .int .u8 19, .int .u8 16, .int .u8 7, .int .u8 26, .int .u8 12, .int .u8 18, .int .u8 6, .int .u8 11, .int .u8 5, .int .u8 10, .int .u8 9]
noncomputable def ints5 : List Int := [0, 1, 56, 2, 57, 49, 28, 3, 61, 58, 42, 50, 38, 29, 17, 4, 62, 47, 59, 36, 45, 43, 51, 22, 53, 39, 33, 30, 24, 18, 12, 5, 63, 55, 48, 27, 60, 41, 37, 16, 46, 35, 44, 21, 52, 32, 23, 11, 54, 26, 40, 15, 34, 20, 31, 10, 25, 14, 19, 9, 13, 8, 7, 6]
noncomputable def tab5 : List AV := [.int .u8 0, .int .u8 1, .int .u8 56, .int .u8 2, .int .u8 57, .int .u8 49, .int .u8 28, .int .u8 3, .int .u8 61, .int .u8 58, .int .u8 42, .int .u8 50, .int .u8 38, .int .u8 29, .int .u8 17, .int .u8 4, .int .u8 62, .int .u8 47, .int .u8 59, .int .u8 36, .int .u8 45, .int .u8 43, .int .u8 51, .int .u8 22, .int .u8 53, .int .u8 39, .int .u8 33, .int .u8 30, .int .u8 24, .int .u8 18, .int .u8 12, .int .u8 5, .int .u8 63, .int .u8 55, .int .u8 48, .int .u8 27, .int .u8 60, .int .u8 41, .int .u8 37, .int .u8 16, .int .u8 46, .int .u8 35, .int .u8 44, .int .u8 21, .int .u8 52, .int .u8 32, .int .u8 23, .int .u8 11, .int .u8 54, .int .u8 26, .int .u8 40, .int .u8 15, .int .u8 34, .int .u8 20, .int .u8 31, .int .u8 10, .int .u8 25, .int .u8 14, .int .u8 19, .int .u8 9, .int .u8 13, .int .u8 8, .int .u8 7, .int .u8 6]
noncomputable def ints1 : List Int := [1, 10, 100, 1000, 10000, 100000, 1000000, 10000000, 100000000, 1000000000, 10000000000, 100000000000, 1000000000000, 10000000000000, 100000000000000, 1000000000000000, 10000000000000000, 100000000000000000, 1000000000000000000, 10000000000000000000]
noncomputable def tab1 : List AV := [.int .u64 1, .int .u64 10, .int .u64 100, .int .u64 1000, .int .u64 10000, .int .u64 100000, .int .u64 1000000, .int .u64 10000000, .int .u64 100000000, .int .u64 1000000000, .int .u64 10000000000, .int .u64 100000000000, .int .u64 1000000000000, .int .u64 10000000000000, .int .u64 100000000000000, .int .u64 1000000000000000, .int .u64 10000000000000000, .int .u64 100000000000000000, .int .u64 1000000000000000000, .int .u64 10000000000000000000]
noncomputable def globs : Cx := ⟨fun n => match Nat.beq n 4 with
  | true => some (.eptr (.agg tab4) 0)
  | false => match Nat.beq n 5 with
  | true => some (.eptr (.agg tab5) 0)
  | false => match Nat.beq n 1 with
  | true => some (.eptr (.agg tab1) 0)
  | false => match Nat.beq n 3 with
  | true => some (.eptr (.agg [.iface 486 (.eptr (.agg [.str [118, 97, 108, 117, 101, 32, 111, 117, 116, 32, 111, 102, 32, 114, 97, 110, 103, 101]]) 0)]) 0)
  | false => match Nat.beq n 2 with
  | true => some (.eptr (.agg [.iface 486 (.eptr (.agg [.str [105, 110, 118, 97, 108, 105, 100, 32, 115, 121, 110, 116, 97, 120]]) 0)]) 0)
  | false => none, fun _ _ => none⟩
theorem globs_meth : MethOK Tryz.prog globs := fun _ _ _ h => by cases h
theorem globs_pure : PureG globs := fun g v h => by
  simp only [globs] at h
  split at h
  · cases h; kernel_rfl
  split at h
  · cases h; kernel_rfl
  split at h
  · cases h; kernel_rfl
  split at h
  · cases h; kernel_rfl
  split at h
  · cases h; kernel_rfl
  cases h
theorem glob4 {l : List (String × DataW Unit)} {W : World} {σ : Nat → Value} (hL : laidMet Tryz.prog l W) (hm : ("math/bits.deBruijn32tab", Lib.tabData .u8 ints4) ∈ l) : VR (Env.still W σ) W (.eptr (.agg tab4) 0) (.pointer (some ⟨4, 0, none⟩)) := by
  have e : tab4 = ints4.map fun z => .int .u8 z := by kernel_rfl
  rw [e]
  exact glob_tab hL hm (by kernel_rfl) (t := 497) (e := 5) (len := 32) (by kernel_rfl) (by kernel_rfl) (by kernel_rfl) (by kernel_rfl) (by kernel_rfl) (by kernel_rfl)
theorem glob5 {l : List (String × DataW Unit)} {W : World} {σ : Nat → Value} (hL : laidMet Tryz.prog l W) (hm : ("math/bits.deBruijn64tab", Lib.tabData .u8 ints5) ∈ l) : VR (Env.still W σ) W (.eptr (.agg tab5) 0) (.pointer (some ⟨5, 0, none⟩)) := by
  have e : tab5 = ints5.map fun z => .int .u8 z := by kernel_rfl
  rw [e]
  exact glob_tab hL hm (by kernel_rfl) (t := 498) (e := 5) (len := 64) (by kernel_rfl) (by kernel_rfl) (by kernel_rfl) (by kernel_rfl) (by kernel_rfl) (by kernel_rfl)
theorem glob1 {l : List (String × DataW Unit)} {W : World} {σ : Nat → Value} (hL : laidMet Tryz.prog l W) (hm : ("internal/strconv.uint64pow10", Lib.tabData .u64 ints1) ∈ l) : VR (Env.still W σ) W (.eptr (.agg tab1) 0) (.pointer (some ⟨1, 0, none⟩)) := by
  have e : tab1 = ints1.map fun z => .int .u64 z := by kernel_rfl
  rw [e]
  exact glob_tab hL hm (by kernel_rfl) (t := 461) (e := 22) (len := 20) (by kernel_rfl) (by kernel_rfl) (by kernel_rfl) (by kernel_rfl) (by kernel_rfl) (by kernel_rfl)
theorem star : "*" ++ "errors.errorString" = "*errors.errorString" := by decide
theorem rowPtr (u : TypeId) (h : Tryz.prog.typeName? 3 u = some "*errors.errorString") : u = 486 :=
  typeName_ptr_named (nm := "errors.errorString") (by rw [star]; kernel_rfl) (by kernel_rfl) (by decide) u (by rw [star]; exact h)
theorem glob3 {l : List (String × DataW Unit)} {W : World} {σ : Nat → Value} (hL : laidMet Tryz.prog l W) (hm : ("strconv.ErrRange", (.iface "*errors.errorString" (.ptr (.agg [.lit (.string [118, 97, 108, 117, 101, 32, 111, 117, 116, 32, 111, 102, 32, 114, 97, 110, 103, 101])])) : DataW Unit)) ∈ l) :
    VR (Env.still W σ) W (.eptr (.agg [.iface 486 (.eptr (.agg [.str [118, 97, 108, 117, 101, 32, 111, 117, 116, 32, 111, 102, 32, 114, 97, 110, 103, 101]]) 0)]) 0) (.pointer (some ⟨3, 0, none⟩)) :=
  glob_sent hL hm (by kernel_rfl) (by kernel_rfl) Tryz.underlying333 rowPtr Tryz.underlying486 Tryz.underlying488 rfl rfl Tryz.underlying9 (by kernel_rfl) (by kernel_rfl)
theorem glob2 {l : List (String × DataW Unit)} {W : World} {σ : Nat → Value} (hL : laidMet Tryz.prog l W) (hm : ("strconv.ErrSyntax", (.iface "*errors.errorString" (.ptr (.agg [.lit (.string [105, 110, 118, 97, 108, 105, 100, 32, 115, 121, 110, 116, 97, 120])])) : DataW Unit)) ∈ l) :
    VR (Env.still W σ) W (.eptr (.agg [.iface 486 (.eptr (.agg [.str [105, 110, 118, 97, 108, 105, 100, 32, 115, 121, 110, 116, 97, 120]]) 0)]) 0) (.pointer (some ⟨2, 0, none⟩)) :=
  glob_sent hL hm (by kernel_rfl) (by kernel_rfl) Tryz.underlying333 rowPtr Tryz.underlying486 Tryz.underlying488 rfl rfl Tryz.underlying9 (by kernel_rfl) (by kernel_rfl)
theorem globs_ok {l : List (String × DataW Unit)} {W : World} {σ : Nat → Value} (hL : laidMet Tryz.prog l W) (h4 : ("math/bits.deBruijn32tab", Lib.tabData .u8 ints4) ∈ l) (h5 : ("math/bits.deBruijn64tab", Lib.tabData .u8 ints5) ∈ l) (h1 : ("internal/strconv.uint64pow10", Lib.tabData .u64 ints1) ∈ l) (h3 : ("strconv.ErrRange", (.iface "*errors.errorString" (.ptr (.agg [.lit (.string [118, 97, 108, 117, 101, 32, 111, 117, 116, 32, 111, 102, 32, 114, 97, 110, 103, 101])])) : DataW Unit)) ∈ l) (h2 : ("strconv.ErrSyntax", (.iface "*errors.errorString" (.ptr (.agg [.lit (.string [105, 110, 118, 97, 108, 105, 100, 32, 115, 121, 110, 116, 97, 120])])) : DataW Unit)) ∈ l) : GR globs (Env.still W σ) W := fun g v h => by
  simp only [globs] at h
  split at h
  · rename_i hb
    cases h
    rw [Nat.eq_of_beq_eq_true hb]
    exact glob4 hL h4
  split at h
  · rename_i hb
    cases h
    rw [Nat.eq_of_beq_eq_true hb]
    exact glob5 hL h5
  split at h
  · rename_i hb
    cases h
    rw [Nat.eq_of_beq_eq_true hb]
    exact glob1 hL h1
  split at h
  · rename_i hb
    cases h
    rw [Nat.eq_of_beq_eq_true hb]
    exact glob3 hL h3
  split at h
  · rename_i hb
    cases h
    rw [Nat.eq_of_beq_eq_true hb]
    exact glob2 hL h2
  cases h
noncomputable def spec : Nat → Option FunC := fun n => match Nat.beq n 221 with
  | true => some (known joinA)
  | false => match Nat.beq n 370 with
  | true => some (known cloneA)
  | false => match Nat.beq n 152 with
  | true => some (slowS table globs 1000 152)
  | false => none
set_option maxRecDepth 100000 in
theorem spec_ok : SpecOK Tryz.prog globs spec := by
  intro f g h call hc
  simp only [spec] at h
  split at h
  · rename_i hb
    cases h
    have hf : f = 221 := Nat.eq_of_beq_eq_true hb
    subst hf
    have hbo : Tryz.f221.body.isSome = true := by kernel_rfl
    obtain ⟨body, hbo⟩ := Option.isSome_iff_exists.1 hbo
    exact spec_ofH Tryz.func221 hbo (by kernel_rfl) (join_known Tryz.strings_Join_none Tryz.strings_Join) call
  split at h
  · rename_i hb
    cases h
    have hf : f = 370 := Nat.eq_of_beq_eq_true hb
    subst hf
    have hbo : Tryz.f370.body.isSome = true := by kernel_rfl
    obtain ⟨body, hbo⟩ := Option.isSome_iff_exists.1 hbo
    exact spec_ofH Tryz.func370 hbo (by kernel_rfl) (clone_known Tryz.stringslite_Clone) call
  split at h
  · rename_i hb
    cases h
    have hf : f = 152 := Nat.eq_of_beq_eq_true hb
    subst hf
    exact slowS_ok table_ok globs_meth mixed 1000 152 call hc
  cases h
end Go.Proofs.YtjkegnpdemngiaaGreatDoor.schedNil
