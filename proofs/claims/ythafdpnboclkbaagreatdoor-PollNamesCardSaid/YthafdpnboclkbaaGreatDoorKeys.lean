/- slices.Collect over maps.Keys at keys that are api.TaskID. No condition. -/
import Derived.Test.YthafdpnboclkbaaGreatDoorSvE
import Derived.Test.YthafdpnboclkbaaGreatDoorProg
namespace Go.Proofs
open Go.Sy
set_option maxRecDepth 100000
theorem Tryz.tkey24 : TKey Tryz.prog 24 { name := "Job", type := 9, offset := 0, embedded := false, tag := "", pkgPath := "", byteOffset := 0 } { name := "Index", type := 3, offset := 1, embedded := false, tag := "", pkgPath := "", byteOffset := 16 } := ⟨by kernel_rfl, rfl, rfl, by kernel_rfl, by kernel_rfl, by kernel_rfl, by kernel_rfl, by kernel_rfl, by kernel_rfl, by kernel_rfl, by kernel_rfl⟩
def Tryz.keysT52_ren : Go.Shelf.Ren := ⟨fun | 8 => 50 | 10 => 52 | 11 => 88 | n => n, fun | 0 => 0 | 3 => 25 | 4 => 4 | 23 => 77 | 24 => 92 | 26 => 24 | 28 => 95 | 33 => 115 | n => n, fun | n => n⟩
theorem Tryz.keysT52 : TLays Tryz.prog Tryz.keysT52_ren := {
  mixed := by kernel_rfl
  f8 := ⟨Tryz.f50.name, by decide, Tryz.func50.trans (congrArg some (by kernel_rfl))⟩
  f10 := ⟨Tryz.f52.name, by decide, Tryz.func52.trans (congrArg some (by kernel_rfl))⟩
  f11 := ⟨Tryz.f88.name, by decide, Tryz.func88.trans (congrArg some (by kernel_rfl))⟩
  t0 := Tryz.underlying0
  a0 := Tryz.isAgg0
  z0 := Tryz.sizeOf0
  v0 := Tryz.zeroValue0
  t4 := Tryz.underlying4
  a4 := Tryz.isAgg4
  z4 := Tryz.sizeOf4
  v4 := Tryz.zeroValue4
  t23 := Tryz.underlying77
  a23 := Tryz.isAgg77
  z23 := Tryz.sizeOf77
  v23 := Tryz.zeroValue77
  t24 := Tryz.underlying92
  a24 := Tryz.isAgg92
  z24 := Tryz.sizeOf92
  v24 := Tryz.zeroValue92
  t28 := Tryz.underlying95
  a28 := Tryz.isAgg95
  z28 := Tryz.sizeOf95
  v28 := Tryz.zeroValue95
  t33 := Tryz.underlying115
  a33 := Tryz.isAgg115
  z33 := Tryz.sizeOf115
  v33 := Tryz.zeroValue115
  hne := by decide
  a26 := Tryz.isAgg24
  z26 := Tryz.sizeOf24
  v26 := Tryz.zeroValue24
  i26 := by kernel_rfl
  K := Tryz.tkey24.keyed (by kernel_rfl) (by decide) (by decide)
  form := Tryz.tkey24.form }
theorem Tryz.collect52 : CollectKeys Tryz.prog 50 52 24 := collectKeys_of Tryz.keysT52 Tryz.tkey24 (enters_of Tryz.func52 (by kernel_rfl) rfl)
def Tryz.sortedT_ren : Go.Shelf.Ren := ⟨fun | 6 => 20 | 8 => 50 | 9 => 51 | n => n, fun | 0 => 0 | 3 => 3 | 24 => 92 | 26 => 24 | 28 => 95 | 33 => 115 | 50 => 97 | n => n, fun | n => n⟩
theorem Tryz.sortedT : SLays Tryz.prog Tryz.sortedT_ren := {
  mixed := by kernel_rfl
  f6 := ⟨Tryz.f20.name, by decide, Tryz.func20.trans (congrArg some (by kernel_rfl))⟩
  t0 := Tryz.underlying0
  a0 := Tryz.isAgg0
  z0 := Tryz.sizeOf0
  v0 := Tryz.zeroValue0
  t24 := Tryz.underlying92
  a24 := Tryz.isAgg92
  z24 := Tryz.sizeOf92
  v24 := Tryz.zeroValue92
  t28 := Tryz.underlying95
  a28 := Tryz.isAgg95
  z28 := Tryz.sizeOf95
  v28 := Tryz.zeroValue95
  t50 := Tryz.underlying97
  a50 := Tryz.isAgg97
  z50 := Tryz.sizeOf97
  v50 := Tryz.zeroValue97 }
theorem Tryz.sortedFuncIs : SortedFuncIs Tryz.prog 20 50 51 := sortedFuncIs_of Tryz.sortedT (enters_of Tryz.func50 (by kernel_rfl) rfl) (enters_of Tryz.func51 (by kernel_rfl) rfl)
end Go.Proofs
