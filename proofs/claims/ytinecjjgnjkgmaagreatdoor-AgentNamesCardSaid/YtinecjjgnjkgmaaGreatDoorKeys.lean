/- slices.Collect over maps.Keys at keys that are api.TaskID. No condition. -/
import Derived.Test.YtinecjjgnjkgmaaGreatDoorSvE
import Derived.Test.YtinecjjgnjkgmaaGreatDoorProg
namespace Go.Proofs
open Go.Sy
set_option maxRecDepth 100000
theorem Tryz.tkey42 : TKey Tryz.prog 42 { name := "Job", type := 9, offset := 0, embedded := false, tag := "", pkgPath := "", byteOffset := 0 } { name := "Index", type := 3, offset := 1, embedded := false, tag := "", pkgPath := "", byteOffset := 16 } := ⟨by kernel_rfl, rfl, rfl, by kernel_rfl, by kernel_rfl, by kernel_rfl, by kernel_rfl, by kernel_rfl, by kernel_rfl, by kernel_rfl, by kernel_rfl⟩
def Tryz.keysT117_ren : Go.Shelf.Ren := ⟨fun | 8 => 115 | 10 => 117 | 11 => 169 | n => n, fun | 0 => 0 | 3 => 100 | 4 => 4 | 23 => 71 | 24 => 95 | 26 => 42 | 28 => 136 | 33 => 199 | n => n, fun | n => n⟩
theorem Tryz.keysT117 : TLays Tryz.prog Tryz.keysT117_ren := {
  mixed := by kernel_rfl
  f8 := ⟨Tryz.f115.name, by decide, Tryz.func115.trans (congrArg some (by kernel_rfl))⟩
  f10 := ⟨Tryz.f117.name, by decide, Tryz.func117.trans (congrArg some (by kernel_rfl))⟩
  f11 := ⟨Tryz.f169.name, by decide, Tryz.func169.trans (congrArg some (by kernel_rfl))⟩
  t0 := Tryz.underlying0
  a0 := Tryz.isAgg0
  z0 := Tryz.sizeOf0
  v0 := Tryz.zeroValue0
  t4 := Tryz.underlying4
  a4 := Tryz.isAgg4
  z4 := Tryz.sizeOf4
  v4 := Tryz.zeroValue4
  t23 := Tryz.underlying71
  a23 := Tryz.isAgg71
  z23 := Tryz.sizeOf71
  v23 := Tryz.zeroValue71
  t24 := Tryz.underlying95
  a24 := Tryz.isAgg95
  z24 := Tryz.sizeOf95
  v24 := Tryz.zeroValue95
  t28 := Tryz.underlying136
  a28 := Tryz.isAgg136
  z28 := Tryz.sizeOf136
  v28 := Tryz.zeroValue136
  t33 := Tryz.underlying199
  a33 := Tryz.isAgg199
  z33 := Tryz.sizeOf199
  v33 := Tryz.zeroValue199
  hne := by decide
  a26 := Tryz.isAgg42
  z26 := Tryz.sizeOf42
  v26 := Tryz.zeroValue42
  i26 := by kernel_rfl
  K := Tryz.tkey42.keyed (by kernel_rfl) (by decide) (by decide)
  form := Tryz.tkey42.form }
theorem Tryz.collect117 : CollectKeys Tryz.prog 115 117 42 := collectKeys_of Tryz.keysT117 Tryz.tkey42 (enters_of Tryz.func117 (by kernel_rfl) rfl)
def Tryz.keysT215_ren : Go.Shelf.Ren := ⟨fun | 8 => 115 | 10 => 215 | 11 => 169 | n => n, fun | 0 => 0 | 3 => 27 | 4 => 4 | 23 => 70 | 24 => 95 | 26 => 42 | 28 => 136 | 33 => 199 | n => n, fun | n => n⟩
theorem Tryz.keysT215 : TLays Tryz.prog Tryz.keysT215_ren := {
  mixed := by kernel_rfl
  f8 := ⟨Tryz.f115.name, by decide, Tryz.func115.trans (congrArg some (by kernel_rfl))⟩
  f10 := ⟨Tryz.f215.name, by decide, Tryz.func215.trans (congrArg some (by kernel_rfl))⟩
  f11 := ⟨Tryz.f169.name, by decide, Tryz.func169.trans (congrArg some (by kernel_rfl))⟩
  t0 := Tryz.underlying0
  a0 := Tryz.isAgg0
  z0 := Tryz.sizeOf0
  v0 := Tryz.zeroValue0
  t4 := Tryz.underlying4
  a4 := Tryz.isAgg4
  z4 := Tryz.sizeOf4
  v4 := Tryz.zeroValue4
  t23 := Tryz.underlying70
  a23 := Tryz.isAgg70
  z23 := Tryz.sizeOf70
  v23 := Tryz.zeroValue70
  t24 := Tryz.underlying95
  a24 := Tryz.isAgg95
  z24 := Tryz.sizeOf95
  v24 := Tryz.zeroValue95
  t28 := Tryz.underlying136
  a28 := Tryz.isAgg136
  z28 := Tryz.sizeOf136
  v28 := Tryz.zeroValue136
  t33 := Tryz.underlying199
  a33 := Tryz.isAgg199
  z33 := Tryz.sizeOf199
  v33 := Tryz.zeroValue199
  hne := by decide
  a26 := Tryz.isAgg42
  z26 := Tryz.sizeOf42
  v26 := Tryz.zeroValue42
  i26 := by kernel_rfl
  K := Tryz.tkey42.keyed (by kernel_rfl) (by decide) (by decide)
  form := Tryz.tkey42.form }
theorem Tryz.collect215 : CollectKeys Tryz.prog 115 215 42 := collectKeys_of Tryz.keysT215 Tryz.tkey42 (enters_of Tryz.func215 (by kernel_rfl) rfl)
end Go.Proofs
