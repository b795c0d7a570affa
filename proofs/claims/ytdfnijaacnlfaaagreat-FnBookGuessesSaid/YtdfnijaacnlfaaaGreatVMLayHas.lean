/- The library functions that the program calls lie at this program: the shelf's layings, in plain words. -/
import Derived.Test.YtdfnijaacnlfaaaGreatProg
import Derived.Shelf.Strings.Search3
namespace Go.Proofs
open Go.Shelf Go.RowKit
def Try.layHas_ren : Go.Shelf.Ren := ⟨fun | 144 => 64 | 143 => 88 | 219 => 99 | 217 => 110 | 225 => 111 | 224 => 112 | 267 => 113 | 266 => 117 | 314 => 118 | n => n, fun | 9 => 9 | 4 => 4 | 3 => 3 | 5 => 5 | 46 => 82 | 146 => 124 | 51 => 102 | n => n, fun | 1 => 0 | n => n⟩
theorem Try.layHas : Go.Proofs.Lays.n144 Tryz.prog Try.layHas_ren := {
  mixed := by kernel_rfl,
  f143 := Tryz.func88.trans (congrArg some (by kernel_rfl)),
  f144 := Tryz.func64.trans (congrArg some (by kernel_rfl)),
  f217 := Tryz.func110.trans (congrArg some (by kernel_rfl)),
  f219 := Tryz.func99.trans (congrArg some (by kernel_rfl)),
  f224 := Tryz.func112.trans (congrArg some (by kernel_rfl)),
  f225 := Tryz.func111.trans (congrArg some (by kernel_rfl)),
  f266 := Tryz.func117.trans (congrArg some (by kernel_rfl)),
  f267 := Tryz.func113.trans (congrArg some (by kernel_rfl)),
  f314 := Tryz.func118.trans (congrArg some (by kernel_rfl)),
  t3 := Tryz.underlying3,
  a3 := Tryz.isAgg3,
  z3 := Tryz.sizeOf3,
  v3 := Tryz.zeroValue3,
  t4 := Tryz.underlying4,
  a4 := Tryz.isAgg4,
  z4 := Tryz.sizeOf4,
  v4 := Tryz.zeroValue4,
  t5 := Tryz.underlying5,
  a5 := Tryz.isAgg5,
  z5 := Tryz.sizeOf5,
  v5 := Tryz.zeroValue5,
  t9 := Tryz.underlying9,
  a9 := Tryz.isAgg9,
  z9 := Tryz.sizeOf9,
  v9 := Tryz.zeroValue9,
  t46 := Tryz.underlying82,
  a46 := Tryz.isAgg82,
  z46 := Tryz.sizeOf82,
  v46 := Tryz.zeroValue82,
  t51 := Tryz.underlying102,
  a51 := Tryz.isAgg102,
  z51 := Tryz.sizeOf102,
  v51 := Tryz.zeroValue102,
  t146 := Tryz.underlying124,
  a146 := Tryz.isAgg124,
  z146 := Tryz.sizeOf124,
  v146 := Tryz.zeroValue124,
  g1 := by kernel_rfl }
end Go.Proofs
