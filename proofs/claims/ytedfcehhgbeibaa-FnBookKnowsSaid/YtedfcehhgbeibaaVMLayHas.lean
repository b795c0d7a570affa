/- The library functions that the program calls lie at this program: the shelf's layings, in plain words. -/
import Derived.Test.YtedfcehhgbeibaaProg
import Derived.Shelf.Strings.Search3
namespace Go.Proofs
open Go.Shelf Go.RowKit
def Try.layHas_ren : Go.Shelf.Ren := ⟨fun | 144 => 59 | 143 => 94 | 219 => 113 | 217 => 118 | 225 => 119 | 224 => 120 | 267 => 121 | 266 => 133 | 314 => 134 | n => n, fun | 9 => 9 | 4 => 4 | 3 => 3 | 5 => 5 | 46 => 119 | 146 => 134 | 51 => 131 | n => n, fun | 1 => 0 | n => n⟩
theorem Try.layHas : Go.Proofs.Lays.n144 Try.prog Try.layHas_ren := {
  mixed := by kernel_rfl,
  f143 := Try.func94.trans (congrArg some (by kernel_rfl)),
  f144 := Try.func59.trans (congrArg some (by kernel_rfl)),
  f217 := Try.func118.trans (congrArg some (by kernel_rfl)),
  f219 := Try.func113.trans (congrArg some (by kernel_rfl)),
  f224 := Try.func120.trans (congrArg some (by kernel_rfl)),
  f225 := Try.func119.trans (congrArg some (by kernel_rfl)),
  f266 := Try.func133.trans (congrArg some (by kernel_rfl)),
  f267 := Try.func121.trans (congrArg some (by kernel_rfl)),
  f314 := Try.func134.trans (congrArg some (by kernel_rfl)),
  t3 := Try.underlying3,
  a3 := Try.isAgg3,
  z3 := Try.sizeOf3,
  v3 := Try.zeroValue3,
  t4 := Try.underlying4,
  a4 := Try.isAgg4,
  z4 := Try.sizeOf4,
  v4 := Try.zeroValue4,
  t5 := Try.underlying5,
  a5 := Try.isAgg5,
  z5 := Try.sizeOf5,
  v5 := Try.zeroValue5,
  t9 := Try.underlying9,
  a9 := Try.isAgg9,
  z9 := Try.sizeOf9,
  v9 := Try.zeroValue9,
  t46 := Try.underlying119,
  a46 := Try.isAgg119,
  z46 := Try.sizeOf119,
  v46 := Try.zeroValue119,
  t51 := Try.underlying131,
  a51 := Try.isAgg131,
  z51 := Try.sizeOf131,
  v51 := Try.zeroValue131,
  t146 := Try.underlying134,
  a146 := Try.isAgg134,
  z146 := Try.sizeOf134,
  v146 := Try.zeroValue134,
  g1 := by kernel_rfl }
end Go.Proofs
