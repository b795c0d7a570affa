/- The library functions that the program calls lie at this program: the shelf's layings, in plain words. -/
import Derived.Test.YtiiefpckcgekgaaDoorProg
import Derived.Shelf.Strings.Search3
namespace Go.Proofs
open Go.Shelf Go.RowKit
def Try.layHas_ren : Go.Shelf.Ren := ⟨fun | 144 => 21 | 143 => 42 | 219 => 62 | 217 => 77 | 225 => 78 | 224 => 79 | 267 => 80 | 266 => 92 | 314 => 93 | n => n, fun | 9 => 9 | 4 => 4 | 3 => 3 | 5 => 5 | 46 => 96 | 146 => 104 | 51 => 103 | n => n, fun | 1 => 0 | n => n⟩
theorem Try.layHas : Go.Proofs.Lays.n144 Tryd.prog Try.layHas_ren := {
  mixed := by kernel_rfl,
  f143 := Tryd.func42.trans (congrArg some (by kernel_rfl)),
  f144 := Tryd.func21.trans (congrArg some (by kernel_rfl)),
  f217 := Tryd.func77.trans (congrArg some (by kernel_rfl)),
  f219 := Tryd.func62.trans (congrArg some (by kernel_rfl)),
  f224 := Tryd.func79.trans (congrArg some (by kernel_rfl)),
  f225 := Tryd.func78.trans (congrArg some (by kernel_rfl)),
  f266 := Tryd.func92.trans (congrArg some (by kernel_rfl)),
  f267 := Tryd.func80.trans (congrArg some (by kernel_rfl)),
  f314 := Tryd.func93.trans (congrArg some (by kernel_rfl)),
  t3 := Tryd.underlying3,
  a3 := Tryd.isAgg3,
  z3 := Tryd.sizeOf3,
  v3 := Tryd.zeroValue3,
  t4 := Tryd.underlying4,
  a4 := Tryd.isAgg4,
  z4 := Tryd.sizeOf4,
  v4 := Tryd.zeroValue4,
  t5 := Tryd.underlying5,
  a5 := Tryd.isAgg5,
  z5 := Tryd.sizeOf5,
  v5 := Tryd.zeroValue5,
  t9 := Tryd.underlying9,
  a9 := Tryd.isAgg9,
  z9 := Tryd.sizeOf9,
  v9 := Tryd.zeroValue9,
  t46 := Tryd.underlying96,
  a46 := Tryd.isAgg96,
  z46 := Tryd.sizeOf96,
  v46 := Tryd.zeroValue96,
  t51 := Tryd.underlying103,
  a51 := Tryd.isAgg103,
  z51 := Tryd.sizeOf103,
  v51 := Tryd.zeroValue103,
  t146 := Tryd.underlying104,
  a146 := Tryd.isAgg104,
  z146 := Tryd.sizeOf104,
  v146 := Tryd.zeroValue104,
  g1 := by kernel_rfl }
end Go.Proofs
