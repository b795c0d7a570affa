/- The library functions that the program calls lie at this program: the shelf's layings, in plain words. -/
import Derived.Test.YtfpmfaelodfecaaGreatDoorProg
import Derived.Shelf.Strings.Search3
namespace Go.Proofs
open Go.Shelf Go.RowKit
def Try.layHas_ren : Go.Shelf.Ren := ⟨fun | 144 => 77 | 143 => 101 | 219 => 112 | 217 => 127 | 225 => 128 | 224 => 129 | 267 => 130 | 266 => 137 | 314 => 138 | n => n, fun | 9 => 9 | 4 => 4 | 3 => 3 | 5 => 5 | 46 => 129 | 146 => 168 | 51 => 147 | n => n, fun | 1 => 1 | n => n⟩
theorem Try.layHas : Go.Proofs.Lays.n144 Tryz.prog Try.layHas_ren := {
  mixed := by kernel_rfl,
  f143 := Tryz.func101.trans (congrArg some (by kernel_rfl)),
  f144 := Tryz.func77.trans (congrArg some (by kernel_rfl)),
  f217 := Tryz.func127.trans (congrArg some (by kernel_rfl)),
  f219 := Tryz.func112.trans (congrArg some (by kernel_rfl)),
  f224 := Tryz.func129.trans (congrArg some (by kernel_rfl)),
  f225 := Tryz.func128.trans (congrArg some (by kernel_rfl)),
  f266 := Tryz.func137.trans (congrArg some (by kernel_rfl)),
  f267 := Tryz.func130.trans (congrArg some (by kernel_rfl)),
  f314 := Tryz.func138.trans (congrArg some (by kernel_rfl)),
  t3 := Tryz.underlying3,
  a3 := Tryz.isAgg3,
  z3 := Tryz.sizeOf3,
  v3 := Tryz.zeroValue3,
  t4 := Tryz.underlying4,
  a4 := Tryz.isAgg4,
  z4 := Tryz.sizeOf4,
  v4 := Tryz.zeroValue4,
  t5 := Tryz.underlying5,
  a5 := Tryz.isAgg5,
  z5 := Tryz.sizeOf5,
  v5 := Tryz.zeroValue5,
  t9 := Tryz.underlying9,
  a9 := Tryz.isAgg9,
  z9 := Tryz.sizeOf9,
  v9 := Tryz.zeroValue9,
  t46 := Tryz.underlying129,
  a46 := Tryz.isAgg129,
  z46 := Tryz.sizeOf129,
  v46 := Tryz.zeroValue129,
  t51 := Tryz.underlying147,
  a51 := Tryz.isAgg147,
  z51 := Tryz.sizeOf147,
  v51 := Tryz.zeroValue147,
  t146 := Tryz.underlying168,
  a146 := Tryz.isAgg168,
  z146 := Tryz.sizeOf168,
  v146 := Tryz.zeroValue168,
  g1 := by kernel_rfl }
end Go.Proofs
