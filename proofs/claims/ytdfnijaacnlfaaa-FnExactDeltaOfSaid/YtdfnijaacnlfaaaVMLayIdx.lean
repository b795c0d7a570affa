/- The library functions that the program calls lie at this program: the shelf's layings, in plain words. -/
import Derived.Test.YtdfnijaacnlfaaaProg
import Derived.Shelf.SlicesQ.IndexFunc
namespace Go.Proofs
open Go.Shelf Go.RowKit
def Try.layIdx_ren : Go.Shelf.Ren := ⟨fun | 6 => 84 | n => n, fun | 22 => 28 | 23 => 66 | 25 => 83 | 3 => 3 | 0 => 0 | 4 => 4 | n => n, fun | n => n⟩
theorem Try.layIdx : Go.Proofs.SlLaysH0.n6 Try.prog Try.layIdx_ren := {
  mixed := by kernel_rfl,
  f6 := ⟨Try.f84.name, by decide, Try.func84.trans (congrArg some (by kernel_rfl))⟩,
  t0 := Try.underlying0,
  a0 := Try.isAgg0,
  z0 := Try.sizeOf0,
  v0 := Try.zeroValue0,
  t3 := Try.underlying3,
  a3 := Try.isAgg3,
  z3 := Try.sizeOf3,
  v3 := Try.zeroValue3,
  t4 := Try.underlying4,
  a4 := Try.isAgg4,
  z4 := Try.sizeOf4,
  v4 := Try.zeroValue4,
  t22 := Try.underlying28,
  a22 := Try.isAgg28,
  z22 := Try.sizeOf28,
  v22 := Try.zeroValue28,
  t25 := Try.underlying83,
  a25 := Try.isAgg83,
  z25 := Try.sizeOf83,
  v25 := Try.zeroValue83 }
end Go.Proofs
