/- The library functions that the program calls lie at this program: the shelf's layings, in plain words. -/
import Derived.Test.YtpljfjbhlboffaaGreatProg
import Derived.Shelf.Strings.Search3
namespace Go.Proofs
open Go.Shelf Go.RowKit
def Try.aGr:Go.Shelf.Ren:=⟨fun|144=>89|143=>122|219=>138|217=>150|225=>151|224=>152|267=>153|266=>157|314=>158|n=>n,fun|9=>9|4=>4|3=>3|5=>5|46=>113|146=>173|51=>139|n=>n,fun|1=>0|n=>n⟩
theorem Try.a2g:Go.Proofs.Lays.n144 Tryz.prog Try.aGr:={
  mixed:=by kernel_rfl,
  f143:=Tryz.func122.trans (congrArg some (by kernel_rfl)),
  f144:=Tryz.func89.trans (congrArg some (by kernel_rfl)),
  f217:=Tryz.func150.trans (congrArg some (by kernel_rfl)),
  f219:=Tryz.func138.trans (congrArg some (by kernel_rfl)),
  f224:=Tryz.func152.trans (congrArg some (by kernel_rfl)),
  f225:=Tryz.func151.trans (congrArg some (by kernel_rfl)),
  f266:=Tryz.func157.trans (congrArg some (by kernel_rfl)),
  f267:=Tryz.func153.trans (congrArg some (by kernel_rfl)),
  f314:=Tryz.func158.trans (congrArg some (by kernel_rfl)),
  t3:=Tryz.underlying3,
  a3:=Tryz.isAgg3,
  z3:=Tryz.sizeOf3,
  v3:=Tryz.zeroValue3,
  t4:=Tryz.underlying4,
  a4:=Tryz.isAgg4,
  z4:=Tryz.sizeOf4,
  v4:=Tryz.zeroValue4,
  t5:=Tryz.underlying5,
  a5:=Tryz.isAgg5,
  z5:=Tryz.sizeOf5,
  v5:=Tryz.zeroValue5,
  t9:=Tryz.underlying9,
  a9:=Tryz.isAgg9,
  z9:=Tryz.sizeOf9,
  v9:=Tryz.zeroValue9,
  t46:=Tryz.underlying113,
  a46:=Tryz.isAgg113,
  z46:=Tryz.sizeOf113,
  v46:=Tryz.zeroValue113,
  t51:=Tryz.underlying139,
  a51:=Tryz.isAgg139,
  z51:=Tryz.sizeOf139,
  v51:=Tryz.zeroValue139,
  t146:=Tryz.underlying173,
  a146:=Tryz.isAgg173,
  z146:=Tryz.sizeOf173,
  v146:=Tryz.zeroValue173,
  g1:=by kernel_rfl}
end Go.Proofs
