import Derived.Test.YtdfnijaacnlfaaaProg
import Derived.Laws.Cover1
import Derived.Below
import Derived.Deep.Draws
import Derived.Deep.AppendLies
import Derived.Maps.AppendAt
import Derived.OwnWalk
import Derived.Laws.BytesArg
import Derived.Laws.MakeOwn
import Derived.Laws.OwnMore
import Derived.Deep.OwnRows
import Derived.Tactics
import Derived.Lib.ConvBytes
import Derived.Laws.Slices
import Derived.WalkKit
import Derived.KernelRfl
import Derived.RowKit3
import Derived.Deep.LoopGhost
import Derived.Deep.QuietTactic
import Derived.BigQuiet
import Derived.WideLaws
import Derived.Deep.DeepCutAuto
import Derived.Deep.CutBlock
import Derived.Deep.RegionHeld3
import Derived.Laws.Rows
import Derived.Lib.AppendStr
import Derived.ArgAppend
import Derived.Laws.IdiomCopy
import Derived.OrdersHeld
import Derived.Laws.BitsLemmas
import Derived.RowKit
import Derived.Test.YtdfnijaacnlfaaaVMNer
import Derived.Test.YtdfnijaacnlfaaaVMSrt
import Derived.Test.YtdfnijaacnlfaaaVMLaySort
import Derived.Test.YtdfnijaacnlfaaaVWords
import Derived.Test.YtdfnijaacnlfaaaVLast
import Derived.Test.YtdfnijaacnlfaaaVTab
import Derived.Test.YtdfnijaacnlfaaaVApart
import Derived.Test.YtdfnijaacnlfaaaVFoot
import Derived.Test.YtdfnijaacnlfaaaVKept
import Derived.Test.YtdfnijaacnlfaaaVShare
import Derived.Test.YtdfnijaacnlfaaaVN
import Derived.Test.YtdfnijaacnlfaaaVFootNe
import Derived.Test.YtdfnijaacnlfaaaVEqStruct
import Derived.Test.YtdfnijaacnlfaaaVRepsOne
import Derived.Test.YtdfnijaacnlfaaaVGuard
import Derived.Test.YtdfnijaacnlfaaaVNEv
import Derived.Test.YtdfnijaacnlfaaaVMore
import Derived.Test.YtdfnijaacnlfaaaVMSh2
namespace Go.Proofs.Ytdfnijaacnlfaaa.QFnMachineGuesses
open Go.RowKit Go.Proofs.YtdfnijaacnlfaaaW.PrintWords Go.Proofs.YtdfnijaacnlfaaaW.PrintLast Go.Proofs.YtdfnijaacnlfaaaW.PrintMore Go.Proofs.Ytdfnijaacnlfaaa.Sh
attribute [local go_sem] max2_int min2_int max_two min_two max_three min_three max_four min_four
set_option linter.unusedVariables false
set_option linter.unusedSimpArgs false
set_option maxHeartbeats 8000000
set_option maxRecDepth 100000
-- shrunk



def errW : Option Int → Value
 | none => .nilIface
 | some c => .iface 0 (.int .i64 c)
theorem errW_none : errW none = .nilIface := rfl
theorem errW_some (c : Int) : errW (some c) = .iface 0 (.int .i64 c) := rfl

theorem info3 : (Try.prog.info? 3).map (fun i => (i.zero, i.size, i.bytes)) = some (some (.int .i64 0), 1, 8) := by kernel_rfl
theorem info5 : (Try.prog.info? 5).map (fun i => (i.zero, i.size, i.bytes)) = some (some (.int .u8 0), 1, 1) := by kernel_rfl
theorem info9 : (Try.prog.info? 9).map (fun i => (i.zero, i.size, i.bytes)) = some (some (.string ⟨#[]⟩), 1, 16) := by kernel_rfl
theorem info27 : (Try.prog.info? 27).map (fun i => (i.zero, i.size, i.bytes)) = some (some (.slice none 0 0), 1, 24) := by kernel_rfl
theorem info66 : (Try.prog.info? 66).map (fun i => (i.zero, i.size, i.bytes)) = some (some (.agg #[(.string ⟨#[]⟩), (.string ⟨#[]⟩)]), 2, 32) := by kernel_rfl
theorem info73 : (Try.prog.info? 73).map (fun i => (i.zero, i.size, i.bytes)) = some (some (.agg #[(.string ⟨#[]⟩), (.bool false), (.string ⟨#[]⟩), (.string ⟨#[]⟩), (.string ⟨#[]⟩)]), 5, 72) := by kernel_rfl
theorem info95 : (Try.prog.info? 95).map (fun i => (i.zero, i.size, i.bytes)) = some (some (.agg #[(.bool false), (.slice none 0 0)]), 2, 32) := by kernel_rfl
theorem info97 : (Try.prog.info? 97).map (fun i => (i.zero, i.size, i.bytes)) = some (some (.agg #[(.int .i64 0), (.int .i64 0)]), 2, 16) := by kernel_rfl
theorem info99 : (Try.prog.info? 99).map (fun i => (i.zero, i.size, i.bytes)) = some (some (.slice none 0 0), 1, 24) := by kernel_rfl
-- the values' own types
def rd_L2 (xs : List (List ByteArray)) (i : Int) : (List ByteArray) := xs.getD i.toNat ([] : List ByteArray)
theorem at_L2 {w : World} {A : Option Addr} {n : Nat} {xs : List (List ByteArray)} (h : Kd.C (Kd.slice 9 Kd.string) w A n xs) (i : Int) (h0 : 0 ≤ i) (h1 : i < n) : ∃ ad A0 c0, A = some ad ∧ w.cell? (ad.add i.toNat) = some (.slice A0 (rd_L2 xs i).length c0) ∧ (rd_L2 xs i).length ≤ c0 ∧ Kd.string.C w A0 (rd_L2 xs i).length (rd_L2 xs i) := by
 obtain ⟨ad, c, e, _, hK, hc0⟩ := Kd.C_get h ([] : List ByteArray) i h0 h1
 have hc : ∀ j u, c[j]? = some u → w.cell? (ad.add (i.toNat * 1 + j)) = some u := hc0
 obtain ⟨A0, c0, rfl, l0, g0⟩ := hK
 exact ⟨ad, A0, c0, e, by have hq := hc 0 _ rfl; rwa [Nat.mul_one, Nat.add_zero] at hq, l0, g0⟩

/-! #### struct type 97 -/
structure S97 where
 f0 : Int
 f1 : Int
def z97 : S97 := ⟨(0 : Int), (0 : Int)⟩
def k97 : Kd S97 := Kd.iso (Kd.pair (Kd.int .i64) (Kd.int .i64)) (fun x : S97 => (x.f0, x.f1))
theorem k97_heap : Kd.Heap k97 := Kd.heap_iso _ (Kd.heap_pair (Kd.heap_int .i64) (Kd.heap_int .i64))
theorem k97_open {w : World} {x : S97} {cs : List Value} (h : k97.K w x cs) : cs = [.int .i64 x.f0, .int .i64 x.f1] := by
 obtain ⟨_, _, rfl, rfl, rfl⟩ := h
 exact rfl
theorem k97_openM {w : World} {base : Nat} {ok : Nat → Prop} {x : S97} {cs : List Value} (h : k97.M w base ok x cs) : cs = [.int .i64 x.f0, .int .i64 x.f1] := by
 obtain ⟨_, _, rfl, rfl, rfl⟩ := h
 exact rfl
theorem k97_mk (w : World) (x : S97)  : k97.K w x [.int .i64 x.f0, .int .i64 x.f1] := ⟨[.int .i64 x.f0], [.int .i64 x.f1], rfl, rfl, rfl⟩
theorem k97_mkM (w : World) (base : Nat) (ok : Nat → Prop) (x : S97)  : k97.M w base ok x [.int .i64 x.f0, .int .i64 x.f1] := ⟨[.int .i64 x.f0], [.int .i64 x.f1], rfl, rfl, rfl⟩
theorem k97_mkF (W : World) (ok : Nat → Prop) (x : S97) : Kd.FK k97 W ok x [.int .i64 x.f0, .int .i64 x.f1] := fun W2 _ => k97_mk W2 x
def rd_T97 (xs : List S97) (i : Int) : S97 := xs.getD i.toNat z97
theorem at_T97 {w : World} {A : Option Addr} {n : Nat} {xs : List S97} (h : Kd.C k97 w A n xs) (i : Int) (h0 : 0 ≤ i) (h1 : i < n) : ∃ ad , A = some ad ∧ w.cell? (ad.add (i.toNat * 2)) = some (.int .i64 (rd_T97 xs i).f0) ∧ w.cell? ⟨(ad.add (i.toNat * 2)).block, (ad.add (i.toNat * 2)).off + 1, none⟩ = some (.int .i64 (rd_T97 xs i).f1) := by
 obtain ⟨ad, c, e, _, hK, hc0⟩ := Kd.C_get h z97 i h0 h1
 have hc : ∀ j u, c[j]? = some u → w.cell? (ad.add (i.toNat * 2 + j)) = some u := hc0
 obtain rfl := k97_open hK
 exact ⟨ad, e, hc 0 _ rfl, by rw [← add_field _ _ 1 (by omega)]; exact hc 1 _ rfl⟩

def rd_L6 (xs : List (List S97)) (i : Int) : (List S97) := xs.getD i.toNat ([] : List S97)
theorem at_L6 {w : World} {A : Option Addr} {n : Nat} {xs : List (List S97)} (h : Kd.C (Kd.slice 97 k97) w A n xs) (i : Int) (h0 : 0 ≤ i) (h1 : i < n) : ∃ ad A0 c0, A = some ad ∧ w.cell? (ad.add i.toNat) = some (.slice A0 (rd_L6 xs i).length c0) ∧ (rd_L6 xs i).length ≤ c0 ∧ k97.C w A0 (rd_L6 xs i).length (rd_L6 xs i) := by
 obtain ⟨ad, c, e, _, hK, hc0⟩ := Kd.C_get h ([] : List S97) i h0 h1
 have hc : ∀ j u, c[j]? = some u → w.cell? (ad.add (i.toNat * 1 + j)) = some u := hc0
 obtain ⟨A0, c0, rfl, l0, g0⟩ := hK
 exact ⟨ad, A0, c0, e, by have hq := hc 0 _ rfl; rwa [Nat.mul_one, Nat.add_zero] at hq, l0, g0⟩

/-! #### struct type 95 -/
structure S95 where
 f0 : Bool
 f1 : (List S97)
def z95 : S95 := ⟨false, ([] : List S97)⟩
def k95 : Kd S95 := Kd.iso (Kd.pair Kd.bool (Kd.slice 97 k97)) (fun x : S95 => (x.f0, x.f1))
theorem k95_heap : Kd.Heap k95 := Kd.heap_iso _ (Kd.heap_pair Kd.heap_bool (Kd.heap_slice 97 k97_heap))
theorem k95_open {w : World} {x : S95} {cs : List Value} (h : k95.K w x cs) : ∃ A1 c1, cs = [.bool x.f0, .slice A1 x.f1.length c1] ∧ x.f1.length ≤ c1 ∧ k97.C w A1 x.f1.length x.f1 := by
 obtain ⟨_, _, rfl, rfl, ⟨A1, c1, rfl, l1, g1⟩⟩ := h
 exact ⟨A1, c1, rfl, l1, g1⟩
theorem k95_openM {w : World} {base : Nat} {ok : Nat → Prop} {x : S95} {cs : List Value} (h : k95.M w base ok x cs) : ∃ v1, cs = [.bool x.f0, v1] ∧ k97.R 97 w base ok v1 x.f1 := by
 obtain ⟨_, _, rfl, rfl, ⟨v1, rfl, g1⟩⟩ := h
 exact ⟨v1, rfl, g1⟩
theorem k95_mk (w : World) (x : S95) {A1 : Option Addr} {c1 : Nat} (l1 : x.f1.length ≤ c1) (g1 : k97.C w A1 x.f1.length x.f1) : k95.K w x [.bool x.f0, .slice A1 x.f1.length c1] := ⟨[.bool x.f0], [.slice A1 x.f1.length c1], rfl, rfl, ⟨A1, c1, rfl, l1, g1⟩⟩
theorem k95_mkM (w : World) (base : Nat) (ok : Nat → Prop) (x : S95) {v1 : Value} (g1 : k97.R 97 w base ok v1 x.f1) : k95.M w base ok x [.bool x.f0, v1] := ⟨[.bool x.f0], [v1], rfl, rfl, ⟨v1, rfl, g1⟩⟩
theorem k95_openF {W : World} {ok : Nat → Prop} {x : S95} {cs : List Value} (h : Kd.FK k95 W ok x cs) : ∃ A1 c1, cs = [.bool x.f0, .slice A1 x.f1.length c1] ∧ x.f1.length ≤ c1 ∧ Kd.F k97 W ok A1 x.f1.length x.f1 := by
 obtain ⟨A1, c1, rfl, l1, _⟩ := k95_open (Kd.FK_now h)
 exact ⟨A1, c1, rfl, l1, (fun W' hW => by obtain ⟨A1_, c1_, he, l1_, g1_⟩ := k95_open (h W' hW); injection (Option.some.inj (show some (Value.slice A1 x.f1.length c1) = some (Value.slice A1_ x.f1.length c1_) from congrArg (fun l => l[1]?) he)) with ha_ _ _; rw [ha_]; exact g1_)⟩
theorem k95_mkF (W : World) (ok : Nat → Prop) (x : S95) {A1 : Option Addr} {c1 : Nat} (l1 : x.f1.length ≤ c1) (g1 : Kd.F k97 W ok A1 x.f1.length x.f1) : Kd.FK k95 W ok x [.bool x.f0, .slice A1 x.f1.length c1] := fun W2 hW => k95_mk W2 x l1 (g1 W2 hW)
def rd_T95 (xs : List S95) (i : Int) : S95 := xs.getD i.toNat z95
theorem at_T95 {w : World} {A : Option Addr} {n : Nat} {xs : List S95} (h : Kd.C k95 w A n xs) (i : Int) (h0 : 0 ≤ i) (h1 : i < n) : ∃ ad A1 c1, A = some ad ∧ w.cell? (ad.add (i.toNat * 2)) = some (.bool (rd_T95 xs i).f0) ∧ w.cell? ⟨(ad.add (i.toNat * 2)).block, (ad.add (i.toNat * 2)).off + 1, none⟩ = some (.slice A1 (rd_T95 xs i).f1.length c1) ∧ (rd_T95 xs i).f1.length ≤ c1 ∧ k97.C w A1 (rd_T95 xs i).f1.length (rd_T95 xs i).f1 := by
 obtain ⟨ad, c, e, _, hK, hc0⟩ := Kd.C_get h z95 i h0 h1
 have hc : ∀ j u, c[j]? = some u → w.cell? (ad.add (i.toNat * 2 + j)) = some u := hc0
 obtain ⟨A1, c1, rfl, l1, g1⟩ := k95_open hK
 exact ⟨ad, A1, c1, e, hc 0 _ rfl, by rw [← add_field _ _ 1 (by omega)]; exact hc 1 _ rfl, l1, g1⟩

/-! #### struct type 73 -/
structure S73 where
 f0 : ByteArray
 f1 : Bool
 f2 : ByteArray
 f3 : ByteArray
 f4 : ByteArray
def z73 : S73 := ⟨(⟨#[]⟩ : ByteArray), false, (⟨#[]⟩ : ByteArray), (⟨#[]⟩ : ByteArray), (⟨#[]⟩ : ByteArray)⟩
def k73 : Kd S73 := Kd.iso (Kd.pair Kd.string (Kd.pair Kd.bool (Kd.pair Kd.string (Kd.pair Kd.string Kd.string)))) (fun x : S73 => (x.f0, x.f1, x.f2, x.f3, x.f4))
theorem k73_heap : Kd.Heap k73 := Kd.heap_iso _ (Kd.heap_pair Kd.heap_string (Kd.heap_pair Kd.heap_bool (Kd.heap_pair Kd.heap_string (Kd.heap_pair Kd.heap_string Kd.heap_string))))
theorem k73_open {w : World} {x : S73} {cs : List Value} (h : k73.K w x cs) : cs = [.string x.f0, .bool x.f1, .string x.f2, .string x.f3, .string x.f4] := by
 obtain ⟨_, _, rfl, rfl, ⟨_, _, rfl, rfl, ⟨_, _, rfl, rfl, ⟨_, _, rfl, rfl, rfl⟩⟩⟩⟩ := h
 exact rfl
theorem k73_openM {w : World} {base : Nat} {ok : Nat → Prop} {x : S73} {cs : List Value} (h : k73.M w base ok x cs) : cs = [.string x.f0, .bool x.f1, .string x.f2, .string x.f3, .string x.f4] := by
 obtain ⟨_, _, rfl, rfl, ⟨_, _, rfl, rfl, ⟨_, _, rfl, rfl, ⟨_, _, rfl, rfl, rfl⟩⟩⟩⟩ := h
 exact rfl
theorem k73_mk (w : World) (x : S73)  : k73.K w x [.string x.f0, .bool x.f1, .string x.f2, .string x.f3, .string x.f4] := ⟨[.string x.f0], [.bool x.f1, .string x.f2, .string x.f3, .string x.f4], rfl, rfl, ⟨[.bool x.f1], [.string x.f2, .string x.f3, .string x.f4], rfl, rfl, ⟨[.string x.f2], [.string x.f3, .string x.f4], rfl, rfl, ⟨[.string x.f3], [.string x.f4], rfl, rfl, rfl⟩⟩⟩⟩
theorem k73_mkM (w : World) (base : Nat) (ok : Nat → Prop) (x : S73)  : k73.M w base ok x [.string x.f0, .bool x.f1, .string x.f2, .string x.f3, .string x.f4] := ⟨[.string x.f0], [.bool x.f1, .string x.f2, .string x.f3, .string x.f4], rfl, rfl, ⟨[.bool x.f1], [.string x.f2, .string x.f3, .string x.f4], rfl, rfl, ⟨[.string x.f2], [.string x.f3, .string x.f4], rfl, rfl, ⟨[.string x.f3], [.string x.f4], rfl, rfl, rfl⟩⟩⟩⟩
theorem k73_mkF (W : World) (ok : Nat → Prop) (x : S73) : Kd.FK k73 W ok x [.string x.f0, .bool x.f1, .string x.f2, .string x.f3, .string x.f4] := fun W2 _ => k73_mk W2 x
def rd_T73 (xs : List S73) (i : Int) : S73 := xs.getD i.toNat z73
theorem at_T73 {w : World} {A : Option Addr} {n : Nat} {xs : List S73} (h : Kd.C k73 w A n xs) (i : Int) (h0 : 0 ≤ i) (h1 : i < n) : ∃ ad , A = some ad ∧ w.cell? (ad.add (i.toNat * 5)) = some (.string (rd_T73 xs i).f0) ∧ w.cell? ⟨(ad.add (i.toNat * 5)).block, (ad.add (i.toNat * 5)).off + 1, none⟩ = some (.bool (rd_T73 xs i).f1) ∧ w.cell? ⟨(ad.add (i.toNat * 5)).block, (ad.add (i.toNat * 5)).off + 2, none⟩ = some (.string (rd_T73 xs i).f2) ∧ w.cell? ⟨(ad.add (i.toNat * 5)).block, (ad.add (i.toNat * 5)).off + 3, none⟩ = some (.string (rd_T73 xs i).f3) ∧ w.cell? ⟨(ad.add (i.toNat * 5)).block, (ad.add (i.toNat * 5)).off + 4, none⟩ = some (.string (rd_T73 xs i).f4) := by
 obtain ⟨ad, c, e, _, hK, hc0⟩ := Kd.C_get h z73 i h0 h1
 have hc : ∀ j u, c[j]? = some u → w.cell? (ad.add (i.toNat * 5 + j)) = some u := hc0
 obtain rfl := k73_open hK
 exact ⟨ad, e, hc 0 _ rfl, by rw [← add_field _ _ 1 (by omega)]; exact hc 1 _ rfl, by rw [← add_field _ _ 2 (by omega)]; exact hc 2 _ rfl, by rw [← add_field _ _ 3 (by omega)]; exact hc 3 _ rfl, by rw [← add_field _ _ 4 (by omega)]; exact hc 4 _ rfl⟩

/-! #### struct type 66 -/
structure S66 where
 f0 : ByteArray
 f1 : ByteArray
def z66 : S66 := ⟨(⟨#[]⟩ : ByteArray), (⟨#[]⟩ : ByteArray)⟩
def k66 : Kd S66 := Kd.iso (Kd.pair Kd.string Kd.string) (fun x : S66 => (x.f0, x.f1))
theorem k66_heap : Kd.Heap k66 := Kd.heap_iso _ (Kd.heap_pair Kd.heap_string Kd.heap_string)
theorem k66_open {w : World} {x : S66} {cs : List Value} (h : k66.K w x cs) : cs = [.string x.f0, .string x.f1] := by
 obtain ⟨_, _, rfl, rfl, rfl⟩ := h
 exact rfl
theorem k66_openM {w : World} {base : Nat} {ok : Nat → Prop} {x : S66} {cs : List Value} (h : k66.M w base ok x cs) : cs = [.string x.f0, .string x.f1] := by
 obtain ⟨_, _, rfl, rfl, rfl⟩ := h
 exact rfl
theorem k66_mk (w : World) (x : S66)  : k66.K w x [.string x.f0, .string x.f1] := ⟨[.string x.f0], [.string x.f1], rfl, rfl, rfl⟩
theorem k66_mkM (w : World) (base : Nat) (ok : Nat → Prop) (x : S66)  : k66.M w base ok x [.string x.f0, .string x.f1] := ⟨[.string x.f0], [.string x.f1], rfl, rfl, rfl⟩
theorem k66_mkF (W : World) (ok : Nat → Prop) (x : S66) : Kd.FK k66 W ok x [.string x.f0, .string x.f1] := fun W2 _ => k66_mk W2 x
def rd_T66 (xs : List S66) (i : Int) : S66 := xs.getD i.toNat z66
theorem at_T66 {w : World} {A : Option Addr} {n : Nat} {xs : List S66} (h : Kd.C k66 w A n xs) (i : Int) (h0 : 0 ≤ i) (h1 : i < n) : ∃ ad , A = some ad ∧ w.cell? (ad.add (i.toNat * 2)) = some (.string (rd_T66 xs i).f0) ∧ w.cell? ⟨(ad.add (i.toNat * 2)).block, (ad.add (i.toNat * 2)).off + 1, none⟩ = some (.string (rd_T66 xs i).f1) := by
 obtain ⟨ad, c, e, _, hK, hc0⟩ := Kd.C_get h z66 i h0 h1
 have hc : ∀ j u, c[j]? = some u → w.cell? (ad.add (i.toNat * 2 + j)) = some u := hc0
 obtain rfl := k66_open hK
 exact ⟨ad, e, hc 0 _ rfl, by rw [← add_field _ _ 1 (by omega)]; exact hc 1 _ rfl⟩

def rd_L10 (xs : List (List Int)) (i : Int) : (List Int) := xs.getD i.toNat ([] : List Int)
theorem at_L10 {w : World} {A : Option Addr} {n : Nat} {xs : List (List Int)} (h : Kd.C (Kd.slice 3 (Kd.int .i64)) w A n xs) (i : Int) (h0 : 0 ≤ i) (h1 : i < n) : ∃ ad A0 c0, A = some ad ∧ w.cell? (ad.add i.toNat) = some (.slice A0 (rd_L10 xs i).length c0) ∧ (rd_L10 xs i).length ≤ c0 ∧ (Kd.int .i64).C w A0 (rd_L10 xs i).length (rd_L10 xs i) := by
 obtain ⟨ad, c, e, _, hK, hc0⟩ := Kd.C_get h ([] : List Int) i h0 h1
 have hc : ∀ j u, c[j]? = some u → w.cell? (ad.add (i.toNat * 1 + j)) = some u := hc0
 obtain ⟨A0, c0, rfl, l0, g0⟩ := hK
 exact ⟨ad, A0, c0, e, by have hq := hc 0 _ rfl; rwa [Nat.mul_one, Nat.add_zero] at hq, l0, g0⟩

theorem b0_ {p : Prop} (h : p := by repeat (first | (with_reducible first | exact HK.out | apply KeepBut.set_ | apply keep_drewN | apply keep_drew | apply keep_alloc) | exact HK.out)) : p := h
theorem b1_ {p : Prop} (h : p := by repeat (first | (with_reducible first | exact HB.out | apply below_alloc | apply pw_below_drewN | apply below_drew1 | refine below_set ?_ (IsS114.ge HI0.out)) | exact HB.out)) : p := h
theorem b2_ {p : Prop} (h : p := by repeat (first | (with_reducible first | exact HI0.out | apply IsS114.alloc | apply IsS114.drewN | apply IsS114.drew | apply IsS114.set_1) | exact HI0.out)) : p := h
theorem b3_ {p : Prop} (h : p := by repeat (first | (with_reducible first | exact HK.out | apply KeepBut.set_ | apply keep_drewN | apply keep_drew | apply keep_alloc | refine keep_far ?_ GW291.out _ | refine keep_far ?_ GW296.out _) | exact HK.out)) : p := h
theorem b4_ {p : Prop} (h : p := by repeat (first | (with_reducible first | exact HI0.out | apply IsS114.alloc | apply IsS114.drewN | apply IsS114.drew | apply IsS114.set_1 | refine IsS114.far ?_ NB0_291.out _ | refine IsS114.far ?_ NB0_296.out _) | exact HI0.out)) : p := h
theorem b5_ {p : Prop} (h : p := by rw [if_neg (show ¬ (false = true) by decide)] at H; exact H) : p := h
theorem b6_ {p : Prop} (h : p := by repeat (first | (with_reducible first | exact HB.out | apply below_alloc | apply pw_below_drewN | apply below_drew1 | refine below_set ?_ (IsS114.ge HI0.out) | refine below_set ?_ GE291.out | refine below_set ?_ GE296.out) | exact HB.out)) : p := h
theorem b7_ {p : Prop} (h : p := by (with_reducible repeat (first | apply Kd.S_alloc | apply Kd.S_drewN | apply Kd.S_drew)); exact HO_5.out) : p := h
theorem b8_ {p : Prop} (h : p := by rw [hg]; exact (keep_size (w := w) (g := g) (row := none) (by repeat (first | (with_reducible first | exact HK.out | apply KeepBut.set_ | apply keep_drewN | apply keep_drew | apply keep_alloc) | exact HK.out)))) : p := h
theorem b9_ {p : Prop} (h : p := by (with_reducible repeat (first | apply Kd.N_alloc | apply Kd.N_drewN | apply Kd.N_drew)); exact HO_3.out) : p := h
theorem b10_ {p : Prop} (h : p := by (with_reducible repeat (first | refine blk_drewN ?_ _ | refine blk_drew ?_ | refine blk_alloc ?_ _)); refine blk_put (cs := #[.int .i64 ((rd_T97 ((rd_T95 l0 x3_1).f1) x4_2).f0), .int .i64 0]) ?_ 1 _ rfl; (with_reducible repeat (first | refine blk_drewN ?_ _ | refine blk_drew ?_ | refine blk_alloc ?_ _)); refine blk_put (cs := #[.int .i64 0, .int .i64 0]) ?_ 0 _ rfl; (with_reducible repeat (first | refine blk_drewN ?_ _ | refine blk_drew ?_ | refine blk_alloc ?_ _)); exact BK464.out) : p := h
theorem b11_ {p : Prop} (h : p := by repeat (first | (with_reducible first | exact HK.out | apply KeepBut.set_ | apply keep_drewN | apply keep_drew | apply keep_alloc | refine keep_far ?_ GW253.out _) | exact HK.out)) : p := h
theorem b12_ {p : Prop} (h : p := by (with_reducible repeat (first | refine blk_drewN ?_ _ | refine blk_drew ?_ | refine blk_alloc ?_ _)); refine blk_put (cs := #[.int .i64 ((rd_T97 ((rd_T95 l0 x4_1).f1) x50_4).f0), .int .i64 0]) ?_ 1 _ rfl; (with_reducible repeat (first | refine blk_drewN ?_ _ | refine blk_drew ?_ | refine blk_alloc ?_ _)); refine blk_put (cs := #[.int .i64 0, .int .i64 0]) ?_ 0 _ rfl; (with_reducible repeat (first | refine blk_drewN ?_ _ | refine blk_drew ?_ | refine blk_alloc ?_ _)); exact BK589.out) : p := h
theorem b13_ {p : Prop} (h : p := by repeat (first | (with_reducible first | exact HB.out | apply below_alloc | apply pw_below_drewN | apply below_drew1 | refine below_set ?_ (IsS114.ge HI563.out)) | exact HB.out)) : p := h
theorem b14_ {p : Prop} (h : p := by have h_ : (x25_2 : Int) < ((x5_2.length : Int) : Int) := of_decide_eq_true ad; first | exact h_ | (have e_ := (Kd.S_reads' HO_5.out).1; omega) | simpa using h_) : p := h
theorem b15_ {p : Prop} (h : p := by (with_reducible repeat (first | apply Kd.S_alloc | apply Kd.S_drewN | apply Kd.S_drew)); exact HO402.out) : p := h
theorem b16_ {p : Prop} (h : p := by (try simp only [hl5_2]); (try simp only [hl5_3]); (try simp only [hl5_4]); (try simp only [hl5_5]); (with_reducible repeat (first | apply Kd.S_alloc | apply Kd.S_drewN | apply Kd.S_drew)); exact HO_5.out) : p := h
theorem b17_ {p : Prop} (h : p := by rw [hg]; exact (below_size bel)) : p := h
theorem b18_ {p : Prop} (h : p := by rw [if_pos rfl] at H; exact H) : p := h
theorem b19_ {p : Prop} (h : p := by (with_reducible repeat (first | apply Kd.S_alloc | apply Kd.S_drewN | apply Kd.S_drew)); exact HO_3.out) : p := h
theorem b20_ {p : Prop} (h : p := by repeat (first | (with_reducible first | exact HB.out | apply below_alloc | apply pw_below_drewN | apply below_drew1 | refine below_set ?_ (IsS114.ge HI0.out) | refine below_set ?_ GE253.out) | exact HB.out)) : p := h
theorem b21_ {p : Prop} (h : p := by have h_ : (x8_4 : Int) < ((x5_5.length : Int) : Int) := of_decide_eq_true ad; first | exact h_ | (have e_ := (Kd.S_reads' HO_5.out).1; omega) | simpa only [List.length_set, List.length_set] using h_) : p := h
theorem b22_ {p : Prop} (h : p := by (with_reducible repeat (first | refine blk_drewN ?_ _ | refine blk_drew ?_ | refine blk_alloc ?_ _)); refine blk_far ?_ NB585_589.out _; (with_reducible repeat (first | refine blk_drewN ?_ _ | refine blk_drew ?_ | refine blk_alloc ?_ _)); refine blk_far ?_ NB585_589.out _; (with_reducible repeat (first | refine blk_drewN ?_ _ | refine blk_drew ?_ | refine blk_alloc ?_ _)); exact BK585.out) : p := h
theorem b23_ {p : Prop} (h : p := by repeat (first | (with_reducible exact HR199_0.out) | (with_reducible refine Kd.C_alloc ?_ _) | (with_reducible refine Kd.C_drewN ?_ _) | (with_reducible refine Kd.C_drew ?_) | exact HR199_0.out)) : p := h
theorem b24_ {p : Prop} (h : p := by repeat (first | (with_reducible first | exact HI0.out | apply IsS114.alloc | apply IsS114.drewN | apply IsS114.drew | apply IsS114.set_1 | refine IsS114.far ?_ NB0_253.out _) | exact HI0.out)) : p := h
theorem b25_ {p : Prop} (h : p := by have hq_ := Kd.F_in (Kd.V_at HO_0.out).2.2 rfl (by have a_ := of_eq_true p150; have b_ := of_eq_true q150; omega) (by decide); simp only [add_block]; first | exact hq_.2 | exact hq_.2.1 | exact hq_.2.2 | exact hq_.2.2.1 | exact hq_.2.2.2 | exact hq_.1.2 | exact hq_.1.2.1 | exact hq_.1.2.2 | grind) : p := h
theorem b26_ {p : Prop} (h : p := by repeat (first | (with_reducible exact HR698_0.out) | (with_reducible refine Kd.C_alloc ?_ _) | (with_reducible refine Kd.C_drewN ?_ _) | (with_reducible refine Kd.C_drew ?_) | exact HR698_0.out)) : p := h
theorem b27_ {p : Prop} (h : p := by have h_ : (x25_2 : Int) < ((x5_2.length : Int) : Int) := of_decide_eq_true ad; first | exact h_ | (have e_ := (Kd.S_reads' HO_5.out).1; omega) | simpa only [Ny686.out, List.length_set] using h_) : p := h
theorem b28_ {p : Prop} (h : p := by repeat (first | (with_reducible first | exact HI563.out | apply IsS114.alloc | apply IsS114.drewN | apply IsS114.drew | apply IsS114.set_1) | exact HI563.out)) : p := h
theorem b29_ {p : Prop} (h : p := by first | (rw [add_block]; exact Kd.own_blk (IsS114.own_neS HI0.out HO402.out (by decide))) | (show (Addr.add _ _).block ≠ _; rw [add_block]; exact Kd.own_blk (IsS114.own_neS HI0.out HO402.out (by decide))) | exact Kd.own_blk (IsS114.own_neS HI0.out HO402.out (by decide))) : p := h
theorem b30_ {p : Prop} (h : p := by have := HK1.out; have := HK2.out; omega) : p := h
theorem b31_ {p : Prop} (h : p := by repeat (first | (with_reducible exact HR700_0.out) | (with_reducible refine Kd.C_alloc ?_ _) | (with_reducible refine Kd.C_drewN ?_ _) | (with_reducible refine Kd.C_drew ?_) | exact HR700_0.out)) : p := h
theorem b32_ {p : Prop} (h : p := by repeat (first | (with_reducible exact HR702_0.out) | (with_reducible refine Kd.C_alloc ?_ _) | (with_reducible refine Kd.C_drewN ?_ _) | (with_reducible refine Kd.C_drew ?_) | exact HR702_0.out)) : p := h
theorem b33_ {p : Prop} (h : p := by first | (rw [add_block]; exact (fun e_ => ((HL410_1.out.1 _ e_.symm).2) rfl)) | (show some (Addr.add _ _).block ≠ _; rw [add_block]; exact (fun e_ => ((HL410_1.out.1 _ e_.symm).2) rfl)) | exact (fun e_ => ((HL410_1.out.1 _ e_.symm).2) rfl)) : p := h
theorem b34_ {p : Prop} (h : p := by (with_reducible repeat (first | apply Kd.S_alloc | apply Kd.S_drewN | apply Kd.S_drew)); exact HO722.out) : p := h
theorem b35_ {p : Prop} (h : p := by (with_reducible repeat (first | apply Kd.S_alloc | apply Kd.S_drewN | apply Kd.S_drew)); exact Kd.S_mono HO_5.out (fun k_ hk => ⟨trivial, fun e_ => hk e_⟩)) : p := h
theorem b36_ {p : Prop} (h : p := by (try simp only [hl3_22]); (try simp only [hl3_4]); (with_reducible repeat (first | apply Kd.R_alloc | apply Kd.R_drewN | apply Kd.R_drew)); exact HO_3.out) : p := h
theorem b37_ {p : Prop} (h : p := by repeat (first | (with_reducible first | exact HK.out | apply KeepBut.set_ | apply keep_drewN | apply keep_drew | apply keep_alloc | refine keep_far ?_ GW291.out _) | exact HK.out)) : p := h
theorem b38_ {p : Prop} (h : p := by (try simp only [hl3_22]); (try simp only [hl3_4]); (with_reducible repeat (first | refine blk_drewN ?_ _ | refine blk_drew ?_ | refine blk_alloc ?_ _)); exact BK585.out) : p := h
theorem b39_ {p : Prop} (h : p := by have := HK1.out; first | omega | exact Nat.le_refl _) : p := h
theorem b40_ {p : Prop} (h : p := by (with_reducible repeat (first | apply Kd.N_alloc | apply Kd.N_drewN | apply Kd.N_drew)); exact HO_4.out) : p := h
theorem b41_ {p : Prop} (h : p := by have h_ : (0 : Int) < ((x5_3.length : Int) : Int) := of_decide_eq_true ad; first | exact h_ | (have e_ := (Kd.S_reads' HO_5.out).1; omega) | simpa only [List.length_set, List.length_set] using h_) : p := h
theorem b42_ {p : Prop} (h : p := by repeat (first | (with_reducible exact HR150_0.out) | (with_reducible refine Kd.C_alloc ?_ _) | (with_reducible refine Kd.C_drewN ?_ _) | (with_reducible refine Kd.C_drew ?_) | exact HR150_0.out)) : p := h
theorem b43_ {p : Prop} (h : p := by repeat (first | (with_reducible exact HR171_0.out) | (with_reducible refine Kd.C_alloc ?_ _) | (with_reducible refine Kd.C_drewN ?_ _) | (with_reducible refine Kd.C_drew ?_) | exact HR171_0.out)) : p := h
theorem b44_ {p : Prop} (h : p := by repeat (first | (with_reducible exact HR192_0.out) | (with_reducible refine Kd.C_alloc ?_ _) | (with_reducible refine Kd.C_drewN ?_ _) | (with_reducible refine Kd.C_drew ?_) | exact HR192_0.out)) : p := h
theorem b45_ {p : Prop} (h : p := by repeat (first | (with_reducible first | exact HK.out | apply KeepBut.set_ | apply keep_drewN | apply keep_drew | apply keep_alloc | refine keep_far ?_ GW235.out _) | exact HK.out)) : p := h
theorem b46_ {p : Prop} (h : p := by repeat (first | (with_reducible first | exact HK.out | apply KeepBut.set_ | apply keep_drewN | apply keep_drew | apply keep_alloc | refine keep_far ?_ GW285.out _) | exact HK.out)) : p := h
theorem b47_ {p : Prop} (h : p := by first | (rw [add_block]; exact Kd.own_blk (IsS114.own_neS HI0.out HO402.out (by decide))) | (show (Addr.add _ _).block ≠ _; rw [add_block]; exact Kd.own_blk (IsS114.own_neS HI0.out HO402.out (by decide))) | exact Kd.own_blk (IsS114.own_neS HI0.out HO402.out (by decide)) | (dsimp only; exact Kd.own_blk (IsS114.own_neS HI0.out HO402.out (by decide)))) : p := h
theorem b48_ {p : Prop} (h : p := by rw [hg]; exact Nat.ne_of_lt (IsS114.lt (show IsS114 w0 _ g s0_0 s0_1 from by repeat (first | (with_reducible first | exact HI0.out | apply IsS114.alloc | apply IsS114.drewN | apply IsS114.drew | apply IsS114.set_1) | exact HI0.out)))) : p := h
theorem b49_ {p : Prop} (h : p := by rw [hg]; exact Nat.ne_of_gt (IsS114.lt (show IsS114 w0 _ g s0_0 s0_1 from by repeat (first | (with_reducible first | exact HI0.out | apply IsS114.alloc | apply IsS114.drewN | apply IsS114.drew | apply IsS114.set_1) | exact HI0.out)))) : p := h
theorem b50_ {p : Prop} (h : p := by rw [hg]; exact Nat.ne_of_lt (IsS114.lt (show IsS114 w0 _ g s0_0 t252 from by repeat (first | (with_reducible first | exact HI0.out | apply IsS114.alloc | apply IsS114.drewN | apply IsS114.drew | apply IsS114.set_1) | exact HI0.out)))) : p := h
theorem b51_ {p : Prop} (h : p := by rw [hg]; exact Nat.ne_of_gt (IsS114.lt (show IsS114 w0 _ g s0_0 t252 from by repeat (first | (with_reducible first | exact HI0.out | apply IsS114.alloc | apply IsS114.drewN | apply IsS114.drew | apply IsS114.set_1) | exact HI0.out)))) : p := h
theorem b52_ {p : Prop} (h : p := by (try simp only [hl3_22]); (try simp only [hl3_4]); (with_reducible repeat (first | refine blk_drewN ?_ _ | refine blk_drew ?_ | refine blk_alloc ?_ _)); exact BK589.out) : p := h
theorem b53_ {p : Prop} (h : p := by rw [hg]; exact (below_size (by repeat (first | (with_reducible first | exact HBW.out | apply below_alloc | apply pw_below_drewN | apply below_drew1) | exact HBW.out)))) : p := h
theorem b54_ {p : Prop} (h : p := by first | omega | exact Nat.le_refl _) : p := h
theorem b55_ {p : Prop} (h : p := by (with_reducible repeat (first | apply Kd.S_alloc | apply Kd.S_drewN | apply Kd.S_drew)); exact HO566.out) : p := h
theorem b56_ {p : Prop} (h : p := by (with_reducible repeat (first | apply Kd.N_alloc | apply Kd.N_drewN | apply Kd.N_drew)); exact HO153.out) : p := h
theorem b57_ {p : Prop} (h : p := by repeat (first | (with_reducible exact HR193_0.out) | (with_reducible refine Kd.C_alloc ?_ _) | (with_reducible refine Kd.C_drewN ?_ _) | (with_reducible refine Kd.C_drew ?_) | exact HR193_0.out)) : p := h
theorem b58_ {p : Prop} (h : p := by simp only [putAll, Act.put, List.setIfInBounds_toArray, List.set_cons_zero, List.set_cons_succ]) : p := h
theorem b59_ {p : Prop} (h : p := by first | exact Kd.own_blk (Kd.R_ne HO_5.out BK555.out (by decide)) | exact (HO_5.out.1 _ rfl).2) : p := h
theorem b60_ {p : Prop} (h : p := by first | exact Kd.own_blk (Kd.R_ne HO_5.out BK672.out (by decide)) | exact (HO_5.out.1 _ rfl).2) : p := h
theorem b61_ {p : Prop} (h : p := by have := HJ2.out; have := HK2.out; have := HK3.out; have := HK4.out; have := HK5.out; have := HJ48.out; first | omega | exact Nat.le_refl _) : p := h
theorem b62_ {p : Prop} (h : p := by have h_ : (x25_2 : Int) < ((x5_2.length : Int) : Int) := of_decide_eq_true ad; first | (have e_ := (Kd.S_reads' HO_5.out).1; omega) | simpa only [Ny686.out, List.length_set] using h_) : p := h
theorem b63_ {p : Prop} (h : p := by first | (rw [hy204]; with_reducible exact H) | (have H2_ := bm H; rw [hy204]; with_reducible exact H2_) | (with_reducible exact bm H) | with_reducible exact H | (rw [hy204]; exact H) | exact H) : p := h
theorem b64_ {p : Prop} (h : p := by first | (rw [hy207]; with_reducible exact H) | (have H2_ := bm H; rw [hy207]; with_reducible exact H2_) | (with_reducible exact bm H) | with_reducible exact H | (rw [hy207]; exact H) | exact H) : p := h
theorem b65_ {p : Prop} (h : p := by repeat (first | (with_reducible first | exact HBW.out | apply below_alloc | apply pw_below_drewN | apply below_drew1) | exact HBW.out)) : p := h
theorem b66_ {p : Prop} (h : p := by (with_reducible repeat (first | apply Kd.N_alloc | apply Kd.N_drewN | apply Kd.N_drew)); exact HO149.out) : p := h
theorem b67_ {p : Prop} (h : p := by rw [hg]; exact (keep_size (w := w) (g := g) (row := none) (by repeat (first | (with_reducible first | exact HK.out | apply KeepBut.set_ | apply keep_drewN | apply keep_drew | apply keep_alloc | refine keep_far ?_ GW291.out _) | exact HK.out)))) : p := h
theorem b68_ {p : Prop} (h : p := by have := HK1.out; omega) : p := h
theorem b69_ {p : Prop} (h : p := by have h_ : (t404 : Int) < ((t400.length : Int) : Int) := of_decide_eq_true ad; first | exact h_ | (have e_ := (Kd.S_reads' HO402.out).1; omega) | simpa using h_) : p := h
theorem b70_ {p : Prop} (h : p := by have h_ : (t404 : Int) < ((t400.length : Int) : Int) := of_decide_eq_true ad; first | exact h_ | (have e_ := (HN32.out); omega) | simpa using h_) : p := h
theorem b71_ {p : Prop} (h : p := by have := HK1.out; have := HJ10.out; have := HJ22.out; have := HK4.out; first | omega | exact Nat.le_refl _) : p := h
theorem b72_ {p : Prop} (h : p := by repeat (first | (with_reducible first | exact HB.out | apply below_alloc | apply pw_below_drewN | apply below_drew1 | refine below_set ?_ (IsS114.ge HI0.out) | refine below_set ?_ GE235.out) | exact HB.out)) : p := h
theorem b73_ {p : Prop} (h : p := by repeat (first | (with_reducible first | exact HB.out | apply below_alloc | apply pw_below_drewN | apply below_drew1 | refine below_set ?_ (IsS114.ge HI0.out) | refine below_set ?_ GE285.out) | exact HB.out)) : p := h
theorem b74_ {p : Prop} (h : p := by (with_reducible repeat (first | apply Kd.N_alloc | apply Kd.N_drewN | apply Kd.N_drew)); exact Kd.N_mono HO_3.out (fun _ hk => hk.1)) : p := h
theorem b75_ {p : Prop} (h : p := by repeat (first | (with_reducible first | exact HI0.out | apply IsS114.alloc | apply IsS114.drewN | apply IsS114.drew | apply IsS114.set_1 | refine IsS114.far ?_ NB0_235.out _) | exact HI0.out)) : p := h
theorem b76_ {p : Prop} (h : p := by repeat (first | (with_reducible first | exact HI0.out | apply IsS114.alloc | apply IsS114.drewN | apply IsS114.drew | apply IsS114.set_1 | refine IsS114.far ?_ NB0_285.out _) | exact HI0.out)) : p := h
theorem b77_ {p : Prop} (h : p := by first | exact q199 | exact of_decide_eq_true ad | (have e_ := (Kd.N_reads' HO_4.out).1; omega)) : p := h
theorem b78_ {p : Prop} (h : p := by rw [Ny690.out]; exact hbk27 hg (fun k_ e_ => by injection e_ with e_; subst e_; exact ge27_0.1 _ rfl) (Kd.M_row hz_)) : p := h
theorem b79_ {p : Prop} (h : p := by rw [Ny695.out]; exact hbk35 hg (fun k_ e_ => by injection e_ with e_; subst e_; exact ge35_0.1 _ rfl) (Kd.M_row hz_)) : p := h
theorem b80_ {p : Prop} (h : p := by rw [Ny709.out]; exact hbk92 hg (fun k_ e_ => by injection e_ with e_; subst e_; exact ge92_0.1 _ rfl) (Kd.M_row hz_)) : p := h
theorem b81_ {p : Prop} (h : p := by rw [Ny713.out]; exact hbk99 hg (fun k_ e_ => by injection e_ with e_; subst e_; exact ge99_0.1 _ rfl) (Kd.M_row hz_)) : p := h
theorem b82_ {p : Prop} (h : p := by have := HK1.out; have := HK2.out; first | omega | exact Nat.le_refl _) : p := h
theorem b83_ {p : Prop} (h : p := by first | (rw [add_block]; exact Kd.S_lt HO402.out _ rfl) | (show (Addr.add _ _).block < _; rw [add_block]; exact Kd.S_lt HO402.out _ rfl) | exact Kd.S_lt HO402.out _ rfl) : p := h
theorem b84_ {p : Prop} (h : p := by (with_reducible repeat (first | apply Kd.N_alloc | apply Kd.N_drewN | apply Kd.N_drew)); exact Kd.N_mono HO_4.out (fun _ hk => ⟨⟨hk.1.1, ⟨hk.2, hk.1.2.2⟩⟩, hk.1.2.1⟩)) : p := h
theorem b85_ {p : Prop} (h : p := by (with_reducible repeat (first | apply Kd.N_alloc | apply Kd.N_drewN | apply Kd.N_drew)); exact Kd.N_mono HO_4.out (fun _ hk => ⟨hk.1.1, ⟨hk.1.2.1, hk.1.2.2⟩⟩)) : p := h
theorem b86_ {p : Prop} (h : p := by (with_reducible repeat (first | apply Kd.R_alloc | apply Kd.R_drewN | apply Kd.R_drew)); exact HO_3.out) : p := h
theorem b87_ {p : Prop} (h : p := by (with_reducible repeat (first | apply Kd.R_alloc | apply Kd.R_drewN | apply Kd.R_drew)); exact HO_5.out) : p := h
theorem b88_ {p : Prop} (h : p := by (with_reducible repeat (first | apply Kd.S_alloc | apply Kd.S_drewN | apply Kd.S_drew)); exact Kd.S_mono HO_5.out (fun k_ hk => ⟨hk.2, fun e_ => hk.1 e_⟩)) : p := h
theorem b89_ {p : Prop} (h : p := by (with_reducible repeat (first | apply Kd.S_alloc | apply Kd.S_drewN | apply Kd.S_drew)); exact Kd.S_mono HO402.out (fun k_ hk => ⟨trivial, fun e_ => e_⟩)) : p := h
theorem b90_ {p : Prop} (h : p := by (try simp only [hl5_2]); (try simp only [hl5_3]); (with_reducible repeat (first | apply Kd.S_alloc | apply Kd.S_drewN | apply Kd.S_drew)); exact HO_5.out) : p := h
theorem b91_ {p : Prop} (h : p := by (with_reducible repeat (first | apply Kd.N_alloc | apply Kd.N_drewN | apply Kd.N_drew)); exact Kd.N_mono HO153.out (fun _ hk => ⟨hk.1.1, ⟨hk.2, hk.1.2⟩⟩)) : p := h
theorem b92_ {p : Prop} (h : p := by have a_ := of_eq_true p150; have b_ := of_eq_true q150; omega) : p := h
theorem b93_ {p : Prop} (h : p := by (with_reducible repeat (first | apply Kd.N_alloc | apply Kd.N_drewN | apply Kd.N_drew)); exact Kd.N_mono HO_3.out (fun _ hk => ⟨hk.1.1, ⟨hk.2, hk.1.2⟩⟩)) : p := h
theorem b94_ {p : Prop} (h : p := by (with_reducible repeat (first | apply Kd.N_alloc | apply Kd.N_drewN | apply Kd.N_drew)); exact Kd.N_mono HO_4.out (fun _ hk => ⟨⟨hk.2.1, hk.2.2⟩, hk.1⟩)) : p := h
theorem b95_ {p : Prop} (h : p := by first | exact q687 | exact of_decide_eq_true ad | (have e_ := (Kd.S_reads' HO_5.out).1; omega)) : p := h
theorem b96_ {p : Prop} (h : p := by first | exact hq27 | exact of_decide_eq_true ad | (have e_ := (Kd.S_reads' HO_5.out).1; omega)) : p := h
theorem b97_ {p : Prop} (h : p := by rw [hg]; exact Nat.ne_of_lt (blk_lt (g := gb598) (o := .cells #[.bool a0_0, .slice (some ad599) l0_1.length c0_1] 95 (0, 0)) (bq BK598.out))) : p := h
theorem b98_ {p : Prop} (h : p := by rw [hg]; exact Nat.ne_of_gt (blk_lt (g := gb598) (o := .cells #[.bool a0_0, .slice (some ad599) l0_1.length c0_1] 95 (0, 0)) (bq BK598.out))) : p := h
theorem b99_ {p : Prop} (h : p := by (with_reducible repeat (first | apply Kd.S_alloc | apply Kd.S_drewN | apply Kd.S_drew)); exact Kd.S_mono HO_5.out (fun _ hk => ⟨hk.2, hk.1⟩)) : p := h
theorem b100_ {p : Prop} (h : p := by (with_reducible repeat (first | apply Kd.S_alloc | apply Kd.S_drewN | apply Kd.S_drew)); exact Kd.S_mono HO209.out (fun _ hk => trivial)) : p := h
theorem b101_ {p : Prop} (h : p := by (with_reducible repeat (first | apply Kd.V_alloc | apply Kd.V_drewN | apply Kd.V_drew)); exact Kd.V_mono HO_3.out (fun _ hk => hk.1)) : p := h
theorem b102_ {p : Prop} (h : p := by (with_reducible repeat (first | apply Kd.N_alloc | apply Kd.N_drewN | apply Kd.N_drew)); exact Kd.N_mono HO_4.out (fun _ hk => hk.2)) : p := h
theorem b103_ {p : Prop} (h : p := by (try simp only [hl5_2]); (with_reducible repeat (first | apply Kd.S_alloc | apply Kd.S_drewN | apply Kd.S_drew)); exact HO_5.out) : p := h
theorem b104_ {p : Prop} (h : p := by have := HJ2.out; have := HK2.out; have := HK3.out; have := HK4.out; have := HK5.out; have := HJ48.out; have := HJ62.out; omega) : p := h
theorem b105_ {p : Prop} (h : p := by have := HK1.out; have := HJ8.out; have := HK3.out; omega) : p := h
theorem b106_ {p : Prop} (h : p := by have := HK1.out; have := HK2.out; have := HK3.out; omega) : p := h
theorem b107_ {p : Prop} (h : p := by have := HJ2.out; have := HK2.out; have := HJ19.out; have := HK4.out; omega) : p := h
theorem b108_ {p : Prop} (h : p := by have := HJ5.out; have := HK2.out; have := HJ18.out; have := HK4.out; omega) : p := h
theorem b109_ {p : Prop} (h : p := by rw [hw]; exact below_set (HB.out) GB22.out) : p := h
theorem b110_ {p : Prop} (h : p := by first | simpa using c3 | (simp at c3 ⊢; omega)) : p := h
theorem b111_ {p : Prop} (h : p := by rw [hg]; exact (below_size (bel1 GE598.out))) : p := h
theorem b112_ {p : Prop} (h : p := by go_simp; first | done | rfl) : p := h
-- shrunk

theorem eqA73 (d : Nat) (w : World) (x0 y0 : ByteArray) (x1 y1 : Bool) (x2 y2 : ByteArray) (x3 y3 : ByteArray) (x4 y4 : ByteArray) :
  (Op.equalIn (d + 2) 73 (.agg #[.string x0, .bool x1, .string x2, .string x3, .string x4]) (.agg #[.string y0, .bool y1, .string y2, .string y3, .string y4])).run Try.prog w = .ok (x0.toList == y0.toList && (x1 == y1 && (x2.toList == y2.toList && (x3.toList == y3.toList && (x4.toList == y4.toList))))) w := by
 refine eqA_of Try.underlying73 (by kernel_rfl) ?_
 refine eqf_cons (by rfl) (by go_simp; rfl) (by go_simp; rfl) (by go_simp) ?_
 refine eqf_cons (by rfl) (by go_simp; rfl) (by go_simp; rfl) (by go_simp) ?_
 refine eqf_cons (by rfl) (by go_simp; rfl) (by go_simp; rfl) (by go_simp) ?_
 refine eqf_cons (by rfl) (by go_simp; rfl) (by go_simp; rfl) (by go_simp) ?_
 exact eqf_last (by rfl) (by go_simp; rfl) (by go_simp; rfl) (by go_simp)
-- shrunk

/-- A state of type 114 at block g of W; what its slices lead to came in by w0. -/
def IsS114 (w0 W : World) (g : Nat) (f0 : List Int) (f1 : Int) : Prop := ∃ A0 c0, W.heap[g]? = some (.cells #[.slice A0 f0.length c0, .int .i64 f1] 114 (0, 0)) ∧ w0.heap.size ≤ g ∧ Kd.C (Kd.int .u8) w0 A0 f0.length f0
theorem IsS114.grown {w0 W : World} {g : Nat} {f0 : List Int} {f1 : Int} {W1 : World} {row : Option Nat} (h : IsS114 w0 W g f0 f1) (hw : W.grownBy W1 row) (hne : some g ≠ row) : IsS114 w0 W1 g f0 f1 := by
 obtain ⟨A0, c0, hb, hg, hr0⟩ := h
 exact ⟨A0, c0, blk_grown hb hw hne, hg, hr0⟩
theorem IsS114.own_neN {w0 W : World} {g : Nat} {f0 : List Int} {f1 : Int} {α : Type} {d : Kd α} {e : Nat} {base : Nat} {ok : Nat → Prop} {v : Value} {xs : List α} (h : IsS114 w0 W g f0 f1) (ho : Kd.N d e W base ok v xs) (ht : e ≠ 114) : some g ≠ v.ownBlock := by
 obtain ⟨A0, c0, hb, hg, hr0⟩ := h
 exact Kd.N_ne ho hb ht
theorem IsS114.fresh {w0 W : World} {g : Nat} {f0 : List Int} {f1 : Int} (h : IsS114 w0 W g f0 f1) : ∀ k, W.heap.size ≤ k → k ≠ g := by
 obtain ⟨A0, c0, hb, hg, hr0⟩ := h
 exact Kd.freshB hb
theorem IsS114.kept {w0 W : World} {g : Nat} {f0 : List Int} {f1 : Int} {W1 : World} {S : Nat → Prop} (h : IsS114 w0 W g f0 f1) (hk : Kept W W1 S) (hne : ¬ S g) : IsS114 w0 W1 g f0 f1 := by
 obtain ⟨A0, c0, hb, hg, hr0⟩ := h
 exact ⟨A0, c0, blk_kept hb hk hne, hg, hr0⟩
theorem IsS114.below {w0 W : World} {g : Nat} {f0 : List Int} {f1 : Int} {W1 : World} (h : IsS114 w0 W g f0 f1) (hw : Below W.heap.size W W1) : IsS114 w0 W1 g f0 f1 := h.grown (grown_of_below hw none) (by simp)
theorem IsS114.alloc {w0 W : World} {g : Nat} {f0 : List Int} {f1 : Int} (h : IsS114 w0 W g f0 f1) (o : Obj) : IsS114 w0 (W.alloc o) g f0 f1 := h.below (below_alloc (Below.refl _ _) o)
theorem IsS114.drewN {w0 W : World} {g : Nat} {f0 : List Int} {f1 : Int} (h : IsS114 w0 W g f0 f1) (m : Nat) : IsS114 w0 (W.drewN m) g f0 f1 := h
theorem IsS114.drew {w0 W : World} {g : Nat} {f0 : List Int} {f1 : Int} (h : IsS114 w0 W g f0 f1) : IsS114 w0 W.drew g f0 f1 := h
theorem IsS114.at_ {w0 W : World} {g : Nat} {f0 : List Int} {f1 : Int} {w' : World} {m : Nat} (hq : W.drewN m = w') (h : IsS114 w0 W g f0 f1) : IsS114 w0 w' g f0 f1 := by subst hq; exact IsS114.drewN h m
theorem IsS114.apart {w0 W : World} {g : Nat} {f0 : List Int} {f1 : Int} {α : Type} {d : Kd α} {e : Nat} {base : Nat} {ok : Nat → Prop} {v : Value} {xs : List α} (h : IsS114 w0 W g f0 f1) (ho : d.R e W base ok v xs) (ht : ∀ q, q ∈ e :: d.E → q ≠ 114) : d.R e W base (fun k => ok k ∧ k ≠ g) v xs := by
 obtain ⟨A0, c0, hb, hg, hr0⟩ := h
 exact Kd.R_types ho hb ht
theorem IsS114.own_ne {w0 W : World} {g : Nat} {f0 : List Int} {f1 : Int} {α : Type} {d : Kd α} {e : Nat} {base : Nat} {ok : Nat → Prop} {v : Value} {xs : List α} (h : IsS114 w0 W g f0 f1) (ho : d.R e W base ok v xs) (ht : e ≠ 114) : some g ≠ v.ownBlock := by
 obtain ⟨A0, c0, hb, hg, hr0⟩ := h
 exact Kd.R_ne ho hb ht
theorem IsS114.apartQ {w0 W : World} {g : Nat} {f0 : List Int} {f1 : Int} {α : Type} {d : Kd α} {e : Nat} {base : Nat} {ok : Nat → Prop} {v : Value} {xs : List α} (h : IsS114 w0 W g f0 f1) (ho : d.Q e W base ok v xs) (ht : ∀ q, q ∈ e :: d.E → q ≠ 114) : d.Q e W base (fun k => ok k ∧ k ≠ g) v xs := by
 obtain ⟨A0, c0, hb, hg, hr0⟩ := h
 exact Kd.Q_types ho hb ht
theorem IsS114.own_neQ {w0 W : World} {g : Nat} {f0 : List Int} {f1 : Int} {α : Type} {d : Kd α} {e : Nat} {base : Nat} {ok : Nat → Prop} {v : Value} {xs : List α} (h : IsS114 w0 W g f0 f1) (ho : d.Q e W base ok v xs) (ht : e ≠ 114) : some g ≠ v.ownBlock := by
 obtain ⟨A0, c0, hb, hg, hr0⟩ := h
 exact Kd.Q_ne ho hb ht
theorem IsS114.apartS {w0 W : World} {g : Nat} {f0 : List Int} {f1 : Int} {α : Type} {d : Kd α} {e : Nat} {base : Nat} {ok : Nat → Prop} {v : Value} {xs : List α} (h : IsS114 w0 W g f0 f1) (ho : d.S e W base ok v xs) (ht : ∀ q, q ∈ e :: d.E → q ≠ 114) : d.S e W base (fun k => ok k ∧ k ≠ g) v xs := by
 obtain ⟨A0, c0, hb, hg, hr0⟩ := h
 exact Kd.S_types ho hb ht
theorem IsS114.own_neS {w0 W : World} {g : Nat} {f0 : List Int} {f1 : Int} {α : Type} {d : Kd α} {e : Nat} {base : Nat} {ok : Nat → Prop} {v : Value} {xs : List α} (h : IsS114 w0 W g f0 f1) (ho : d.S e W base ok v xs) (ht : e ≠ 114) : some g ≠ v.ownBlock := by
 obtain ⟨A0, c0, hb, hg, hr0⟩ := h
 exact Kd.S_ne ho hb ht
theorem IsS114.lt {w0 W : World} {g : Nat} {f0 : List Int} {f1 : Int} (h : IsS114 w0 W g f0 f1) : g < W.heap.size := by
 obtain ⟨A0, c0, hb, hg, hr0⟩ := h
 exact blk_lt hb
theorem IsS114.ge {w0 W : World} {g : Nat} {f0 : List Int} {f1 : Int} (h : IsS114 w0 W g f0 f1) : w0.heap.size ≤ g := by
 obtain ⟨A0, c0, hb, hg, hr0⟩ := h
 exact hg
theorem IsS114.ne_blk {w0 W : World} {g : Nat} {f0 : List Int} {f1 : Int} {a : Nat} {cs : Array Value} {t : TypeId} {fr : Nat × Nat} (h : IsS114 w0 W g f0 f1) (hb2 : W.heap[a]? = some (.cells cs t fr)) (ht : t ≠ 114) : g ≠ a := by
 obtain ⟨A0, c0, hb, hg, hr0⟩ := h
 rintro rfl
 rw [hb] at hb2
 injection hb2 with hb2
 injection hb2 with _ ht2
 exact ht ht2.symm
theorem IsS114.far {w0 W : World} {g : Nat} {f0 : List Int} {f1 : Int} {p : Addr} (h : IsS114 w0 W g f0 f1) (hne : g ≠ p.block) (u : Value) : IsS114 w0 (W.setCell p u) g f0 f1 := by
 obtain ⟨A0, c0, hb, hg, hr0⟩ := h
 exact ⟨A0, c0, blk_far hb hne u, hg, hr0⟩
theorem cellS114_0 {W : World} {g : Nat} {A0 : Option Addr} {c0 : Nat} {f0 : List Int} {f1 : Int} (h : W.heap[g]? = some (.cells #[.slice A0 f0.length c0, .int .i64 f1] 114 (0, 0))) : W.cell? ⟨g, 0, none⟩ = some (.slice A0 f0.length c0) := (blk_cell h 0).trans rfl
theorem cellS114_1 {W : World} {g : Nat} {A0 : Option Addr} {c0 : Nat} {f0 : List Int} {f1 : Int} (h : W.heap[g]? = some (.cells #[.slice A0 f0.length c0, .int .i64 f1] 114 (0, 0))) : W.cell? ⟨g, 1, none⟩ = some (.int .i64 f1) := (blk_cell h 1).trans rfl
theorem IsS114.set_1 {w0 W : World} {g : Nat} {f0 : List Int} {f1 : Int} (h : IsS114 w0 W g f0 f1) (x : Int) : IsS114 w0 (W.setCell ⟨g, 1, none⟩ (.int .i64 x)) g f0 x := by
 obtain ⟨A0, c0, hb, hg, hr0⟩ := h
 exact ⟨A0, c0, by simpa using blk_set hb 1 (.int .i64 x), hg, hr0⟩
theorem IsS114.new (w0 W : World) (A0 : Option Addr) (c0 : Nat) (f0 : List Int) (f1 : Int) (hB : Below w0.heap.size w0 W) (hr0 : Kd.C (Kd.int .u8) w0 A0 f0.length f0) : IsS114 w0 (W.alloc (.cells #[.slice A0 f0.length c0, .int .i64 f1] 114)) W.heap.size f0 f1 := ⟨A0, c0, by simpa using heap_alloc_new W _, hB.size, hr0⟩

/-! ### spec_l1Open: function 51 -/
def spec_l1Open.f (l0 : List Int) : Option (List Int × Int) := if (l0.length : Int) > 2000 then (if 2000 ≤ (l0.length : Int) then (some (l0.take 2000, 0)) else (none)) else (some (l0, 0))
theorem spec_l1Open.calls (A0 : Option Addr) (c0 : Nat) (l0 : List Int) (r1 : List Int) (r2 : Int) (w0 w : World) (hB : Below w0.heap.size w0 w) (hr0 : Kd.C (Kd.int .u8) w0 A0 l0.length l0) (hc0 : l0.length ≤ c0) (h : spec_l1Open.f l0 = some (r1, r2)) :
  Calls Try.prog 51 #[.slice A0 l0.length c0] w fun e w' => ∃ g_ : Nat, e = .returned (.pointer (some ⟨g_, 0, none⟩)) ∧ IsS114 w0 w' g_ r1 r2 ∧ Below w0.heap.size w0 w' ∧ Below w.heap.size w w' := by
 have hu114 := Try.underlying114; have HR0 := am hr0; have HC0 := am hc0; clear hr0 hc0; have HBW := am (Below.refl w.heap.size w); have HW0 := am hB.size; have HB := am hB; clear hB
 have H := h; unfold spec_l1Open.f at H
 clear h
 by_cases c2 : (l0.length : Int) > 2000
 ·rw [if_pos c2] at H; have c2b0 := decide_eq_true c2
  have c2b1 : decide (2000 < l0.length) = true := decide_eq_true (by omega)
  clear c2; replace H := ip H; obtain ⟨c3, H⟩ := H; have c3b0 := eq_true c3
  have c3b1 : decide (2000 ≤ (l0.length : Int)) = true := decide_eq_true c3
  clear c3; simp only [Option.some.injEq, Prod.mk.injEq] at H; obtain ⟨rfl, rfl⟩ := H; obtain ⟨i04, hi04, _, hsz4, _⟩ := info_parts info5; obtain ⟨hcut4, hA4, hC4⟩ := print_take_of (P := Try.prog) (Value.int .u8) 0 41 5 .i64 Try.underlying41 hi04 hsz4 A0 c0 l0 2000 (by omega) (of_decide_eq_true ad) HC0.out
  have HR101 := am (Kd.C_of_reads (h1 := fun _ => rfl) (hA4 _ (Kd.reads_of_C HR0.out))); have HC101 := am hC4; clear hA4 hC4 hi04 hsz4; go_enter Try.func51, Try.ntmps51
  go_wp2_with ((with_reducible refine gate_dst (N := 10) rfl ?_); refine bx 10 (cs := #[.slice A0 (l0.take 2000).length c0, .int .i64 0]) (t := 114) ?_; intro gb102 hg w5 hbox hb; replace HB := am (below_step bel hb); have BK102 := am (hbox); have GW102 := am ((b53_ : w.heap.size ≤ gb102)); have GE102 := am ((Nat.le_trans HW0.out (b53_ : w.heap.size ≤ gb102) : w0.heap.size ≤ gb102)); replace HBW := am (below_step HBW.out hb); clear hb hbox hg)
  go_ret
  exact ⟨_, rfl, (show IsS114 w0 _ gb102 (l0.take 2000) 0 from ⟨_, _, by (with_reducible repeat (fail)); exact BK102.out, GE102.out, HR101.out⟩), bel1 GE102.out, by repeat (with_reducible exact HBW.out)⟩
 rw [if_neg c2] at H; have c2b0 := decide_eq_false c2
 have c2b1 : decide (2000 < l0.length) = false := decide_eq_false (by omega)
 clear c2
 simp only [Option.some.injEq, Prod.mk.injEq] at H
 obtain ⟨rfl, rfl⟩ := H; go_enter Try.func51, Try.ntmps51
 go_wp2_with ((with_reducible refine gate_dst (N := 10) rfl ?_); refine bx 10 (cs := #[.slice A0 l0.length c0, .int .i64 0]) (t := 114) ?_; intro gb103 hg w6 hbox hb; replace HB := am (below_step bel hb); have BK103 := am (hbox); have GW103 := am ((b53_ : w.heap.size ≤ gb103)); have GE103 := am ((Nat.le_trans HW0.out (b53_ : w.heap.size ≤ gb103) : w0.heap.size ≤ gb103)); replace HBW := am (below_step HBW.out hb); clear hb hbox hg)
 go_ret
 exact ⟨_, rfl, (show IsS114 w0 _ gb103 l0 0 from ⟨_, _, by (with_reducible repeat (fail)); exact BK103.out, GE103.out, HR0.out⟩), bel1 GE103.out, by repeat (with_reducible exact HBW.out)⟩

/-! ### spec_l1Rd_pick: function 53 -/
def spec_l1Rd_pick.j0 : Nat → Int → Bool → List Int → Int → Option (Int × Int)
 | 0, _, _, _, _ => none
 | k + 1, x1, x24, x1000, x1001 => if x24 = true then (some (0, x1001)) else (if (wrap64 (x1001 - 1)) < (x1000.length : Int) then (if 0 ≤ (wrap64 (x1001 - 1)) then (if x1 = 0 then (none) else (some (Int.tmod (wrap64 (rd x1000 (wrap64 (x1001 - 1)))) x1, x1001))) else (none)) else (if (x1000.length : Int) = 0 then (none) else (if 0 ≤ (Int.tmod (wrap64 (x1001 - 1)) (x1000.length : Int)) then (if (Int.tmod (wrap64 (x1001 - 1)) (x1000.length : Int)) < (x1000.length : Int) then (if 0 ≤ (Int.tmod (wrap64 ((wrap64 ((wrap64 (x1001 - 1)) * 7)) + 3)) (x1000.length : Int)) then (if (Int.tmod (wrap64 ((wrap64 ((wrap64 (x1001 - 1)) * 7)) + 3)) (x1000.length : Int)) < (x1000.length : Int) then (if x1 = 0 then (none) else (some (Int.tmod (Go.bits .xor .i64 (wrap64 ((wrap64 ((wrap64 ((wrap64 ((wrap64 (rd x1000 (Int.tmod (wrap64 (x1001 - 1)) (x1000.length : Int)))) * 131)) + (wrap64 ((wrap64 (rd x1000 (Int.tmod (wrap64 ((wrap64 ((wrap64 (x1001 - 1)) * 7)) + 3)) (x1000.length : Int)))) * 1117)))) + (wrap64 ((wrap64 (x1001 - 1)) * 29)))) + (wrap64 ((wrap64 (Int.tdiv (wrap64 (x1001 - 1)) (x1000.length : Int))) * 53)))) (wrap64 (Int.tdiv (wrap64 ((wrap64 ((wrap64 ((wrap64 ((wrap64 (rd x1000 (Int.tmod (wrap64 (x1001 - 1)) (x1000.length : Int)))) * 131)) + (wrap64 ((wrap64 (rd x1000 (Int.tmod (wrap64 ((wrap64 ((wrap64 (x1001 - 1)) * 7)) + 3)) (x1000.length : Int)))) * 1117)))) + (wrap64 ((wrap64 (x1001 - 1)) * 29)))) + (wrap64 ((wrap64 (Int.tdiv (wrap64 (x1001 - 1)) (x1000.length : Int))) * 53)))) 64))) x1, x1001))) else (none)) else (none)) else (none)) else (none))))
def spec_l1Rd_pick.f (k : Nat) (s0_0 : List Int) (s0_1 : Int) (a1 : Int) : Option (Int × Int) := if a1 < 1 then (spec_l1Rd_pick.j0 k a1 true s0_0 (wrap64 (s0_1 + 1))) else (spec_l1Rd_pick.j0 k a1 ((s0_0.length : Int) == 0) s0_0 (wrap64 (s0_1 + 1)))
theorem spec_l1Rd_pick.calls (k : Nat) (g : Nat) (s0_0 : List Int) (s0_1 : Int) (a1 : Int) (r1 : Int) (r2 : Int) (w0 w : World) (hI : IsS114 w0 w g s0_0 s0_1) (hB : Below w0.heap.size w0 w) (h : spec_l1Rd_pick.f k s0_0 s0_1 a1 = some (r1, r2)) :
  Calls Try.prog 53 #[.pointer (some ⟨g, 0, none⟩), .int .i64 a1] w fun e w' => e = .returned (.int .i64 r1) ∧ IsS114 w0 w' g s0_0 r2 ∧ Below w0.heap.size w0 w' ∧ KeepBut w w' g none := by
 have HI0 := am hI; have HK := am (KeepBut.refl w g none); have HL := am hB.size; clear hI; have HW0 := am hB.size; have HB := am hB; clear hB
 have H := h; unfold spec_l1Rd_pick.f at H
 clear h; have HC3 := am H; clear H; obtain ⟨ASz4_0, cSz4_0, HGz4, hgz4, HSz4_0⟩ := HI0.out; have hcz4_0 := cellS114_0 HGz4; have hcz4_1 := cellS114_1 HGz4; have hfz4_1 := bf HGz4 1; clear HGz4 hgz4; go_enter Try.func53, Try.ntmps53
 go_upto_region 2 with (fail)
 go_cut [24] (fun v24 wc => ∃ (kq : Nat) (x24_2 : Bool), v24 = .bool x24_2 ∧ Aside0 (spec_l1Rd_pick.j0 kq a1 x24_2 s0_0 (wrap64 (s0_1 + 1)) = some (r1, r2)) ∧ Aside0 (kq ≤ k) ∧ Aside0 (IsS114 w0 wc g s0_0 (wrap64 (s0_1 + 1))) ∧ Aside0 (KeepBut w wc g none) ∧ Aside0 (Below w0.heap.size w0 wc))
 case first =>
  have H := HC3.out; clear HC3
  by_cases c5 : a1 < 1
  ·rw [if_pos c5] at H; have c5b0 := decide_eq_true c5; clear c5
   (skip)
   have H' := am H
   clear H; go_wp2
   go_meet
   case rel => exact ⟨_, (true), sq, H', ⟨b54_⟩, ⟨b2_⟩, ⟨b0_⟩, ⟨b1_⟩⟩
  rw [if_neg c5] at H; have c5b0 := decide_eq_false c5; clear c5
  (skip)
  have H' := am H
  clear H; obtain ⟨ASz6_0, cSz6_0, HGz6, hgz6, HSz6_0⟩ := HI0.out; have hcz6_0 := cellS114_0 HGz6; have hcz6_1 := cellS114_1 HGz6; have hfz6_1 := bf HGz6 1; clear HGz6 hgz6; go_wp2
  go_meet
  case rel => exact ⟨_, (((s0_0.length : Int) == 0)), sq, H', ⟨b54_⟩, ⟨b2_⟩, ⟨b0_⟩, ⟨b1_⟩⟩
 case rest =>
  clear HC3; clear hcz4_0 hcz4_1 hfz4_1; obtain ⟨kq, x24_2, rfl, HA, HJ2, HI0, HK, HB⟩ := hcut
  cases kq with
  | zero => exact absurd HA.out (by simp [spec_l1Rd_pick.j0])
  | succ kj2 =>
   have H := HA.out; clear HA; simp only [spec_l1Rd_pick.j0] at H
   by_cases c7 : x24_2 = true
   ·subst c7
    rw [if_pos rfl] at H; simp only [Option.some.injEq, Prod.mk.injEq] at H
    obtain ⟨rfl, rfl⟩ := H; go_wp2
    go_ret
    exact ⟨eq_, b2_, b1_, b0_⟩
   replace c7 := Bool.eq_false_iff.mpr c7; subst c7
   rw [if_neg Bool.false_ne_true] at H
   by_cases c8 : (wrap64 ((wrap64 (s0_1 + 1)) - 1)) < (s0_0.length : Int)
   ·rw [if_pos c8] at H; have c8b0 := decide_eq_true c8; clear c8; obtain ⟨ji9, hji9⟩ : ∃ j_ : Int, (wrap64 ((wrap64 (s0_1 + 1)) - 1)) = j_ := ⟨_, rfl⟩
    rw [hji9] at H
    rw [hji9] at c8b0
    have hji9w : (IntKind.i64.wrap ((wrap64 (s0_1 + 1)) - 1)) = ji9 := (i64_w _).trans hji9
    replace H := it H; obtain ⟨c10b0, H⟩ := H; replace H := iq H; obtain ⟨c11, H⟩ := H
    have c11b0 : (a1 == 0) = false := beq_eq_false_iff_ne.mpr c11
    have c11b1 : (a1 != 0) = true := bne_iff_ne.mpr c11
    simp only [Option.some.injEq, Prod.mk.injEq] at H; obtain ⟨rfl, rfl⟩ := H; obtain ⟨ASz12_0, cSz12_0, HGz12, hgz12, HSz12_0⟩ := HI0.out; have hcz12_0 := cellS114_0 HGz12; have hcz12_1 := cellS114_1 HGz12; have hfz12_1 := bf HGz12 1; clear HGz12 hgz12
    have p104 : 0 ≤ ((ji9) : Int) := of_decide_eq_true ad
    have q104 : (ji9) < (s0_0.length : Int) := of_decide_eq_true ad
    obtain ⟨ad104, e104, hx104_0⟩ := Kd.at_int HSz12_0 (ji9) p104 q104; cases e104
    replace hx104_0 := pw_cell_below HB.out hx104_0; replace p104 := eq_true p104; replace q104 := eq_true q104; go_wp2
    go_ret
    exact ⟨by rfl, b2_, b1_, b0_⟩
   rw [if_neg c8] at H; have c8b0 := decide_eq_false c8; clear c8; replace H := iq H; obtain ⟨c13, H⟩ := H
   have c13b0 : ((s0_0.length : Int) == 0) = false := beq_eq_false_iff_ne.mpr c13
   have c13b1 : ((s0_0.length : Int) != 0) = true := bne_iff_ne.mpr c13
   have c13b2 : ¬ (s0_0 = []) := fun h_ => c13 (by rw [h_]; rfl)
   obtain ⟨ji14, hji14⟩ : ∃ j_ : Int, (Int.tmod (wrap64 ((wrap64 (s0_1 + 1)) - 1)) (s0_0.length : Int)) = j_ := ⟨_, rfl⟩
   rw [hji14] at H
   replace H := it H; obtain ⟨c15b0, H⟩ := H
   replace H := it H; obtain ⟨c16b0, H⟩ := H; obtain ⟨ji17, hji17⟩ : ∃ j_ : Int, (Int.tmod (wrap64 ((wrap64 ((wrap64 ((wrap64 (s0_1 + 1)) - 1)) * 7)) + 3)) (s0_0.length : Int)) = j_ := ⟨_, rfl⟩
   rw [hji17] at H
   replace H := it H; obtain ⟨c18b0, H⟩ := H; replace H := it H; obtain ⟨c19b0, H⟩ := H; replace H := iq H; obtain ⟨c20, H⟩ := H
   have c20b0 : (a1 == 0) = false := beq_eq_false_iff_ne.mpr c20
   have c20b1 : (a1 != 0) = true := bne_iff_ne.mpr c20
   simp only [Option.some.injEq, Prod.mk.injEq] at H; obtain ⟨rfl, rfl⟩ := H; obtain ⟨ASz21_0, cSz21_0, HGz21, hgz21, HSz21_0⟩ := HI0.out; have hcz21_0 := cellS114_0 HGz21; have hcz21_1 := cellS114_1 HGz21; have hfz21_1 := bf HGz21 1; clear HGz21 hgz21
   have p105 : 0 ≤ ((ji14) : Int) := of_decide_eq_true ad
   have q105 : (ji14) < (s0_0.length : Int) := of_decide_eq_true ad
   obtain ⟨ad105, e105, hx105_0⟩ := Kd.at_int HSz21_0 (ji14) p105 q105; cases e105; replace hx105_0 := pw_cell_below HB.out hx105_0; replace p105 := eq_true p105; replace q105 := eq_true q105
   have p106 : 0 ≤ ((ji17) : Int) := of_decide_eq_true ad
   have q106 : (ji17) < (s0_0.length : Int) := of_decide_eq_true ad
   obtain ⟨ad106, e106, hx106_0⟩ := Kd.at_int HSz21_0 (ji17) p106 q106
   obtain rfl : ad105 = ad106 := (by injection e106)
   replace hx106_0 := pw_cell_below HB.out hx106_0; replace p106 := eq_true p106; replace q106 := eq_true q106; go_wp2
   repeat (go_quiet (fail); try go_wp2)
   go_ret
   exact ⟨by rfl, b2_, b1_, b0_⟩

/-! ### spec_l1Letters: function 107 -/
def spec_l1Letters.l0 : Nat → ByteArray → Int → Int → Option (Bool)
 | 0, _, _, _ => none
 | k + 1, x0, x1, x5 => if x5 < (x0.size : Int) then (if 0 ≤ x5 then (if (bt x0 x5) < 97 then (some false) else (if (bt x0 x5) > 122 then (some false) else (spec_l1Letters.l0 k x0 x1 (wrap64 (x5 + 1))))) else (none)) else (some (decide ((x0.size : Int) ≤ x1)))
def spec_l1Letters.f (k : Nat) (a0 : ByteArray) (a1 : Int) : Option (Bool) := spec_l1Letters.l0 k a0 a1 0
theorem spec_l1Letters.calls (k : Nat) (a0 : ByteArray) (a1 : Int) (r : Bool) (w : World) (h : spec_l1Letters.f k a0 a1 = some r) :
  Calls Try.prog 107 #[.string a0, .int .i64 a1] w fun e w' => e = .returned (.bool r) ∧ Drawn0 w w' := by
 have H := h; unfold spec_l1Letters.f at H
 clear h
 have H' := am H
 clear H; go_enter Try.func107, Try.ntmps107; go_wp2
 go_loopg [5] k (fun kq v5 w' => ∃ (x5_1 : Int), v5 = .int .i64 x5_1 ∧ Aside0 (spec_l1Letters.l0 kq a0 a1 x5_1 = some r) ∧ Aside0 (kq ≤ k) ∧ Drawn0 w w')
 case atStart => exact ⟨(0), sq, H', ⟨Nat.le_refl _⟩, dr⟩
 case round =>
  clear H'; obtain ⟨x5_1, rfl, HA, HK1, ⟨m1, rfl⟩⟩ := hrel
  cases gk with
  | zero => exact absurd HA.out (by simp [spec_l1Letters.l0])
  | succ k1 =>
   have H := HA.out; clear HA; simp only [spec_l1Letters.l0] at H
   by_cases c3 : x5_1 < (a0.size : Int)
   ·rw [if_pos c3] at H; have c3b0 := decide_eq_true c3; clear c3
    replace H := it H; obtain ⟨c4b0, H⟩ := H
    by_cases c6 : (bt a0 x5_1) < 97
    ·rw [if_pos c6] at H; have c6b0 := decide_eq_true c6; clear c6; obtain rfl := Option.some.inj H
     have p5 : 0 ≤ (x5_1 : Int) := of_decide_eq_true ad
     have q5 : x5_1 < (a0.size : Int) := of_decide_eq_true ad
     have hx5 := bt_at a0 x5_1; replace p5 := eq_true p5; replace q5 := eq_true q5; go_wp2; go_ret
     exact ⟨sq, dr⟩
    rw [if_neg c6] at H; have c6b0 := decide_eq_false c6; clear c6
    by_cases c8 : (bt a0 x5_1) > 122
    ·rw [if_pos c8] at H; have c8b0 := decide_eq_true c8; clear c8; obtain rfl := Option.some.inj H
     have p5 : 0 ≤ (x5_1 : Int) := of_decide_eq_true ad
     have q5 : x5_1 < (a0.size : Int) := of_decide_eq_true ad
     have hx5 := bt_at a0 x5_1; replace p5 := eq_true p5; replace q5 := eq_true q5
     have p7 : 0 ≤ (x5_1 : Int) := of_decide_eq_true ad
     have q7 : x5_1 < (a0.size : Int) := of_decide_eq_true ad
     have hx7 := bt_at a0 x5_1; replace p7 := eq_true p7; replace q7 := eq_true q7; go_wp2; go_ret
     exact ⟨sq, dr⟩
    rw [if_neg c8] at H; have c8b0 := decide_eq_false c8; clear c8
    have H' := am H
    clear H
    have p5 : 0 ≤ (x5_1 : Int) := of_decide_eq_true ad
    have q5 : x5_1 < (a0.size : Int) := of_decide_eq_true ad
    have hx5 := bt_at a0 x5_1; replace p5 := eq_true p5; replace q5 := eq_true q5
    have p7 : 0 ≤ (x5_1 : Int) := of_decide_eq_true ad
    have q7 : x5_1 < (a0.size : Int) := of_decide_eq_true ad
    have hx7 := bt_at a0 x5_1; replace p7 := eq_true p7; replace q7 := eq_true q7; go_wp2
    go_roundg k1
    case measure => have := HK1.out; omega
    case rel => exact ⟨(wrap64 (x5_1 + 1)), sq, H', ⟨b68_⟩, dr⟩
   rw [if_neg c3] at H; have c3b0 := decide_eq_false c3; clear c3; obtain rfl := Option.some.inj H; go_wp2; go_ret
   exact ⟨sq, dr⟩

/-! ### spec_l1Word: function 71 -/
def spec_l1Word.f (k : Nat) (a0 : ByteArray) : Option (Bool) := if (a0.size : Int) > 0 then ((spec_l1Letters.f k a0 12).bind fun t107 => (some t107)) else (some false)
theorem spec_l1Word.calls (k : Nat) (a0 : ByteArray) (r : Bool) (w : World) (h : spec_l1Word.f k a0 = some r) :
  Calls Try.prog 71 #[.string a0] w fun e w' => e = .returned (.bool r) ∧ Drawn0 w w' := by
 have H := h; unfold spec_l1Word.f at H
 clear h
 by_cases c2 : (a0.size : Int) > 0
 ·rw [if_pos c2] at H; have c2b0 := decide_eq_true c2
  have c2b1 : decide (0 < a0.size) = true := decide_eq_true (by omega)
  clear c2; replace H := bs H; obtain ⟨t107, A30, H⟩ := H; have A3 := Aside0.mk A30; clear A30; obtain rfl := Option.some.inj H; go_enter Try.func71, Try.ntmps71
  go_wp2_with (go_at_call 107; (with_reducible refine (spec_l1Letters.calls k a0 12 t107 _ A3.out).mono ?_); rintro e w' ⟨rfl, ⟨nd, rfl⟩⟩)
  go_ret
  exact ⟨sq, dr⟩
 rw [if_neg c2] at H; have c2b0 := decide_eq_false c2
 have c2b1 : decide (0 < a0.size) = false := decide_eq_false (by omega)
 clear c2; obtain rfl := Option.some.inj H; go_enter Try.func71, Try.ntmps71; go_wp2; go_ret
 exact ⟨sq, dr⟩

/-! ### spec_l3Words: function 141 -/
def spec_l3Words.l0 : Nat → List ByteArray → Int → Option (Bool)
 | 0, _, _ => none
 | k + 1, x0, x3 => if x3 < (x0.length : Int) then (if 0 ≤ x3 then ((spec_l1Word.f k (rdOf ByteArray.empty x0 x3)).bind fun t109 => (if t109 = true then (if x3 > 0 then (if 0 ≤ (wrap64 (x3 - 1)) then (if (wrap64 (x3 - 1)) < (x0.length : Int) then (if ((Op.bytesLess ((rdOf ByteArray.empty x0 (wrap64 (x3 - 1))).toList) ((rdOf ByteArray.empty x0 x3).toList)) = true) then (spec_l3Words.l0 k x0 (wrap64 (x3 + 1))) else (some false)) else (none)) else (none)) else (spec_l3Words.l0 k x0 (wrap64 (x3 + 1)))) else (some false))) else (none)) else (some (decide ((x0.length : Int) ≤ 300)))
def spec_l3Words.f (k : Nat) (l0 : List ByteArray) : Option (Bool) := spec_l3Words.l0 k l0 0
theorem spec_l3Words.calls (k : Nat) (A0 : Option Addr) (c0 : Nat) (l0 : List ByteArray) (r : Bool) (w : World) (hr0 : Kd.C Kd.string w A0 l0.length l0) (hc0 : l0.length ≤ c0) (h : spec_l3Words.f k l0 = some r) :
  Calls Try.prog 141 #[.slice A0 l0.length c0] w fun e w' => e = .returned (.bool r) ∧ Drawn0 w w' := by
 have HR0 := am hr0; have HC0 := am hc0; clear hr0 hc0
 have H := h; unfold spec_l3Words.f at H
 clear h
 have H' := am H
 clear H; go_enter Try.func141, Try.ntmps141; go_wp2
 go_loopg [3] k (fun kq v3 w' => ∃ (x3_1 : Int), v3 = .int .i64 x3_1 ∧ Aside0 (spec_l3Words.l0 kq l0 x3_1 = some r) ∧ Aside0 (kq ≤ k) ∧ Drawn0 w w')
 case atStart => exact ⟨(0), sq, H', ⟨Nat.le_refl _⟩, dr⟩
 case round =>
  clear H'; obtain ⟨x3_1, rfl, HA, HK1, ⟨m1, rfl⟩⟩ := hrel
  cases gk with
  | zero => exact absurd HA.out (by simp [spec_l3Words.l0])
  | succ k1 =>
   have H := HA.out; clear HA; simp only [spec_l3Words.l0] at H
   by_cases c2 : x3_1 < (l0.length : Int)
   ·rw [if_pos c2] at H; have c2b0 := decide_eq_true c2; clear c2
    replace H := it H; obtain ⟨c3b0, H⟩ := H; replace H := bs H; obtain ⟨t109, A40, H⟩ := H; have A4 := Aside0.mk A40; clear A40
    by_cases c5 : t109 = true
    ·subst c5
     rw [if_pos rfl] at H
     by_cases c6 : x3_1 > 0
     ·rw [if_pos c6] at H; have c6b0 := decide_eq_true c6; clear c6; obtain ⟨ji7, hji7⟩ : ∃ j_ : Int, (wrap64 (x3_1 - 1)) = j_ := ⟨_, rfl⟩
      rw [hji7] at H
      have hji7w : (IntKind.i64.wrap (x3_1 - 1)) = ji7 := (i64_w _).trans hji7
      replace H := it H; obtain ⟨c8b0, H⟩ := H; replace H := it H; obtain ⟨c9b0, H⟩ := H
      by_cases c10 : ((Op.bytesLess ((rdOf ByteArray.empty l0 (ji7)).toList) ((rdOf ByteArray.empty l0 x3_1).toList)) = true)
      ·rw [if_pos c10] at H
       have c10b0 : (Op.bytesLess ((rdOf ByteArray.empty l0 (ji7)).toList) ((rdOf ByteArray.empty l0 x3_1).toList)) = true := c10
       clear c10
       have H' := am H
       clear H
       have p108 : 0 ≤ (x3_1 : Int) := of_decide_eq_true ad
       have q108 : x3_1 < (l0.length : Int) := of_decide_eq_true ad
       obtain ⟨ad108, e108, hx108_0⟩ := Kd.at_string HR0.out x3_1 p108 q108; cases e108; replace p108 := eq_true p108; replace q108 := eq_true q108
       have p110 : 0 ≤ ((ji7) : Int) := of_decide_eq_true ad
       have q110 : (ji7) < (l0.length : Int) := of_decide_eq_true ad
       obtain ⟨ad110, e110, hx110_0⟩ := Kd.at_string HR0.out (ji7) p110 q110
       obtain rfl : ad108 = ad110 := (by injection e110)
       replace p110 := eq_true p110
       replace q110 := eq_true q110
       have p111 : 0 ≤ (x3_1 : Int) := of_decide_eq_true ad
       have q111 : x3_1 < (l0.length : Int) := of_decide_eq_true ad
       obtain ⟨ad111, e111, hx111_0⟩ := Kd.at_string HR0.out x3_1 p111 q111
       obtain rfl : ad108 = ad111 := (by injection e111)
       replace p111 := eq_true p111
       replace q111 := eq_true q111
       go_wp2
       repeat (go_quiet ((go_at_call 71; (with_reducible refine (spec_l1Word.calls k1 (rdOf ByteArray.empty l0 x3_1) true _ A4.out).mono ?_); rintro e w' ⟨rfl, ⟨nd, rfl⟩⟩; exact ⟨rfl, _, Eq.trans (World.drewN_drewN _ _ _) (congrArg (World.drewN _) (Nat.add_assoc _ _ _))⟩)); try go_wp2)
       go_roundg k1
       case measure => have := HK1.out; omega
       case rel => exact ⟨(wrap64 (x3_1 + 1)), sq, H', ⟨b68_⟩, dr⟩
      rw [if_neg c10] at H
      have c10b0 : (Op.bytesLess ((rdOf ByteArray.empty l0 (ji7)).toList) ((rdOf ByteArray.empty l0 x3_1).toList)) = false := by simpa using c10
      clear c10; obtain rfl := Option.some.inj H
      have p108 : 0 ≤ (x3_1 : Int) := of_decide_eq_true ad
      have q108 : x3_1 < (l0.length : Int) := of_decide_eq_true ad
      obtain ⟨ad108, e108, hx108_0⟩ := Kd.at_string HR0.out x3_1 p108 q108; cases e108; replace p108 := eq_true p108; replace q108 := eq_true q108
      have p110 : 0 ≤ ((ji7) : Int) := of_decide_eq_true ad
      have q110 : (ji7) < (l0.length : Int) := of_decide_eq_true ad
      obtain ⟨ad110, e110, hx110_0⟩ := Kd.at_string HR0.out (ji7) p110 q110
      obtain rfl : ad108 = ad110 := (by injection e110)
      replace p110 := eq_true p110
      replace q110 := eq_true q110
      have p111 : 0 ≤ (x3_1 : Int) := of_decide_eq_true ad
      have q111 : x3_1 < (l0.length : Int) := of_decide_eq_true ad
      obtain ⟨ad111, e111, hx111_0⟩ := Kd.at_string HR0.out x3_1 p111 q111
      obtain rfl : ad108 = ad111 := (by injection e111)
      replace p111 := eq_true p111
      replace q111 := eq_true q111
      go_wp2
      repeat (go_quiet ((go_at_call 71; (with_reducible refine (spec_l1Word.calls k1 (rdOf ByteArray.empty l0 x3_1) true _ A4.out).mono ?_); rintro e w' ⟨rfl, ⟨nd, rfl⟩⟩; exact ⟨rfl, _, Eq.trans (World.drewN_drewN _ _ _) (congrArg (World.drewN _) (Nat.add_assoc _ _ _))⟩)); try go_wp2)
      go_ret
      exact ⟨by rfl, dr⟩
     rw [if_neg c6] at H; have c6b0 := decide_eq_false c6; clear c6
     have H' := am H
     clear H
     have p108 : 0 ≤ (x3_1 : Int) := of_decide_eq_true ad
     have q108 : x3_1 < (l0.length : Int) := of_decide_eq_true ad
     obtain ⟨ad108, e108, hx108_0⟩ := Kd.at_string HR0.out x3_1 p108 q108; cases e108; replace p108 := eq_true p108; replace q108 := eq_true q108
     go_wp2
     repeat (go_quiet ((go_at_call 71; (with_reducible refine (spec_l1Word.calls k1 (rdOf ByteArray.empty l0 x3_1) true _ A4.out).mono ?_); rintro e w' ⟨rfl, ⟨nd, rfl⟩⟩; exact ⟨rfl, _, Eq.trans (World.drewN_drewN _ _ _) (congrArg (World.drewN _) (Nat.add_assoc _ _ _))⟩)); try go_wp2)
     go_roundg k1
     case measure => have := HK1.out; omega
     case rel => exact ⟨(wrap64 (x3_1 + 1)), sq, H', ⟨b68_⟩, dr⟩
    replace c5 := Bool.eq_false_iff.mpr c5; subst c5
    rw [if_neg Bool.false_ne_true] at H
    obtain rfl := Option.some.inj H
    have p108 : 0 ≤ (x3_1 : Int) := of_decide_eq_true ad
    have q108 : x3_1 < (l0.length : Int) := of_decide_eq_true ad
    obtain ⟨ad108, e108, hx108_0⟩ := Kd.at_string HR0.out x3_1 p108 q108; cases e108; replace p108 := eq_true p108; replace q108 := eq_true q108
    go_wp2
    repeat (go_quiet ((go_at_call 71; (with_reducible refine (spec_l1Word.calls k1 (rdOf ByteArray.empty l0 x3_1) false _ A4.out).mono ?_); rintro e w' ⟨rfl, ⟨nd, rfl⟩⟩; exact ⟨rfl, _, Eq.trans (World.drewN_drewN _ _ _) (congrArg (World.drewN _) (Nat.add_assoc _ _ _))⟩)); try go_wp2)
    go_ret
    exact ⟨sq, dr⟩
   rw [if_neg c2] at H; have c2b0 := decide_eq_false c2; clear c2; obtain rfl := Option.some.inj H; go_wp2
   go_ret
   exact ⟨sq, dr⟩

/-! ### spec_l3Ends: function 143 -/
def spec_l3Ends.l0 : Nat → List ByteArray → Int → List ByteArray → Int → Option (List ByteArray)
 | 0, _, _, _, _ => none
 | k + 1, x0, x1, x5, x6 => if x6 < (x0.length : Int) then (if 0 ≤ x6 then (if ((rdOf ByteArray.empty x0 x6).size : Int) > 0 then (if 0 < ((rdOf ByteArray.empty x0 x6).size : Int) then (if (bt (rdOf ByteArray.empty x0 x6) 0) = x1 then (if 1 ≤ ((rdOf ByteArray.empty x0 x6).size : Int) then (if x5.length < 8796093022208 then (spec_l3Ends.l0 k x0 x1 (x5 ++ [(rdOf ByteArray.empty x0 x6).extract 1 (rdOf ByteArray.empty x0 x6).size]) (wrap64 (x6 + 1))) else (none)) else (none)) else (spec_l3Ends.l0 k x0 x1 x5 (wrap64 (x6 + 1)))) else (none)) else (spec_l3Ends.l0 k x0 x1 x5 (wrap64 (x6 + 1)))) else (none)) else (some x5)
def spec_l3Ends.f (k : Nat) (l0 : List ByteArray) (a1 : Int) : Option (List ByteArray) := spec_l3Ends.l0 k l0 a1 (([] : List ByteArray)) 0
theorem spec_l3Ends.calls (k : Nat) (A0 : Option Addr) (c0 : Nat) (l0 : List ByteArray) (a1 : Int) (r : List ByteArray) (w : World) (hr0 : Kd.C Kd.string w A0 l0.length l0) (hc0 : l0.length ≤ c0) (h : spec_l3Ends.f k l0 a1 = some r) :
  Calls Try.prog 143 #[.slice A0 l0.length c0, .int .u8 a1] w fun e w' => ∃ v0_ : Value, e = .returned (v0_) ∧ Kd.R Kd.string 9 w' w.heap.size (fun _ => True) v0_ r ∧ Below w.heap.size w w' := by
 have HR0 := am hr0; have HC0 := am hc0; clear hr0 hc0; have HB := am (Below.refl w.heap.size w)
 have H := h; unfold spec_l3Ends.f at H
 clear h; obtain ⟨y112, hy112⟩ : ∃ y_ : List ByteArray, y_ = (([] : List ByteArray)) := ⟨_, rfl⟩
 rw [← hy112] at H
 have Ny112 := am hy112; clear hy112
 have H' := am H
 clear H; go_enter Try.func143, Try.ntmps143
 go_wp2_with ((with_reducible refine gate_dst (N := 7) rfl ?_); refine Kd.R_lit Kd.string _ 9 ?hg (N := 7) ?hd (xs := ([] : List ByteArray)) (inner := []) (ok := fun _ => True) (okp := fun _ => True) ?hr ?hp (fun _ hk => hk) trivial (Below.refl _ _) (Nat.le_refl _) (by simp) ?_; (case hd => rfl); (case hg => rfl); (case hr => (go_simp; done)); (case hp => exact (Reps.none _ _)); intro v113 w3 ho4 hb hg_ hnew_; clear hg_ hnew_; (rw [← Ny112.out] at ho4); have HO114 := am (Kd.R_lower ho4 (below_size bel)); replace HB := am (below_step bel hb); clear hb ho4)
 go_loopg [5, 6] k (fun kq v5 v6 w' => ∃ (x5_1 : List ByteArray) (x6_1 : Int), v6 = .int .i64 x6_1 ∧ Aside0 (spec_l3Ends.l0 kq l0 a1 x5_1 x6_1 = some r) ∧ Aside0 (kq ≤ k) ∧ Aside0 (Kd.R Kd.string 9 w' w.heap.size (fun _ => True) v5 x5_1) ∧ Aside0 (Below w.heap.size w w'))
 case atStart => exact ⟨(y112), (0), sq, H', ⟨Nat.le_refl _⟩, ⟨rq HO114.out⟩, ⟨bel⟩⟩
 case round =>
  clear H'; obtain ⟨x5_1, x6_1, rfl, HA, HK1, HO_5, HB⟩ := hrel
  cases gk with
  | zero => exact absurd HA.out (by simp [spec_l3Ends.l0])
  | succ k1 =>
   have H := HA.out; clear HA; simp only [spec_l3Ends.l0] at H
   by_cases c5 : x6_1 < (l0.length : Int)
   ·rw [if_pos c5] at H; have c5b0 := decide_eq_true c5; clear c5
    replace H := it H; obtain ⟨c6b0, H⟩ := H
    by_cases c7 : ((rdOf ByteArray.empty l0 x6_1).size : Int) > 0
    ·rw [if_pos c7] at H; have c7b0 := decide_eq_true c7
     have c7b1 : decide (0 < (rdOf ByteArray.empty l0 x6_1).size) = true := decide_eq_true (by omega)
     clear c7; replace H := ip H; obtain ⟨c8, H⟩ := H; have c8b0 := decide_eq_true c8
     have c8b1 : decide (0 < (rdOf ByteArray.empty l0 x6_1).size) = true := decide_eq_true (by omega)
     clear c8
     by_cases c10 : (bt (rdOf ByteArray.empty l0 x6_1) 0) = a1
     ·rw [if_pos c10] at H
      have c10b0 : ((bt (rdOf ByteArray.empty l0 x6_1) 0) == a1) = true := beq_iff_eq.mpr c10
      have c10b1 : ((bt (rdOf ByteArray.empty l0 x6_1) 0) != a1) = false := bne_eq_false_iff_eq.mpr c10
      clear c10; replace H := ip H; obtain ⟨c11, H⟩ := H; have c11b0 := eq_true c11
      have c11b1 : decide (1 ≤ ((rdOf ByteArray.empty l0 x6_1).size : Int)) = true := decide_eq_true c11
      clear c11
      replace H := ip H; obtain ⟨c12, H⟩ := H; have LMc12 := Aside0.mk c12; clear c12; obtain ⟨y118, hy118⟩ : ∃ y_ : List ByteArray, y_ = (x5_1 ++ [(rdOf ByteArray.empty l0 x6_1).extract 1 (rdOf ByteArray.empty l0 x6_1).size]) := ⟨_, rfl⟩
      rw [← hy118] at H
      have Ny118 := am hy118; clear hy118
      have H' := am H
      clear H
      have p115 : 0 ≤ (x6_1 : Int) := of_decide_eq_true ad
      have q115 : x6_1 < (l0.length : Int) := of_decide_eq_true ad
      obtain ⟨ad115, e115, hx115_0⟩ := Kd.at_string HR0.out x6_1 p115 q115; cases e115; replace hx115_0 := kp HB.out hx115_0; replace p115 := eq_true p115; replace q115 := eq_true q115
      have p116 : 0 ≤ (x6_1 : Int) := of_decide_eq_true ad
      have q116 : x6_1 < (l0.length : Int) := of_decide_eq_true ad
      obtain ⟨ad116, e116, hx116_0⟩ := Kd.at_string HR0.out x6_1 p116 q116
      obtain rfl : ad115 = ad116 := (by injection e116)
      replace hx116_0 := kp HB.out hx116_0; replace p116 := eq_true p116; replace q116 := eq_true q116
      have p9 : 0 ≤ (0 : Int) := (by omega)
      have q9 : 0 < (rdOf ByteArray.empty l0 x6_1).size := (by have : (0 : Int) < ((rdOf ByteArray.empty l0 x6_1).size : Int) := of_decide_eq_true ad; omega)
      have hx9 : ∀ h : 0 < (rdOf ByteArray.empty l0 x6_1).size, (((rdOf ByteArray.empty l0 x6_1)[0]'h).toNat : Int) = bt (rdOf ByteArray.empty l0 x6_1) 0 := bt_at (rdOf ByteArray.empty l0 x6_1) 0
      clear p9
      have qi9 : (0 < ((rdOf ByteArray.empty l0 x6_1).size : Int)) = True := eq_true (of_decide_eq_true ad)
      replace q9 := eq_true q9
      have p117 : 0 ≤ (x6_1 : Int) := of_decide_eq_true ad
      have q117 : x6_1 < (l0.length : Int) := of_decide_eq_true ad
      obtain ⟨ad117, e117, hx117_0⟩ := Kd.at_string HR0.out x6_1 p117 q117
      obtain rfl : ad115 = ad117 := (by injection e117)
      replace hx117_0 := kp HB.out hx117_0; replace p117 := eq_true p117; replace q117 := eq_true q117
      go_wp2_with ((with_reducible refine gate_builtin (b := .append) (xs := #[.tmp 29, .tmp 35]) rfl ?_); at_builtin; refine Kd.R_append Kd.string (w0 := w) w.heap.size rfl (.tmp 29) (.tmp 35) 27 9 (.string ⟨#[]⟩) 16 rfl Try.underlying27 info9 rfl (by decide) (by omega) u5 x5_1 ((rdOf ByteArray.empty l0 x6_1).extract 1 (rdOf ByteArray.empty l0 x6_1).size) [.string ((rdOf ByteArray.empty l0 x6_1).extract 1 (rdOf ByteArray.empty l0 x6_1).size)] (fun _ => True) (fun _ => False) rfl rfl ?aP (fun _ hk => hk.elim) ?aF ?aO ?aB ?aS ?aL ?_; (case aP => exact rfl); (case aB => exact bel); (case aF => exact (fun _ _ => trivial)); (case aO => exact (rq HO_5.out)); (case aS => exact (below_size bel)); (case aL => have := LMc12.out; omega); intro v119 w13 ho hb hg hat; rw [← Ny118.out] at ho; replace HB := am (hb); have HO120 := am (ho); clear HO_5; clear ho hb hg hat)
      go_roundg k1
      case measure => have := HK1.out; omega
      case rel => exact ⟨(y118), (wrap64 (x6_1 + 1)), sq, H', ⟨b68_⟩, ⟨rq HO120.out⟩, ⟨bel⟩⟩
     rw [if_neg c10] at H
     have c10b0 : ((bt (rdOf ByteArray.empty l0 x6_1) 0) == a1) = false := beq_eq_false_iff_ne.mpr c10
     have c10b1 : ((bt (rdOf ByteArray.empty l0 x6_1) 0) != a1) = true := bne_iff_ne.mpr c10
     have H' := am H
     clear H
     have p115 : 0 ≤ (x6_1 : Int) := of_decide_eq_true ad
     have q115 : x6_1 < (l0.length : Int) := of_decide_eq_true ad
     obtain ⟨ad115, e115, hx115_0⟩ := Kd.at_string HR0.out x6_1 p115 q115; cases e115; replace hx115_0 := kp HB.out hx115_0; replace p115 := eq_true p115; replace q115 := eq_true q115
     have p116 : 0 ≤ (x6_1 : Int) := of_decide_eq_true ad
     have q116 : x6_1 < (l0.length : Int) := of_decide_eq_true ad
     obtain ⟨ad116, e116, hx116_0⟩ := Kd.at_string HR0.out x6_1 p116 q116
     obtain rfl : ad115 = ad116 := (by injection e116)
     replace hx116_0 := kp HB.out hx116_0; replace p116 := eq_true p116; replace q116 := eq_true q116
     have p9 : 0 ≤ (0 : Int) := (by omega)
     have q9 : 0 < (rdOf ByteArray.empty l0 x6_1).size := (by have : (0 : Int) < ((rdOf ByteArray.empty l0 x6_1).size : Int) := of_decide_eq_true ad; omega)
     have hx9 : ∀ h : 0 < (rdOf ByteArray.empty l0 x6_1).size, (((rdOf ByteArray.empty l0 x6_1)[0]'h).toNat : Int) = bt (rdOf ByteArray.empty l0 x6_1) 0 := bt_at (rdOf ByteArray.empty l0 x6_1) 0
     clear p9
     have qi9 : (0 < ((rdOf ByteArray.empty l0 x6_1).size : Int)) = True := eq_true (of_decide_eq_true ad)
     replace q9 := eq_true q9; go_wp2
     go_roundg k1
     case measure => have := HK1.out; omega
     case rel => exact ⟨(x5_1), (wrap64 (x6_1 + 1)), sq, H', ⟨b68_⟩, ⟨rq HO_5.out⟩, ⟨bel⟩⟩
    rw [if_neg c7] at H; have c7b0 := decide_eq_false c7
    have c7b1 : decide (0 < (rdOf ByteArray.empty l0 x6_1).size) = false := decide_eq_false (by omega)
    clear c7
    have H' := am H
    clear H
    have p115 : 0 ≤ (x6_1 : Int) := of_decide_eq_true ad
    have q115 : x6_1 < (l0.length : Int) := of_decide_eq_true ad
    obtain ⟨ad115, e115, hx115_0⟩ := Kd.at_string HR0.out x6_1 p115 q115; cases e115
    replace hx115_0 := kp HB.out hx115_0; replace p115 := eq_true p115; replace q115 := eq_true q115; go_wp2
    go_roundg k1
    case measure => have := HK1.out; omega
    case rel => exact ⟨(x5_1), (wrap64 (x6_1 + 1)), sq, H', ⟨b68_⟩, ⟨rq HO_5.out⟩, ⟨bel⟩⟩
   rw [if_neg c5] at H; have c5b0 := decide_eq_false c5; clear c5; obtain rfl := Option.some.inj H; go_wp2; go_ret
   exact ⟨_, eq_, b87_, bel⟩
-- shrunk

/-! ### spec_l3Same: function 152 -/
def spec_l3Same.l0 : Nat → List ByteArray → List ByteArray → Int → Option (Bool)
 | 0, _, _, _ => none
 | k + 1, x0, x1, x5 => if x5 < (x0.length : Int) then (if 0 ≤ x5 then (if x5 < (x1.length : Int) then (if (rdOf ByteArray.empty x0 x5).toList = (rdOf ByteArray.empty x1 x5).toList then (spec_l3Same.l0 k x0 x1 (wrap64 (x5 + 1))) else (some false)) else (none)) else (none)) else (some true)
def spec_l3Same.f (k : Nat) (l0 : List ByteArray) (l1 : List ByteArray) : Option (Bool) := if (l0.length : Int) = (l1.length : Int) then (spec_l3Same.l0 k l0 l1 0) else (some false)
theorem spec_l3Same.calls (k : Nat) (A0 : Option Addr) (c0 : Nat) (l0 : List ByteArray) (A1 : Option Addr) (c1 : Nat) (l1 : List ByteArray) (r : Bool) (w : World) (hr0 : Kd.C Kd.string w A0 l0.length l0) (hc0 : l0.length ≤ c0) (hr1 : Kd.C Kd.string w A1 l1.length l1) (hc1 : l1.length ≤ c1) (h : spec_l3Same.f k l0 l1 = some r) :
  Calls Try.prog 152 #[.slice A0 l0.length c0, .slice A1 l1.length c1] w fun e w' => e = .returned (.bool r) ∧ Drawn0 w w' := by
 have HR0 := am hr0; have HC0 := am hc0; clear hr0 hc0; have HR1 := am hr1; have HC1 := am hc1; clear hr1 hc1
 have H := h; unfold spec_l3Same.f at H
 clear h
 by_cases c3 : (l0.length : Int) = (l1.length : Int)
 ·rw [if_pos c3] at H
  have c3b0 : ((l0.length : Int) == (l1.length : Int)) = true := beq_iff_eq.mpr c3
  have c3b1 : ((l0.length : Int) != (l1.length : Int)) = false := bne_eq_false_iff_eq.mpr c3
  have c3b2 : (l0.length == l1.length) = true := b110_
  clear c3
  have H' := am H
  clear H; go_enter Try.func152, Try.ntmps152; go_wp2
  go_loopg [5] k (fun kq v5 w' => ∃ (x5_1 : Int), v5 = .int .i64 x5_1 ∧ Aside0 (spec_l3Same.l0 kq l0 l1 x5_1 = some r) ∧ Aside0 (kq ≤ k) ∧ Drawn0 w w')
  case atStart => exact ⟨(0), sq, H', ⟨Nat.le_refl _⟩, dr⟩
  case round =>
   clear H'; clear c3b0 c3b1 c3b2; obtain ⟨x5_1, rfl, HA, HK1, ⟨m1, rfl⟩⟩ := hrel
   cases gk with
   | zero => exact absurd HA.out (by simp [spec_l3Same.l0])
   | succ k1 =>
    have H := HA.out; clear HA; simp only [spec_l3Same.l0] at H
    by_cases c4 : x5_1 < (l0.length : Int)
    ·rw [if_pos c4] at H; have c4b0 := decide_eq_true c4; clear c4
     replace H := it H; obtain ⟨c5b0, H⟩ := H; replace H := it H; obtain ⟨c6b0, H⟩ := H
     by_cases c7 : (rdOf ByteArray.empty l0 x5_1).toList = (rdOf ByteArray.empty l1 x5_1).toList
     ·rw [if_pos c7] at H
      have c7b0 : ((rdOf ByteArray.empty l0 x5_1).toList == (rdOf ByteArray.empty l1 x5_1).toList) = true := beq_iff_eq.mpr c7
      have c7b1 : ((rdOf ByteArray.empty l0 x5_1).toList != (rdOf ByteArray.empty l1 x5_1).toList) = false := bne_eq_false_iff_eq.mpr c7
      clear c7
      have H' := am H
      clear H
      have p121 : 0 ≤ (x5_1 : Int) := of_decide_eq_true ad
      have q121 : x5_1 < (l0.length : Int) := of_decide_eq_true ad
      obtain ⟨ad121, e121, hx121_0⟩ := Kd.at_string HR0.out x5_1 p121 q121; cases e121; replace p121 := eq_true p121; replace q121 := eq_true q121
      have p122 : 0 ≤ (x5_1 : Int) := of_decide_eq_true ad
      have q122 : x5_1 < (l1.length : Int) := of_decide_eq_true ad
      obtain ⟨ad122, e122, hx122_0⟩ := Kd.at_string HR1.out x5_1 p122 q122; cases e122
      replace p122 := eq_true p122; replace q122 := eq_true q122; go_wp2
      repeat (go_quiet (fail); try go_wp2)
      go_roundg k1
      case measure => have := HK1.out; omega
      case rel => exact ⟨(wrap64 (x5_1 + 1)), sq, H', ⟨b68_⟩, dr⟩
     rw [if_neg c7] at H
     have c7b0 : ((rdOf ByteArray.empty l0 x5_1).toList == (rdOf ByteArray.empty l1 x5_1).toList) = false := beq_eq_false_iff_ne.mpr c7
     have c7b1 : ((rdOf ByteArray.empty l0 x5_1).toList != (rdOf ByteArray.empty l1 x5_1).toList) = true := bne_iff_ne.mpr c7
     obtain rfl := Option.some.inj H
     have p121 : 0 ≤ (x5_1 : Int) := of_decide_eq_true ad
     have q121 : x5_1 < (l0.length : Int) := of_decide_eq_true ad
     obtain ⟨ad121, e121, hx121_0⟩ := Kd.at_string HR0.out x5_1 p121 q121; cases e121; replace p121 := eq_true p121; replace q121 := eq_true q121
     have p122 : 0 ≤ (x5_1 : Int) := of_decide_eq_true ad
     have q122 : x5_1 < (l1.length : Int) := of_decide_eq_true ad
     obtain ⟨ad122, e122, hx122_0⟩ := Kd.at_string HR1.out x5_1 p122 q122; cases e122
     replace p122 := eq_true p122; replace q122 := eq_true q122; go_wp2
     repeat (go_quiet (fail); try go_wp2)
     go_ret
     exact ⟨sq, dr⟩
    rw [if_neg c4] at H; have c4b0 := decide_eq_false c4; clear c4; obtain rfl := Option.some.inj H; go_wp2
    go_ret
    exact ⟨sq, dr⟩
 rw [if_neg c3] at H
 have c3b0 : ((l0.length : Int) == (l1.length : Int)) = false := beq_eq_false_iff_ne.mpr c3
 have c3b1 : ((l0.length : Int) != (l1.length : Int)) = true := bne_iff_ne.mpr c3
 have c3b2 : (l0.length == l1.length) = false := b110_
 obtain rfl := Option.some.inj H; go_enter Try.func152, Try.ntmps152; go_wp2
 go_ret
 exact ⟨sq, dr⟩

/-! ### spec_l3Long: function 170 -/
def spec_l3Long.l0 : Nat → List ByteArray → Int → Int → Option (Int)
 | 0, _, _, _ => none
 | k + 1, x0, x3, x4 => if x4 < (x0.length : Int) then (if 0 ≤ x4 then (if ((rdOf ByteArray.empty x0 x4).size : Int) > x3 then (spec_l3Long.l0 k x0 ((rdOf ByteArray.empty x0 x4).size : Int) (wrap64 (x4 + 1))) else (spec_l3Long.l0 k x0 x3 (wrap64 (x4 + 1)))) else (none)) else (some x3)
def spec_l3Long.f (k : Nat) (l0 : List ByteArray) : Option (Int) := spec_l3Long.l0 k l0 0 0
theorem spec_l3Long.calls (k : Nat) (A0 : Option Addr) (c0 : Nat) (l0 : List ByteArray) (r : Int) (w : World) (hr0 : Kd.C Kd.string w A0 l0.length l0) (hc0 : l0.length ≤ c0) (h : spec_l3Long.f k l0 = some r) :
  Calls Try.prog 170 #[.slice A0 l0.length c0] w fun e w' => e = .returned (.int .i64 r) ∧ Drawn0 w w' := by
 have HR0 := am hr0; have HC0 := am hc0; clear hr0 hc0
 have H := h; unfold spec_l3Long.f at H
 clear h
 have H' := am H
 clear H; go_enter Try.func170, Try.ntmps170; go_wp2
 go_loopg [3, 4] k (fun kq v3 v4 w' => ∃ (x3_1 : Int) (x4_1 : Int), v3 = .int .i64 x3_1 ∧ v4 = .int .i64 x4_1 ∧ Aside0 (spec_l3Long.l0 kq l0 x3_1 x4_1 = some r) ∧ Aside0 (kq ≤ k) ∧ Drawn0 w w')
 case atStart => exact ⟨(0), (0), sq, sq, H', ⟨Nat.le_refl _⟩, dr⟩
 case round =>
  clear H'; obtain ⟨x3_1, x4_1, rfl, rfl, HA, HK1, ⟨m1, rfl⟩⟩ := hrel
  cases gk with
  | zero => exact absurd HA.out (by simp [spec_l3Long.l0])
  | succ k1 =>
   have H := HA.out; clear HA; simp only [spec_l3Long.l0] at H
   by_cases c2 : x4_1 < (l0.length : Int)
   ·rw [if_pos c2] at H; have c2b0 := decide_eq_true c2; clear c2
    replace H := it H; obtain ⟨c3b0, H⟩ := H
    by_cases c4 : ((rdOf ByteArray.empty l0 x4_1).size : Int) > x3_1
    ·rw [if_pos c4] at H; have c4b0 := decide_eq_true c4; clear c4
     have H' := am H
     clear H
     have p123 : 0 ≤ (x4_1 : Int) := of_decide_eq_true ad
     have q123 : x4_1 < (l0.length : Int) := of_decide_eq_true ad
     obtain ⟨ad123, e123, hx123_0⟩ := Kd.at_string HR0.out x4_1 p123 q123; cases e123; replace p123 := eq_true p123; replace q123 := eq_true q123
     have p124 : 0 ≤ (x4_1 : Int) := of_decide_eq_true ad
     have q124 : x4_1 < (l0.length : Int) := of_decide_eq_true ad
     obtain ⟨ad124, e124, hx124_0⟩ := Kd.at_string HR0.out x4_1 p124 q124
     obtain rfl : ad123 = ad124 := (by injection e124)
     replace p124 := eq_true p124; replace q124 := eq_true q124; go_wp2
     go_roundg k1
     case measure => have := HK1.out; omega
     case rel => exact ⟨(((rdOf ByteArray.empty l0 x4_1).size : Int)), (wrap64 (x4_1 + 1)), sq, sq, H', ⟨b68_⟩, dr⟩
    rw [if_neg c4] at H; have c4b0 := decide_eq_false c4; clear c4
    have H' := am H
    clear H
    have p123 : 0 ≤ (x4_1 : Int) := of_decide_eq_true ad
    have q123 : x4_1 < (l0.length : Int) := of_decide_eq_true ad
    obtain ⟨ad123, e123, hx123_0⟩ := Kd.at_string HR0.out x4_1 p123 q123; cases e123
    replace p123 := eq_true p123; replace q123 := eq_true q123; go_wp2
    go_roundg k1
    case measure => have := HK1.out; omega
    case rel => exact ⟨(x3_1), (wrap64 (x4_1 + 1)), sq, sq, H', ⟨b68_⟩, dr⟩
   rw [if_neg c2] at H; have c2b0 := decide_eq_false c2; clear c2; obtain rfl := Option.some.inj H; go_wp2; go_ret
   exact ⟨sq, dr⟩

/-! ### spec_l3Less: function 165 -/
mutual
def spec_l3Less.l0 : Nat → List ByteArray → List ByteArray → Int → Option (Bool)
 | 0, _, _, _ => none
 | k + 1, x0, x1, x5 => if x5 < (x0.length : Int) then (spec_l3Less.j1 k x0 x1 x5 (decide (x5 < (x1.length : Int)))) else (spec_l3Less.j1 k x0 x1 x5 false)
def spec_l3Less.j1 : Nat → List ByteArray → List ByteArray → Int → Bool → Option (Bool)
 | 0, _, _, _, _ => none
 | k + 1, x0, x1, x5, x25 => if x25 = true then (if 0 ≤ x5 then (if x5 < (x0.length : Int) then (if x5 < (x1.length : Int) then (if (rdOf ByteArray.empty x0 x5).toList = (rdOf ByteArray.empty x1 x5).toList then (spec_l3Less.l0 k x0 x1 (wrap64 (x5 + 1))) else (some (Op.bytesLess ((rdOf ByteArray.empty x0 x5).toList) ((rdOf ByteArray.empty x1 x5).toList)))) else (none)) else (none)) else (none)) else (some (decide ((x0.length : Int) < (x1.length : Int))))
end
def spec_l3Less.f (k : Nat) (l0 : List ByteArray) (l1 : List ByteArray) : Option (Bool) := (spec_l3Long.f k l0).bind fun t125 => ((spec_l3Long.f k l1).bind fun t126 => (if t125 = t126 then (spec_l3Less.l0 k l0 l1 0) else ((spec_l3Long.f k l0).bind fun t127 => ((spec_l3Long.f k l1).bind fun t128 => (some (decide (t127 > t128)))))))
theorem spec_l3Less.calls (k : Nat) (A0 : Option Addr) (c0 : Nat) (l0 : List ByteArray) (A1 : Option Addr) (c1 : Nat) (l1 : List ByteArray) (r : Bool) (w : World) (hr0 : Kd.C Kd.string w A0 l0.length l0) (hc0 : l0.length ≤ c0) (hr1 : Kd.C Kd.string w A1 l1.length l1) (hc1 : l1.length ≤ c1) (h : spec_l3Less.f k l0 l1 = some r) :
  Calls Try.prog 165 #[.slice A0 l0.length c0, .slice A1 l1.length c1] w fun e w' => e = .returned (.bool r) ∧ Drawn0 w w' := by
 have HR0 := am hr0; have HC0 := am hc0; clear hr0 hc0; have HR1 := am hr1; have HC1 := am hc1; clear hr1 hc1
 have H := h; unfold spec_l3Less.f at H
 clear h; replace H := bs H; obtain ⟨t125, A30, H⟩ := H; have A3 := Aside0.mk A30; clear A30; replace H := bs H; obtain ⟨t126, A40, H⟩ := H; have A4 := Aside0.mk A40; clear A40
 by_cases c5 : t125 = t126
 ·rw [if_pos c5] at H
  have c5b0 : (t125 == t126) = true := beq_iff_eq.mpr c5
  have c5b1 : (t125 != t126) = false := bne_eq_false_iff_eq.mpr c5
  clear c5
  have H' := am H
  clear H; go_enter Try.func165, Try.ntmps165
  go_wp2_with (first | (go_at_call 170; (with_reducible refine (spec_l3Long.calls k _ _ l0 t125 _ ?side1 ?side2 A3.out).mono ?_); (case side1 => repeat (exact HR0.out)); (case side2 => exact HC0.out); rintro e w' ⟨rfl, ⟨nd, rfl⟩⟩) | (go_at_call 170; (with_reducible refine (spec_l3Long.calls k _ _ l1 t126 _ ?side1 ?side2 A4.out).mono ?_); (case side1 => repeat (exact HR1.out)); (case side2 => exact HC1.out); rintro e w' ⟨rfl, ⟨nd, rfl⟩⟩))
  go_loopg [5] k (fun kq v5 w' => ∃ (x5_1 : Int), v5 = .int .i64 x5_1 ∧ Aside0 (spec_l3Less.l0 kq l0 l1 x5_1 = some r) ∧ Aside0 (kq ≤ k) ∧ Drawn0 w w')
  case atStart => exact ⟨(0), sq, H', ⟨Nat.le_refl _⟩, dr⟩
  case round =>
   clear H'; clear c5b0 c5b1; obtain ⟨x5_1, rfl, HA, HK1, ⟨m1, rfl⟩⟩ := hrel
   cases gk with
   | zero => exact absurd HA.out (by simp [spec_l3Less.l0])
   | succ k1 =>
    have H := HA.out; clear HA; simp only [spec_l3Less.l0] at H; have HC6 := am H; clear H
    go_upto_region 4 with (fail)
    go_cut [25] (fun v25 wc => ∃ (kq : Nat) (x25_5 : Bool), v25 = .bool x25_5 ∧ Aside0 (spec_l3Less.j1 kq l0 l1 x5_1 x25_5 = some r) ∧ Aside0 (kq ≤ k1) ∧ Drawn0 w wc)
    case first =>
     have H := HC6.out; clear HC6
     by_cases c7 : x5_1 < (l0.length : Int)
     ·rw [if_pos c7] at H; have c7b0 := decide_eq_true c7; clear c7
      (skip)
      have H' := am H
      clear H; go_wp2
      go_meet
      case rel => exact ⟨_, (decide (x5_1 < (l1.length : Int))), sq, H', ⟨b39_⟩, dr⟩
     rw [if_neg c7] at H; have c7b0 := decide_eq_false c7; clear c7
     (skip)
     have H' := am H
     clear H; go_wp2
     go_meet
     case rel => exact ⟨_, (false), sq, H', ⟨b39_⟩, dr⟩
    case rest =>
     clear HC6; obtain ⟨kq, x25_5, rfl, HA, HJ5, ⟨mc5, rfl⟩⟩ := hcut
     cases kq with
     | zero => exact absurd HA.out (by simp [spec_l3Less.j1])
     | succ kj5 =>
      have H := HA.out; clear HA; simp only [spec_l3Less.j1] at H
      by_cases c8 : x25_5 = true
      ·subst c8
       rw [if_pos rfl] at H; replace H := it H; obtain ⟨c9b0, H⟩ := H; replace H := it H; obtain ⟨c10b0, H⟩ := H; replace H := it H; obtain ⟨c11b0, H⟩ := H
       by_cases c12 : (rdOf ByteArray.empty l0 x5_1).toList = (rdOf ByteArray.empty l1 x5_1).toList
       ·rw [if_pos c12] at H
        have c12b0 : ((rdOf ByteArray.empty l0 x5_1).toList == (rdOf ByteArray.empty l1 x5_1).toList) = true := beq_iff_eq.mpr c12
        have c12b1 : ((rdOf ByteArray.empty l0 x5_1).toList != (rdOf ByteArray.empty l1 x5_1).toList) = false := bne_eq_false_iff_eq.mpr c12
        clear c12
        have H' := am H
        clear H
        have p129 : 0 ≤ (x5_1 : Int) := of_decide_eq_true ad
        have q129 : x5_1 < (l0.length : Int) := of_decide_eq_true ad
        obtain ⟨ad129, e129, hx129_0⟩ := Kd.at_string HR0.out x5_1 p129 q129; cases e129; replace p129 := eq_true p129; replace q129 := eq_true q129
        have p130 : 0 ≤ (x5_1 : Int) := of_decide_eq_true ad
        have q130 : x5_1 < (l1.length : Int) := of_decide_eq_true ad
        obtain ⟨ad130, e130, hx130_0⟩ := Kd.at_string HR1.out x5_1 p130 q130; cases e130
        replace p130 := eq_true p130; replace q130 := eq_true q130; go_wp2
        repeat (go_quiet (fail); try go_wp2)
        go_roundg kj5
        case measure => have := HK1.out; have := HJ5.out; omega
        case rel => exact ⟨(wrap64 (x5_1 + 1)), sq, H', ⟨by have := HK1.out; have := HJ5.out; omega⟩, dr⟩
       rw [if_neg c12] at H
       have c12b0 : ((rdOf ByteArray.empty l0 x5_1).toList == (rdOf ByteArray.empty l1 x5_1).toList) = false := beq_eq_false_iff_ne.mpr c12
       have c12b1 : ((rdOf ByteArray.empty l0 x5_1).toList != (rdOf ByteArray.empty l1 x5_1).toList) = true := bne_iff_ne.mpr c12
       obtain rfl := Option.some.inj H
       have p129 : 0 ≤ (x5_1 : Int) := of_decide_eq_true ad
       have q129 : x5_1 < (l0.length : Int) := of_decide_eq_true ad
       obtain ⟨ad129, e129, hx129_0⟩ := Kd.at_string HR0.out x5_1 p129 q129; cases e129; replace p129 := eq_true p129; replace q129 := eq_true q129
       have p130 : 0 ≤ (x5_1 : Int) := of_decide_eq_true ad
       have q130 : x5_1 < (l1.length : Int) := of_decide_eq_true ad
       obtain ⟨ad130, e130, hx130_0⟩ := Kd.at_string HR1.out x5_1 p130 q130; cases e130; replace p130 := eq_true p130; replace q130 := eq_true q130
       have p131 : 0 ≤ (x5_1 : Int) := of_decide_eq_true ad
       have q131 : x5_1 < (l0.length : Int) := of_decide_eq_true ad
       obtain ⟨ad131, e131, hx131_0⟩ := Kd.at_string HR0.out x5_1 p131 q131
       obtain rfl : ad129 = ad131 := (by injection e131)
       replace p131 := eq_true p131; replace q131 := eq_true q131
       have p132 : 0 ≤ (x5_1 : Int) := of_decide_eq_true ad
       have q132 : x5_1 < (l1.length : Int) := of_decide_eq_true ad
       obtain ⟨ad132, e132, hx132_0⟩ := Kd.at_string HR1.out x5_1 p132 q132
       obtain rfl : ad130 = ad132 := (by injection e132)
       replace p132 := eq_true p132; replace q132 := eq_true q132; go_wp2
       repeat (go_quiet (fail); try go_wp2)
       go_ret
       exact ⟨sq, dr⟩
      replace c8 := Bool.eq_false_iff.mpr c8; subst c8
      rw [if_neg Bool.false_ne_true] at H
      obtain rfl := Option.some.inj H; go_wp2
      go_ret
      exact ⟨sq, dr⟩
 rw [if_neg c5] at H
 have c5b0 : (t125 == t126) = false := beq_eq_false_iff_ne.mpr c5
 have c5b1 : (t125 != t126) = true := bne_iff_ne.mpr c5
 replace H := bs H; obtain ⟨t127, A130, H⟩ := H; have A13 := Aside0.mk A130; clear A130
 have same_t127 : t127 = t125 := Option.some.inj (A13.out.symm.trans A3.out)
 replace H := bs H; obtain ⟨t128, A140, H⟩ := H; have A14 := Aside0.mk A140; clear A140
 have same_t128 : t128 = t126 := Option.some.inj (A14.out.symm.trans A4.out)
 obtain rfl := Option.some.inj H; go_enter Try.func165, Try.ntmps165
 go_wp2_with (first | (go_at_call 170; (with_reducible refine (spec_l3Long.calls k _ _ l0 t125 _ ?side1 ?side2 A3.out).mono ?_); (case side1 => repeat (exact HR0.out)); (case side2 => exact HC0.out); rintro e w' ⟨rfl, ⟨nd, rfl⟩⟩) | (go_at_call 170; (with_reducible refine (spec_l3Long.calls k _ _ l1 t126 _ ?side1 ?side2 A4.out).mono ?_); (case side1 => repeat (exact HR1.out)); (case side2 => exact HC1.out); rintro e w' ⟨rfl, ⟨nd, rfl⟩⟩))
 go_ret
 exact ⟨sq, dr⟩
end Go.Proofs.Ytdfnijaacnlfaaa.QFnMachineGuesses
