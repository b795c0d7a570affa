import Derived.Test.YtfpmfaelodfecaaProg
import Derived.Laws.Cover1
import Derived.Below
import Derived.Deep.Draws
import Derived.Deep.AppendLies
import Derived.Maps.AppendAt
import Derived.OwnWalk
import Derived.Laws.BytesArg
import Derived.Laws.MakeOwn
import Derived.Laws.OwnMore
import Derived.Deep.OwnRows
import Derived.Tactics
import Derived.Lib.ConvBytes
import Derived.Laws.Slices
import Derived.WalkKit
import Derived.KernelRfl
import Derived.RowKit3
import Derived.Deep.LoopGhost
import Derived.Deep.QuietTactic
import Derived.BigQuiet
import Derived.WideLaws
import Derived.Deep.DeepCutAuto
import Derived.Deep.CutBlock
import Derived.Deep.RegionHeld3
import Derived.Laws.Rows
import Derived.Lib.AppendStr
import Derived.ArgAppend
import Derived.Laws.IdiomCopy
import Derived.OrdersHeld
import Derived.Laws.BitsLemmas
import Derived.RowKit
import Derived.Test.YtfpmfaelodfecaaVWords
import Derived.Test.YtfpmfaelodfecaaVLast
import Derived.Test.YtfpmfaelodfecaaVTab
import Derived.Test.YtfpmfaelodfecaaVApart
import Derived.Test.YtfpmfaelodfecaaVFoot
import Derived.Test.YtfpmfaelodfecaaVKept
import Derived.Test.YtfpmfaelodfecaaVShare
import Derived.Test.YtfpmfaelodfecaaVN
import Derived.Test.YtfpmfaelodfecaaVFootNe
import Derived.Test.YtfpmfaelodfecaaVEqStruct
import Derived.Test.YtfpmfaelodfecaaVRepsOne
import Derived.Test.YtfpmfaelodfecaaVGuard
import Derived.Test.YtfpmfaelodfecaaVNEv
import Derived.Test.YtfpmfaelodfecaaVMore
import Derived.Test.YtfpmfaelodfecaaVMSh2
namespace Go.Proofs.Ytfpmfaelodfecaa.QFnMachineRank
open Go.RowKit Go.Proofs.YtfpmfaelodfecaaW.PrintWords Go.Proofs.YtfpmfaelodfecaaW.PrintLast Go.Proofs.YtfpmfaelodfecaaW.PrintMore Go.Proofs.Ytfpmfaelodfecaa.Sh
attribute [local go_sem] max2_int min2_int max_two min_two max_three min_three max_four min_four
set_option linter.unusedVariables false
set_option linter.unusedSimpArgs false
set_option maxHeartbeats 8000000
set_option maxRecDepth 100000
-- shrunk



def errW : Option Int → Value
 | none => .nilIface
 | some c => .iface 0 (.int .i64 c)
theorem errW_none : errW none = .nilIface := rfl
theorem errW_some (c : Int) : errW (some c) = .iface 0 (.int .i64 c) := rfl

theorem info3 : (Try.prog.info? 3).map (fun i => (i.zero, i.size, i.bytes)) = some (some (.int .i64 0), 1, 8) := by kernel_rfl
theorem info5 : (Try.prog.info? 5).map (fun i => (i.zero, i.size, i.bytes)) = some (some (.int .u8 0), 1, 1) := by kernel_rfl
theorem info9 : (Try.prog.info? 9).map (fun i => (i.zero, i.size, i.bytes)) = some (some (.string ⟨#[]⟩), 1, 16) := by kernel_rfl
theorem info22 : (Try.prog.info? 22).map (fun i => (i.zero, i.size, i.bytes)) = some (some (.slice none 0 0), 1, 24) := by kernel_rfl
theorem info94 : (Try.prog.info? 94).map (fun i => (i.zero, i.size, i.bytes)) = some (some (.agg #[(.bool false), (.slice none 0 0)]), 2, 32) := by kernel_rfl
theorem info100 : (Try.prog.info? 100).map (fun i => (i.zero, i.size, i.bytes)) = some (some (.agg #[(.int .i64 0), (.int .i64 0)]), 2, 16) := by kernel_rfl
theorem info110 : (Try.prog.info? 110).map (fun i => (i.zero, i.size, i.bytes)) = some (some (.agg #[(.string ⟨#[]⟩), (.string ⟨#[]⟩)]), 2, 32) := by kernel_rfl
theorem info117 : (Try.prog.info? 117).map (fun i => (i.zero, i.size, i.bytes)) = some (some (.agg #[(.string ⟨#[]⟩), (.bool false), (.string ⟨#[]⟩), (.string ⟨#[]⟩), (.string ⟨#[]⟩)]), 5, 72) := by kernel_rfl
-- the values' own types
/-! #### struct type 100 -/
structure S100 where
 f0 : Int
 f1 : Int
def z100 : S100 := ⟨(0 : Int), (0 : Int)⟩
def k100 : Kd S100 := Kd.iso (Kd.pair (Kd.int .i64) (Kd.int .i64)) (fun x : S100 => (x.f0, x.f1))
theorem k100_heap : Kd.Heap k100 := Kd.heap_iso _ (Kd.heap_pair (Kd.heap_int .i64) (Kd.heap_int .i64))
theorem k100_open {w : World} {x : S100} {cs : List Value} (h : k100.K w x cs) : cs = [.int .i64 x.f0, .int .i64 x.f1] := by
 obtain ⟨_, _, rfl, rfl, rfl⟩ := h
 exact rfl
theorem k100_openM {w : World} {base : Nat} {ok : Nat → Prop} {x : S100} {cs : List Value} (h : k100.M w base ok x cs) : cs = [.int .i64 x.f0, .int .i64 x.f1] := by
 obtain ⟨_, _, rfl, rfl, rfl⟩ := h
 exact rfl
theorem k100_mk (w : World) (x : S100)  : k100.K w x [.int .i64 x.f0, .int .i64 x.f1] := ⟨[.int .i64 x.f0], [.int .i64 x.f1], rfl, rfl, rfl⟩
theorem k100_mkM (w : World) (base : Nat) (ok : Nat → Prop) (x : S100)  : k100.M w base ok x [.int .i64 x.f0, .int .i64 x.f1] := ⟨[.int .i64 x.f0], [.int .i64 x.f1], rfl, rfl, rfl⟩
theorem k100_mkF (W : World) (ok : Nat → Prop) (x : S100) : Kd.FK k100 W ok x [.int .i64 x.f0, .int .i64 x.f1] := fun W2 _ => k100_mk W2 x
def rd_T100 (xs : List S100) (i : Int) : S100 := xs.getD i.toNat z100
theorem at_T100 {w : World} {A : Option Addr} {n : Nat} {xs : List S100} (h : Kd.C k100 w A n xs) (i : Int) (h0 : 0 ≤ i) (h1 : i < n) : ∃ ad , A = some ad ∧ w.cell? (ad.add (i.toNat * 2)) = some (.int .i64 (rd_T100 xs i).f0) ∧ w.cell? ⟨(ad.add (i.toNat * 2)).block, (ad.add (i.toNat * 2)).off + 1, none⟩ = some (.int .i64 (rd_T100 xs i).f1) := by
 obtain ⟨ad, c, e, _, hK, hc0⟩ := Kd.C_get h z100 i h0 h1
 have hc : ∀ j u, c[j]? = some u → w.cell? (ad.add (i.toNat * 2 + j)) = some u := hc0
 obtain rfl := k100_open hK
 exact ⟨ad, e, hc 0 _ rfl, by rw [← add_field _ _ 1 (by omega)]; exact hc 1 _ rfl⟩

def rd_L3 (xs : List (List S100)) (i : Int) : (List S100) := xs.getD i.toNat ([] : List S100)
theorem at_L3 {w : World} {A : Option Addr} {n : Nat} {xs : List (List S100)} (h : Kd.C (Kd.slice 100 k100) w A n xs) (i : Int) (h0 : 0 ≤ i) (h1 : i < n) : ∃ ad A0 c0, A = some ad ∧ w.cell? (ad.add i.toNat) = some (.slice A0 (rd_L3 xs i).length c0) ∧ (rd_L3 xs i).length ≤ c0 ∧ k100.C w A0 (rd_L3 xs i).length (rd_L3 xs i) := by
 obtain ⟨ad, c, e, _, hK, hc0⟩ := Kd.C_get h ([] : List S100) i h0 h1
 have hc : ∀ j u, c[j]? = some u → w.cell? (ad.add (i.toNat * 1 + j)) = some u := hc0
 obtain ⟨A0, c0, rfl, l0, g0⟩ := hK
 exact ⟨ad, A0, c0, e, by have hq := hc 0 _ rfl; rwa [Nat.mul_one, Nat.add_zero] at hq, l0, g0⟩

/-! #### struct type 94 -/
structure S94 where
 f0 : Bool
 f1 : (List S100)
def z94 : S94 := ⟨false, ([] : List S100)⟩
def k94 : Kd S94 := Kd.iso (Kd.pair Kd.bool (Kd.slice 100 k100)) (fun x : S94 => (x.f0, x.f1))
theorem k94_heap : Kd.Heap k94 := Kd.heap_iso _ (Kd.heap_pair Kd.heap_bool (Kd.heap_slice 100 k100_heap))
theorem k94_open {w : World} {x : S94} {cs : List Value} (h : k94.K w x cs) : ∃ A1 c1, cs = [.bool x.f0, .slice A1 x.f1.length c1] ∧ x.f1.length ≤ c1 ∧ k100.C w A1 x.f1.length x.f1 := by
 obtain ⟨_, _, rfl, rfl, ⟨A1, c1, rfl, l1, g1⟩⟩ := h
 exact ⟨A1, c1, rfl, l1, g1⟩
theorem k94_openM {w : World} {base : Nat} {ok : Nat → Prop} {x : S94} {cs : List Value} (h : k94.M w base ok x cs) : ∃ v1, cs = [.bool x.f0, v1] ∧ k100.R 100 w base ok v1 x.f1 := by
 obtain ⟨_, _, rfl, rfl, ⟨v1, rfl, g1⟩⟩ := h
 exact ⟨v1, rfl, g1⟩
theorem k94_mk (w : World) (x : S94) {A1 : Option Addr} {c1 : Nat} (l1 : x.f1.length ≤ c1) (g1 : k100.C w A1 x.f1.length x.f1) : k94.K w x [.bool x.f0, .slice A1 x.f1.length c1] := ⟨[.bool x.f0], [.slice A1 x.f1.length c1], rfl, rfl, ⟨A1, c1, rfl, l1, g1⟩⟩
theorem k94_mkM (w : World) (base : Nat) (ok : Nat → Prop) (x : S94) {v1 : Value} (g1 : k100.R 100 w base ok v1 x.f1) : k94.M w base ok x [.bool x.f0, v1] := ⟨[.bool x.f0], [v1], rfl, rfl, ⟨v1, rfl, g1⟩⟩
theorem k94_openF {W : World} {ok : Nat → Prop} {x : S94} {cs : List Value} (h : Kd.FK k94 W ok x cs) : ∃ A1 c1, cs = [.bool x.f0, .slice A1 x.f1.length c1] ∧ x.f1.length ≤ c1 ∧ Kd.F k100 W ok A1 x.f1.length x.f1 := by
 obtain ⟨A1, c1, rfl, l1, _⟩ := k94_open (Kd.FK_now h)
 exact ⟨A1, c1, rfl, l1, (fun W' hW => by obtain ⟨A1_, c1_, he, l1_, g1_⟩ := k94_open (h W' hW); injection (Option.some.inj (show some (Value.slice A1 x.f1.length c1) = some (Value.slice A1_ x.f1.length c1_) from congrArg (fun l => l[1]?) he)) with ha_ _ _; rw [ha_]; exact g1_)⟩
theorem k94_mkF (W : World) (ok : Nat → Prop) (x : S94) {A1 : Option Addr} {c1 : Nat} (l1 : x.f1.length ≤ c1) (g1 : Kd.F k100 W ok A1 x.f1.length x.f1) : Kd.FK k94 W ok x [.bool x.f0, .slice A1 x.f1.length c1] := fun W2 hW => k94_mk W2 x l1 (g1 W2 hW)
def rd_T94 (xs : List S94) (i : Int) : S94 := xs.getD i.toNat z94
theorem at_T94 {w : World} {A : Option Addr} {n : Nat} {xs : List S94} (h : Kd.C k94 w A n xs) (i : Int) (h0 : 0 ≤ i) (h1 : i < n) : ∃ ad A1 c1, A = some ad ∧ w.cell? (ad.add (i.toNat * 2)) = some (.bool (rd_T94 xs i).f0) ∧ w.cell? ⟨(ad.add (i.toNat * 2)).block, (ad.add (i.toNat * 2)).off + 1, none⟩ = some (.slice A1 (rd_T94 xs i).f1.length c1) ∧ (rd_T94 xs i).f1.length ≤ c1 ∧ k100.C w A1 (rd_T94 xs i).f1.length (rd_T94 xs i).f1 := by
 obtain ⟨ad, c, e, _, hK, hc0⟩ := Kd.C_get h z94 i h0 h1
 have hc : ∀ j u, c[j]? = some u → w.cell? (ad.add (i.toNat * 2 + j)) = some u := hc0
 obtain ⟨A1, c1, rfl, l1, g1⟩ := k94_open hK
 exact ⟨ad, A1, c1, e, hc 0 _ rfl, by rw [← add_field _ _ 1 (by omega)]; exact hc 1 _ rfl, l1, g1⟩

/-! #### struct type 117 -/
structure S117 where
 f0 : ByteArray
 f1 : Bool
 f2 : ByteArray
 f3 : ByteArray
 f4 : ByteArray
def z117 : S117 := ⟨(⟨#[]⟩ : ByteArray), false, (⟨#[]⟩ : ByteArray), (⟨#[]⟩ : ByteArray), (⟨#[]⟩ : ByteArray)⟩
def k117 : Kd S117 := Kd.iso (Kd.pair Kd.string (Kd.pair Kd.bool (Kd.pair Kd.string (Kd.pair Kd.string Kd.string)))) (fun x : S117 => (x.f0, x.f1, x.f2, x.f3, x.f4))
theorem k117_heap : Kd.Heap k117 := Kd.heap_iso _ (Kd.heap_pair Kd.heap_string (Kd.heap_pair Kd.heap_bool (Kd.heap_pair Kd.heap_string (Kd.heap_pair Kd.heap_string Kd.heap_string))))
theorem k117_open {w : World} {x : S117} {cs : List Value} (h : k117.K w x cs) : cs = [.string x.f0, .bool x.f1, .string x.f2, .string x.f3, .string x.f4] := by
 obtain ⟨_, _, rfl, rfl, ⟨_, _, rfl, rfl, ⟨_, _, rfl, rfl, ⟨_, _, rfl, rfl, rfl⟩⟩⟩⟩ := h
 exact rfl
theorem k117_openM {w : World} {base : Nat} {ok : Nat → Prop} {x : S117} {cs : List Value} (h : k117.M w base ok x cs) : cs = [.string x.f0, .bool x.f1, .string x.f2, .string x.f3, .string x.f4] := by
 obtain ⟨_, _, rfl, rfl, ⟨_, _, rfl, rfl, ⟨_, _, rfl, rfl, ⟨_, _, rfl, rfl, rfl⟩⟩⟩⟩ := h
 exact rfl
theorem k117_mk (w : World) (x : S117)  : k117.K w x [.string x.f0, .bool x.f1, .string x.f2, .string x.f3, .string x.f4] := ⟨[.string x.f0], [.bool x.f1, .string x.f2, .string x.f3, .string x.f4], rfl, rfl, ⟨[.bool x.f1], [.string x.f2, .string x.f3, .string x.f4], rfl, rfl, ⟨[.string x.f2], [.string x.f3, .string x.f4], rfl, rfl, ⟨[.string x.f3], [.string x.f4], rfl, rfl, rfl⟩⟩⟩⟩
theorem k117_mkM (w : World) (base : Nat) (ok : Nat → Prop) (x : S117)  : k117.M w base ok x [.string x.f0, .bool x.f1, .string x.f2, .string x.f3, .string x.f4] := ⟨[.string x.f0], [.bool x.f1, .string x.f2, .string x.f3, .string x.f4], rfl, rfl, ⟨[.bool x.f1], [.string x.f2, .string x.f3, .string x.f4], rfl, rfl, ⟨[.string x.f2], [.string x.f3, .string x.f4], rfl, rfl, ⟨[.string x.f3], [.string x.f4], rfl, rfl, rfl⟩⟩⟩⟩
theorem k117_mkF (W : World) (ok : Nat → Prop) (x : S117) : Kd.FK k117 W ok x [.string x.f0, .bool x.f1, .string x.f2, .string x.f3, .string x.f4] := fun W2 _ => k117_mk W2 x
def rd_T117 (xs : List S117) (i : Int) : S117 := xs.getD i.toNat z117
theorem at_T117 {w : World} {A : Option Addr} {n : Nat} {xs : List S117} (h : Kd.C k117 w A n xs) (i : Int) (h0 : 0 ≤ i) (h1 : i < n) : ∃ ad , A = some ad ∧ w.cell? (ad.add (i.toNat * 5)) = some (.string (rd_T117 xs i).f0) ∧ w.cell? ⟨(ad.add (i.toNat * 5)).block, (ad.add (i.toNat * 5)).off + 1, none⟩ = some (.bool (rd_T117 xs i).f1) ∧ w.cell? ⟨(ad.add (i.toNat * 5)).block, (ad.add (i.toNat * 5)).off + 2, none⟩ = some (.string (rd_T117 xs i).f2) ∧ w.cell? ⟨(ad.add (i.toNat * 5)).block, (ad.add (i.toNat * 5)).off + 3, none⟩ = some (.string (rd_T117 xs i).f3) ∧ w.cell? ⟨(ad.add (i.toNat * 5)).block, (ad.add (i.toNat * 5)).off + 4, none⟩ = some (.string (rd_T117 xs i).f4) := by
 obtain ⟨ad, c, e, _, hK, hc0⟩ := Kd.C_get h z117 i h0 h1
 have hc : ∀ j u, c[j]? = some u → w.cell? (ad.add (i.toNat * 5 + j)) = some u := hc0
 obtain rfl := k117_open hK
 exact ⟨ad, e, hc 0 _ rfl, by rw [← add_field _ _ 1 (by omega)]; exact hc 1 _ rfl, by rw [← add_field _ _ 2 (by omega)]; exact hc 2 _ rfl, by rw [← add_field _ _ 3 (by omega)]; exact hc 3 _ rfl, by rw [← add_field _ _ 4 (by omega)]; exact hc 4 _ rfl⟩

/-! #### struct type 110 -/
structure S110 where
 f0 : ByteArray
 f1 : ByteArray
def z110 : S110 := ⟨(⟨#[]⟩ : ByteArray), (⟨#[]⟩ : ByteArray)⟩
def k110 : Kd S110 := Kd.iso (Kd.pair Kd.string Kd.string) (fun x : S110 => (x.f0, x.f1))
theorem k110_heap : Kd.Heap k110 := Kd.heap_iso _ (Kd.heap_pair Kd.heap_string Kd.heap_string)
theorem k110_open {w : World} {x : S110} {cs : List Value} (h : k110.K w x cs) : cs = [.string x.f0, .string x.f1] := by
 obtain ⟨_, _, rfl, rfl, rfl⟩ := h
 exact rfl
theorem k110_openM {w : World} {base : Nat} {ok : Nat → Prop} {x : S110} {cs : List Value} (h : k110.M w base ok x cs) : cs = [.string x.f0, .string x.f1] := by
 obtain ⟨_, _, rfl, rfl, rfl⟩ := h
 exact rfl
theorem k110_mk (w : World) (x : S110)  : k110.K w x [.string x.f0, .string x.f1] := ⟨[.string x.f0], [.string x.f1], rfl, rfl, rfl⟩
theorem k110_mkM (w : World) (base : Nat) (ok : Nat → Prop) (x : S110)  : k110.M w base ok x [.string x.f0, .string x.f1] := ⟨[.string x.f0], [.string x.f1], rfl, rfl, rfl⟩
theorem k110_mkF (W : World) (ok : Nat → Prop) (x : S110) : Kd.FK k110 W ok x [.string x.f0, .string x.f1] := fun W2 _ => k110_mk W2 x
def rd_T110 (xs : List S110) (i : Int) : S110 := xs.getD i.toNat z110
theorem at_T110 {w : World} {A : Option Addr} {n : Nat} {xs : List S110} (h : Kd.C k110 w A n xs) (i : Int) (h0 : 0 ≤ i) (h1 : i < n) : ∃ ad , A = some ad ∧ w.cell? (ad.add (i.toNat * 2)) = some (.string (rd_T110 xs i).f0) ∧ w.cell? ⟨(ad.add (i.toNat * 2)).block, (ad.add (i.toNat * 2)).off + 1, none⟩ = some (.string (rd_T110 xs i).f1) := by
 obtain ⟨ad, c, e, _, hK, hc0⟩ := Kd.C_get h z110 i h0 h1
 have hc : ∀ j u, c[j]? = some u → w.cell? (ad.add (i.toNat * 2 + j)) = some u := hc0
 obtain rfl := k110_open hK
 exact ⟨ad, e, hc 0 _ rfl, by rw [← add_field _ _ 1 (by omega)]; exact hc 1 _ rfl⟩

def rd_L9 (xs : List (List ByteArray)) (i : Int) : (List ByteArray) := xs.getD i.toNat ([] : List ByteArray)
theorem at_L9 {w : World} {A : Option Addr} {n : Nat} {xs : List (List ByteArray)} (h : Kd.C (Kd.slice 9 Kd.string) w A n xs) (i : Int) (h0 : 0 ≤ i) (h1 : i < n) : ∃ ad A0 c0, A = some ad ∧ w.cell? (ad.add i.toNat) = some (.slice A0 (rd_L9 xs i).length c0) ∧ (rd_L9 xs i).length ≤ c0 ∧ Kd.string.C w A0 (rd_L9 xs i).length (rd_L9 xs i) := by
 obtain ⟨ad, c, e, _, hK, hc0⟩ := Kd.C_get h ([] : List ByteArray) i h0 h1
 have hc : ∀ j u, c[j]? = some u → w.cell? (ad.add (i.toNat * 1 + j)) = some u := hc0
 obtain ⟨A0, c0, rfl, l0, g0⟩ := hK
 exact ⟨ad, A0, c0, e, by have hq := hc 0 _ rfl; rwa [Nat.mul_one, Nat.add_zero] at hq, l0, g0⟩

theorem b0_ {p : Prop} (h : p := by repeat (first | (with_reducible first | exact HK.out | apply KeepBut.set_ | apply keep_drewN | apply keep_drew | apply keep_alloc) | exact HK.out)) : p := h
theorem b1_ {p : Prop} (h : p := by repeat (first | (with_reducible first | exact HB.out | apply below_alloc | apply pw_below_drewN | apply below_drew1 | refine below_set ?_ (IsS127.ge HI0.out)) | exact HB.out)) : p := h
theorem b2_ {p : Prop} (h : p := by repeat (first | (with_reducible first | exact HI0.out | apply IsS127.alloc | apply IsS127.drewN | apply IsS127.drew | apply IsS127.set_1) | exact HI0.out)) : p := h
theorem b3_ {p : Prop} (h : p := by repeat (first | (with_reducible first | exact HK.out | apply KeepBut.set_ | apply keep_drewN | apply keep_drew | apply keep_alloc | refine keep_far ?_ GW374.out _ | refine keep_far ?_ GW379.out _) | exact HK.out)) : p := h
theorem b4_ {p : Prop} (h : p := by repeat (first | (with_reducible first | exact HI0.out | apply IsS127.alloc | apply IsS127.drewN | apply IsS127.drew | apply IsS127.set_1 | refine IsS127.far ?_ NB0_374.out _ | refine IsS127.far ?_ NB0_379.out _) | exact HI0.out)) : p := h
theorem b5_ {p : Prop} (h : p := by repeat (first | (with_reducible first | exact HB.out | apply below_alloc | apply pw_below_drewN | apply below_drew1 | refine below_set ?_ (IsS127.ge HI0.out) | refine below_set ?_ GE374.out | refine below_set ?_ GE379.out) | exact HB.out)) : p := h
theorem b6_ {p : Prop} (h : p := by rw [if_neg (show ¬ (false = true) by decide)] at H; exact H) : p := h
theorem b7_ {p : Prop} (h : p := by rw [hg]; exact (below_size bel)) : p := h
theorem b8_ {p : Prop} (h : p := by rw [hg]; exact (keep_size (w := w) (g := g) (row := none) (by repeat (first | (with_reducible first | exact HK.out | apply KeepBut.set_ | apply keep_drewN | apply keep_drew | apply keep_alloc) | exact HK.out)))) : p := h
theorem b9_ {p : Prop} (h : p := by (with_reducible repeat (first | apply Kd.N_alloc | apply Kd.N_drewN | apply Kd.N_drew)); exact HO_3.out) : p := h
theorem b10_ {p : Prop} (h : p := by (with_reducible repeat (first | refine blk_drewN ?_ _ | refine blk_drew ?_ | refine blk_alloc ?_ _)); refine blk_put (cs := #[.int .i64 ((rd_T100 ((rd_T94 l0 x3_1).f1) x4_2).f0), .int .i64 0]) ?_ 1 _ rfl; (with_reducible repeat (first | refine blk_drewN ?_ _ | refine blk_drew ?_ | refine blk_alloc ?_ _)); refine blk_put (cs := #[.int .i64 0, .int .i64 0]) ?_ 0 _ rfl; (with_reducible repeat (first | refine blk_drewN ?_ _ | refine blk_drew ?_ | refine blk_alloc ?_ _)); exact BK192.out) : p := h
theorem b11_ {p : Prop} (h : p := by (with_reducible repeat (first | apply Kd.S_alloc | apply Kd.S_drewN | apply Kd.S_drew)); exact HO_5.out) : p := h
theorem b12_ {p : Prop} (h : p := by repeat (first | (with_reducible first | exact HK.out | apply KeepBut.set_ | apply keep_drewN | apply keep_drew | apply keep_alloc | refine keep_far ?_ GW363.out _) | exact HK.out)) : p := h
theorem b13_ {p : Prop} (h : p := by (with_reducible repeat (first | refine blk_drewN ?_ _ | refine blk_drew ?_ | refine blk_alloc ?_ _)); refine blk_put (cs := #[.int .i64 ((rd_T100 ((rd_T94 l0 x4_1).f1) x50_4).f0), .int .i64 0]) ?_ 1 _ rfl; (with_reducible repeat (first | refine blk_drewN ?_ _ | refine blk_drew ?_ | refine blk_alloc ?_ _)); refine blk_put (cs := #[.int .i64 0, .int .i64 0]) ?_ 0 _ rfl; (with_reducible repeat (first | refine blk_drewN ?_ _ | refine blk_drew ?_ | refine blk_alloc ?_ _)); exact BK111.out) : p := h
theorem b14_ {p : Prop} (h : p := by repeat (first | (with_reducible first | exact HB.out | apply below_alloc | apply pw_below_drewN | apply below_drew1 | refine below_set ?_ (IsS127.ge HI589.out)) | exact HB.out)) : p := h
theorem b15_ {p : Prop} (h : p := by (with_reducible repeat (first | apply Kd.S_alloc | apply Kd.S_drewN | apply Kd.S_drew)); exact HO551.out) : p := h
theorem b16_ {p : Prop} (h : p := by repeat (first | (with_reducible first | exact HB.out | apply below_alloc | apply pw_below_drewN | apply below_drew1 | refine below_set ?_ (IsS127.ge HI0.out) | refine below_set ?_ GE363.out) | exact HB.out)) : p := h
theorem b17_ {p : Prop} (h : p := by (with_reducible repeat (first | refine blk_drewN ?_ _ | refine blk_drew ?_ | refine blk_alloc ?_ _)); refine blk_far ?_ NB107_111.out _; (with_reducible repeat (first | refine blk_drewN ?_ _ | refine blk_drew ?_ | refine blk_alloc ?_ _)); refine blk_far ?_ NB107_111.out _; (with_reducible repeat (first | refine blk_drewN ?_ _ | refine blk_drew ?_ | refine blk_alloc ?_ _)); exact BK107.out) : p := h
theorem b18_ {p : Prop} (h : p := by repeat (first | (with_reducible exact HR523_0.out) | (with_reducible refine Kd.C_alloc ?_ _) | (with_reducible refine Kd.C_drewN ?_ _) | (with_reducible refine Kd.C_drew ?_) | exact HR523_0.out)) : p := h
theorem b19_ {p : Prop} (h : p := by repeat (first | (with_reducible first | exact HI0.out | apply IsS127.alloc | apply IsS127.drewN | apply IsS127.drew | apply IsS127.set_1 | refine IsS127.far ?_ NB0_363.out _) | exact HI0.out)) : p := h
theorem b20_ {p : Prop} (h : p := by have hq_ := Kd.F_in (Kd.V_at HO_0.out).2.2 rfl (by have a_ := of_eq_true p474; have b_ := of_eq_true q474; omega) (by decide); simp only [add_block]; first | exact hq_.2 | exact hq_.2.1 | exact hq_.2.2 | exact hq_.2.2.1 | exact hq_.2.2.2 | exact hq_.1.2 | exact hq_.1.2.1 | exact hq_.1.2.2 | grind) : p := h
theorem b21_ {p : Prop} (h : p := by rw [if_pos rfl] at H; exact H) : p := h
theorem b22_ {p : Prop} (h : p := by repeat (first | (with_reducible first | exact HI589.out | apply IsS127.alloc | apply IsS127.drewN | apply IsS127.drew | apply IsS127.set_1) | exact HI589.out)) : p := h
theorem b23_ {p : Prop} (h : p := by first | (rw [add_block]; exact Kd.own_blk (IsS127.own_neS HI0.out HO551.out (by decide))) | (show (Addr.add _ _).block ≠ _; rw [add_block]; exact Kd.own_blk (IsS127.own_neS HI0.out HO551.out (by decide))) | exact Kd.own_blk (IsS127.own_neS HI0.out HO551.out (by decide))) : p := h
theorem b24_ {p : Prop} (h : p := by (with_reducible repeat (first | refine blk_drewN ?_ _ | refine blk_drew ?_ | refine blk_alloc ?_ _)); refine blk_put (cs := #[.int .i64 ((rd_T100 ((rd_T94 l0 x7_1).f1) x39_3).f0), .int .i64 0]) ?_ 1 _ rfl; (with_reducible repeat (first | refine blk_drewN ?_ _ | refine blk_drew ?_ | refine blk_alloc ?_ _)); refine blk_put (cs := #[.int .i64 0, .int .i64 0]) ?_ 0 _ rfl; (with_reducible repeat (first | refine blk_drewN ?_ _ | refine blk_drew ?_ | refine blk_alloc ?_ _)); exact BK171.out) : p := h
theorem b25_ {p : Prop} (h : p := by have := HK1.out; have := HK2.out; omega) : p := h
theorem b26_ {p : Prop} (h : p := by first | (rw [add_block]; exact (fun e_ => ((HL559_1.out.1 _ e_.symm).2) rfl)) | (show some (Addr.add _ _).block ≠ _; rw [add_block]; exact (fun e_ => ((HL559_1.out.1 _ e_.symm).2) rfl)) | exact (fun e_ => ((HL559_1.out.1 _ e_.symm).2) rfl)) : p := h
theorem b27_ {p : Prop} (h : p := by have := HK1.out; first | omega | exact Nat.le_refl _) : p := h
theorem b28_ {p : Prop} (h : p := by (with_reducible repeat (first | apply Kd.S_alloc | apply Kd.S_drewN | apply Kd.S_drew)); exact HO_3.out) : p := h
theorem b29_ {p : Prop} (h : p := by (try simp only [hl3_22]); (try simp only [hl3_4]); (with_reducible repeat (first | apply Kd.R_alloc | apply Kd.R_drewN | apply Kd.R_drew)); exact HO_3.out) : p := h
theorem b30_ {p : Prop} (h : p := by repeat (first | (with_reducible first | exact HK.out | apply KeepBut.set_ | apply keep_drewN | apply keep_drew | apply keep_alloc | refine keep_far ?_ GW374.out _) | exact HK.out)) : p := h
theorem b31_ {p : Prop} (h : p := by (try simp only [hl3_22]); (try simp only [hl3_4]); (with_reducible repeat (first | refine blk_drewN ?_ _ | refine blk_drew ?_ | refine blk_alloc ?_ _)); exact BK107.out) : p := h
theorem b32_ {p : Prop} (h : p := by (with_reducible repeat (first | apply Kd.N_alloc | apply Kd.N_drewN | apply Kd.N_drew)); exact HO_4.out) : p := h
theorem b33_ {p : Prop} (h : p := by repeat (first | (with_reducible exact HR474_0.out) | (with_reducible refine Kd.C_alloc ?_ _) | (with_reducible refine Kd.C_drewN ?_ _) | (with_reducible refine Kd.C_drew ?_) | exact HR474_0.out)) : p := h
theorem b34_ {p : Prop} (h : p := by repeat (first | (with_reducible exact HR495_0.out) | (with_reducible refine Kd.C_alloc ?_ _) | (with_reducible refine Kd.C_drewN ?_ _) | (with_reducible refine Kd.C_drew ?_) | exact HR495_0.out)) : p := h
theorem b35_ {p : Prop} (h : p := by repeat (first | (with_reducible exact HR516_0.out) | (with_reducible refine Kd.C_alloc ?_ _) | (with_reducible refine Kd.C_drewN ?_ _) | (with_reducible refine Kd.C_drew ?_) | exact HR516_0.out)) : p := h
theorem b36_ {p : Prop} (h : p := by first | (rw [add_block]; exact hn627_0) | (show (Addr.add _ _).block ≠ _; rw [add_block]; exact hn627_0) | exact hn627_0) : p := h
theorem b37_ {p : Prop} (h : p := by first | (rw [add_block]; exact hn627_1) | (show (Addr.add _ _).block ≠ _; rw [add_block]; exact hn627_1) | exact hn627_1) : p := h
theorem b38_ {p : Prop} (h : p := by repeat (first | (with_reducible first | exact HK.out | apply KeepBut.set_ | apply keep_drewN | apply keep_drew | apply keep_alloc | refine keep_far ?_ GW345.out _) | exact HK.out)) : p := h
theorem b39_ {p : Prop} (h : p := by repeat (first | (with_reducible first | exact HK.out | apply KeepBut.set_ | apply keep_drewN | apply keep_drew | apply keep_alloc | refine keep_far ?_ GW368.out _) | exact HK.out)) : p := h
theorem b40_ {p : Prop} (h : p := by first | (rw [add_block]; exact Kd.own_blk (IsS127.own_neS HI0.out HO551.out (by decide))) | (show (Addr.add _ _).block ≠ _; rw [add_block]; exact Kd.own_blk (IsS127.own_neS HI0.out HO551.out (by decide))) | exact Kd.own_blk (IsS127.own_neS HI0.out HO551.out (by decide)) | (dsimp only; exact Kd.own_blk (IsS127.own_neS HI0.out HO551.out (by decide)))) : p := h
theorem b41_ {p : Prop} (h : p := by rw [hg]; exact Nat.ne_of_lt (IsS127.lt (show IsS127 w0 _ g s0_0 s0_1 from by repeat (first | (with_reducible first | exact HI0.out | apply IsS127.alloc | apply IsS127.drewN | apply IsS127.drew | apply IsS127.set_1) | exact HI0.out)))) : p := h
theorem b42_ {p : Prop} (h : p := by rw [hg]; exact Nat.ne_of_gt (IsS127.lt (show IsS127 w0 _ g s0_0 s0_1 from by repeat (first | (with_reducible first | exact HI0.out | apply IsS127.alloc | apply IsS127.drewN | apply IsS127.drew | apply IsS127.set_1) | exact HI0.out)))) : p := h
theorem b43_ {p : Prop} (h : p := by rw [hg]; exact Nat.ne_of_lt (IsS127.lt (show IsS127 w0 _ g s0_0 t362 from by repeat (first | (with_reducible first | exact HI0.out | apply IsS127.alloc | apply IsS127.drewN | apply IsS127.drew | apply IsS127.set_1) | exact HI0.out)))) : p := h
theorem b44_ {p : Prop} (h : p := by rw [hg]; exact Nat.ne_of_gt (IsS127.lt (show IsS127 w0 _ g s0_0 t362 from by repeat (first | (with_reducible first | exact HI0.out | apply IsS127.alloc | apply IsS127.drewN | apply IsS127.drew | apply IsS127.set_1) | exact HI0.out)))) : p := h
theorem b45_ {p : Prop} (h : p := by (try simp only [hl3_22]); (try simp only [hl3_4]); (with_reducible repeat (first | refine blk_drewN ?_ _ | refine blk_drew ?_ | refine blk_alloc ?_ _)); exact BK111.out) : p := h
theorem b46_ {p : Prop} (h : p := by rw [hg]; exact (below_size (by repeat (first | (with_reducible first | exact HBW.out | apply below_alloc | apply pw_below_drewN | apply below_drew1) | exact HBW.out)))) : p := h
theorem b47_ {p : Prop} (h : p := by (with_reducible repeat (first | apply Kd.N_alloc | apply Kd.N_drewN | apply Kd.N_drew)); exact HO477.out) : p := h
theorem b48_ {p : Prop} (h : p := by repeat (first | (with_reducible exact HR517_0.out) | (with_reducible refine Kd.C_alloc ?_ _) | (with_reducible refine Kd.C_drewN ?_ _) | (with_reducible refine Kd.C_drew ?_) | exact HR517_0.out)) : p := h
theorem b49_ {p : Prop} (h : p := by simp only [putAll, Act.put, List.setIfInBounds_toArray, List.set_cons_zero, List.set_cons_succ]) : p := h
theorem b50_ {p : Prop} (h : p := by first | (rw [hy528]; with_reducible exact H) | (have H2_ := bm H; rw [hy528]; with_reducible exact H2_) | (with_reducible exact bm H) | with_reducible exact H | (rw [hy528]; exact H) | exact H) : p := h
theorem b51_ {p : Prop} (h : p := by first | (rw [hy531]; with_reducible exact H) | (have H2_ := bm H; rw [hy531]; with_reducible exact H2_) | (with_reducible exact bm H) | with_reducible exact H | (rw [hy531]; exact H) | exact H) : p := h
theorem b52_ {p : Prop} (h : p := by repeat (first | (with_reducible first | exact HBW.out | apply below_alloc | apply pw_below_drewN | apply below_drew1) | exact HBW.out)) : p := h
theorem b53_ {p : Prop} (h : p := by (with_reducible repeat (first | apply Kd.N_alloc | apply Kd.N_drewN | apply Kd.N_drew)); exact HO473.out) : p := h
theorem b54_ {p : Prop} (h : p := by (with_reducible repeat (first | apply Kd.S_alloc | apply Kd.S_drewN | apply Kd.S_drew)); exact HO592.out) : p := h
theorem b55_ {p : Prop} (h : p := by (with_reducible repeat (first | apply Kd.S_alloc | apply Kd.S_drewN | apply Kd.S_drew)); exact HO631.out) : p := h
theorem b56_ {p : Prop} (h : p := by rw [hg]; exact (keep_size (w := w) (g := g) (row := none) (by repeat (first | (with_reducible first | exact HK.out | apply KeepBut.set_ | apply keep_drewN | apply keep_drew | apply keep_alloc | refine keep_far ?_ GW374.out _) | exact HK.out)))) : p := h
theorem b57_ {p : Prop} (h : p := by have h_ : (t553 : Int) < ((t549.length : Int) : Int) := of_decide_eq_true ad; first | exact h_ | (have e_ := (Kd.S_reads' HO551.out).1; omega) | simpa using h_) : p := h
theorem b58_ {p : Prop} (h : p := by have h_ : (t553 : Int) < ((t549.length : Int) : Int) := of_decide_eq_true ad; first | exact h_ | (have e_ := (HN32.out); omega) | simpa using h_) : p := h
theorem b59_ {p : Prop} (h : p := by first | omega | exact Nat.le_refl _) : p := h
theorem b60_ {p : Prop} (h : p := by have := HK1.out; have := HJ10.out; have := HJ22.out; have := HK4.out; first | omega | exact Nat.le_refl _) : p := h
theorem b61_ {p : Prop} (h : p := by repeat (first | (with_reducible first | exact HB.out | apply below_alloc | apply pw_below_drewN | apply below_drew1 | refine below_set ?_ (IsS127.ge HI0.out) | refine below_set ?_ GE345.out) | exact HB.out)) : p := h
theorem b62_ {p : Prop} (h : p := by repeat (first | (with_reducible first | exact HB.out | apply below_alloc | apply pw_below_drewN | apply below_drew1 | refine below_set ?_ (IsS127.ge HI0.out) | refine below_set ?_ GE368.out) | exact HB.out)) : p := h
theorem b63_ {p : Prop} (h : p := by (with_reducible repeat (first | apply Kd.N_alloc | apply Kd.N_drewN | apply Kd.N_drew)); exact Kd.N_mono HO_3.out (fun _ hk => hk.1)) : p := h
theorem b64_ {p : Prop} (h : p := by repeat (first | (with_reducible first | exact HI0.out | apply IsS127.alloc | apply IsS127.drewN | apply IsS127.drew | apply IsS127.set_1 | refine IsS127.far ?_ NB0_345.out _) | exact HI0.out)) : p := h
theorem b65_ {p : Prop} (h : p := by repeat (first | (with_reducible first | exact HI0.out | apply IsS127.alloc | apply IsS127.drewN | apply IsS127.drew | apply IsS127.set_1 | refine IsS127.far ?_ NB0_368.out _) | exact HI0.out)) : p := h
theorem b66_ {p : Prop} (h : p := by first | exact q523 | exact of_decide_eq_true ad | (have e_ := (Kd.N_reads' HO_4.out).1; omega)) : p := h
theorem b67_ {p : Prop} (h : p := by have := HK1.out; omega) : p := h
theorem b68_ {p : Prop} (h : p := by have := HJ2.out; have := HK2.out; have := HJ15.out; have := HK4.out; omega) : p := h
theorem b69_ {p : Prop} (h : p := by first | (rw [add_block]; exact Kd.S_lt HO551.out _ rfl) | (show (Addr.add _ _).block < _; rw [add_block]; exact Kd.S_lt HO551.out _ rfl) | exact Kd.S_lt HO551.out _ rfl) : p := h
theorem b70_ {p : Prop} (h : p := by (with_reducible repeat (first | apply Kd.N_alloc | apply Kd.N_drewN | apply Kd.N_drew)); exact Kd.N_mono HO_4.out (fun _ hk => ⟨⟨hk.1.1, ⟨hk.2, hk.1.2.2⟩⟩, hk.1.2.1⟩)) : p := h
theorem b71_ {p : Prop} (h : p := by (with_reducible repeat (first | apply Kd.N_alloc | apply Kd.N_drewN | apply Kd.N_drew)); exact Kd.N_mono HO_4.out (fun _ hk => ⟨hk.1.1, ⟨hk.1.2.1, hk.1.2.2⟩⟩)) : p := h
theorem b72_ {p : Prop} (h : p := by (with_reducible repeat (first | apply Kd.R_alloc | apply Kd.R_drewN | apply Kd.R_drew)); exact HO_3.out) : p := h
theorem b73_ {p : Prop} (h : p := by (with_reducible repeat (first | apply Kd.S_alloc | apply Kd.S_drewN | apply Kd.S_drew)); exact Kd.S_mono HO_5.out (fun k_ hk => ⟨hk.2, fun e_ => hk.1 e_⟩)) : p := h
theorem b74_ {p : Prop} (h : p := by (with_reducible repeat (first | apply Kd.N_alloc | apply Kd.N_drewN | apply Kd.N_drew)); exact Kd.N_mono HO477.out (fun _ hk => ⟨hk.1.1, ⟨hk.2, hk.1.2⟩⟩)) : p := h
theorem b75_ {p : Prop} (h : p := by (with_reducible repeat (first | apply Kd.S_alloc | apply Kd.S_drewN | apply Kd.S_drew)); exact Kd.S_mono HO551.out (fun k_ hk => ⟨trivial, fun e_ => e_⟩)) : p := h
theorem b76_ {p : Prop} (h : p := by have a_ := of_eq_true p474; have b_ := of_eq_true q474; omega) : p := h
theorem b77_ {p : Prop} (h : p := by (with_reducible repeat (first | apply Kd.N_alloc | apply Kd.N_drewN | apply Kd.N_drew)); exact Kd.N_mono HO_3.out (fun _ hk => ⟨hk.1.1, ⟨hk.2, hk.1.2⟩⟩)) : p := h
theorem b78_ {p : Prop} (h : p := by (with_reducible repeat (first | apply Kd.N_alloc | apply Kd.N_drewN | apply Kd.N_drew)); exact Kd.N_mono HO_4.out (fun _ hk => ⟨⟨hk.2.1, hk.2.2⟩, hk.1⟩)) : p := h
theorem b79_ {p : Prop} (h : p := by (with_reducible repeat (first | apply Kd.S_alloc | apply Kd.S_drewN | apply Kd.S_drew)); exact Kd.S_mono HO_5.out (fun _ hk => ⟨hk.2, hk.1⟩)) : p := h
theorem b80_ {p : Prop} (h : p := by rw [hg]; exact Nat.ne_of_lt (blk_lt (g := gb155) (o := .cells #[.bool a0_0, .slice (some ad156) l0_1.length c0_1] 94 (0, 0)) (bq BK155.out))) : p := h
theorem b81_ {p : Prop} (h : p := by rw [hg]; exact Nat.ne_of_gt (blk_lt (g := gb155) (o := .cells #[.bool a0_0, .slice (some ad156) l0_1.length c0_1] 94 (0, 0)) (bq BK155.out))) : p := h
theorem b82_ {p : Prop} (h : p := by have := HJ2.out; have := HK2.out; first | omega | exact Nat.le_refl _) : p := h
theorem b83_ {p : Prop} (h : p := by (with_reducible repeat (first | apply Kd.S_alloc | apply Kd.S_drewN | apply Kd.S_drew)); exact Kd.S_mono HO533.out (fun _ hk => trivial)) : p := h
theorem b84_ {p : Prop} (h : p := by (with_reducible repeat (first | apply Kd.V_alloc | apply Kd.V_drewN | apply Kd.V_drew)); exact Kd.V_mono HO_3.out (fun _ hk => hk.1)) : p := h
theorem b85_ {p : Prop} (h : p := by (with_reducible repeat (first | apply Kd.N_alloc | apply Kd.N_drewN | apply Kd.N_drew)); exact Kd.N_mono HO_4.out (fun _ hk => hk.2)) : p := h
theorem b86_ {p : Prop} (h : p := by have := HK1.out; have := HJ8.out; have := HK3.out; omega) : p := h
theorem b87_ {p : Prop} (h : p := by have := HK1.out; have := HK2.out; have := HK3.out; omega) : p := h
theorem b88_ {p : Prop} (h : p := by have := HJ2.out; have := HK2.out; have := HJ19.out; have := HK4.out; omega) : p := h
theorem b89_ {p : Prop} (h : p := by have := HJ5.out; have := HK2.out; have := HJ18.out; have := HK4.out; omega) : p := h
theorem b90_ {p : Prop} (h : p := by have := HK1.out; have := HK2.out; first | omega | exact Nat.le_refl _) : p := h
theorem b91_ {p : Prop} (h : p := by rw [hg]; exact (below_size (bel1 GE155.out))) : p := h
-- shrunk

theorem eqA117 (d : Nat) (w : World) (x0 y0 : ByteArray) (x1 y1 : Bool) (x2 y2 : ByteArray) (x3 y3 : ByteArray) (x4 y4 : ByteArray) :
  (Op.equalIn (d + 2) 117 (.agg #[.string x0, .bool x1, .string x2, .string x3, .string x4]) (.agg #[.string y0, .bool y1, .string y2, .string y3, .string y4])).run Try.prog w = .ok (x0.toList == y0.toList && (x1 == y1 && (x2.toList == y2.toList && (x3.toList == y3.toList && (x4.toList == y4.toList))))) w := by
 refine eqA_of Try.underlying117 (by kernel_rfl) ?_
 refine eqf_cons (by rfl) (by go_simp; rfl) (by go_simp; rfl) (by go_simp) ?_
 refine eqf_cons (by rfl) (by go_simp; rfl) (by go_simp; rfl) (by go_simp) ?_
 refine eqf_cons (by rfl) (by go_simp; rfl) (by go_simp; rfl) (by go_simp) ?_
 refine eqf_cons (by rfl) (by go_simp; rfl) (by go_simp; rfl) (by go_simp) ?_
 exact eqf_last (by rfl) (by go_simp; rfl) (by go_simp; rfl) (by go_simp)
-- shrunk

/-! ### impl_within: function 81 -/
def impl_within.f (a0 : Int) (a1 : Int) (a2 : Int) : Option (Bool) := if a0 ≥ a1 then (some (decide (a0 ≤ a2))) else (some false)
theorem impl_within.calls (a0 : Int) (a1 : Int) (a2 : Int) (r : Bool) (w : World) (h : impl_within.f a0 a1 a2 = some r) :
  Calls Try.prog 81 #[.int .i64 a0, .int .i64 a1, .int .i64 a2] w fun e w' => e = .returned (.bool r) ∧ Drawn0 w w' := by
 have H : (if a0 ≥ a1 then (some (decide (a0 ≤ a2))) else (some false)) = some r := h
 clear h
 by_cases c4 : a0 ≥ a1
 ·rw [if_pos c4] at H; have c4b0 := decide_eq_true c4; clear c4; obtain rfl := Option.some.inj H; go_enter Try.func81, Try.ntmps81; go_wp2; go_ret
  exact ⟨sq, dr⟩
 rw [if_neg c4] at H; have c4b0 := decide_eq_false c4; clear c4; obtain rfl := Option.some.inj H; go_enter Try.func81, Try.ntmps81; go_wp2; go_ret
 exact ⟨sq, dr⟩
-- shrunk

/-! ### impl_MachineOk: function 44 -/
mutual
def impl_MachineOk.l0 : Nat → List (S94) → List Int → Int → Option (Bool)
 | 0, _, _, _ => none
 | k + 1, x0, x3, x4 => if x4 ≥ 0 then (if 0 ≤ x4 then (if x4 < (x0.length : Int) then (if x4 > 0 then (if ((rd_T94 x0 x4).f0 = true) then (impl_MachineOk.j1 k x0 x3 x4 false ((rd_T94 x0 x4).f0) ((rd_T94 x0 x4).f1)) else (impl_MachineOk.j1 k x0 x3 x4 ((((rd_T94 x0 x4).f1).length : Int) == 0) ((rd_T94 x0 x4).f0) ((rd_T94 x0 x4).f1))) else (impl_MachineOk.j1 k x0 x3 x4 false ((rd_T94 x0 x4).f0) ((rd_T94 x0 x4).f1))) else (none)) else (none)) else (if 0 < (x3.length : Int) then (some (decide ((rd x3 0) ≤ 12))) else (none))
def impl_MachineOk.j1 : Nat → List (S94) → List Int → Int → Bool → Bool → List (S100) → Option (Bool)
 | 0, _, _, _, _, _, _ => none
 | k + 1, x0, x3, x4, x38, x108000, x108001 => if x38 = true then (some false) else (if 0 ≤ x4 then (if x4 < (x3.length : Int) then ((some (x3.set (x4 : Int).toNat (-1) : List Int)).bind fun y108 => (if x108000 = true then (impl_MachineOk.j2 k x0 (y108.set (x4 : Int).toNat 0) x4 x108000 x108001) else (impl_MachineOk.j2 k x0 y108 x4 x108000 x108001))) else (none)) else (none))
def impl_MachineOk.j2 : Nat → List (S94) → List Int → Int → Bool → List (S100) → Option (Bool)
 | 0, _, _, _, _, _ => none
 | k + 1, x0, x3, x4, x108000, x108001 => impl_MachineOk.l1 k x0 x3 x4 x108001 (x108001.length : Int) 0 x108000 x108001
def impl_MachineOk.l1 : Nat → List (S94) → List Int → Int → List (S100) → Int → Int → Bool → List (S100) → Option (Bool)
 | 0, _, _, _, _, _, _, _, _ => none
 | k + 1, x0, x3, x4, x48, x49, x50, x108000, x108001 => if x50 < x49 then (if 0 ≤ x50 then (if x50 < (x48.length : Int) then ((impl_within.f ((rd_T100 x48 x50).f0) 97 122).bind fun t112 => (if t112 = true then (if x50 > 0 then (if 0 ≤ (wrap64 (x50 - 1)) then (if (wrap64 (x50 - 1)) < (x108001.length : Int) then (if ((rd_T100 x108001 (wrap64 (x50 - 1))).f0) ≥ ((rd_T100 x48 x50).f0) then (impl_MachineOk.j4 k x0 x3 x4 x48 x49 x50 true x108000 x108001 ((rd_T100 x48 x50).f0) ((rd_T100 x48 x50).f1)) else ((impl_within.f ((rd_T100 x48 x50).f1) (wrap64 (x4 + 1)) (wrap64 ((x0.length : Int) - 1))).bind fun t114 => (impl_MachineOk.j4 k x0 x3 x4 x48 x49 x50 (!t114) x108000 x108001 ((rd_T100 x48 x50).f0) ((rd_T100 x48 x50).f1)))) else (none)) else (none)) else ((impl_within.f ((rd_T100 x48 x50).f1) (wrap64 (x4 + 1)) (wrap64 ((x0.length : Int) - 1))).bind fun t115 => (impl_MachineOk.j4 k x0 x3 x4 x48 x49 x50 (!t115) x108000 x108001 ((rd_T100 x48 x50).f0) ((rd_T100 x48 x50).f1)))) else (impl_MachineOk.j4 k x0 x3 x4 x48 x49 x50 true x108000 x108001 ((rd_T100 x48 x50).f0) ((rd_T100 x48 x50).f1)))) else (none)) else (none)) else (impl_MachineOk.l0 k x0 x3 (wrap64 (x4 - 1)))
def impl_MachineOk.j4 : Nat → List (S94) → List Int → Int → List (S100) → Int → Int → Bool → Bool → List (S100) → Int → Int → Option (Bool)
 | 0, _, _, _, _, _, _, _, _, _, _, _ => none
 | k + 1, x0, x3, x4, x48, x49, x50, x85, x108000, x108001, x112000, x112001 => if x85 = true then (some false) else (if 0 ≤ x112001 then (if x112001 < (x3.length : Int) then (if (rd x3 x112001) ≥ 0 then (if 0 ≤ x4 then (if x4 < (x3.length : Int) then (impl_MachineOk.l1 k x0 (x3.set (x4 : Int).toNat (mx (rd x3 x4) (wrap64 ((rd x3 x112001) + 1)))) x4 x48 x49 (wrap64 (x50 + 1)) x108000 x108001) else (none)) else (none)) else (impl_MachineOk.l1 k x0 x3 x4 x48 x49 (wrap64 (x50 + 1)) x108000 x108001)) else (none)) else (none))
end
def impl_MachineOk.f (k : Nat) (l0 : List (S94)) : Option (Bool) := (impl_within.f (l0.length : Int) 1 400).bind fun t101 => (if t101 = true then (if 0 ≤ (l0.length : Int) then (if l0.length ≤ 35184372088832 then (impl_MachineOk.l0 k l0 (List.replicate l0.length 0) (wrap64 ((l0.length : Int) - 1))) else (none)) else (none)) else (some false))
def impl_MachineOk.T16 : Bool × List (List Nat × List Nat) := (true, [([], []), ([0], [0]), ([1], [1]), ([2], [2]), ([3, 2], [3]), ([4], [4]), ([5, 4], [4, 5]), ([6, 4, 4], [4, 6]), ([7], [7]), ([8, 7], [7, 8]), ([7], [7]), ([10, 7], [7, 10]), ([9, 11, 7], [7, 9, 11]), ([12, 7], [7, 12]), ([13, 7], [7, 13]), ([7], [7]), ([15, 7], [7, 15]), ([14, 16, 7], [7, 14, 16]), ([7, 17, 4], [4, 7, 17]), ([4, 18], [4, 18]), ([19, 7], [19]), ([20], [20]), ([21, 20], [20, 21]), ([20], [20]), ([23, 20], [20, 23]), ([20], [20]), ([25, 20], [20, 25]), ([26, 20], [20, 26]), ([22, 24, 27, 20, 20], [20, 22, 24, 27]), ([28, 20], [20, 28]), ([20, 29], [20, 29])])
def impl_MachineOk.B16 : List Nat := [0, 1, 3, 7, 15, 31, 63, 127, 255, 511, 255, 1279, 4095, 8191, 16383, 255, 33023, 131071, 262143, 524287, 1048575, 2097151, 4194303, 2097151, 10485759, 2097151, 35651583, 102760447, 268435455, 536870911, 1073741823]
theorem impl_MachineOk.tab16 : rtab .any (opsOf Try.f44 16) = impl_MachineOk.T16 := by kernel_rfl
theorem impl_MachineOk.bits16 : waitsOk impl_MachineOk.T16.2 impl_MachineOk.B16 = true := by kernel_rfl
def impl_MachineOk.T19 : Bool × List (List Nat × List Nat) := (true, [([], []), ([], []), ([], []), ([], []), ([2, 3], [2, 3]), ([4], [4]), ([], []), ([], []), ([7], [7]), ([6, 8], [6, 8]), ([9], [9]), ([10], [10]), ([5, 11], [5, 11]), ([0, 1, 0, 1, 2, 3, 4, 5, 6, 7, 8, 9, 10, 11, 12], [0, 1]), ([13, 12, 0, 1, 2, 3, 4, 5, 6, 7, 8, 9, 10, 11, 12], [12, 13])])
def impl_MachineOk.B19 : List Nat := [0, 0, 0, 0, 12, 28, 0, 0, 128, 448, 960, 1984, 4092, 8191, 16383]
theorem impl_MachineOk.tab19 : rtab .any (opsOf Try.f44 19) = impl_MachineOk.T19 := by kernel_rfl
theorem impl_MachineOk.bits19 : waitsOk impl_MachineOk.T19.2 impl_MachineOk.B19 = true := by kernel_rfl
theorem impl_MachineOk.calls (k : Nat) (A0 : Option Addr) (c0 : Nat) (l0 : List (S94)) (r : Bool) (w : World) (hr0 : Kd.C k94 w A0 l0.length l0) (hc0 : l0.length ≤ c0) (h : impl_MachineOk.f k l0 = some r) :
  Calls Try.prog 44 #[.slice A0 l0.length c0] w fun e w' => e = .returned (.bool r) ∧ Below w.heap.size w w' := by
 have hu94 := Try.underlying94; have hu100 := Try.underlying100; have HR0 := am hr0; have HC0 := am hc0; clear hr0 hc0; have HB := am (Below.refl w.heap.size w)
 have H : ((impl_within.f (l0.length : Int) 1 400).bind fun t101 => (if t101 = true then (if 0 ≤ (l0.length : Int) then (if l0.length ≤ 35184372088832 then (impl_MachineOk.l0 k l0 (List.replicate l0.length 0) (wrap64 ((l0.length : Int) - 1))) else (none)) else (none)) else (some false))) = some r := h
 clear h; replace H := bs H; obtain ⟨t101, A20, H⟩ := H; replace H : (if t101 = true then (if 0 ≤ (l0.length : Int) then (if l0.length ≤ 35184372088832 then (impl_MachineOk.l0 k l0 (List.replicate l0.length 0) (wrap64 ((l0.length : Int) - 1))) else (none)) else (none)) else (some false)) = some r := H; have A2 := Aside0.mk A20; clear A20
 by_cases c3 : t101 = true
 ·subst c3
  have H1 : (if 0 ≤ (l0.length : Int) then (if l0.length ≤ 35184372088832 then (impl_MachineOk.l0 k l0 (List.replicate l0.length 0) (wrap64 ((l0.length : Int) - 1))) else (none)) else (none)) = some r := b21_
  replace H := H1; clear H1
  replace H := ip H; obtain ⟨c4, H⟩ := H; have c4b0 := eq_true c4
  have c4b1 : decide (0 ≤ (l0.length : Int)) = true := decide_eq_true c4
  clear c4
  replace H := ip H; obtain ⟨c5, H⟩ := H; have c5b0 := eq_true c5
  have c5b1 : decide (l0.length ≤ 35184372088832) = true := decide_eq_true c5
  clear c5; obtain ⟨y102, hy102⟩ : ∃ y_ : List Int, y_ = (List.replicate l0.length 0) := ⟨_, rfl⟩
  replace H : (impl_MachineOk.l0 k l0 y102 (wrap64 ((l0.length : Int) - 1))) = some r := by first | (rw [hy102]; with_reducible exact H) | (have H2_ := bm H; rw [hy102]; with_reducible exact H2_) | (with_reducible exact bm H) | with_reducible exact H | (rw [hy102]; exact H) | exact H
  have Ny102 := am hy102; clear hy102
  have H' := am H
  clear H; go_enter Try.func44, Try.ntmps44
  go_wp2_with (first | ((with_reducible refine gate_callee (f := 81) rfl ?_); refine goesL_ (some 10) rfl rfl Try.func81 (by kernel_rfl) rfl #[.int .i64 (l0.length : Int), .int .i64 1, .int .i64 400] rfl mq ?_; (with_reducible refine (impl_within.calls (l0.length : Int) 1 400 true _ A2.out).mono ?_); rintro e w' ⟨rfl, ⟨nd, rfl⟩⟩; refine ⟨_, rfl, ?_⟩) | ((with_reducible refine gate_dst (N := 14) rfl ?_); (try (refine gate_guard (by rfl) ?_; dsimp only)); refine Kd.R_make (Kd.int .i64) _ 3 rfl (N := 14) rfl 86 _ _ rfl (l0.length : Int) rfl rfl Try.underlying86 (.int .i64 0) 8 info3 rfl (by decide) (by omega) 0 (ok := fun _ => True) (okp := fun _ => True) rfl (fun _ hk => hk) trivial (of_decide_eq_true ad) (Nat.le_trans (Nat.mul_le_mul_right _ (of_decide_eq_true ad : (l0.length : Int).toNat ≤ 35184372088832)) (by omega)) (Below.refl _ _) (Nat.le_refl _) ?_; intro v103 w6 ho7 hb hg_ hnew_; clear hg_ hnew_; (first | rw [← Ny102.out] at ho7 | (simp only [Int.reduceToNat] at ho7; rw [← Ny102.out] at ho7) | (simp only [Int.toNat_natCast] at ho7; rw [← Ny102.out] at ho7)); have HO104 := am (Kd.R_lower ho7 (below_size bel)); replace HB := am (below_step bel hb); clear hb ho7))
  go_loopg [4] k (fun kq v4 w' => ∃ (x3_1 : List Int) (x4_1 : Int), v4 = .int .i64 x4_1 ∧ Aside0 (impl_MachineOk.l0 kq l0 x3_1 x4_1 = some r) ∧ Aside0 (kq ≤ k) ∧ Aside0 (Kd.R (Kd.int .i64) 3 w' w.heap.size (fun _ => True) v103 x3_1) ∧ Aside0 (Below w.heap.size w w'))
  case atStart => exact ⟨(y102), (wrap64 ((l0.length : Int) - 1)), sq, H', ⟨Nat.le_refl _⟩, ⟨rq HO104.out⟩, ⟨bel⟩⟩
  case round =>
   clear H'; (try clear p2); (try clear c3); (try clear c4); (try clear c4b0); (try clear c4b1); (try clear c5); (try clear c5b0); (try clear c5b1); (try clear p6); obtain ⟨x3_1, x4_1, rfl, HA, HK1, HO_3, HB⟩ := hrel
   cases gk with
   | zero => exact absurd HA.out (by simp [impl_MachineOk.l0])
   | succ k1 =>
    have H := HA.out; clear HA
    simp only [impl_MachineOk.l0] at H
    by_cases c8 : x4_1 ≥ 0
    ·rw [if_pos c8] at H; have c8b0 := decide_eq_true c8; clear c8
     replace H := it H; obtain ⟨c9b0, H⟩ := H
     replace H := it H; obtain ⟨c10b0, H⟩ := H; have HC11 := am H; clear H
     have p106 : 0 ≤ (x4_1 : Int) := of_decide_eq_true ad
     have q106 : x4_1 < (l0.length : Int) := of_decide_eq_true ad
     obtain ⟨ad106, A106_1, c106_1, e106, hx106_0, hx106_1, hl106_1, hi106_1⟩ := at_T94 HR0.out x4_1 p106 q106
     cases e106
     replace hx106_0 := kp HB.out hx106_0; replace hx106_1 := kp HB.out hx106_1; have HR106_1 := am hi106_1; have HC106_1 := am hl106_1; clear hi106_1 hl106_1; replace p106 := eq_true p106; replace q106 := eq_true q106
     go_upto_region 8 with (first | ((with_reducible refine gate_dst (N := 5) rfl ?_); (try (refine gate_guard (by rfl) ?_; dsimp only)); refine bx 5 (cs := #[.bool false, .slice none 0 0]) (t := 94) ?_; intro gb107 hg w12 hbox hb; replace HO_3 := am (Kd.R_below (rq HO_3.out) hb); have BK107 := am (hbox); have GW107 := am ((b7_ : w.heap.size ≤ gb107)); have GE107 := am ((b7_ : w.heap.size ≤ gb107)); replace HB := am (below_step bel hb); clear hb hbox hg; have hcz13_0 := bc BK107.out 0; have hcz13_1 := bc BK107.out 1; have hfz13_0 := bf BK107.out 0; have hfz13_1 := bf BK107.out 1))
     (try simp only [Act.put, List.setIfInBounds_toArray, List.set_cons_zero, List.set_cons_succ])
     go_cut [38] (fun v38 wc => ∃ (kq : Nat) (x38_10 : Bool), v38 = .bool x38_10 ∧ Aside0 (impl_MachineOk.j1 kq l0 x3_1 x4_1 x38_10 ((rd_T94 l0 x4_1).f0) ((rd_T94 l0 x4_1).f1) = some r) ∧ Aside0 (kq ≤ k1) ∧ Aside0 (Kd.R (Kd.int .i64) 3 wc w.heap.size (fun _ => True) v103 x3_1) ∧ Aside0 (wc.heap[gb107]? = some (.cells #[.bool ((rd_T94 l0 x4_1).f0), (.slice A106_1 ((rd_T94 l0 x4_1).f1).length c106_1)] 94 (0, 0))) ∧ Aside0 (Below w.heap.size w wc))
     case first =>
      have H := HC11.out; clear HC11
      by_cases c14 : x4_1 > 0
      ·rw [if_pos c14] at H; have c14b0 := decide_eq_true c14; clear c14
       (first | rw [c14b0] | (simp only [i64_w, i32_w]; rw [c14b0]) | skip)
       obtain ⟨bq15, hbq15⟩ : ∃ b_ : Bool, b_ = ((rd_T94 l0 x4_1).f0) := ⟨_, rfl⟩
       replace H : (if (bq15 = true) then (impl_MachineOk.j1 k1 l0 x3_1 x4_1 false bq15 ((rd_T94 l0 x4_1).f1)) else (impl_MachineOk.j1 k1 l0 x3_1 x4_1 ((((rd_T94 l0 x4_1).f1).length : Int) == 0) bq15 ((rd_T94 l0 x4_1).f1))) = some r := by rw [← hbq15] at H; exact H
       have Nbq15 := am hbq15; clear hbq15
       by_cases c16 : (bq15 = true)
       ·subst c16
        (try rw [← Nbq15.out] at hx106_0)
        (try rw [← Nbq15.out])
        have H1 : (impl_MachineOk.j1 k1 l0 x3_1 x4_1 false true ((rd_T94 l0 x4_1).f1)) = some r := b21_
        replace H := H1; clear H1
        have H' := am H
        clear H; have hcz17_0 := bc BK107.out 0; have hcz17_1 := bc BK107.out 1; have hfz17_0 := bf BK107.out 0; have hfz17_1 := bf BK107.out 1; go_wp2
        go_meet
        case rel => (try rw [← Nbq15.out]); exact ⟨_, (false), sq, H', ⟨b27_⟩, ⟨rq (Kd.R_mono (Kd.R_far (p := ⟨gb107, 1, none⟩) (Kd.R_far (p := ⟨gb107, 0, none⟩) (Kd.R_types HO_3.out BK107.out (by decide)) (fun _ hk => hk.2) (.bool (true))) (fun _ hk => hk.2) (.slice A106_1 ((rd_T94 l0 x4_1).f1).length c106_1)) (fun _ hk => trivial))⟩, ⟨by (with_reducible repeat (first | refine blk_drewN ?_ _ | refine blk_drew ?_ | refine blk_alloc ?_ _)); refine blk_put (cs := #[.bool (true), .slice none 0 0]) ?_ 1 _ rfl; (with_reducible repeat (first | refine blk_drewN ?_ _ | refine blk_drew ?_ | refine blk_alloc ?_ _)); refine blk_put (cs := #[.bool false, .slice none 0 0]) ?_ 0 _ rfl; (with_reducible repeat (first | refine blk_drewN ?_ _ | refine blk_drew ?_ | refine blk_alloc ?_ _)); exact BK107.out⟩, ⟨bel1 GE107.out⟩⟩
       replace c16 := Bool.eq_false_iff.mpr c16; subst c16
       (try rw [← Nbq15.out] at hx106_0)
       (try rw [← Nbq15.out])
       have H1 : (impl_MachineOk.j1 k1 l0 x3_1 x4_1 ((((rd_T94 l0 x4_1).f1).length : Int) == 0) false ((rd_T94 l0 x4_1).f1)) = some r := b6_
       replace H := H1; clear H1
       have H' := am H
       clear H; have hcz18_0 := bc BK107.out 0; have hcz18_1 := bc BK107.out 1; have hfz18_0 := bf BK107.out 0; have hfz18_1 := bf BK107.out 1; go_wp2
       go_meet
       case rel => (try rw [← Nbq15.out]); exact ⟨_, (((((rd_T94 l0 x4_1).f1).length : Int) == 0)), sq, H', ⟨b27_⟩, ⟨rq (Kd.R_mono (Kd.R_far (p := ⟨gb107, 1, none⟩) (Kd.R_far (p := ⟨gb107, 0, none⟩) (Kd.R_types HO_3.out BK107.out (by decide)) (fun _ hk => hk.2) (.bool (false))) (fun _ hk => hk.2) (.slice A106_1 ((rd_T94 l0 x4_1).f1).length c106_1)) (fun _ hk => trivial))⟩, ⟨by (with_reducible repeat (first | refine blk_drewN ?_ _ | refine blk_drew ?_ | refine blk_alloc ?_ _)); refine blk_put (cs := #[.bool (false), .slice none 0 0]) ?_ 1 _ rfl; (with_reducible repeat (first | refine blk_drewN ?_ _ | refine blk_drew ?_ | refine blk_alloc ?_ _)); refine blk_put (cs := #[.bool false, .slice none 0 0]) ?_ 0 _ rfl; (with_reducible repeat (first | refine blk_drewN ?_ _ | refine blk_drew ?_ | refine blk_alloc ?_ _)); exact BK107.out⟩, ⟨bel1 GE107.out⟩⟩
      rw [if_neg c14] at H; have c14b0 := decide_eq_false c14; clear c14
      (first | rw [c14b0] | (simp only [i64_w, i32_w]; rw [c14b0]) | skip)
      have H' := am H
      clear H; go_wp2
      go_meet
      case rel => exact ⟨_, (false), sq, H', ⟨b27_⟩, ⟨rq (Kd.R_mono (Kd.R_far (p := ⟨gb107, 1, none⟩) (Kd.R_far (p := ⟨gb107, 0, none⟩) (Kd.R_types HO_3.out BK107.out (by decide)) (fun _ hk => hk.2) (.bool ((rd_T94 l0 x4_1).f0))) (fun _ hk => hk.2) (.slice A106_1 ((rd_T94 l0 x4_1).f1).length c106_1)) (fun _ hk => trivial))⟩, ⟨by (with_reducible repeat (first | refine blk_drewN ?_ _ | refine blk_drew ?_ | refine blk_alloc ?_ _)); refine blk_put (cs := #[.bool ((rd_T94 l0 x4_1).f0), .slice none 0 0]) ?_ 1 _ rfl; (with_reducible repeat (first | refine blk_drewN ?_ _ | refine blk_drew ?_ | refine blk_alloc ?_ _)); refine blk_put (cs := #[.bool false, .slice none 0 0]) ?_ 0 _ rfl; (with_reducible repeat (first | refine blk_drewN ?_ _ | refine blk_drew ?_ | refine blk_alloc ?_ _)); exact BK107.out⟩, ⟨bel1 GE107.out⟩⟩
     case rest =>
      clear HC11; (try clear c1); (try clear p1); (try clear q1); (try clear hx1); (try clear p2); (try clear c3); (try clear c4); (try clear c4b0); (try clear c4b1); (try clear c5); (try clear c5b0); (try clear c5b1); (try clear p6); (try clear c8); (try clear c8b0); (try clear c9); (try clear c9b0); (try clear c10); (try clear c10b0); (try clear p10); (try clear q10); (try clear hx10); (try clear c14); (try clear c14b0); (try clear q15); (try clear c16); (try clear hcz13_0); (try clear hcz13_1); (try clear hcz17_0); (try clear hcz17_1); (try clear hcz18_0); (try clear hcz18_1); (try clear hfz13_0); (try clear hfz13_1); (try clear hfz17_0); (try clear hfz17_1); (try clear hfz18_0); (try clear hfz18_1); (try clear hx106_0); (try clear hx106_1); (try clear p106); (try clear p2); (try clear p6); (try clear q106); obtain ⟨kq, x38_10, rfl, HA, HJ10, HO_3, BK107, HB⟩ := hcut
      cases kq with
      | zero => exact absurd HA.out (by simp [impl_MachineOk.j1])
      | succ kj10 =>
       have H := HA.out; clear HA
       simp only [impl_MachineOk.j1] at H
       by_cases c19 : x38_10 = true
       ·subst c19
        have H1 : (some false) = some r := b21_
        replace H := H1; clear H1
        obtain rfl := Option.some.inj H; go_wp2; go_ret
        exact ⟨eq_, bel1 GE107.out⟩
       replace c19 := Bool.eq_false_iff.mpr c19; subst c19
       have H1 : (if 0 ≤ x4_1 then (if x4_1 < (x3_1.length : Int) then ((some (x3_1.set (x4_1 : Int).toNat (-1) : List Int)).bind fun y108 => (if ((rd_T94 l0 x4_1).f0) = true then (impl_MachineOk.j2 kj10 l0 (y108.set (x4_1 : Int).toNat 0) x4_1 ((rd_T94 l0 x4_1).f0) ((rd_T94 l0 x4_1).f1)) else (impl_MachineOk.j2 kj10 l0 y108 x4_1 ((rd_T94 l0 x4_1).f0) ((rd_T94 l0 x4_1).f1)))) else (none)) else (none)) = some r := b6_
       replace H := H1; clear H1
       replace H := it H; obtain ⟨c20b0, H⟩ := H
       replace H := it H; obtain ⟨c21b0, H⟩ := H; obtain ⟨y108, hy108⟩ : ∃ y_ : List Int, y_ = (x3_1.set (x4_1 : Int).toNat (-1)) := ⟨_, rfl⟩
       replace H : (if ((rd_T94 l0 x4_1).f0) = true then (impl_MachineOk.j2 kj10 l0 (y108.set (x4_1 : Int).toNat 0) x4_1 ((rd_T94 l0 x4_1).f0) ((rd_T94 l0 x4_1).f1)) else (impl_MachineOk.j2 kj10 l0 y108 x4_1 ((rd_T94 l0 x4_1).f0) ((rd_T94 l0 x4_1).f1))) = some r := by first | (rw [hy108]; with_reducible exact H) | (have H2_ := bm H; rw [hy108]; with_reducible exact H2_) | (with_reducible exact bm H) | with_reducible exact H | (rw [hy108]; exact H) | exact H
       have Ny108 := am hy108; clear hy108; have HC23 := am H; clear H
       have p22 : 0 ≤ (x4_1 : Int) := of_decide_eq_true ad
       have q22 : (x4_1 : Int) < ((x3_1.length : Int) : Int) := of_decide_eq_true ad
       obtain ⟨go22, co22, eo22, gb22, gl22, cl22, HG22⟩ := Kd.R_form HO_3.out (by omega)
       (first | cases eo22 | (injection eo22 with ea_ en_ ec_; (first | subst ea_ | (injection ea_ with ea_; subst ea_)); subst ec_; clear en_))
       have GB22 := Aside0.mk gb22; have GG22 := am HG22; clear gb22 gl22 HG22; obtain ⟨hx22_0, hf22_0⟩ := Kd.R_celln 0 HO_3.out (x4_1 : Int) p22 q22; replace p22 := eq_true p22; replace q22 := eq_true q22; have HP24 := Kd.R_putg HO_3.out (x4_1 : Int) (-1)
       go_upto_if 43 with (first | ((with_reducible refine gate_store (t := 3) (p := 41) rfl ?_); refine store_event (t := 3) (p := 41) (v := ?vo_w25) (w1 := (wc.setCell ⟨go22, (x4_1 : Int).toNat, none⟩ (.int .i64 (-1)))) ?hg ?ho ?hn ?hr ?_; (case ho => rfl); (case hg => rfl); (case hn => rfl); (case hr => first | (go_simp; done) | (go_simp; rfl)); intro w25 hw; have hg : wc.grownBy w25 (some go22) := (by rw [hw]; exact HP24.2); have hp_ : Kd.R (Kd.int .i64) 3 w25 w.heap.size (fun _ => True) (.slice (some ⟨go22, 0, none⟩) x3_1.length co22) y108 := (by rw [hw, Ny108.out]; exact HP24.1); clear HP24; replace BK107 := am (blk_grown (g := gb107) (o := .cells #[.bool ((rd_T94 l0 x4_1).f0), .slice A106_1 ((rd_T94 l0 x4_1).f1).length c106_1] 94 (0, 0)) (bq BK107.out) hg (Kd.R_ne HO_3.out BK107.out (by decide))); replace HO_3 := am (hp_); replace HB := am ((by rw [hw]; exact below_set (HB.out) GB22.out : Below w.heap.size w w25)); clear hg hw hp_; have hcz26_0 := bc BK107.out 0; have hcz26_1 := bc BK107.out 1; have hfz26_0 := bf BK107.out 0; have hfz26_1 := bf BK107.out 1))
       (try simp only [Act.put, List.setIfInBounds_toArray, List.set_cons_zero, List.set_cons_succ])
       go_cut [] (fun wc => ∃ (kq : Nat) (x3_22 : List Int), Aside0 (impl_MachineOk.j2 kq l0 x3_22 x4_1 ((rd_T94 l0 x4_1).f0) ((rd_T94 l0 x4_1).f1) = some r) ∧ Aside0 (kq ≤ kj10) ∧ Aside0 (Kd.R (Kd.int .i64) 3 wc w.heap.size (fun _ => True) (.slice (some ⟨go22, 0, none⟩) x3_1.length co22) x3_22) ∧ Aside0 (wc.heap[gb107]? = some (.cells #[.bool ((rd_T94 l0 x4_1).f0), (.slice A106_1 ((rd_T94 l0 x4_1).f1).length c106_1)] 94 (0, 0))) ∧ Aside0 (Below w.heap.size w wc))
       case first =>
        have H := HC23.out; clear HC23
        by_cases c27 : ((rd_T94 l0 x4_1).f0) = true
        ·rw [if_pos c27] at H
         have c27b0 : ((rd_T94 l0 x4_1).f0) = true := c27
         clear c27
         (first | rw [c27b0] | (simp only [i64_w, i32_w]; rw [c27b0]) | skip)
         obtain ⟨y109, hy109⟩ : ∃ y_ : List Int, y_ = (y108.set (x4_1 : Int).toNat 0) := ⟨_, rfl⟩
         replace H : (impl_MachineOk.j2 kj10 l0 y109 x4_1 ((rd_T94 l0 x4_1).f0) ((rd_T94 l0 x4_1).f1)) = some r := by first | (rw [hy109]; with_reducible exact H) | (have H2_ := bm H; rw [hy109]; with_reducible exact H2_) | (with_reducible exact bm H) | with_reducible exact H | (rw [hy109]; exact H) | exact H
         have Ny109 := am hy109; clear hy109
         have H' := am H
         clear H
         have p28 : 0 ≤ (x4_1 : Int) := of_decide_eq_true ad
         have q28 : (x4_1 : Int) < ((x3_1.length : Int) : Int) := of_decide_eq_true ad
         obtain ⟨hx28_0, hf28_0⟩ := Kd.R_celln 0 HO_3.out (x4_1 : Int) p28 q28; replace p28 := eq_true p28; replace q28 := eq_true q28; have HP29 := Kd.R_putg HO_3.out (x4_1 : Int) 0
         go_wp2_with (first | ((with_reducible refine gate_store (t := 3) (p := 46) rfl ?_); refine store_event (t := 3) (p := 46) (v := ?vo_w30) (w1 := (w25.setCell ⟨go22, (x4_1 : Int).toNat, none⟩ (.int .i64 0))) ?hg ?ho ?hn ?hr ?_; (case ho => rfl); (case hg => rfl); (case hn => rfl); (case hr => first | (go_simp; done) | (go_simp; rfl)); intro w30 hw; have hg : w25.grownBy w30 (some go22) := (by rw [hw]; exact HP29.2); have hp_ : Kd.R (Kd.int .i64) 3 w30 w.heap.size (fun _ => True) (.slice (some ⟨go22, 0, none⟩) x3_1.length co22) y109 := (by rw [hw, Ny109.out]; exact HP29.1); clear HP29; replace BK107 := am (blk_grown (g := gb107) (o := .cells #[.bool ((rd_T94 l0 x4_1).f0), .slice A106_1 ((rd_T94 l0 x4_1).f1).length c106_1] 94 (0, 0)) (bq BK107.out) hg (Kd.R_ne HO_3.out BK107.out (by decide))); replace HO_3 := am (hp_); replace HB := am ((by rw [hw]; exact below_set (HB.out) GB22.out : Below w.heap.size w w30)); clear hg hw hp_))
         go_meet
         case rel => exact ⟨_, (y109), H', ⟨by have := HK1.out; have := HJ10.out; first | omega | exact Nat.le_refl _⟩, ⟨rq HO_3.out⟩, ⟨bq BK107.out⟩, ⟨bel1 GE107.out⟩⟩
        rw [if_neg c27] at H
        have c27b0 : ((rd_T94 l0 x4_1).f0) = false := by simpa using c27
        clear c27
        (first | rw [c27b0] | (simp only [i64_w, i32_w]; rw [c27b0]) | skip)
        have H' := am H
        clear H; go_wp2
        go_meet
        case rel => exact ⟨_, (y108), H', ⟨by have := HK1.out; have := HJ10.out; first | omega | exact Nat.le_refl _⟩, ⟨rq HO_3.out⟩, ⟨bq BK107.out⟩, ⟨bel1 GE107.out⟩⟩
       case rest =>
        clear HC23; (try clear c1); (try clear p1); (try clear q1); (try clear hx1); (try clear c2); (try clear p2); (try clear q2); (try clear hx2); (try clear hf2); (try clear c3); (try clear c4); (try clear c4b0); (try clear c4b1); (try clear c5); (try clear c5b0); (try clear c5b1); (try clear p6); (try clear c8); (try clear c8b0); (try clear c9); (try clear c9b0); (try clear c10); (try clear c10b0); (try clear p10); (try clear q10); (try clear hx10); (try clear c14); (try clear c14b0); (try clear q15); (try clear c16); (try clear c19); (try clear c20); (try clear c20b0); (try clear c21); (try clear c21b0); (try clear p22); (try clear q22); (try clear hx22); (try clear hf22); (try clear c27); (try clear c27b0); (try clear p28); (try clear q28); (try clear hx28); (try clear hf28); (try clear hcz13_0); (try clear hcz13_1); (try clear hcz17_0); (try clear hcz17_1); (try clear hcz18_0); (try clear hcz18_1); (try clear hcz26_0); (try clear hcz26_1); (try clear hfz13_0); (try clear hfz13_1); (try clear hfz17_0); (try clear hfz17_1); (try clear hfz18_0); (try clear hfz18_1); (try clear hfz26_0); (try clear hfz26_1); (try clear hx106_0); (try clear hx106_1); (try clear hx22_0); (try clear hx28_0); (try clear p1); (try clear p10); (try clear p106); (try clear p2); (try clear p22); (try clear p28); (try clear p6); (try clear q1); (try clear q10); (try clear q106); (try clear q15); (try clear q22); (try clear q28); obtain ⟨kq, x3_22, HA, HJ22, HO_3, BK107, HB⟩ := hcut; have hl3_22 := (Kd.R_reads' HO_3.out).1; rw [hl3_22] at HO_3
        (try simp only [hl3_22])
        (try simp only [hl3_22] at BK107)
        cases kq with
        | zero => exact absurd HA.out (by simp [impl_MachineOk.j2])
        | succ kj22 =>
         have H := HA.out; clear HA
         simp only [impl_MachineOk.j2] at H
         have H' := am H
         clear H; have hcz31_0 := bc BK107.out 0; have hcz31_1 := bc BK107.out 1; have hfz31_0 := bf BK107.out 0; have hfz31_1 := bf BK107.out 1; go_wp2
         go_loopg [50] kj22 (fun kq v50 w' => ∃ (x3_4 : List Int) (x50_4 : Int), v50 = .int .i64 x50_4 ∧ Aside0 (impl_MachineOk.l1 kq l0 x3_4 x4_1 ((rd_T94 l0 x4_1).f1) (((rd_T94 l0 x4_1).f1).length : Int) x50_4 ((rd_T94 l0 x4_1).f0) ((rd_T94 l0 x4_1).f1) = some r) ∧ Aside0 (kq ≤ kj22) ∧ Aside0 (Kd.R (Kd.int .i64) 3 w' w.heap.size (fun _ => True) (.slice (some ⟨go22, 0, none⟩) x3_22.length co22) x3_4) ∧ Aside0 (w'.heap[gb107]? = some (.cells #[.bool ((rd_T94 l0 x4_1).f0), (.slice A106_1 ((rd_T94 l0 x4_1).f1).length c106_1)] 94 (0, 0))) ∧ Aside0 (Below w.heap.size w w'))
         case atStart => exact ⟨(x3_22), (0), sq, H', ⟨Nat.le_refl _⟩, ⟨by (try simp only [hl3_22]); (with_reducible repeat (first | apply Kd.R_alloc | apply Kd.R_drewN | apply Kd.R_drew)); exact HO_3.out⟩, ⟨by (try simp only [hl3_22]); (with_reducible repeat (first | refine blk_drewN ?_ _ | refine blk_drew ?_ | refine blk_alloc ?_ _)); exact BK107.out⟩, ⟨bel1 GE107.out⟩⟩
         case round =>
          clear H'; (try clear c1); (try clear p1); (try clear q1); (try clear hx1); (try clear c2); (try clear p2); (try clear q2); (try clear hx2); (try clear hf2); (try clear c3); (try clear c4); (try clear c4b0); (try clear c4b1); (try clear c5); (try clear c5b0); (try clear c5b1); (try clear p6); (try clear c8); (try clear c8b0); (try clear c9); (try clear c9b0); (try clear c10); (try clear c10b0); (try clear p10); (try clear q10); (try clear hx10); (try clear c14); (try clear c14b0); (try clear q15); (try clear c16); (try clear c19); (try clear c20); (try clear c20b0); (try clear c21); (try clear c21b0); (try clear p22); (try clear q22); (try clear hx22); (try clear hf22); (try clear c27); (try clear c27b0); (try clear p28); (try clear q28); (try clear hx28); (try clear hf28); (try clear hcz13_0); (try clear hcz13_1); (try clear hcz17_0); (try clear hcz17_1); (try clear hcz18_0); (try clear hcz18_1); (try clear hcz26_0); (try clear hcz26_1); (try clear hcz31_0); (try clear hcz31_1); (try clear hfz13_0); (try clear hfz13_1); (try clear hfz17_0); (try clear hfz17_1); (try clear hfz18_0); (try clear hfz18_1); (try clear hfz26_0); (try clear hfz26_1); (try clear hfz31_0); (try clear hfz31_1); (try clear hx106_0); (try clear hx106_1); (try clear hx22_0); (try clear hx28_0); (try clear p1); (try clear p10); (try clear p106); (try clear p2); (try clear p22); (try clear p28); (try clear p6); (try clear q1); (try clear q10); (try clear q106); (try clear q15); (try clear q2); (try clear q22); (try clear q28); obtain ⟨x3_4, x50_4, rfl, HA, HK4, HO_3, BK107, HB⟩ := hrel; have hl3_4 := (Kd.R_reads' HO_3.out).1; rw [hl3_4] at HO_3
          (try simp only [hl3_4])
          (try simp only [hl3_4] at BK107)
          cases gk with
          | zero => exact absurd HA.out (by simp [impl_MachineOk.l1])
          | succ k4 =>
           have H := HA.out; clear HA
           simp only [impl_MachineOk.l1] at H
           by_cases c32 : x50_4 < (((rd_T94 l0 x4_1).f1).length : Int)
           ·rw [if_pos c32] at H; have c32b0 := decide_eq_true c32; clear c32
            replace H := it H; obtain ⟨c33b0, H⟩ := H
            replace H := it H; obtain ⟨c34b0, H⟩ := H; have HC35 := am H; clear H
            have p110 : 0 ≤ (x50_4 : Int) := of_decide_eq_true ad
            have q110 : x50_4 < (((rd_T94 l0 x4_1).f1).length : Int) := of_decide_eq_true ad
            obtain ⟨ad110, e110, hx110_0, hx110_1⟩ := at_T100 HR106_1.out x50_4 p110 q110
            cases e110
            replace hx110_0 := kp HB.out hx110_0; replace hx110_1 := kp HB.out hx110_1; replace p110 := eq_true p110; replace q110 := eq_true q110
            go_upto_region 16 with (first | ((with_reducible refine gate_dst (N := 7) rfl ?_); (try (refine gate_guard (by rfl) ?_; dsimp only)); refine bx 7 (cs := #[.int .i64 0, .int .i64 0]) (t := 100) ?_; intro gb111 hg w36 hbox hb; replace HO_3 := am (Kd.R_below (rq HO_3.out) hb); have BK111 := am (hbox); have GW111 := am ((by rw [hg]; exact (below_size (bel1 GE107.out)) : w.heap.size ≤ gb111)); have GE111 := am ((by rw [hg]; exact (below_size (bel1 GE107.out)) : w.heap.size ≤ gb111)); replace HB := am (below_step (bel1 GE107.out) hb); have NB107_111 := am ((by rw [hg]; exact Nat.ne_of_lt (blk_lt (g := gb107) (o := .cells #[.bool ((rd_T94 l0 x4_1).f0), .slice (some ad110) ((rd_T94 l0 x4_1).f1).length c106_1] 94 (0, 0)) (bq BK107.out)) : gb107 ≠ gb111)); have NB111_107 := am ((by rw [hg]; exact Nat.ne_of_gt (blk_lt (g := gb107) (o := .cells #[.bool ((rd_T94 l0 x4_1).f0), .slice (some ad110) ((rd_T94 l0 x4_1).f1).length c106_1] 94 (0, 0)) (bq BK107.out)) : gb111 ≠ gb107)); replace BK107 := am (blk_below (g := gb107) (o := .cells #[.bool ((rd_T94 l0 x4_1).f0), .slice (some ad110) ((rd_T94 l0 x4_1).f1).length c106_1] 94 (0, 0)) (bq BK107.out) hb); clear hb hbox hg; have hnb37 := NB111_107.out; have hnc37 := NB107_111.out; have hcz38_0 := bc BK111.out 0; have hcz38_1 := bc BK111.out 1; have hfz38_0 := bf BK111.out 0; have hfz38_1 := bf BK111.out 1))
            (try simp only [Act.put, List.setIfInBounds_toArray, List.set_cons_zero, List.set_cons_succ])
            go_cut [85] (fun v85 wc => ∃ (kq : Nat) (x85_34 : Bool), v85 = .bool x85_34 ∧ Aside0 (impl_MachineOk.j4 kq l0 x3_4 x4_1 ((rd_T94 l0 x4_1).f1) (((rd_T94 l0 x4_1).f1).length : Int) x50_4 x85_34 ((rd_T94 l0 x4_1).f0) ((rd_T94 l0 x4_1).f1) ((rd_T100 ((rd_T94 l0 x4_1).f1) x50_4).f0) ((rd_T100 ((rd_T94 l0 x4_1).f1) x50_4).f1) = some r) ∧ Aside0 (kq ≤ k4) ∧ Aside0 (Kd.R (Kd.int .i64) 3 wc w.heap.size (fun _ => True) (.slice (some ⟨go22, 0, none⟩) x3_4.length co22) x3_4) ∧ Aside0 (wc.heap[gb107]? = some (.cells #[.bool ((rd_T94 l0 x4_1).f0), (.slice (some ad110) ((rd_T94 l0 x4_1).f1).length c106_1)] 94 (0, 0))) ∧ Aside0 (wc.heap[gb111]? = some (.cells #[.int .i64 ((rd_T100 ((rd_T94 l0 x4_1).f1) x50_4).f0), .int .i64 ((rd_T100 ((rd_T94 l0 x4_1).f1) x50_4).f1)] 100 (0, 0))) ∧ Aside0 (Below w.heap.size w wc))
            case first =>
             have H := HC35.out; clear HC35; replace H := bs H; obtain ⟨t112, A390, H⟩ := H; replace H : (if t112 = true then (if x50_4 > 0 then (if 0 ≤ (wrap64 (x50_4 - 1)) then (if (wrap64 (x50_4 - 1)) < (((rd_T94 l0 x4_1).f1).length : Int) then (if ((rd_T100 ((rd_T94 l0 x4_1).f1) (wrap64 (x50_4 - 1))).f0) ≥ ((rd_T100 ((rd_T94 l0 x4_1).f1) x50_4).f0) then (impl_MachineOk.j4 k4 l0 x3_4 x4_1 ((rd_T94 l0 x4_1).f1) (((rd_T94 l0 x4_1).f1).length : Int) x50_4 true ((rd_T94 l0 x4_1).f0) ((rd_T94 l0 x4_1).f1) ((rd_T100 ((rd_T94 l0 x4_1).f1) x50_4).f0) ((rd_T100 ((rd_T94 l0 x4_1).f1) x50_4).f1)) else ((impl_within.f ((rd_T100 ((rd_T94 l0 x4_1).f1) x50_4).f1) (wrap64 (x4_1 + 1)) (wrap64 ((l0.length : Int) - 1))).bind fun t114 => (impl_MachineOk.j4 k4 l0 x3_4 x4_1 ((rd_T94 l0 x4_1).f1) (((rd_T94 l0 x4_1).f1).length : Int) x50_4 (!t114) ((rd_T94 l0 x4_1).f0) ((rd_T94 l0 x4_1).f1) ((rd_T100 ((rd_T94 l0 x4_1).f1) x50_4).f0) ((rd_T100 ((rd_T94 l0 x4_1).f1) x50_4).f1)))) else (none)) else (none)) else ((impl_within.f ((rd_T100 ((rd_T94 l0 x4_1).f1) x50_4).f1) (wrap64 (x4_1 + 1)) (wrap64 ((l0.length : Int) - 1))).bind fun t115 => (impl_MachineOk.j4 k4 l0 x3_4 x4_1 ((rd_T94 l0 x4_1).f1) (((rd_T94 l0 x4_1).f1).length : Int) x50_4 (!t115) ((rd_T94 l0 x4_1).f0) ((rd_T94 l0 x4_1).f1) ((rd_T100 ((rd_T94 l0 x4_1).f1) x50_4).f0) ((rd_T100 ((rd_T94 l0 x4_1).f1) x50_4).f1)))) else (impl_MachineOk.j4 k4 l0 x3_4 x4_1 ((rd_T94 l0 x4_1).f1) (((rd_T94 l0 x4_1).f1).length : Int) x50_4 true ((rd_T94 l0 x4_1).f0) ((rd_T94 l0 x4_1).f1) ((rd_T100 ((rd_T94 l0 x4_1).f1) x50_4).f0) ((rd_T100 ((rd_T94 l0 x4_1).f1) x50_4).f1))) = some r := H; have A39 := Aside0.mk A390; clear A390
             by_cases c40 : t112 = true
             ·subst c40
              have H1 : (if x50_4 > 0 then (if 0 ≤ (wrap64 (x50_4 - 1)) then (if (wrap64 (x50_4 - 1)) < (((rd_T94 l0 x4_1).f1).length : Int) then (if ((rd_T100 ((rd_T94 l0 x4_1).f1) (wrap64 (x50_4 - 1))).f0) ≥ ((rd_T100 ((rd_T94 l0 x4_1).f1) x50_4).f0) then (impl_MachineOk.j4 k4 l0 x3_4 x4_1 ((rd_T94 l0 x4_1).f1) (((rd_T94 l0 x4_1).f1).length : Int) x50_4 true ((rd_T94 l0 x4_1).f0) ((rd_T94 l0 x4_1).f1) ((rd_T100 ((rd_T94 l0 x4_1).f1) x50_4).f0) ((rd_T100 ((rd_T94 l0 x4_1).f1) x50_4).f1)) else ((impl_within.f ((rd_T100 ((rd_T94 l0 x4_1).f1) x50_4).f1) (wrap64 (x4_1 + 1)) (wrap64 ((l0.length : Int) - 1))).bind fun t114 => (impl_MachineOk.j4 k4 l0 x3_4 x4_1 ((rd_T94 l0 x4_1).f1) (((rd_T94 l0 x4_1).f1).length : Int) x50_4 (!t114) ((rd_T94 l0 x4_1).f0) ((rd_T94 l0 x4_1).f1) ((rd_T100 ((rd_T94 l0 x4_1).f1) x50_4).f0) ((rd_T100 ((rd_T94 l0 x4_1).f1) x50_4).f1)))) else (none)) else (none)) else ((impl_within.f ((rd_T100 ((rd_T94 l0 x4_1).f1) x50_4).f1) (wrap64 (x4_1 + 1)) (wrap64 ((l0.length : Int) - 1))).bind fun t115 => (impl_MachineOk.j4 k4 l0 x3_4 x4_1 ((rd_T94 l0 x4_1).f1) (((rd_T94 l0 x4_1).f1).length : Int) x50_4 (!t115) ((rd_T94 l0 x4_1).f0) ((rd_T94 l0 x4_1).f1) ((rd_T100 ((rd_T94 l0 x4_1).f1) x50_4).f0) ((rd_T100 ((rd_T94 l0 x4_1).f1) x50_4).f1)))) = some r := b21_
              replace H := H1; clear H1
              by_cases c41 : x50_4 > 0
              ·rw [if_pos c41] at H; have c41b0 := decide_eq_true c41; clear c41
               (first | rw [c41b0] | (simp only [i64_w, i32_w]; rw [c41b0]) | skip)
               obtain ⟨ji42, hji42⟩ : ∃ j_ : Int, (wrap64 (x50_4 - 1)) = j_ := ⟨_, rfl⟩
               replace H : (if 0 ≤ (ji42) then (if (ji42) < (((rd_T94 l0 x4_1).f1).length : Int) then (if ((rd_T100 ((rd_T94 l0 x4_1).f1) (ji42)).f0) ≥ ((rd_T100 ((rd_T94 l0 x4_1).f1) x50_4).f0) then (impl_MachineOk.j4 k4 l0 x3_4 x4_1 ((rd_T94 l0 x4_1).f1) (((rd_T94 l0 x4_1).f1).length : Int) x50_4 true ((rd_T94 l0 x4_1).f0) ((rd_T94 l0 x4_1).f1) ((rd_T100 ((rd_T94 l0 x4_1).f1) x50_4).f0) ((rd_T100 ((rd_T94 l0 x4_1).f1) x50_4).f1)) else ((impl_within.f ((rd_T100 ((rd_T94 l0 x4_1).f1) x50_4).f1) (wrap64 (x4_1 + 1)) (wrap64 ((l0.length : Int) - 1))).bind fun t114 => (impl_MachineOk.j4 k4 l0 x3_4 x4_1 ((rd_T94 l0 x4_1).f1) (((rd_T94 l0 x4_1).f1).length : Int) x50_4 (!t114) ((rd_T94 l0 x4_1).f0) ((rd_T94 l0 x4_1).f1) ((rd_T100 ((rd_T94 l0 x4_1).f1) x50_4).f0) ((rd_T100 ((rd_T94 l0 x4_1).f1) x50_4).f1)))) else (none)) else (none)) = some r := by first | (rw [hji42] at H; exact H) | (simp only [hji42] at H ⊢; exact H)
               (try rw [hji42] at A39)
               have hji42w : (IntKind.i64.wrap (x50_4 - 1)) = ji42 := (i64_w _).trans hji42
               replace H := it H; obtain ⟨c43b0, H⟩ := H
               replace H := it H; obtain ⟨c44b0, H⟩ := H
               by_cases c45 : ((rd_T100 ((rd_T94 l0 x4_1).f1) (ji42)).f0) ≥ ((rd_T100 ((rd_T94 l0 x4_1).f1) x50_4).f0)
               ·rw [if_pos c45] at H; have c45b0 := decide_eq_true c45; clear c45
                have H' := am H
                clear H
                try go_wp2
                have n0_ : Aside0 (Kd.R (Kd.int .i64) 3 ((w36.setCell ⟨gb111, 0, none⟩ (.int .i64 ((rd_T100 ((rd_T94 l0 x4_1).f1) x50_4).f0))).setCell ⟨gb111, 1, none⟩ (.int .i64 ((rd_T100 ((rd_T94 l0 x4_1).f1) x50_4).f1))) w.heap.size (fun _ => True) (.slice (some ⟨go22, 0, none⟩) x3_4.length co22) x3_4) := ⟨rq (Kd.R_mono (Kd.R_far (p := ⟨gb111, 1, none⟩) (Kd.R_far (p := ⟨gb111, 0, none⟩) (Kd.R_types HO_3.out BK111.out (by decide)) (fun _ hk => hk.2) (.int .i64 ((rd_T100 ((rd_T94 l0 x4_1).f1) x50_4).f0))) (fun _ hk => hk.2) (.int .i64 ((rd_T100 ((rd_T94 l0 x4_1).f1) x50_4).f1))) (fun _ hk => trivial))⟩
                have n1_ : Aside0 (((w36.setCell ⟨gb111, 0, none⟩ (.int .i64 ((rd_T100 ((rd_T94 l0 x4_1).f1) x50_4).f0))).setCell ⟨gb111, 1, none⟩ (.int .i64 ((rd_T100 ((rd_T94 l0 x4_1).f1) x50_4).f1))).heap[gb107]? = some (.cells #[.bool ((rd_T94 l0 x4_1).f0), .slice (some ad110) ((rd_T94 l0 x4_1).f1).length c106_1] 94 (0, 0))) := ⟨b17_⟩
                have n2_ : Aside0 (((w36.setCell ⟨gb111, 0, none⟩ (.int .i64 ((rd_T100 ((rd_T94 l0 x4_1).f1) x50_4).f0))).setCell ⟨gb111, 1, none⟩ (.int .i64 ((rd_T100 ((rd_T94 l0 x4_1).f1) x50_4).f1))).heap[gb111]? = some (.cells #[.int .i64 ((rd_T100 ((rd_T94 l0 x4_1).f1) x50_4).f0), .int .i64 ((rd_T100 ((rd_T94 l0 x4_1).f1) x50_4).f1)] 100 (0, 0))) := ⟨b13_⟩
                have n3_ : Aside0 (Below w.heap.size w ((w36.setCell ⟨gb111, 0, none⟩ (.int .i64 ((rd_T100 ((rd_T94 l0 x4_1).f1) x50_4).f0))).setCell ⟨gb111, 1, none⟩ (.int .i64 ((rd_T100 ((rd_T94 l0 x4_1).f1) x50_4).f1)))) := ⟨bel2 GE107.out GE111.out⟩
                (try clear HO_3)
                (try clear BK107)
                (try clear BK111)
                (try clear HB)
                generalize ((w36.setCell ⟨gb111, 0, none⟩ (.int .i64 ((rd_T100 ((rd_T94 l0 x4_1).f1) x50_4).f0))).setCell ⟨gb111, 1, none⟩ (.int .i64 ((rd_T100 ((rd_T94 l0 x4_1).f1) x50_4).f1))) = w46 at n0_ n1_ n2_ n3_ ⊢
                have HO_3 := n0_; have BK107 := n1_; have BK111 := n2_; have HB := n3_; clear n0_ n1_ n2_ n3_; replace HO_3 := am (Kd.R_drew HO_3.out); replace BK107 := am (blk_drew BK107.out); replace BK111 := am (blk_drew BK111.out); replace HB := am (below_drew1 HB.out)
                have p113 : 0 ≤ ((ji42) : Int) := of_decide_eq_true ad
                have q113 : (ji42) < (((rd_T94 l0 x4_1).f1).length : Int) := of_decide_eq_true ad
                obtain ⟨ad113, e113, hx113_0, hx113_1⟩ := at_T100 HR106_1.out (ji42) p113 q113; have hw113_1 := hx113_1; have hw113_0 := hx113_0
                obtain rfl : ad110 = ad113 := (by injection e113)
                replace hx113_0 := kp HB.out hx113_0; replace hx113_1 := kp HB.out hx113_1; replace p113 := eq_true p113; replace q113 := eq_true q113
                refine st (n := 31) (S := fun w' => w'.cell? ⟨gb111, 0, none⟩ = some (.int .i64 ((rd_T100 ((rd_T94 l0 x4_1).f1) x50_4).f0)) ∧ w'.cell? ⟨gb111, 1, none⟩ = some (.int .i64 ((rd_T100 ((rd_T94 l0 x4_1).f1) x50_4).f1)) ∧ w'.cell? ⟨gb107, 0, none⟩ = some (.bool ((rd_T94 l0 x4_1).f0)) ∧ w'.cell? ⟨gb107, 1, none⟩ = some (.slice (some ad110) ((rd_T94 l0 x4_1).f1).length c106_1) ∧ w'.cell? (ad110.add (((ji42)).toNat * 2)) = some (.int .i64 ((rd_T100 ((rd_T94 l0 x4_1).f1) (ji42)).f0)) ∧ w'.cell? ⟨(ad110.add (((ji42)).toNat * 2)).block, (ad110.add (((ji42)).toNat * 2)).off + 1, none⟩ = some (.int .i64 ((rd_T100 ((rd_T94 l0 x4_1).f1) (ji42)).f1))) (ds := []) ⟨(blk_cell BK111.out 0).trans rfl, (blk_cell BK111.out 1).trans rfl, (blk_cell BK107.out 0).trans rfl, (blk_cell BK107.out 1).trans rfl, (kp HB.out hw113_0), (kp HB.out hw113_1)⟩ (fun hHeld => ?_); refine with_tabW impl_MachineOk.tab16 impl_MachineOk.bits16 (fun HT_ HW_ => ?_)
                generalize w46.drew = w47 at HO_3 BK107 BK111 HB hx113_0 hx113_1 hHeld ⊢
                refine pu 0 55 ?_
                refine tk6 1 56 hHeld ?_
                refine on1 2 57 (fun K hK => ?_)
                refine goes_ Try.func81 (by kernel_rfl) rfl #[.int .i64 ((rd_T100 ((rd_T94 l0 x4_1).f1) x50_4).f0), .int .i64 97, .int .i64 122] (by rfl) rfl rfl mq ?_
                with_reducible refine (impl_within.calls ((rd_T100 ((rd_T94 l0 x4_1).f1) x50_4).f0) 97 122 true _ A39.out).mono ?_
                rintro e w' ⟨rfl, ⟨nd, rfl⟩⟩
                refine ⟨_, rfl, ?_⟩
                refine hK.out _ _ ⟨(blk_cell BK111.out 0).trans rfl, (blk_cell BK111.out 1).trans rfl, (blk_cell BK107.out 0).trans rfl, (blk_cell BK107.out 1).trans rfl, (kp HB.out hw113_0), (kp HB.out hw113_1)⟩ (fun hHeld => ?_)
                clear hK K
                refine norm_ (a' := ?_) ?_ ?_
                rotate_left
                ·show Act.put _ (some 57) _ = _
                 simp only [Act.put, List.setIfInBounds_toArray, List.set_cons_zero, List.set_cons_succ, i64_w, i32_w]
                 rfl
                refine pu 3 58 ?_
                refine pu 4 59 ?_
                refine pu 5 60 ?_
                refine pu 6 61 ?_
                refine pu 7 62 ?_
                refine pu 8 63 ?_
                refine pu 10 65 ?_
                refine pu 11 66 ?_
                refine pu 15 70 ?_
                refine tk6 9 64 hHeld ?_
                refine pu 12 67 ?_
                refine pu 13 68 ?_
                refine tk6 14 69 hHeld ?_
                refine tk6 16 71 hHeld ?_
                refine pu 17 72 ?_
                refine pu 18 73 ?_
                refine pu 19 74 ?_
                refine pu 20 75 ?_
                refine puu 21 76 ?_
                refine puu 22 77 ?_
                refine puu 23 78 ?_
                refine puu 24 79 ?_
                refine puu 25 80 ?_
                refine puu 26 81 ?_
                refine puu 27 82 ?_
                refine puu 28 83 ?_
                refine puu 29 84 ?_
                refine pu 30 85 ?_
                refine done_ (done_of HT_.out (by kernel_rfl)) ?_
                try go_wp2
                go_meet
                case rel => exact ⟨_, (true), sq, H', ⟨b60_⟩, ⟨b29_⟩, ⟨b31_⟩, ⟨b45_⟩, ⟨bel2 GE107.out GE111.out⟩⟩
               rw [if_neg c45] at H; have c45b0 := decide_eq_false c45; clear c45; replace H := bs H; obtain ⟨t114, A480, H⟩ := H; replace H : (impl_MachineOk.j4 k4 l0 x3_4 x4_1 ((rd_T94 l0 x4_1).f1) (((rd_T94 l0 x4_1).f1).length : Int) x50_4 (!t114) ((rd_T94 l0 x4_1).f0) ((rd_T94 l0 x4_1).f1) ((rd_T100 ((rd_T94 l0 x4_1).f1) x50_4).f0) ((rd_T100 ((rd_T94 l0 x4_1).f1) x50_4).f1)) = some r := H; have A48 := Aside0.mk A480; clear A480
               have H' := am H
               clear H
               try go_wp2
               have n0_ : Aside0 (Kd.R (Kd.int .i64) 3 ((w36.setCell ⟨gb111, 0, none⟩ (.int .i64 ((rd_T100 ((rd_T94 l0 x4_1).f1) x50_4).f0))).setCell ⟨gb111, 1, none⟩ (.int .i64 ((rd_T100 ((rd_T94 l0 x4_1).f1) x50_4).f1))) w.heap.size (fun _ => True) (.slice (some ⟨go22, 0, none⟩) x3_4.length co22) x3_4) := ⟨rq (Kd.R_mono (Kd.R_far (p := ⟨gb111, 1, none⟩) (Kd.R_far (p := ⟨gb111, 0, none⟩) (Kd.R_types HO_3.out BK111.out (by decide)) (fun _ hk => hk.2) (.int .i64 ((rd_T100 ((rd_T94 l0 x4_1).f1) x50_4).f0))) (fun _ hk => hk.2) (.int .i64 ((rd_T100 ((rd_T94 l0 x4_1).f1) x50_4).f1))) (fun _ hk => trivial))⟩
               have n1_ : Aside0 (((w36.setCell ⟨gb111, 0, none⟩ (.int .i64 ((rd_T100 ((rd_T94 l0 x4_1).f1) x50_4).f0))).setCell ⟨gb111, 1, none⟩ (.int .i64 ((rd_T100 ((rd_T94 l0 x4_1).f1) x50_4).f1))).heap[gb107]? = some (.cells #[.bool ((rd_T94 l0 x4_1).f0), .slice (some ad110) ((rd_T94 l0 x4_1).f1).length c106_1] 94 (0, 0))) := ⟨b17_⟩
               have n2_ : Aside0 (((w36.setCell ⟨gb111, 0, none⟩ (.int .i64 ((rd_T100 ((rd_T94 l0 x4_1).f1) x50_4).f0))).setCell ⟨gb111, 1, none⟩ (.int .i64 ((rd_T100 ((rd_T94 l0 x4_1).f1) x50_4).f1))).heap[gb111]? = some (.cells #[.int .i64 ((rd_T100 ((rd_T94 l0 x4_1).f1) x50_4).f0), .int .i64 ((rd_T100 ((rd_T94 l0 x4_1).f1) x50_4).f1)] 100 (0, 0))) := ⟨b13_⟩
               have n3_ : Aside0 (Below w.heap.size w ((w36.setCell ⟨gb111, 0, none⟩ (.int .i64 ((rd_T100 ((rd_T94 l0 x4_1).f1) x50_4).f0))).setCell ⟨gb111, 1, none⟩ (.int .i64 ((rd_T100 ((rd_T94 l0 x4_1).f1) x50_4).f1)))) := ⟨bel2 GE107.out GE111.out⟩
               (try clear HO_3)
               (try clear BK107)
               (try clear BK111)
               (try clear HB)
               generalize ((w36.setCell ⟨gb111, 0, none⟩ (.int .i64 ((rd_T100 ((rd_T94 l0 x4_1).f1) x50_4).f0))).setCell ⟨gb111, 1, none⟩ (.int .i64 ((rd_T100 ((rd_T94 l0 x4_1).f1) x50_4).f1))) = w49 at n0_ n1_ n2_ n3_ ⊢
               have HO_3 := n0_; have BK107 := n1_; have BK111 := n2_; have HB := n3_; clear n0_ n1_ n2_ n3_; replace HO_3 := am (Kd.R_drew HO_3.out); replace BK107 := am (blk_drew BK107.out); replace BK111 := am (blk_drew BK111.out); replace HB := am (below_drew1 HB.out)
               have p113 : 0 ≤ ((ji42) : Int) := of_decide_eq_true ad
               have q113 : (ji42) < (((rd_T94 l0 x4_1).f1).length : Int) := of_decide_eq_true ad
               obtain ⟨ad113, e113, hx113_0, hx113_1⟩ := at_T100 HR106_1.out (ji42) p113 q113; have hw113_1 := hx113_1; have hw113_0 := hx113_0
               obtain rfl : ad110 = ad113 := (by injection e113)
               replace hx113_0 := kp HB.out hx113_0; replace hx113_1 := kp HB.out hx113_1; replace p113 := eq_true p113; replace q113 := eq_true q113
               refine st (n := 31) (S := fun w' => w'.cell? ⟨gb111, 0, none⟩ = some (.int .i64 ((rd_T100 ((rd_T94 l0 x4_1).f1) x50_4).f0)) ∧ w'.cell? ⟨gb111, 1, none⟩ = some (.int .i64 ((rd_T100 ((rd_T94 l0 x4_1).f1) x50_4).f1)) ∧ w'.cell? ⟨gb107, 0, none⟩ = some (.bool ((rd_T94 l0 x4_1).f0)) ∧ w'.cell? ⟨gb107, 1, none⟩ = some (.slice (some ad110) ((rd_T94 l0 x4_1).f1).length c106_1) ∧ w'.cell? (ad110.add (((ji42)).toNat * 2)) = some (.int .i64 ((rd_T100 ((rd_T94 l0 x4_1).f1) (ji42)).f0)) ∧ w'.cell? ⟨(ad110.add (((ji42)).toNat * 2)).block, (ad110.add (((ji42)).toNat * 2)).off + 1, none⟩ = some (.int .i64 ((rd_T100 ((rd_T94 l0 x4_1).f1) (ji42)).f1))) (ds := []) ⟨(blk_cell BK111.out 0).trans rfl, (blk_cell BK111.out 1).trans rfl, (blk_cell BK107.out 0).trans rfl, (blk_cell BK107.out 1).trans rfl, (kp HB.out hw113_0), (kp HB.out hw113_1)⟩ (fun hHeld => ?_); refine with_tabW impl_MachineOk.tab16 impl_MachineOk.bits16 (fun HT_ HW_ => ?_)
               generalize w49.drew = w50 at HO_3 BK107 BK111 HB hx113_0 hx113_1 hHeld ⊢
               refine pu 0 55 ?_
               refine tk6 1 56 hHeld ?_
               refine on1 2 57 (fun K hK => ?_)
               refine goes_ Try.func81 (by kernel_rfl) rfl #[.int .i64 ((rd_T100 ((rd_T94 l0 x4_1).f1) x50_4).f0), .int .i64 97, .int .i64 122] (by rfl) rfl rfl mq ?_
               with_reducible refine (impl_within.calls ((rd_T100 ((rd_T94 l0 x4_1).f1) x50_4).f0) 97 122 true _ A39.out).mono ?_
               rintro e w' ⟨rfl, ⟨nd, rfl⟩⟩
               refine ⟨_, rfl, ?_⟩
               refine hK.out _ _ ⟨(blk_cell BK111.out 0).trans rfl, (blk_cell BK111.out 1).trans rfl, (blk_cell BK107.out 0).trans rfl, (blk_cell BK107.out 1).trans rfl, (kp HB.out hw113_0), (kp HB.out hw113_1)⟩ (fun hHeld => ?_)
               clear hK K
               refine norm_ (a' := ?_) ?_ ?_
               rotate_left
               ·show Act.put _ (some 57) _ = _
                simp only [Act.put, List.setIfInBounds_toArray, List.set_cons_zero, List.set_cons_succ, i64_w, i32_w]
                rfl
               refine pu 3 58 ?_
               refine pu 4 59 ?_
               refine pu 5 60 ?_
               refine pu 6 61 ?_
               refine pu 7 62 ?_
               refine pu 8 63 ?_
               refine pu 10 65 ?_
               refine pu 11 66 ?_
               refine pu 15 70 ?_
               refine tk6 9 64 hHeld ?_
               refine pu 12 67 ?_
               refine pu 13 68 ?_
               refine tk6 14 69 hHeld ?_
               refine tk6 16 71 hHeld ?_
               refine pu 17 72 ?_
               refine pu 18 73 ?_
               refine pu 19 74 ?_
               refine pu 20 75 ?_
               refine pu 21 76 ?_
               refine pu 23 78 ?_
               refine pu 24 79 ?_
               refine pu 25 80 ?_
               refine pu 26 81 ?_
               refine pu 27 82 ?_
               refine tk6 22 77 hHeld ?_
               refine on1 28 83 (fun K hK => ?_)
               refine goes_ Try.func81 (by kernel_rfl) rfl #[.int .i64 ((rd_T100 ((rd_T94 l0 x4_1).f1) x50_4).f1), .int .i64 (wrap64 (x4_1 + 1)), .int .i64 (wrap64 ((l0.length : Int) - 1))] (by rfl) rfl rfl mq ?_
               with_reducible refine (impl_within.calls ((rd_T100 ((rd_T94 l0 x4_1).f1) x50_4).f1) (wrap64 (x4_1 + 1)) (wrap64 ((l0.length : Int) - 1)) t114 _ A48.out).mono ?_
               rintro e w' ⟨rfl, ⟨nd, rfl⟩⟩
               refine ⟨_, rfl, ?_⟩
               refine hK.out _ _ ⟨(blk_cell BK111.out 0).trans rfl, (blk_cell BK111.out 1).trans rfl, (blk_cell BK107.out 0).trans rfl, (blk_cell BK107.out 1).trans rfl, (kp HB.out hw113_0), (kp HB.out hw113_1)⟩ (fun hHeld => ?_)
               clear hK K
               refine norm_ (a' := ?_) ?_ ?_
               rotate_left
               ·show Act.put _ (some 83) _ = _
                simp only [Act.put, List.setIfInBounds_toArray, List.set_cons_zero, List.set_cons_succ, i64_w, i32_w]
                rfl
               refine pu 29 84 ?_
               refine pu 30 85 ?_
               refine done_ (done_of HT_.out (by kernel_rfl)) ?_
               try go_wp2
               go_meet
               case rel => exact ⟨_, (!t114), sq, H', ⟨b60_⟩, ⟨b29_⟩, ⟨b31_⟩, ⟨b45_⟩, ⟨bel2 GE107.out GE111.out⟩⟩
              rw [if_neg c41] at H; have c41b0 := decide_eq_false c41; clear c41
              (first | rw [c41b0] | (simp only [i64_w, i32_w]; rw [c41b0]) | skip)
              replace H := bs H; obtain ⟨t115, A510, H⟩ := H; replace H : (impl_MachineOk.j4 k4 l0 x3_4 x4_1 ((rd_T94 l0 x4_1).f1) (((rd_T94 l0 x4_1).f1).length : Int) x50_4 (!t115) ((rd_T94 l0 x4_1).f0) ((rd_T94 l0 x4_1).f1) ((rd_T100 ((rd_T94 l0 x4_1).f1) x50_4).f0) ((rd_T100 ((rd_T94 l0 x4_1).f1) x50_4).f1)) = some r := H; have A51 := Aside0.mk A510; clear A510
              have H' := am H
              clear H
              try go_wp2
              have n0_ : Aside0 (Kd.R (Kd.int .i64) 3 ((w36.setCell ⟨gb111, 0, none⟩ (.int .i64 ((rd_T100 ((rd_T94 l0 x4_1).f1) x50_4).f0))).setCell ⟨gb111, 1, none⟩ (.int .i64 ((rd_T100 ((rd_T94 l0 x4_1).f1) x50_4).f1))) w.heap.size (fun _ => True) (.slice (some ⟨go22, 0, none⟩) x3_4.length co22) x3_4) := ⟨rq (Kd.R_mono (Kd.R_far (p := ⟨gb111, 1, none⟩) (Kd.R_far (p := ⟨gb111, 0, none⟩) (Kd.R_types HO_3.out BK111.out (by decide)) (fun _ hk => hk.2) (.int .i64 ((rd_T100 ((rd_T94 l0 x4_1).f1) x50_4).f0))) (fun _ hk => hk.2) (.int .i64 ((rd_T100 ((rd_T94 l0 x4_1).f1) x50_4).f1))) (fun _ hk => trivial))⟩
              have n1_ : Aside0 (((w36.setCell ⟨gb111, 0, none⟩ (.int .i64 ((rd_T100 ((rd_T94 l0 x4_1).f1) x50_4).f0))).setCell ⟨gb111, 1, none⟩ (.int .i64 ((rd_T100 ((rd_T94 l0 x4_1).f1) x50_4).f1))).heap[gb107]? = some (.cells #[.bool ((rd_T94 l0 x4_1).f0), .slice (some ad110) ((rd_T94 l0 x4_1).f1).length c106_1] 94 (0, 0))) := ⟨b17_⟩
              have n2_ : Aside0 (((w36.setCell ⟨gb111, 0, none⟩ (.int .i64 ((rd_T100 ((rd_T94 l0 x4_1).f1) x50_4).f0))).setCell ⟨gb111, 1, none⟩ (.int .i64 ((rd_T100 ((rd_T94 l0 x4_1).f1) x50_4).f1))).heap[gb111]? = some (.cells #[.int .i64 ((rd_T100 ((rd_T94 l0 x4_1).f1) x50_4).f0), .int .i64 ((rd_T100 ((rd_T94 l0 x4_1).f1) x50_4).f1)] 100 (0, 0))) := ⟨b13_⟩
              have n3_ : Aside0 (Below w.heap.size w ((w36.setCell ⟨gb111, 0, none⟩ (.int .i64 ((rd_T100 ((rd_T94 l0 x4_1).f1) x50_4).f0))).setCell ⟨gb111, 1, none⟩ (.int .i64 ((rd_T100 ((rd_T94 l0 x4_1).f1) x50_4).f1)))) := ⟨bel2 GE107.out GE111.out⟩
              (try clear HO_3)
              (try clear BK107)
              (try clear BK111)
              (try clear HB)
              generalize ((w36.setCell ⟨gb111, 0, none⟩ (.int .i64 ((rd_T100 ((rd_T94 l0 x4_1).f1) x50_4).f0))).setCell ⟨gb111, 1, none⟩ (.int .i64 ((rd_T100 ((rd_T94 l0 x4_1).f1) x50_4).f1))) = w52 at n0_ n1_ n2_ n3_ ⊢
              have HO_3 := n0_; have BK107 := n1_; have BK111 := n2_; have HB := n3_; clear n0_ n1_ n2_ n3_; replace HO_3 := am (Kd.R_drew HO_3.out); replace BK107 := am (blk_drew BK107.out); replace BK111 := am (blk_drew BK111.out); replace HB := am (below_drew1 HB.out)
              refine st (n := 31) (S := fun w' => w'.cell? ⟨gb111, 0, none⟩ = some (.int .i64 ((rd_T100 ((rd_T94 l0 x4_1).f1) x50_4).f0)) ∧ w'.cell? ⟨gb111, 1, none⟩ = some (.int .i64 ((rd_T100 ((rd_T94 l0 x4_1).f1) x50_4).f1))) (ds := []) ⟨(blk_cell BK111.out 0).trans rfl, (blk_cell BK111.out 1).trans rfl⟩ (fun hHeld => ?_); refine with_tabW impl_MachineOk.tab16 impl_MachineOk.bits16 (fun HT_ HW_ => ?_)
              generalize w52.drew = w53 at HO_3 BK107 BK111 HB hHeld ⊢
              refine pu 0 55 ?_
              refine tk2 1 56 hHeld ?_
              refine on1 2 57 (fun K hK => ?_)
              refine goes_ Try.func81 (by kernel_rfl) rfl #[.int .i64 ((rd_T100 ((rd_T94 l0 x4_1).f1) x50_4).f0), .int .i64 97, .int .i64 122] (by rfl) rfl rfl mq ?_
              with_reducible refine (impl_within.calls ((rd_T100 ((rd_T94 l0 x4_1).f1) x50_4).f0) 97 122 true _ A39.out).mono ?_
              rintro e w' ⟨rfl, ⟨nd, rfl⟩⟩
              refine ⟨_, rfl, ?_⟩
              refine hK.out _ _ ⟨(blk_cell BK111.out 0).trans rfl, (blk_cell BK111.out 1).trans rfl⟩ (fun hHeld => ?_)
              clear hK K
              refine norm_ (a' := ?_) ?_ ?_
              rotate_left
              ·show Act.put _ (some 57) _ = _
               simp only [Act.put, List.setIfInBounds_toArray, List.set_cons_zero, List.set_cons_succ, i64_w, i32_w]
               rfl
              refine pu 3 58 ?_
              refine pu 4 59 ?_
              refine pu 5 60 ?_
              refine pu 6 61 ?_
              refine pu 7 62 ?_
              refine puu 8 63 ?_
              refine puu 9 64 ?_
              refine puu 10 65 ?_
              refine puu 11 66 ?_
              refine puu 12 67 ?_
              refine puu 13 68 ?_
              refine puu 14 69 ?_
              refine puu 15 70 ?_
              refine puu 16 71 ?_
              refine puu 17 72 ?_
              refine pu 18 73 ?_
              refine pu 19 74 ?_
              refine pu 20 75 ?_
              refine pu 21 76 ?_
              refine pu 23 78 ?_
              refine pu 24 79 ?_
              refine pu 25 80 ?_
              refine pu 26 81 ?_
              refine pu 27 82 ?_
              refine tk2 22 77 hHeld ?_
              refine on1 28 83 (fun K hK => ?_)
              refine goes_ Try.func81 (by kernel_rfl) rfl #[.int .i64 ((rd_T100 ((rd_T94 l0 x4_1).f1) x50_4).f1), .int .i64 (wrap64 (x4_1 + 1)), .int .i64 (wrap64 ((l0.length : Int) - 1))] (by rfl) rfl rfl mq ?_
              with_reducible refine (impl_within.calls ((rd_T100 ((rd_T94 l0 x4_1).f1) x50_4).f1) (wrap64 (x4_1 + 1)) (wrap64 ((l0.length : Int) - 1)) t115 _ A51.out).mono ?_
              rintro e w' ⟨rfl, ⟨nd, rfl⟩⟩
              refine ⟨_, rfl, ?_⟩
              refine hK.out _ _ ⟨(blk_cell BK111.out 0).trans rfl, (blk_cell BK111.out 1).trans rfl⟩ (fun hHeld => ?_)
              clear hK K
              refine norm_ (a' := ?_) ?_ ?_
              rotate_left
              ·show Act.put _ (some 83) _ = _
               simp only [Act.put, List.setIfInBounds_toArray, List.set_cons_zero, List.set_cons_succ, i64_w, i32_w]
               rfl
              refine pu 29 84 ?_
              refine pu 30 85 ?_
              refine done_ (done_of HT_.out (by kernel_rfl)) ?_
              try go_wp2
              go_meet
              case rel => exact ⟨_, (!t115), sq, H', ⟨b60_⟩, ⟨b29_⟩, ⟨b31_⟩, ⟨b45_⟩, ⟨bel2 GE107.out GE111.out⟩⟩
             replace c40 := Bool.eq_false_iff.mpr c40; subst c40
             have H1 : (impl_MachineOk.j4 k4 l0 x3_4 x4_1 ((rd_T94 l0 x4_1).f1) (((rd_T94 l0 x4_1).f1).length : Int) x50_4 true ((rd_T94 l0 x4_1).f0) ((rd_T94 l0 x4_1).f1) ((rd_T100 ((rd_T94 l0 x4_1).f1) x50_4).f0) ((rd_T100 ((rd_T94 l0 x4_1).f1) x50_4).f1)) = some r := b6_
             replace H := H1; clear H1
             have H' := am H
             clear H
             try go_wp2
             have n0_ : Aside0 (Kd.R (Kd.int .i64) 3 ((w36.setCell ⟨gb111, 0, none⟩ (.int .i64 ((rd_T100 ((rd_T94 l0 x4_1).f1) x50_4).f0))).setCell ⟨gb111, 1, none⟩ (.int .i64 ((rd_T100 ((rd_T94 l0 x4_1).f1) x50_4).f1))) w.heap.size (fun _ => True) (.slice (some ⟨go22, 0, none⟩) x3_4.length co22) x3_4) := ⟨rq (Kd.R_mono (Kd.R_far (p := ⟨gb111, 1, none⟩) (Kd.R_far (p := ⟨gb111, 0, none⟩) (Kd.R_types HO_3.out BK111.out (by decide)) (fun _ hk => hk.2) (.int .i64 ((rd_T100 ((rd_T94 l0 x4_1).f1) x50_4).f0))) (fun _ hk => hk.2) (.int .i64 ((rd_T100 ((rd_T94 l0 x4_1).f1) x50_4).f1))) (fun _ hk => trivial))⟩
             have n1_ : Aside0 (((w36.setCell ⟨gb111, 0, none⟩ (.int .i64 ((rd_T100 ((rd_T94 l0 x4_1).f1) x50_4).f0))).setCell ⟨gb111, 1, none⟩ (.int .i64 ((rd_T100 ((rd_T94 l0 x4_1).f1) x50_4).f1))).heap[gb107]? = some (.cells #[.bool ((rd_T94 l0 x4_1).f0), .slice (some ad110) ((rd_T94 l0 x4_1).f1).length c106_1] 94 (0, 0))) := ⟨b17_⟩
             have n2_ : Aside0 (((w36.setCell ⟨gb111, 0, none⟩ (.int .i64 ((rd_T100 ((rd_T94 l0 x4_1).f1) x50_4).f0))).setCell ⟨gb111, 1, none⟩ (.int .i64 ((rd_T100 ((rd_T94 l0 x4_1).f1) x50_4).f1))).heap[gb111]? = some (.cells #[.int .i64 ((rd_T100 ((rd_T94 l0 x4_1).f1) x50_4).f0), .int .i64 ((rd_T100 ((rd_T94 l0 x4_1).f1) x50_4).f1)] 100 (0, 0))) := ⟨b13_⟩
             have n3_ : Aside0 (Below w.heap.size w ((w36.setCell ⟨gb111, 0, none⟩ (.int .i64 ((rd_T100 ((rd_T94 l0 x4_1).f1) x50_4).f0))).setCell ⟨gb111, 1, none⟩ (.int .i64 ((rd_T100 ((rd_T94 l0 x4_1).f1) x50_4).f1)))) := ⟨bel2 GE107.out GE111.out⟩
             (try clear HO_3)
             (try clear BK107)
             (try clear BK111)
             (try clear HB)
             generalize ((w36.setCell ⟨gb111, 0, none⟩ (.int .i64 ((rd_T100 ((rd_T94 l0 x4_1).f1) x50_4).f0))).setCell ⟨gb111, 1, none⟩ (.int .i64 ((rd_T100 ((rd_T94 l0 x4_1).f1) x50_4).f1))) = w54 at n0_ n1_ n2_ n3_ ⊢
             have HO_3 := n0_; have BK107 := n1_; have BK111 := n2_; have HB := n3_; clear n0_ n1_ n2_ n3_; replace HO_3 := am (Kd.R_drew HO_3.out); replace BK107 := am (blk_drew BK107.out); replace BK111 := am (blk_drew BK111.out); replace HB := am (below_drew1 HB.out)
             refine st (n := 31) (S := fun w' => w'.cell? ⟨gb111, 0, none⟩ = some (.int .i64 ((rd_T100 ((rd_T94 l0 x4_1).f1) x50_4).f0)) ∧ w'.cell? ⟨gb111, 1, none⟩ = some (.int .i64 ((rd_T100 ((rd_T94 l0 x4_1).f1) x50_4).f1))) (ds := []) ⟨(blk_cell BK111.out 0).trans rfl, (blk_cell BK111.out 1).trans rfl⟩ (fun hHeld => ?_); refine with_tabW impl_MachineOk.tab16 impl_MachineOk.bits16 (fun HT_ HW_ => ?_)
             generalize w54.drew = w55 at HO_3 BK107 BK111 HB hHeld ⊢
             refine pu 0 55 ?_
             refine tk2 1 56 hHeld ?_
             refine on1 2 57 (fun K hK => ?_)
             refine goes_ Try.func81 (by kernel_rfl) rfl #[.int .i64 ((rd_T100 ((rd_T94 l0 x4_1).f1) x50_4).f0), .int .i64 97, .int .i64 122] (by rfl) rfl rfl mq ?_
             with_reducible refine (impl_within.calls ((rd_T100 ((rd_T94 l0 x4_1).f1) x50_4).f0) 97 122 false _ A39.out).mono ?_
             rintro e w' ⟨rfl, ⟨nd, rfl⟩⟩
             refine ⟨_, rfl, ?_⟩
             refine hK.out _ _ ⟨(blk_cell BK111.out 0).trans rfl, (blk_cell BK111.out 1).trans rfl⟩ (fun hHeld => ?_)
             clear hK K
             refine norm_ (a' := ?_) ?_ ?_
             rotate_left
             ·show Act.put _ (some 57) _ = _
              simp only [Act.put, List.setIfInBounds_toArray, List.set_cons_zero, List.set_cons_succ, i64_w, i32_w]
              rfl
             refine pu 3 58 ?_
             refine pu 4 59 ?_
             refine puu 5 60 ?_
             refine puu 6 61 ?_
             refine puu 7 62 ?_
             refine puu 8 63 ?_
             refine puu 9 64 ?_
             refine puu 10 65 ?_
             refine puu 11 66 ?_
             refine puu 12 67 ?_
             refine puu 13 68 ?_
             refine puu 14 69 ?_
             refine puu 15 70 ?_
             refine puu 16 71 ?_
             refine puu 17 72 ?_
             refine puu 18 73 ?_
             refine pu 19 74 ?_
             refine pu 20 75 ?_
             refine puu 21 76 ?_
             refine puu 22 77 ?_
             refine puu 23 78 ?_
             refine puu 24 79 ?_
             refine puu 25 80 ?_
             refine puu 26 81 ?_
             refine puu 27 82 ?_
             refine puu 28 83 ?_
             refine puu 29 84 ?_
             refine pu 30 85 ?_
             refine done_ (done_of HT_.out (by kernel_rfl)) ?_
             try go_wp2
             go_meet
             case rel => exact ⟨_, (true), sq, H', ⟨b60_⟩, ⟨b29_⟩, ⟨b31_⟩, ⟨b45_⟩, ⟨bel2 GE107.out GE111.out⟩⟩
            case rest =>
             clear HC35; (try clear c1); (try clear p2); (try clear c4); (try clear p6); (try clear c8); (try clear c10); (try clear c40); (try clear c41); (try clear c41b0); (try clear c43); (try clear c44); obtain ⟨kq, x85_34, rfl, HA, HJ34, HO_3, BK107, BK111, HB⟩ := hcut
             cases kq with
             | zero => exact absurd HA.out (by simp [impl_MachineOk.j4])
             | succ kj34 =>
              have H := HA.out; clear HA
              simp only [impl_MachineOk.j4] at H
              by_cases c56 : x85_34 = true
              ·subst c56
               have H1 : (some false) = some r := b21_
               replace H := H1; clear H1
               obtain rfl := Option.some.inj H; go_wp2; go_ret
               exact ⟨eq_, bel2 GE107.out GE111.out⟩
              replace c56 := Bool.eq_false_iff.mpr c56; subst c56
              have H1 : (if 0 ≤ ((rd_T100 ((rd_T94 l0 x4_1).f1) x50_4).f1) then (if ((rd_T100 ((rd_T94 l0 x4_1).f1) x50_4).f1) < (x3_4.length : Int) then (if (rd x3_4 ((rd_T100 ((rd_T94 l0 x4_1).f1) x50_4).f1)) ≥ 0 then (if 0 ≤ x4_1 then (if x4_1 < (x3_4.length : Int) then (impl_MachineOk.l1 kj34 l0 (x3_4.set (x4_1 : Int).toNat (mx (rd x3_4 x4_1) (wrap64 ((rd x3_4 ((rd_T100 ((rd_T94 l0 x4_1).f1) x50_4).f1)) + 1)))) x4_1 ((rd_T94 l0 x4_1).f1) (((rd_T94 l0 x4_1).f1).length : Int) (wrap64 (x50_4 + 1)) ((rd_T94 l0 x4_1).f0) ((rd_T94 l0 x4_1).f1)) else (none)) else (none)) else (impl_MachineOk.l1 kj34 l0 x3_4 x4_1 ((rd_T94 l0 x4_1).f1) (((rd_T94 l0 x4_1).f1).length : Int) (wrap64 (x50_4 + 1)) ((rd_T94 l0 x4_1).f0) ((rd_T94 l0 x4_1).f1))) else (none)) else (none)) = some r := b6_
              replace H := H1; clear H1
              replace H := it H; obtain ⟨c57b0, H⟩ := H
              replace H := it H; obtain ⟨c58b0, H⟩ := H
              by_cases c59 : (rd x3_4 ((rd_T100 ((rd_T94 l0 x4_1).f1) x50_4).f1)) ≥ 0
              ·rw [if_pos c59] at H; have c59b0 := decide_eq_true c59; clear c59
               replace H := it H; obtain ⟨c60b0, H⟩ := H
               replace H := it H; obtain ⟨c61b0, H⟩ := H; obtain ⟨ji62, hji62⟩ : ∃ j_ : Int, (mx (rd x3_4 x4_1) (wrap64 ((rd x3_4 ((rd_T100 ((rd_T94 l0 x4_1).f1) x50_4).f1)) + 1))) = j_ := ⟨_, rfl⟩
               replace H : (impl_MachineOk.l1 kj34 l0 (x3_4.set (x4_1 : Int).toNat (ji62)) x4_1 ((rd_T94 l0 x4_1).f1) (((rd_T94 l0 x4_1).f1).length : Int) (wrap64 (x50_4 + 1)) ((rd_T94 l0 x4_1).f0) ((rd_T94 l0 x4_1).f1)) = some r := by first | (rw [hji62] at H; exact H) | (simp only [hji62] at H ⊢; exact H)
               have hji62_ : (if (rd x3_4 x4_1) < (wrap64 ((rd x3_4 ((rd_T100 ((rd_T94 l0 x4_1).f1) x50_4).f1)) + 1)) then (wrap64 ((rd x3_4 ((rd_T100 ((rd_T94 l0 x4_1).f1) x50_4).f1)) + 1)) else (rd x3_4 x4_1)) = ji62 := hji62
               obtain ⟨y119, hy119⟩ : ∃ y_ : List Int, y_ = (x3_4.set (x4_1 : Int).toNat (ji62)) := ⟨_, rfl⟩
               replace H : (impl_MachineOk.l1 kj34 l0 y119 x4_1 ((rd_T94 l0 x4_1).f1) (((rd_T94 l0 x4_1).f1).length : Int) (wrap64 (x50_4 + 1)) ((rd_T94 l0 x4_1).f0) ((rd_T94 l0 x4_1).f1)) = some r := by first | (rw [hy119]; with_reducible exact H) | (have H2_ := bm H; rw [hy119]; with_reducible exact H2_) | (with_reducible exact bm H) | with_reducible exact H | (rw [hy119]; exact H) | exact H
               have Ny119 := am hy119; clear hy119
               have H' := am H
               clear H; have hnb64 := NB111_107.out; have hnc64 := NB107_111.out
               have hcz65_0 : wc.cell? ⟨gb111, 0, none⟩ = some (.int .i64 ((rd_T100 ((rd_T94 l0 x4_1).f1) x50_4).f0)) := (blk_cell BK111.out 0).trans rfl
               have hcz65_1 : wc.cell? ⟨gb111, 1, none⟩ = some (.int .i64 ((rd_T100 ((rd_T94 l0 x4_1).f1) x50_4).f1)) := (blk_cell BK111.out 1).trans rfl
               have hfz65_0 := bf BK111.out 0; have hfz65_1 := bf BK111.out 1
               have p116 : 0 ≤ (((rd_T100 ((rd_T94 l0 x4_1).f1) x50_4).f1) : Int) := of_decide_eq_true ad
               have q116 : ((rd_T100 ((rd_T94 l0 x4_1).f1) x50_4).f1) < (x3_4.length : Int) := of_decide_eq_true ad
               obtain ⟨ad116, e116, hx116_0⟩ := Kd.at_int (Kd.R_reads' HO_3.out).2.2 ((rd_T100 ((rd_T94 l0 x4_1).f1) x50_4).f1) p116 q116
               obtain rfl : (⟨go22, 0, none⟩ : Addr) = ad116 := (by injection e116)
               (first | simp only [add_plain] at hx116_0 | simp only [add_at] at hx116_0 | simp only [Addr.add, Nat.zero_add] at hx116_0 | skip)
               replace p116 := eq_true p116; replace q116 := eq_true q116
               try go_wp2
               replace HO_3 := am (Kd.R_drew HO_3.out); replace BK107 := am (blk_drew BK107.out); replace BK111 := am (blk_drew BK111.out); replace HB := am (below_drew1 HB.out)
               have p117 : 0 ≤ (x4_1 : Int) := of_decide_eq_true ad
               have q117 : x4_1 < (x3_4.length : Int) := of_decide_eq_true ad
               obtain ⟨ad117, e117, hx117_0⟩ := Kd.at_int (Kd.R_reads' HO_3.out).2.2 x4_1 p117 q117
               obtain rfl : (⟨go22, 0, none⟩ : Addr) = ad117 := (by injection e117)
               (first | simp only [add_plain] at hx117_0 | simp only [add_at] at hx117_0 | simp only [Addr.add, Nat.zero_add] at hx117_0 | skip)
               replace p117 := eq_true p117; replace q117 := eq_true q117
               have p118 : 0 ≤ (((rd_T100 ((rd_T94 l0 x4_1).f1) x50_4).f1) : Int) := of_decide_eq_true ad
               have q118 : ((rd_T100 ((rd_T94 l0 x4_1).f1) x50_4).f1) < (x3_4.length : Int) := of_decide_eq_true ad
               obtain ⟨ad118, e118, hx118_0⟩ := Kd.at_int (Kd.R_reads' HO_3.out).2.2 ((rd_T100 ((rd_T94 l0 x4_1).f1) x50_4).f1) p118 q118
               obtain rfl : (⟨go22, 0, none⟩ : Addr) = ad118 := (by injection e118)
               (first | simp only [add_plain] at hx118_0 | simp only [add_at] at hx118_0 | simp only [Addr.add, Nat.zero_add] at hx118_0 | skip)
               replace p118 := eq_true p118; replace q118 := eq_true q118
               have p63 : 0 ≤ (x4_1 : Int) := of_decide_eq_true ad
               have q63 : (x4_1 : Int) < ((x3_4.length : Int) : Int) := of_decide_eq_true ad
               obtain ⟨hx63_0, hf63_0⟩ := Kd.R_celln 0 HO_3.out (x4_1 : Int) p63 q63; replace p63 := eq_true p63; replace q63 := eq_true q63; have HP67 := Kd.R_putn HO_3.out (x4_1 : Int) ji62; rw [← Ny119.out] at HP67; have HQ67 := am HP67; clear HP67
               refine start_ (n := 15) (S := fun w' => w'.cell? ⟨gb111, 0, none⟩ = some (.int .i64 ((rd_T100 ((rd_T94 l0 x4_1).f1) x50_4).f0)) ∧ w'.cell? ⟨gb111, 1, none⟩ = some (.int .i64 ((rd_T100 ((rd_T94 l0 x4_1).f1) x50_4).f1)) ∧ w'.cell? ⟨go22, (x4_1).toNat, none⟩ = some (.int .i64 (rd x3_4 x4_1)) ∧ w'.cell? ⟨go22, (((rd_T100 ((rd_T94 l0 x4_1).f1) x50_4).f1)).toNat, none⟩ = some (.int .i64 (rd x3_4 ((rd_T100 ((rd_T94 l0 x4_1).f1) x50_4).f1)))) (ds := [14]) #[false, false, false, false, false, false, false, false, false, false, false, false, false, false, false] (by kernel_rfl) rfl rfl ⟨(blk_cell BK111.out 0).trans rfl, (blk_cell BK111.out 1).trans rfl, hx117_0, hx118_0⟩ (fun hHeld => ?_); refine with_tabW impl_MachineOk.tab19 impl_MachineOk.bits19 (fun HT_ HW_ => ?_)
               generalize wc.drew = w66 at HO_3 BK107 BK111 HB HQ67 hf63_0 hx117_0 hx118_0 hx63_0 hHeld ⊢
               refine pu 0 92 ?_
               refine pu 1 93 ?_
               refine pu 2 94 ?_
               refine pu 3 95 ?_
               refine pu 4 96 ?_
               refine pu 6 98 ?_
               refine pu 7 99 ?_
               refine tk4 5 97 hHeld ?_
               refine tk4 8 100 hHeld ?_
               refine pu 9 101 ?_
               refine tk4 10 102 hHeld ?_
               refine pu 11 103 ?_
               refine pu 12 104 ?_
               refine pu 13 105 ?_
               refine last_ (i := 14) (N := none) #[true, true, true, true, true, true, true, true, true, true, true, true, true, true, true] rfl rfl (one_of HT_.out (by kernel_rfl)) (by decide) (fun K hK => ?_)
               refine skip_ (w1 := ?_) (by rfl) rfl ?_ ?_
               rotate_left
               ·go_simp
                rfl
               refine hK.out _ _ ?_
               clear hK K
               refine done_ (done_of HT_.out (by kernel_rfl)) ?_
               try go_wp2
               (try simp only [← hl3_4])
               go_roundg kj34
               case measure => have := HK1.out; have := HJ10.out; have := HJ22.out; have := HK4.out; have := HJ34.out; omega
               case rel => exact ⟨(y119), (wrap64 (x50_4 + 1)), sq, H', ⟨by have := HK1.out; have := HJ10.out; have := HJ22.out; have := HK4.out; have := HJ34.out; omega⟩, ⟨by (try simp only [hl3_22]); (try simp only [hl3_4]); (with_reducible repeat (first | apply Kd.R_alloc | apply Kd.R_drewN | apply Kd.R_drew)); exact HQ67.out⟩, ⟨by (try simp only [hl3_22]); (try simp only [hl3_4]); (with_reducible repeat (first | refine blk_drewN ?_ _ | refine blk_drew ?_ | refine blk_alloc ?_ _)); refine blk_far ?_ (by have h_ := Kd.R_ne HO_3.out BK107.out (by decide); intro e_; exact h_ (by rw [e_]; rfl)) _; (with_reducible repeat (first | refine blk_drewN ?_ _ | refine blk_drew ?_ | refine blk_alloc ?_ _)); exact BK107.out⟩, ⟨bel3 GB22.out GE107.out GE111.out⟩⟩
              rw [if_neg c59] at H; have c59b0 := decide_eq_false c59; clear c59
              have H' := am H
              clear H; have hnb68 := NB111_107.out; have hnc68 := NB107_111.out
              have hcz69_0 : wc.cell? ⟨gb111, 0, none⟩ = some (.int .i64 ((rd_T100 ((rd_T94 l0 x4_1).f1) x50_4).f0)) := (blk_cell BK111.out 0).trans rfl
              have hcz69_1 : wc.cell? ⟨gb111, 1, none⟩ = some (.int .i64 ((rd_T100 ((rd_T94 l0 x4_1).f1) x50_4).f1)) := (blk_cell BK111.out 1).trans rfl
              have hfz69_0 := bf BK111.out 0; have hfz69_1 := bf BK111.out 1
              have p116 : 0 ≤ (((rd_T100 ((rd_T94 l0 x4_1).f1) x50_4).f1) : Int) := of_decide_eq_true ad
              have q116 : ((rd_T100 ((rd_T94 l0 x4_1).f1) x50_4).f1) < (x3_4.length : Int) := of_decide_eq_true ad
              obtain ⟨ad116, e116, hx116_0⟩ := Kd.at_int (Kd.R_reads' HO_3.out).2.2 ((rd_T100 ((rd_T94 l0 x4_1).f1) x50_4).f1) p116 q116
              obtain rfl : (⟨go22, 0, none⟩ : Addr) = ad116 := (by injection e116)
              (first | simp only [add_plain] at hx116_0 | simp only [add_at] at hx116_0 | simp only [Addr.add, Nat.zero_add] at hx116_0 | skip)
              replace p116 := eq_true p116; replace q116 := eq_true q116; go_wp2
              (try simp only [← hl3_4])
              go_roundg kj34
              case measure => have := HK1.out; have := HJ10.out; have := HJ22.out; have := HK4.out; have := HJ34.out; omega
              case rel => exact ⟨(x3_4), (wrap64 (x50_4 + 1)), sq, H', ⟨by have := HK1.out; have := HJ10.out; have := HJ22.out; have := HK4.out; have := HJ34.out; omega⟩, ⟨b29_⟩, ⟨b31_⟩, ⟨bel2 GE107.out GE111.out⟩⟩
           rw [if_neg c32] at H; have c32b0 := decide_eq_false c32; clear c32
           have H' := am H
           clear H; go_wp2
           (try simp only [← hl3_22, ← hl3_4])
           go_roundg k4
           case measure => have := HK1.out; have := HJ10.out; have := HJ22.out; have := HK4.out; omega
           case rel => exact ⟨(x3_4), (wrap64 (x4_1 - 1)), sq, H', ⟨by have := HK1.out; have := HJ10.out; have := HJ22.out; have := HK4.out; omega⟩, ⟨b29_⟩, ⟨bel1 GE107.out⟩⟩
    rw [if_neg c8] at H; have c8b0 := decide_eq_false c8; clear c8
    replace H := ip H; obtain ⟨c70, H⟩ := H; have c70b0 := decide_eq_true c70
    have c70b1 : decide (0 < x3_1.length) = true := decide_eq_true (by omega)
    clear c70; obtain rfl := Option.some.inj H; obtain ⟨Ao71, co71, eo71⟩ := Kd.R_slice HO_3.out; subst eo71
    have p105 : 0 ≤ (0 : Int) := (by omega)
    have q105 : 0 < (x3_1.length : Int) := of_decide_eq_true ad
    obtain ⟨ad105, e105, hx105_0⟩ := Kd.at_int (Kd.R_reads' HO_3.out).2.2 0 p105 q105
    cases e105
    have qi105 : (0 < x3_1.length) = True := eq_true (by omega)
    (try rw [show ((0 : Int)).toNat = 0 from rfl] at hx105_0)
    (try rw [Addr.add_zero'] at hx105_0)
    replace p105 := eq_true p105; replace q105 := eq_true q105; go_wp2; go_ret
    exact ⟨eq_, bel⟩
 replace c3 := Bool.eq_false_iff.mpr c3; subst c3
 have H1 : (some false) = some r := b6_
 replace H := H1; clear H1
 obtain rfl := Option.some.inj H; go_enter Try.func44, Try.ntmps44
 go_wp2_with (first | ((with_reducible refine gate_callee (f := 81) rfl ?_); refine goesL_ (some 10) rfl rfl Try.func81 (by kernel_rfl) rfl #[.int .i64 (l0.length : Int), .int .i64 1, .int .i64 400] rfl mq ?_; (with_reducible refine (impl_within.calls (l0.length : Int) 1 400 false _ A2.out).mono ?_); rintro e w' ⟨rfl, ⟨nd, rfl⟩⟩; refine ⟨_, rfl, ?_⟩))
 go_ret
 exact ⟨eq_, bel⟩
-- shrunk

/-! ### impl_counts: function 80 -/
mutual
def impl_counts.l0 : Nat → List (S94) → List Int → Int → Option (List Int)
 | 0, _, _, _ => none
 | k + 1, x0, x3, x4 => if x4 ≥ 0 then (if 0 ≤ x4 then (if x4 < (x0.length : Int) then (if (rd_T94 x0 x4).f0 = true then (if x4 < (x3.length : Int) then (impl_counts.j1 k x0 (x3.set (x4 : Int).toNat 1) x4) else (none)) else (impl_counts.j1 k x0 x3 x4)) else (none)) else (none)) else (some x3)
def impl_counts.j1 : Nat → List (S94) → List Int → Int → Option (List Int)
 | 0, _, _, _ => none
 | k + 1, x0, x3, x4 => if 0 ≤ x4 then (if x4 < (x0.length : Int) then (impl_counts.l1 k x0 x3 x4 ((rd_T94 x0 x4).f1) (((rd_T94 x0 x4).f1).length : Int) 0) else (none)) else (none)
def impl_counts.l1 : Nat → List (S94) → List Int → Int → List (S100) → Int → Int → Option (List Int)
 | 0, _, _, _, _, _, _ => none
 | k + 1, x0, x3, x4, x29, x30, x31 => if x31 < x30 then (if 0 ≤ x31 then (if x31 < (x29.length : Int) then (if 0 ≤ x4 then (if x4 < (x3.length : Int) then (if 0 ≤ ((rd_T100 x29 x31).f1) then (if ((rd_T100 x29 x31).f1) < (x3.length : Int) then (impl_counts.l1 k x0 (x3.set (x4 : Int).toNat (mn (wrap64 ((rd x3 x4) + (rd x3 ((rd_T100 x29 x31).f1)))) 1000000000)) x4 x29 x30 (wrap64 (x31 + 1))) else (none)) else (none)) else (none)) else (none)) else (none)) else (none)) else (impl_counts.l0 k x0 x3 (wrap64 (x4 - 1)))
end
def impl_counts.f (k : Nat) (l0 : List (S94)) : Option (List Int) := if 0 ≤ (l0.length : Int) then (if l0.length ≤ 35184372088832 then (impl_counts.l0 k l0 (List.replicate l0.length 0) (wrap64 ((l0.length : Int) - 1))) else (none)) else (none)
def impl_counts.T10 : Bool × List (List Nat × List Nat) := (true, [([], []), ([], []), ([], []), ([], []), ([2, 3], [2, 3]), ([4], [4]), ([], []), ([], []), ([7], [7]), ([6, 8], [6, 8]), ([9], [9]), ([5, 10], [5, 10]), ([11], [11]), ([0, 1, 0, 1, 2, 3, 4, 5, 6, 7, 8, 9, 10, 11, 12], [0, 1]), ([13, 12, 0, 1, 2, 3, 4, 5, 6, 7, 8, 9, 10, 11, 12], [12, 13])])
def impl_counts.B10 : List Nat := [0, 0, 0, 0, 12, 28, 0, 0, 128, 448, 960, 2044, 4092, 8191, 16383]
theorem impl_counts.tab10 : rtab .any (opsOf Try.f80 10) = impl_counts.T10 := by kernel_rfl
theorem impl_counts.bits10 : waitsOk impl_counts.T10.2 impl_counts.B10 = true := by kernel_rfl
theorem impl_counts.calls (k : Nat) (A0 : Option Addr) (c0 : Nat) (l0 : List (S94)) (r : List Int) (w : World) (hr0 : Kd.C k94 w A0 l0.length l0) (hc0 : l0.length ≤ c0) (h : impl_counts.f k l0 = some r) :
  Calls Try.prog 80 #[.slice A0 l0.length c0] w fun e w' => ∃ v0_ : Value, e = .returned (v0_) ∧ Kd.R (Kd.int .i64) 3 w' w.heap.size (fun _ => True) v0_ r ∧ Below w.heap.size w w' := by
 have hu100 := Try.underlying100; have HR0 := am hr0; have HC0 := am hc0; clear hr0 hc0; have HB := am (Below.refl w.heap.size w)
 have H : (if 0 ≤ (l0.length : Int) then (if l0.length ≤ 35184372088832 then (impl_counts.l0 k l0 (List.replicate l0.length 0) (wrap64 ((l0.length : Int) - 1))) else (none)) else (none)) = some r := h
 clear h
 replace H := ip H; obtain ⟨c2, H⟩ := H; have c2b0 := eq_true c2
 have c2b1 : decide (0 ≤ (l0.length : Int)) = true := decide_eq_true c2
 clear c2
 replace H := ip H; obtain ⟨c3, H⟩ := H; have c3b0 := eq_true c3
 have c3b1 : decide (l0.length ≤ 35184372088832) = true := decide_eq_true c3
 clear c3; obtain ⟨y120, hy120⟩ : ∃ y_ : List Int, y_ = (List.replicate l0.length 0) := ⟨_, rfl⟩
 replace H : (impl_counts.l0 k l0 y120 (wrap64 ((l0.length : Int) - 1))) = some r := by first | (rw [hy120]; with_reducible exact H) | (have H2_ := bm H; rw [hy120]; with_reducible exact H2_) | (with_reducible exact bm H) | with_reducible exact H | (rw [hy120]; exact H) | exact H
 have Ny120 := am hy120; clear hy120
 have H' := am H
 clear H; go_enter Try.func80, Try.ntmps80
 go_wp2_with (first | ((with_reducible refine gate_dst (N := 9) rfl ?_); refine Kd.R_make (Kd.int .i64) _ 3 rfl (N := 9) rfl 86 _ _ rfl (l0.length : Int) rfl rfl Try.underlying86 (.int .i64 0) 8 info3 rfl (by decide) (by omega) 0 (ok := fun _ => True) (okp := fun _ => True) rfl (fun _ hk => hk) trivial (of_decide_eq_true ad) (Nat.le_trans (Nat.mul_le_mul_right _ (of_decide_eq_true ad : (l0.length : Int).toNat ≤ 35184372088832)) (by omega)) (Below.refl _ _) (Nat.le_refl _) ?_; intro v121 w4 ho5 hb hg_ hnew_; clear hg_ hnew_; (first | rw [← Ny120.out] at ho5 | (simp only [Int.reduceToNat] at ho5; rw [← Ny120.out] at ho5) | (simp only [Int.toNat_natCast] at ho5; rw [← Ny120.out] at ho5)); have HO122 := am (Kd.R_lower ho5 (below_size bel)); replace HB := am (below_step bel hb); clear hb ho5))
 go_loopg [4] k (fun kq v4 w' => ∃ (x3_1 : List Int) (x4_1 : Int), v4 = .int .i64 x4_1 ∧ Aside0 (impl_counts.l0 kq l0 x3_1 x4_1 = some r) ∧ Aside0 (kq ≤ k) ∧ Aside0 (Kd.R (Kd.int .i64) 3 w' w.heap.size (fun _ => True) v121 x3_1) ∧ Aside0 (Below w.heap.size w w'))
 case atStart => exact ⟨(y120), (wrap64 ((l0.length : Int) - 1)), sq, H', ⟨Nat.le_refl _⟩, ⟨rq HO122.out⟩, ⟨bel⟩⟩
 case round =>
  clear H'; (try clear c2); (try clear c2b0); (try clear c2b1); (try clear p2); (try clear c3); (try clear c3b0); (try clear c3b1); obtain ⟨x3_1, x4_1, rfl, HA, HK1, HO_3, HB⟩ := hrel
  cases gk with
  | zero => exact absurd HA.out (by simp [impl_counts.l0])
  | succ k1 =>
   have H := HA.out; clear HA
   simp only [impl_counts.l0] at H
   by_cases c6 : x4_1 ≥ 0
   ·rw [if_pos c6] at H; have c6b0 := decide_eq_true c6; clear c6
    replace H := it H; obtain ⟨c7b0, H⟩ := H
    replace H := it H; obtain ⟨c8b0, H⟩ := H; have HC9 := am H; clear H
    have p123 : 0 ≤ (x4_1 : Int) := of_decide_eq_true ad
    have q123 : x4_1 < (l0.length : Int) := of_decide_eq_true ad
    obtain ⟨ad123, A123_1, c123_1, e123, hx123_0, hx123_1, hl123_1, hi123_1⟩ := at_T94 HR0.out x4_1 p123 q123
    cases e123
    replace hx123_0 := kp HB.out hx123_0; replace hx123_1 := kp HB.out hx123_1; have HR123_1 := am hi123_1; have HC123_1 := am hl123_1; clear hi123_1 hl123_1; replace p123 := eq_true p123; replace q123 := eq_true q123
    go_upto_if 21 with (fail)
    go_cut [] (fun wc => ∃ (kq : Nat) (x3_8 : List Int), Aside0 (impl_counts.j1 kq l0 x3_8 x4_1 = some r) ∧ Aside0 (kq ≤ k1) ∧ Aside0 (Kd.R (Kd.int .i64) 3 wc w.heap.size (fun _ => True) v121 x3_8) ∧ Aside0 (Below w.heap.size w wc))
    case first =>
     have H := HC9.out; clear HC9; obtain ⟨bq10, hbq10⟩ : ∃ b_ : Bool, b_ = ((rd_T94 l0 x4_1).f0) := ⟨_, rfl⟩
     replace H : (if bq10 = true then (if x4_1 < (x3_1.length : Int) then (impl_counts.j1 k1 l0 (x3_1.set (x4_1 : Int).toNat 1) x4_1) else (none)) else (impl_counts.j1 k1 l0 x3_1 x4_1)) = some r := by rw [← hbq10] at H; exact H
     have Nbq10 := am hbq10; clear hbq10
     (try rw [← Nbq10.out])
     by_cases c11 : bq10 = true
     ·subst c11
      have H1 : (if x4_1 < (x3_1.length : Int) then (impl_counts.j1 k1 l0 (x3_1.set (x4_1 : Int).toNat 1) x4_1) else (none)) = some r := b21_
      replace H := H1; clear H1
      replace H := it H; obtain ⟨c12b0, H⟩ := H; obtain ⟨y124, hy124⟩ : ∃ y_ : List Int, y_ = (x3_1.set (x4_1 : Int).toNat 1) := ⟨_, rfl⟩
      replace H : (impl_counts.j1 k1 l0 y124 x4_1) = some r := by first | (rw [hy124]; with_reducible exact H) | (have H2_ := bm H; rw [hy124]; with_reducible exact H2_) | (with_reducible exact bm H) | with_reducible exact H | (rw [hy124]; exact H) | exact H
      have Ny124 := am hy124; clear hy124
      have H' := am H
      clear H
      have p13 : 0 ≤ (x4_1 : Int) := of_decide_eq_true ad
      have q13 : (x4_1 : Int) < ((x3_1.length : Int) : Int) := of_decide_eq_true ad
      obtain ⟨go13, co13, eo13, gb13, gl13, cl13, HG13⟩ := Kd.R_form HO_3.out (by omega)
      (first | cases eo13 | (injection eo13 with ea_ en_ ec_; (first | subst ea_ | (injection ea_ with ea_; subst ea_)); subst ec_; clear en_))
      have GB13 := Aside0.mk gb13; have GG13 := am HG13; clear gb13 gl13 HG13; obtain ⟨hx13_0, hf13_0⟩ := Kd.R_celln 0 HO_3.out (x4_1 : Int) p13 q13; replace p13 := eq_true p13; replace q13 := eq_true q13; have HP14 := Kd.R_putg HO_3.out (x4_1 : Int) 1
      go_wp2_with (first | ((with_reducible refine gate_store (t := 3) (p := 24) rfl ?_); refine store_event (t := 3) (p := 24) (v := ?vo_w15) (w1 := (wr.setCell ⟨go13, (x4_1 : Int).toNat, none⟩ (.int .i64 1))) ?hg ?ho ?hn ?hr ?_; (case ho => rfl); (case hg => rfl); (case hn => rfl); (case hr => first | (go_simp; done) | (go_simp; rfl)); intro w15 hw; have hg : wr.grownBy w15 (some go13) := (by rw [hw]; exact HP14.2); have hp_ : Kd.R (Kd.int .i64) 3 w15 w.heap.size (fun _ => True) (.slice (some ⟨go13, 0, none⟩) x3_1.length co13) y124 := (by rw [hw, Ny124.out]; exact HP14.1); clear HP14; replace HO_3 := am (hp_); replace HB := am ((by rw [hw]; exact below_set (HB.out) GB13.out : Below w.heap.size w w15)); clear hg hw hp_))
      go_meet
      case rel => exact ⟨_, (y124), H', ⟨b27_⟩, ⟨rq HO_3.out⟩, ⟨bel⟩⟩
     replace c11 := Bool.eq_false_iff.mpr c11; subst c11
     (try rw [← Nbq10.out] at hx123_0)
     (try rw [← Nbq10.out])
     have H1 : (impl_counts.j1 k1 l0 x3_1 x4_1) = some r := b6_
     replace H := H1; clear H1
     have H' := am H
     clear H; go_wp2
     go_meet
     case rel => (try rw [← Nbq10.out]); exact ⟨_, (x3_1), H', ⟨b27_⟩, ⟨rq HO_3.out⟩, ⟨bel⟩⟩
    case rest =>
     clear HC9; (try clear c1); (try clear p1); (try clear q1); (try clear hx1); (try clear hf1); (try clear c2); (try clear c2b0); (try clear c2b1); (try clear p2); (try clear c3); (try clear c3b0); (try clear c3b1); (try clear c6); (try clear c6b0); (try clear p6); (try clear c7); (try clear c7b0); (try clear c8); (try clear c8b0); (try clear q10); (try clear c11); (try clear c12); (try clear c12b0); (try clear p12); (try clear q12); (try clear hx12); (try clear p13); (try clear q13); (try clear hx13); (try clear hf13); (try clear hx123_0); (try clear hx123_1); (try clear hx13_0); (try clear p123); (try clear p13); (try clear p2); (try clear q123); (try clear q13); obtain ⟨kq, x3_8, HA, HJ8, HO_3, HB⟩ := hcut
     cases kq with
     | zero => exact absurd HA.out (by simp [impl_counts.j1])
     | succ kj8 =>
      have H := HA.out; clear HA
      simp only [impl_counts.j1] at H
      replace H := it H; obtain ⟨c16b0, H⟩ := H
      replace H := it H; obtain ⟨c17b0, H⟩ := H
      have H' := am H
      clear H
      have p125 : 0 ≤ (x4_1 : Int) := of_decide_eq_true ad
      have q125 : x4_1 < (l0.length : Int) := of_decide_eq_true ad
      obtain ⟨ad125, A125_1, c125_1, e125, hx125_0, hx125_1, hl125_1, hi125_1⟩ := at_T94 HR0.out x4_1 p125 q125
      obtain rfl : ad123 = ad125 := (by injection e125)
      replace hx125_0 := kp HB.out hx125_0; replace hx125_1 := kp HB.out hx125_1; have HR125_1 := am hi125_1; have HC125_1 := am hl125_1; clear hi125_1 hl125_1; replace p125 := eq_true p125; replace q125 := eq_true q125; go_wp2
      go_loopg [31] kj8 (fun kq v31 w' => ∃ (x3_3 : List Int) (x31_3 : Int), v31 = .int .i64 x31_3 ∧ Aside0 (impl_counts.l1 kq l0 x3_3 x4_1 ((rd_T94 l0 x4_1).f1) (((rd_T94 l0 x4_1).f1).length : Int) x31_3 = some r) ∧ Aside0 (kq ≤ kj8) ∧ Aside0 (Kd.R (Kd.int .i64) 3 w' w.heap.size (fun _ => True) v121 x3_3) ∧ Aside0 (Below w.heap.size w w'))
      case atStart => exact ⟨(x3_8), (0), sq, H', ⟨Nat.le_refl _⟩, ⟨rq HO_3.out⟩, ⟨bel⟩⟩
      case round =>
       clear H'; (try clear c1); (try clear p1); (try clear q1); (try clear hx1); (try clear hf1); (try clear c2); (try clear c2b0); (try clear c2b1); (try clear p2); (try clear c3); (try clear c3b0); (try clear c3b1); (try clear c6); (try clear c6b0); (try clear p6); (try clear c7); (try clear c7b0); (try clear c8); (try clear c8b0); (try clear q10); (try clear c11); (try clear c12); (try clear c12b0); (try clear p12); (try clear q12); (try clear hx12); (try clear p13); (try clear q13); (try clear hx13); (try clear hf13); (try clear c16); (try clear c16b0); (try clear c17); (try clear c17b0); (try clear hx123_0); (try clear hx123_1); (try clear hx125_0); (try clear hx125_1); (try clear hx13_0); (try clear p1); (try clear p12); (try clear p123); (try clear p125); (try clear p13); (try clear p2); (try clear p6); (try clear q1); (try clear q10); (try clear q12); (try clear q123); (try clear q125); (try clear q13); obtain ⟨x3_3, x31_3, rfl, HA, HK3, HO_3, HB⟩ := hrel
       cases gk with
       | zero => exact absurd HA.out (by simp [impl_counts.l1])
       | succ k3 =>
        have H := HA.out; clear HA
        simp only [impl_counts.l1] at H
        by_cases c18 : x31_3 < (((rd_T94 l0 x4_1).f1).length : Int)
        ·rw [if_pos c18] at H; have c18b0 := decide_eq_true c18; clear c18
         replace H := it H; obtain ⟨c19b0, H⟩ := H
         replace H := it H; obtain ⟨c20b0, H⟩ := H
         replace H := it H; obtain ⟨c21b0, H⟩ := H
         replace H := it H; obtain ⟨c22b0, H⟩ := H
         replace H := it H; obtain ⟨c23b0, H⟩ := H
         replace H := it H; obtain ⟨c24b0, H⟩ := H; obtain ⟨ji25, hji25⟩ : ∃ j_ : Int, (mn (wrap64 ((rd x3_3 x4_1) + (rd x3_3 ((rd_T100 ((rd_T94 l0 x4_1).f1) x31_3).f1)))) 1000000000) = j_ := ⟨_, rfl⟩
         replace H : (impl_counts.l1 k3 l0 (x3_3.set (x4_1 : Int).toNat (ji25)) x4_1 ((rd_T94 l0 x4_1).f1) (((rd_T94 l0 x4_1).f1).length : Int) (wrap64 (x31_3 + 1))) = some r := by first | (rw [hji25] at H; exact H) | (simp only [hji25] at H ⊢; exact H)
         have hji25_ : (if 1000000000 < (wrap64 ((rd x3_3 x4_1) + (rd x3_3 ((rd_T100 ((rd_T94 l0 x4_1).f1) x31_3).f1)))) then 1000000000 else (wrap64 ((rd x3_3 x4_1) + (rd x3_3 ((rd_T100 ((rd_T94 l0 x4_1).f1) x31_3).f1))))) = ji25 := hji25
         obtain ⟨y130, hy130⟩ : ∃ y_ : List Int, y_ = (x3_3.set (x4_1 : Int).toNat (ji25)) := ⟨_, rfl⟩
         replace H : (impl_counts.l1 k3 l0 y130 x4_1 ((rd_T94 l0 x4_1).f1) (((rd_T94 l0 x4_1).f1).length : Int) (wrap64 (x31_3 + 1))) = some r := by first | (rw [hy130]; with_reducible exact H) | (have H2_ := bm H; rw [hy130]; with_reducible exact H2_) | (with_reducible exact bm H) | with_reducible exact H | (rw [hy130]; exact H) | exact H
         have Ny130 := am hy130; clear hy130
         have H' := am H
         clear H
         have p126 : 0 ≤ (x31_3 : Int) := of_decide_eq_true ad
         have q126 : x31_3 < (((rd_T94 l0 x4_1).f1).length : Int) := of_decide_eq_true ad
         obtain ⟨ad126, e126, hx126_0, hx126_1⟩ := at_T100 HR125_1.out x31_3 p126 q126
         cases e126
         replace hx126_0 := kp HB.out hx126_0; replace hx126_1 := kp HB.out hx126_1; replace p126 := eq_true p126; replace q126 := eq_true q126
         try go_wp2_with (first | ((with_reducible refine gate_dst (N := 6) rfl ?_); refine bx 6 (cs := #[.int .i64 0, .int .i64 0]) (t := 100) ?_; intro gb127 hg w27 hbox hb; replace HO_3 := am (Kd.R_below (rq HO_3.out) hb); have BK127 := am (hbox); have GW127 := am ((b7_ : w.heap.size ≤ gb127)); have GE127 := am ((b7_ : w.heap.size ≤ gb127)); replace HB := am (below_step bel hb); clear hb hbox hg; have hcz28_0 := bc BK127.out 0; have hcz28_1 := bc BK127.out 1; have hfz28_0 := bf BK127.out 0; have hfz28_1 := bf BK127.out 1))
         have n0_ : Aside0 (Kd.R (Kd.int .i64) 3 ((w27.setCell ⟨gb127, 0, none⟩ (.int .i64 ((rd_T100 ((rd_T94 l0 x4_1).f1) x31_3).f0))).setCell ⟨gb127, 1, none⟩ (.int .i64 ((rd_T100 ((rd_T94 l0 x4_1).f1) x31_3).f1))) w.heap.size (fun _ => True) v121 x3_3) := ⟨rq (Kd.R_mono (Kd.R_far (p := ⟨gb127, 1, none⟩) (Kd.R_far (p := ⟨gb127, 0, none⟩) (Kd.R_types HO_3.out BK127.out (by decide)) (fun _ hk => hk.2) (.int .i64 ((rd_T100 ((rd_T94 l0 x4_1).f1) x31_3).f0))) (fun _ hk => hk.2) (.int .i64 ((rd_T100 ((rd_T94 l0 x4_1).f1) x31_3).f1))) (fun _ hk => trivial))⟩
         have n1_ : Aside0 (((w27.setCell ⟨gb127, 0, none⟩ (.int .i64 ((rd_T100 ((rd_T94 l0 x4_1).f1) x31_3).f0))).setCell ⟨gb127, 1, none⟩ (.int .i64 ((rd_T100 ((rd_T94 l0 x4_1).f1) x31_3).f1))).heap[gb127]? = some (.cells #[.int .i64 ((rd_T100 ((rd_T94 l0 x4_1).f1) x31_3).f0), .int .i64 ((rd_T100 ((rd_T94 l0 x4_1).f1) x31_3).f1)] 100 (0, 0))) := ⟨by (with_reducible repeat (first | refine blk_drewN ?_ _ | refine blk_drew ?_ | refine blk_alloc ?_ _)); refine blk_put (cs := #[.int .i64 ((rd_T100 ((rd_T94 l0 x4_1).f1) x31_3).f0), .int .i64 0]) ?_ 1 _ rfl; (with_reducible repeat (first | refine blk_drewN ?_ _ | refine blk_drew ?_ | refine blk_alloc ?_ _)); refine blk_put (cs := #[.int .i64 0, .int .i64 0]) ?_ 0 _ rfl; (with_reducible repeat (first | refine blk_drewN ?_ _ | refine blk_drew ?_ | refine blk_alloc ?_ _)); exact BK127.out⟩
         have n2_ : Aside0 (Below w.heap.size w ((w27.setCell ⟨gb127, 0, none⟩ (.int .i64 ((rd_T100 ((rd_T94 l0 x4_1).f1) x31_3).f0))).setCell ⟨gb127, 1, none⟩ (.int .i64 ((rd_T100 ((rd_T94 l0 x4_1).f1) x31_3).f1)))) := ⟨bel1 GE127.out⟩
         (try clear HO_3)
         (try clear BK127)
         (try clear HB)
         generalize ((w27.setCell ⟨gb127, 0, none⟩ (.int .i64 ((rd_T100 ((rd_T94 l0 x4_1).f1) x31_3).f0))).setCell ⟨gb127, 1, none⟩ (.int .i64 ((rd_T100 ((rd_T94 l0 x4_1).f1) x31_3).f1))) = w29 at n0_ n1_ n2_ ⊢
         have HO_3 := n0_; have BK127 := n1_; have HB := n2_; clear n0_ n1_ n2_; replace HO_3 := am (Kd.R_drew HO_3.out); replace BK127 := am (blk_drew BK127.out); replace HB := am (below_drew1 HB.out); obtain ⟨Ao31, co31, eo31⟩ := Kd.R_slice HO_3.out
         (first | subst eo31 | (injection eo31 with f1_ f2_ f3_; have f4_ := f1_.symm; have f5_ := f3_.symm; clear f1_ f2_ f3_; subst f4_; subst f5_))
         have p128 : 0 ≤ (x4_1 : Int) := of_decide_eq_true ad
         have q128 : x4_1 < (x3_3.length : Int) := of_decide_eq_true ad
         obtain ⟨ad128, e128, hx128_0⟩ := Kd.at_int (Kd.R_reads' HO_3.out).2.2 x4_1 p128 q128
         cases e128
         replace p128 := eq_true p128; replace q128 := eq_true q128
         have p129 : 0 ≤ (((rd_T100 ((rd_T94 l0 x4_1).f1) x31_3).f1) : Int) := of_decide_eq_true ad
         have q129 : ((rd_T100 ((rd_T94 l0 x4_1).f1) x31_3).f1) < (x3_3.length : Int) := of_decide_eq_true ad
         obtain ⟨ad129, e129, hx129_0⟩ := Kd.at_int (Kd.R_reads' HO_3.out).2.2 ((rd_T100 ((rd_T94 l0 x4_1).f1) x31_3).f1) p129 q129
         obtain rfl : ad128 = ad129 := (by injection e129)
         replace p129 := eq_true p129; replace q129 := eq_true q129
         have p26 : 0 ≤ (x4_1 : Int) := of_decide_eq_true ad
         have q26 : (x4_1 : Int) < ((x3_3.length : Int) : Int) := of_decide_eq_true ad
         obtain ⟨go26, co26, eo26, gb26, gl26, cl26, HG26⟩ := Kd.R_form HO_3.out (by omega)
         (first | cases eo26 | (injection eo26 with ea_ en_ ec_; (first | subst ea_ | (injection ea_ with ea_; subst ea_)); subst ec_; clear en_))
         have GB26 := Aside0.mk gb26; have GG26 := am HG26; clear gb26 gl26 HG26
         (first | simp only [add_plain] at hx128_0 | skip)
         (first | simp only [add_plain] at hx129_0 | skip)
         obtain ⟨hx26_0, hf26_0⟩ := Kd.R_celln 0 HO_3.out (x4_1 : Int) p26 q26; replace p26 := eq_true p26; replace q26 := eq_true q26; have HP32 := Kd.R_putn HO_3.out (x4_1 : Int) ji25; rw [← Ny130.out] at HP32; have HQ32 := am HP32; clear HP32
         refine start_ (n := 15) (S := fun w' => w'.cell? ⟨gb127, 0, none⟩ = some (.int .i64 ((rd_T100 ((rd_T94 l0 x4_1).f1) x31_3).f0)) ∧ w'.cell? ⟨gb127, 1, none⟩ = some (.int .i64 ((rd_T100 ((rd_T94 l0 x4_1).f1) x31_3).f1)) ∧ w'.cell? ⟨go26, (x4_1).toNat, none⟩ = some (.int .i64 (rd x3_3 x4_1)) ∧ w'.cell? ⟨go26, (((rd_T100 ((rd_T94 l0 x4_1).f1) x31_3).f1)).toNat, none⟩ = some (.int .i64 (rd x3_3 ((rd_T100 ((rd_T94 l0 x4_1).f1) x31_3).f1)))) (ds := [14]) #[false, false, false, false, false, false, false, false, false, false, false, false, false, false, false] (by kernel_rfl) rfl rfl ⟨(blk_cell BK127.out 0).trans rfl, (blk_cell BK127.out 1).trans rfl, hx128_0, hx129_0⟩ (fun hHeld => ?_); refine with_tabW impl_counts.tab10 impl_counts.bits10 (fun HT_ HW_ => ?_)
         generalize w29.drew = w30 at HO_3 BK127 HB GG26 HQ32 hf26_0 hx128_0 hx129_0 hx26_0 hHeld ⊢
         refine pu 0 35 ?_
         refine pu 1 36 ?_
         refine pu 2 37 ?_
         refine pu 3 38 ?_
         refine pu 4 39 ?_
         refine pu 6 41 ?_
         refine pu 7 42 ?_
         refine tk4 5 40 hHeld ?_
         refine tk4 8 43 hHeld ?_
         refine pu 9 44 ?_
         refine tk4 10 45 hHeld ?_
         refine pu 11 46 ?_
         refine pu 12 47 ?_
         refine pu 13 48 ?_
         refine last_ (i := 14) (N := none) #[true, true, true, true, true, true, true, true, true, true, true, true, true, true, true] rfl rfl (one_of HT_.out (by kernel_rfl)) (by decide) (fun K hK => ?_)
         refine skip_ (w1 := ?_) (by rfl) rfl ?_ ?_
         rotate_left
         ·go_simp
          rfl
         refine hK.out _ _ ?_
         clear hK K
         refine done_ (done_of HT_.out (by kernel_rfl)) ?_
         try go_wp2
         go_roundg k3
         case measure => have := HK1.out; have := HJ8.out; have := HK3.out; omega
         case rel => exact ⟨(y130), (wrap64 (x31_3 + 1)), sq, H', ⟨b86_⟩, ⟨rq HQ32.out⟩, ⟨bel2 GB26.out GE127.out⟩⟩
        rw [if_neg c18] at H; have c18b0 := decide_eq_false c18; clear c18
        have H' := am H
        clear H; go_wp2
        go_roundg k3
        case measure => have := HK1.out; have := HJ8.out; have := HK3.out; omega
        case rel => exact ⟨(x3_3), (wrap64 (x4_1 - 1)), sq, H', ⟨b86_⟩, ⟨rq HO_3.out⟩, ⟨bel⟩⟩
   rw [if_neg c6] at H; have c6b0 := decide_eq_false c6; clear c6; obtain rfl := Option.some.inj H; go_wp2; go_ret
   exact ⟨_, eq_, b72_, bel⟩

/-! ### impl_MachineCount: function 35 -/
def impl_MachineCount.f (k : Nat) (l0 : List (S94)) : Option (Int) := (impl_MachineOk.f k l0).bind fun t131 => (if t131 = true then ((impl_counts.f k l0).bind fun t132 => (if 0 < (t132.length : Int) then (some (rd t132 0)) else (none))) else (some 0))
theorem impl_MachineCount.calls (k : Nat) (A0 : Option Addr) (c0 : Nat) (l0 : List (S94)) (r : Int) (w : World) (hr0 : Kd.C k94 w A0 l0.length l0) (hc0 : l0.length ≤ c0) (h : impl_MachineCount.f k l0 = some r) :
  Calls Try.prog 35 #[.slice A0 l0.length c0] w fun e w' => e = .returned (.int .i64 r) ∧ Below w.heap.size w w' := by
 have HR0 := am hr0; have HC0 := am hc0; clear hr0 hc0; have HB := am (Below.refl w.heap.size w)
 have H : ((impl_MachineOk.f k l0).bind fun t131 => (if t131 = true then ((impl_counts.f k l0).bind fun t132 => (if 0 < (t132.length : Int) then (some (rd t132 0)) else (none))) else (some 0))) = some r := h
 clear h; replace H := bs H; obtain ⟨t131, A20, H⟩ := H; replace H : (if t131 = true then ((impl_counts.f k l0).bind fun t132 => (if 0 < (t132.length : Int) then (some (rd t132 0)) else (none))) else (some 0)) = some r := H; have A2 := Aside0.mk A20; clear A20
 by_cases c3 : t131 = true
 ·subst c3
  have H1 : ((impl_counts.f k l0).bind fun t132 => (if 0 < (t132.length : Int) then (some (rd t132 0)) else (none))) = some r := b21_
  replace H := H1; clear H1
  replace H := bs H; obtain ⟨t132, A40, H⟩ := H; replace H : (if 0 < (t132.length : Int) then (some (rd t132 0)) else (none)) = some r := H; have A4 := Aside0.mk A40; clear A40
  replace H := ip H; obtain ⟨c5, H⟩ := H; have c5b0 := decide_eq_true c5
  have c5b1 : decide (0 < t132.length) = true := decide_eq_true (by omega)
  clear c5; obtain rfl := Option.some.inj H; go_enter Try.func35, Try.ntmps35
  go_wp2_with (first | ((with_reducible refine gate_callee (f := 44) rfl ?_); refine goesL_ (some 4) rfl rfl Try.func44 (by kernel_rfl) rfl #[.slice A0 l0.length c0] rfl mq ?_; (with_reducible refine (impl_MachineOk.calls k _ _ l0 true _ ?side1 ?side2 A2.out).mono ?_); (case side1 => repeat (first | exact HR0.out | (with_reducible refine Kd.C_alloc ?_ _) | (with_reducible refine Kd.C_drewN ?_ _) | (with_reducible refine Kd.C_drew ?_))); (case side2 => exact HC0.out); rintro e w6 ⟨rfl, hb⟩; refine ⟨_, rfl, ?_⟩; replace HB := am (below_step bel hb); (try clear hb); (try clear hb2); (try clear hk); (try clear hi)) | ((with_reducible refine gate_callee (f := 80) rfl ?_); refine goesL_ (some 7) rfl rfl Try.func80 (by kernel_rfl) rfl #[.slice A0 l0.length c0] rfl mq ?_; (with_reducible refine (impl_counts.calls k _ _ l0 t132 _ ?side1 ?side2 A4.out).mono ?_); (case side1 => exact cq (Kd.C_below HR0.out HB.out)); (case side2 => exact HC0.out); rintro e w7 ⟨v133, rfl, ho0, hb⟩; refine ⟨_, rfl, ?_⟩; have HO134 := am (Kd.R_lower ho0 (below_size bel)); replace HB := am (below_step bel hb); (try clear hb); (try clear hb2); (try clear hk); (try clear hi); (try clear ho0); obtain ⟨Ao8, co8, eo8⟩ := Kd.R_slice HO134.out; subst eo8; have p135 : 0 ≤ (0 : Int) := (by omega); have q135 : 0 < (t132.length : Int) := of_decide_eq_true ad; obtain ⟨ad135, e135, hx135_0⟩ := Kd.at_int (Kd.R_reads' HO134.out).2.2 0 p135 q135; cases e135; have qi135 : (0 < t132.length) = True := eq_true (by omega); (try rw [show ((0 : Int)).toNat = 0 from rfl] at hx135_0); (try rw [Addr.add_zero'] at hx135_0); replace p135 := eq_true p135; replace q135 := eq_true q135))
  go_ret
  exact ⟨eq_, bel⟩
 replace c3 := Bool.eq_false_iff.mpr c3; subst c3
 have H1 : (some 0) = some r := b6_
 replace H := H1; clear H1
 obtain rfl := Option.some.inj H; go_enter Try.func35, Try.ntmps35
 go_wp2_with (first | ((with_reducible refine gate_callee (f := 44) rfl ?_); refine goesL_ (some 4) rfl rfl Try.func44 (by kernel_rfl) rfl #[.slice A0 l0.length c0] rfl mq ?_; (with_reducible refine (impl_MachineOk.calls k _ _ l0 false _ ?side1 ?side2 A2.out).mono ?_); (case side1 => repeat (first | exact HR0.out | (with_reducible refine Kd.C_alloc ?_ _) | (with_reducible refine Kd.C_drewN ?_ _) | (with_reducible refine Kd.C_drew ?_))); (case side2 => exact HC0.out); rintro e w9 ⟨rfl, hb⟩; refine ⟨_, rfl, ?_⟩; replace HB := am (below_step bel hb); (try clear hb); (try clear hb2); (try clear hk); (try clear hi)))
 go_ret
 exact ⟨eq_, bel⟩
end Go.Proofs.Ytfpmfaelodfecaa.QFnMachineRank
