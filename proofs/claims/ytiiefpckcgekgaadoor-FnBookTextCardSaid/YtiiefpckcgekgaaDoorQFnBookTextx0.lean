import Derived.Test.YtiiefpckcgekgaaDoorProg
import Derived.Laws.Cover1
import Derived.Below
import Derived.Deep.Draws
import Derived.Deep.AppendLies
import Derived.Maps.AppendAt
import Derived.OwnWalk
import Derived.Laws.BytesArg
import Derived.Laws.MakeOwn
import Derived.Laws.OwnMore
import Derived.Deep.OwnRows
import Derived.Tactics
import Derived.Lib.ConvBytes
import Derived.Laws.Slices
import Derived.WalkKit
import Derived.KernelRfl
import Derived.RowKit3
import Derived.Deep.LoopGhost
import Derived.Deep.QuietTactic
import Derived.BigQuiet
import Derived.WideLaws
import Derived.Deep.DeepCutAuto
import Derived.Deep.CutBlock
import Derived.Deep.RegionHeld3
import Derived.Laws.Rows
import Derived.Lib.AppendStr
import Derived.ArgAppend
import Derived.Laws.IdiomCopy
import Derived.OrdersHeld
import Derived.Laws.BitsLemmas
import Derived.RowKit
import Derived.Test.YtiiefpckcgekgaaDoorVMLayJoin
import Derived.Test.YtiiefpckcgekgaaDoorVMLayHas
import Derived.Test.YtiiefpckcgekgaaDoorVMCw
import Derived.Test.YtiiefpckcgekgaaDoorVMLaySpl
import Derived.Test.YtiiefpckcgekgaaDoorVWords
import Derived.Test.YtiiefpckcgekgaaDoorVLast
import Derived.Test.YtiiefpckcgekgaaDoorVTab
import Derived.Test.YtiiefpckcgekgaaDoorVApart
import Derived.Test.YtiiefpckcgekgaaDoorVFoot
import Derived.Test.YtiiefpckcgekgaaDoorVKept
import Derived.Test.YtiiefpckcgekgaaDoorVShare
import Derived.Test.YtiiefpckcgekgaaDoorVN
import Derived.Test.YtiiefpckcgekgaaDoorVFootNe
import Derived.Test.YtiiefpckcgekgaaDoorVEqStruct
import Derived.Test.YtiiefpckcgekgaaDoorVRepsOne
import Derived.Test.YtiiefpckcgekgaaDoorVGuard
import Derived.Test.YtiiefpckcgekgaaDoorVMore
import Derived.Test.YtiiefpckcgekgaaDoorVMSh2
namespace Go.Proofs.YtiiefpckcgekgaaDoor.QFnBookText
open Go.RowKit Go.Proofs.YtiiefpckcgekgaaDoorW.PrintWords Go.Proofs.YtiiefpckcgekgaaDoorW.PrintLast Go.Proofs.YtiiefpckcgekgaaDoorW.PrintMore Go.Proofs.YtiiefpckcgekgaaDoor.Sh
attribute [local go_sem] max2_int min2_int max_two min_two max_three min_three max_four min_four
set_option linter.unusedVariables false
set_option linter.unusedSimpArgs false
set_option maxHeartbeats 8000000
set_option maxRecDepth 100000
-- shrunk



def errW : Option Int → Value
 | none => .nilIface
 | some c => .iface 0 (.int .i64 c)
theorem errW_none : errW none = .nilIface := rfl
theorem errW_some (c : Int) : errW (some c) = .iface 0 (.int .i64 c) := rfl

theorem info5 : (Tryd.prog.info? 5).map (fun i => (i.zero, i.size, i.bytes)) = some (some (.int .u8 0), 1, 1) := by kernel_rfl
theorem info9 : (Tryd.prog.info? 9).map (fun i => (i.zero, i.size, i.bytes)) = some (some (.string ⟨#[]⟩), 1, 16) := by kernel_rfl
theorem info40 : (Tryd.prog.info? 40).map (fun i => (i.zero, i.size, i.bytes)) = some (some (.agg #[(.string ⟨#[]⟩), (.bool false), (.string ⟨#[]⟩), (.string ⟨#[]⟩), (.string ⟨#[]⟩)]), 5, 72) := by kernel_rfl
theorem info43 : (Tryd.prog.info? 43).map (fun i => (i.zero, i.size, i.bytes)) = some (some (.agg #[(.string ⟨#[]⟩), (.string ⟨#[]⟩)]), 2, 32) := by kernel_rfl
-- the values' own types
/-! #### struct type 40 -/
structure S40 where
 f0 : ByteArray
 f1 : Bool
 f2 : ByteArray
 f3 : ByteArray
 f4 : ByteArray
def z40 : S40 := ⟨(⟨#[]⟩ : ByteArray), false, (⟨#[]⟩ : ByteArray), (⟨#[]⟩ : ByteArray), (⟨#[]⟩ : ByteArray)⟩
def k40 : Kd S40 := Kd.iso (Kd.pair Kd.string (Kd.pair Kd.bool (Kd.pair Kd.string (Kd.pair Kd.string Kd.string)))) (fun x : S40 => (x.f0, x.f1, x.f2, x.f3, x.f4))
theorem k40_open {w : World} {x : S40} {cs : List Value} (h : k40.K w x cs) : cs = [.string x.f0, .bool x.f1, .string x.f2, .string x.f3, .string x.f4] := by
 obtain ⟨_, _, rfl, rfl, ⟨_, _, rfl, rfl, ⟨_, _, rfl, rfl, ⟨_, _, rfl, rfl, rfl⟩⟩⟩⟩ := h
 exact rfl
theorem k40_openM {w : World} {base : Nat} {ok : Nat → Prop} {x : S40} {cs : List Value} (h : k40.M w base ok x cs) : cs = [.string x.f0, .bool x.f1, .string x.f2, .string x.f3, .string x.f4] := by
 obtain ⟨_, _, rfl, rfl, ⟨_, _, rfl, rfl, ⟨_, _, rfl, rfl, ⟨_, _, rfl, rfl, rfl⟩⟩⟩⟩ := h
 exact rfl
theorem k40_mk (w : World) (x : S40)  : k40.K w x [.string x.f0, .bool x.f1, .string x.f2, .string x.f3, .string x.f4] := ⟨[.string x.f0], [.bool x.f1, .string x.f2, .string x.f3, .string x.f4], rfl, rfl, ⟨[.bool x.f1], [.string x.f2, .string x.f3, .string x.f4], rfl, rfl, ⟨[.string x.f2], [.string x.f3, .string x.f4], rfl, rfl, ⟨[.string x.f3], [.string x.f4], rfl, rfl, rfl⟩⟩⟩⟩
theorem k40_mkM (w : World) (base : Nat) (ok : Nat → Prop) (x : S40)  : k40.M w base ok x [.string x.f0, .bool x.f1, .string x.f2, .string x.f3, .string x.f4] := ⟨[.string x.f0], [.bool x.f1, .string x.f2, .string x.f3, .string x.f4], rfl, rfl, ⟨[.bool x.f1], [.string x.f2, .string x.f3, .string x.f4], rfl, rfl, ⟨[.string x.f2], [.string x.f3, .string x.f4], rfl, rfl, ⟨[.string x.f3], [.string x.f4], rfl, rfl, rfl⟩⟩⟩⟩
theorem k40_mkF (W : World) (ok : Nat → Prop) (x : S40) : Kd.FK k40 W ok x [.string x.f0, .bool x.f1, .string x.f2, .string x.f3, .string x.f4] := fun W2 _ => k40_mk W2 x
def rd_T40 (xs : List S40) (i : Int) : S40 := xs.getD i.toNat z40
theorem at_T40 {w : World} {A : Option Addr} {n : Nat} {xs : List S40} (h : Kd.C k40 w A n xs) (i : Int) (h0 : 0 ≤ i) (h1 : i < n) : ∃ ad , A = some ad ∧ w.cell? (ad.add (i.toNat * 5)) = some (.string (rd_T40 xs i).f0) ∧ w.cell? ⟨(ad.add (i.toNat * 5)).block, (ad.add (i.toNat * 5)).off + 1, none⟩ = some (.bool (rd_T40 xs i).f1) ∧ w.cell? ⟨(ad.add (i.toNat * 5)).block, (ad.add (i.toNat * 5)).off + 2, none⟩ = some (.string (rd_T40 xs i).f2) ∧ w.cell? ⟨(ad.add (i.toNat * 5)).block, (ad.add (i.toNat * 5)).off + 3, none⟩ = some (.string (rd_T40 xs i).f3) ∧ w.cell? ⟨(ad.add (i.toNat * 5)).block, (ad.add (i.toNat * 5)).off + 4, none⟩ = some (.string (rd_T40 xs i).f4) := by
 obtain ⟨ad, c, e, _, hK, hc0⟩ := Kd.C_get h z40 i h0 h1
 have hc : ∀ j u, c[j]? = some u → w.cell? (ad.add (i.toNat * 5 + j)) = some u := hc0
 obtain rfl := k40_open hK
 exact ⟨ad, e, hc 0 _ rfl, by rw [← add_field _ _ 1 (by omega)]; exact hc 1 _ rfl, by rw [← add_field _ _ 2 (by omega)]; exact hc 2 _ rfl, by rw [← add_field _ _ 3 (by omega)]; exact hc 3 _ rfl, by rw [← add_field _ _ 4 (by omega)]; exact hc 4 _ rfl⟩

/-! #### struct type 43 -/
structure S43 where
 f0 : ByteArray
 f1 : ByteArray
def z43 : S43 := ⟨(⟨#[]⟩ : ByteArray), (⟨#[]⟩ : ByteArray)⟩
def k43 : Kd S43 := Kd.iso (Kd.pair Kd.string Kd.string) (fun x : S43 => (x.f0, x.f1))
theorem k43_open {w : World} {x : S43} {cs : List Value} (h : k43.K w x cs) : cs = [.string x.f0, .string x.f1] := by
 obtain ⟨_, _, rfl, rfl, rfl⟩ := h
 exact rfl
theorem k43_openM {w : World} {base : Nat} {ok : Nat → Prop} {x : S43} {cs : List Value} (h : k43.M w base ok x cs) : cs = [.string x.f0, .string x.f1] := by
 obtain ⟨_, _, rfl, rfl, rfl⟩ := h
 exact rfl
theorem k43_mk (w : World) (x : S43)  : k43.K w x [.string x.f0, .string x.f1] := ⟨[.string x.f0], [.string x.f1], rfl, rfl, rfl⟩
theorem k43_mkM (w : World) (base : Nat) (ok : Nat → Prop) (x : S43)  : k43.M w base ok x [.string x.f0, .string x.f1] := ⟨[.string x.f0], [.string x.f1], rfl, rfl, rfl⟩
theorem k43_mkF (W : World) (ok : Nat → Prop) (x : S43) : Kd.FK k43 W ok x [.string x.f0, .string x.f1] := fun W2 _ => k43_mk W2 x
def rd_T43 (xs : List S43) (i : Int) : S43 := xs.getD i.toNat z43
theorem at_T43 {w : World} {A : Option Addr} {n : Nat} {xs : List S43} (h : Kd.C k43 w A n xs) (i : Int) (h0 : 0 ≤ i) (h1 : i < n) : ∃ ad , A = some ad ∧ w.cell? (ad.add (i.toNat * 2)) = some (.string (rd_T43 xs i).f0) ∧ w.cell? ⟨(ad.add (i.toNat * 2)).block, (ad.add (i.toNat * 2)).off + 1, none⟩ = some (.string (rd_T43 xs i).f1) := by
 obtain ⟨ad, c, e, _, hK, hc0⟩ := Kd.C_get h z43 i h0 h1
 have hc : ∀ j u, c[j]? = some u → w.cell? (ad.add (i.toNat * 2 + j)) = some u := hc0
 obtain rfl := k43_open hK
 exact ⟨ad, e, hc 0 _ rfl, by rw [← add_field _ _ 1 (by omega)]; exact hc 1 _ rfl⟩

theorem b0_ {p : Prop} (h : p := by repeat (first | (with_reducible first | exact HK.out | apply KeepBut.set_ | apply keep_drewN | apply keep_drew | apply keep_alloc) | exact HK.out)) : p := h
theorem b1_ {p : Prop} (h : p := by first | exact Kd.own_blk (Kd.R_ne HO238.out BK229.out (by decide)) | (rw [add_block]; exact Kd.own_blk (Kd.R_ne HO238.out BK229.out (by decide))) | (show (Addr.add _ _).block ≠ _; rw [add_block]; exact Kd.own_blk (Kd.R_ne HO238.out BK229.out (by decide))) | (dsimp only; exact Kd.own_blk (Kd.R_ne HO238.out BK229.out (by decide)))) : p := h
theorem b2_ {p : Prop} (h : p := by repeat (first | (with_reducible first | exact HB.out | apply below_alloc | apply pw_below_drewN | apply below_drew1 | refine below_set ?_ (IsS75.ge HI0.out)) | exact HB.out)) : p := h
theorem b3_ {p : Prop} (h : p := by (with_reducible repeat (first | refine blk_drewN ?_ _ | refine blk_drew ?_ | refine blk_alloc ?_ _)); refine blk_put (cs := #[.string t385, .bool t386, .string t387, .string t388, .string (⟨#[]⟩ : ByteArray)]) ?_ 4 _ rfl; (with_reducible repeat (first | refine blk_drewN ?_ _ | refine blk_drew ?_ | refine blk_alloc ?_ _)); refine blk_put (cs := #[.string t385, .bool t386, .string t387, .string (⟨#[]⟩ : ByteArray), .string (⟨#[]⟩ : ByteArray)]) ?_ 3 _ rfl; (with_reducible repeat (first | refine blk_drewN ?_ _ | refine blk_drew ?_ | refine blk_alloc ?_ _)); refine blk_put (cs := #[.string t385, .bool t386, .string (⟨#[]⟩ : ByteArray), .string (⟨#[]⟩ : ByteArray), .string (⟨#[]⟩ : ByteArray)]) ?_ 2 _ rfl; (with_reducible repeat (first | refine blk_drewN ?_ _ | refine blk_drew ?_ | refine blk_alloc ?_ _)); refine blk_put (cs := #[.string t385, .bool false, .string (⟨#[]⟩ : ByteArray), .string (⟨#[]⟩ : ByteArray), .string (⟨#[]⟩ : ByteArray)]) ?_ 1 _ rfl; (with_reducible repeat (first | refine blk_drewN ?_ _ | refine blk_drew ?_ | refine blk_alloc ?_ _)); refine blk_put (cs := #[.string (⟨#[]⟩ : ByteArray), .bool false, .string (⟨#[]⟩ : ByteArray), .string (⟨#[]⟩ : ByteArray), .string (⟨#[]⟩ : ByteArray)]) ?_ 0 _ rfl; (with_reducible repeat (first | refine blk_drewN ?_ _ | refine blk_drew ?_ | refine blk_alloc ?_ _)); exact BK391.out) : p := h
theorem b4_ {p : Prop} (h : p := by rw [hg]; exact (keep_size (w := w) (g := g) (row := none) (by repeat (first | (with_reducible first | exact HK.out | apply KeepBut.set_ | apply keep_drewN | apply keep_drew | apply keep_alloc) | exact HK.out)))) : p := h
theorem b5_ {p : Prop} (h : p := by repeat (first | (with_reducible first | exact HI0.out | apply IsS75.alloc | apply IsS75.drewN | apply IsS75.drew | apply IsS75.set_1) | exact HI0.out)) : p := h
theorem b6_ {p : Prop} (h : p := by repeat (first | (with_reducible first | exact HK.out | apply KeepBut.set_ | apply keep_drewN | apply keep_drew | apply keep_alloc | refine keep_far ?_ GW418.out _ | refine keep_far ?_ GW426.out _) | exact HK.out)) : p := h
theorem b7_ {p : Prop} (h : p := by repeat (first | (with_reducible first | exact HK.out | apply KeepBut.set_ | apply keep_drewN | apply keep_drew | apply keep_alloc | refine keep_far ?_ GW418.out _) | exact HK.out)) : p := h
theorem b8_ {p : Prop} (h : p := by repeat (first | (with_reducible first | exact HK.out | apply KeepBut.set_ | apply keep_drewN | apply keep_drew | apply keep_alloc | refine keep_far ?_ GW353.out _ | refine keep_far ?_ GW358.out _) | exact HK.out)) : p := h
theorem b9_ {p : Prop} (h : p := by (with_reducible repeat (first | refine blk_drewN ?_ _ | refine blk_drew ?_ | refine blk_alloc ?_ _)); refine blk_put (cs := #[.string ((rd_T40 l0 x7_1).f0), .bool ((rd_T40 l0 x7_1).f1), .string ((rd_T40 l0 x7_1).f2), .string ((rd_T40 l0 x7_1).f3), .string (⟨#[]⟩ : ByteArray)]) ?_ 4 _ rfl; (with_reducible repeat (first | refine blk_drewN ?_ _ | refine blk_drew ?_ | refine blk_alloc ?_ _)); refine blk_put (cs := #[.string ((rd_T40 l0 x7_1).f0), .bool ((rd_T40 l0 x7_1).f1), .string ((rd_T40 l0 x7_1).f2), .string (⟨#[]⟩ : ByteArray), .string (⟨#[]⟩ : ByteArray)]) ?_ 3 _ rfl; (with_reducible repeat (first | refine blk_drewN ?_ _ | refine blk_drew ?_ | refine blk_alloc ?_ _)); refine blk_put (cs := #[.string ((rd_T40 l0 x7_1).f0), .bool ((rd_T40 l0 x7_1).f1), .string (⟨#[]⟩ : ByteArray), .string (⟨#[]⟩ : ByteArray), .string (⟨#[]⟩ : ByteArray)]) ?_ 2 _ rfl; (with_reducible repeat (first | refine blk_drewN ?_ _ | refine blk_drew ?_ | refine blk_alloc ?_ _)); refine blk_put (cs := #[.string ((rd_T40 l0 x7_1).f0), .bool false, .string (⟨#[]⟩ : ByteArray), .string (⟨#[]⟩ : ByteArray), .string (⟨#[]⟩ : ByteArray)]) ?_ 1 _ rfl; (with_reducible repeat (first | refine blk_drewN ?_ _ | refine blk_drew ?_ | refine blk_alloc ?_ _)); refine blk_put (cs := #[.string (⟨#[]⟩ : ByteArray), .bool false, .string (⟨#[]⟩ : ByteArray), .string (⟨#[]⟩ : ByteArray), .string (⟨#[]⟩ : ByteArray)]) ?_ 0 _ rfl; (with_reducible repeat (first | refine blk_drewN ?_ _ | refine blk_drew ?_ | refine blk_alloc ?_ _)); exact BK196.out) : p := h
theorem b10_ {p : Prop} (h : p := by repeat (first | (with_reducible first | exact HK.out | apply KeepBut.set_ | apply keep_drewN | apply keep_drew | apply keep_alloc | refine keep_far ?_ GW384.out _ | refine keep_far ?_ GW391.out _) | exact HK.out)) : p := h
theorem b11_ {p : Prop} (h : p := by (with_reducible repeat (first | refine blk_drewN ?_ _ | refine blk_drew ?_ | refine blk_alloc ?_ _)); refine blk_far ?_ NB384_391.out _; (with_reducible repeat (first | refine blk_drewN ?_ _ | refine blk_drew ?_ | refine blk_alloc ?_ _)); refine blk_far ?_ NB384_391.out _; (with_reducible repeat (first | refine blk_drewN ?_ _ | refine blk_drew ?_ | refine blk_alloc ?_ _)); refine blk_far ?_ NB384_391.out _; (with_reducible repeat (first | refine blk_drewN ?_ _ | refine blk_drew ?_ | refine blk_alloc ?_ _)); refine blk_far ?_ NB384_391.out _; (with_reducible repeat (first | refine blk_drewN ?_ _ | refine blk_drew ?_ | refine blk_alloc ?_ _)); refine blk_far ?_ NB384_391.out _; (with_reducible repeat (first | refine blk_drewN ?_ _ | refine blk_drew ?_ | refine blk_alloc ?_ _)); exact BK384.out) : p := h
theorem b12_ {p : Prop} (h : p := by repeat (first | (with_reducible first | exact HK.out | apply KeepBut.set_ | apply keep_drewN | apply keep_drew | apply keep_alloc | refine keep_far ?_ GW384.out _) | exact HK.out)) : p := h
theorem b13_ {p : Prop} (h : p := by repeat (first | (with_reducible first | exact HI0.out | apply IsS75.alloc | apply IsS75.drewN | apply IsS75.drew | apply IsS75.set_1 | refine IsS75.far ?_ NB0_353.out _ | refine IsS75.far ?_ NB0_358.out _) | exact HI0.out)) : p := h
theorem b14_ {p : Prop} (h : p := by repeat (first | (with_reducible first | exact HB.out | apply below_alloc | apply pw_below_drewN | apply below_drew1 | refine below_set ?_ (IsS75.ge HI0.out) | refine below_set ?_ GE353.out | refine below_set ?_ GE358.out) | exact HB.out)) : p := h
theorem b15_ {p : Prop} (h : p := by rw [hg]; exact Nat.ne_of_lt (IsS75.lt (show IsS75 w0 _ g s0_0 s0_1 from by repeat (first | (with_reducible first | exact HI0.out | apply IsS75.alloc | apply IsS75.drewN | apply IsS75.drew | apply IsS75.set_1) | exact HI0.out)))) : p := h
theorem b16_ {p : Prop} (h : p := by rw [hg]; exact Nat.ne_of_gt (IsS75.lt (show IsS75 w0 _ g s0_0 s0_1 from by repeat (first | (with_reducible first | exact HI0.out | apply IsS75.alloc | apply IsS75.drewN | apply IsS75.drew | apply IsS75.set_1) | exact HI0.out)))) : p := h
theorem b17_ {p : Prop} (h : p := by repeat (first | (with_reducible first | exact HB.out | apply below_alloc | apply pw_below_drewN | apply below_drew1 | refine below_set ?_ (IsS75.ge HI0.out) | refine below_set ?_ GE418.out | refine below_set ?_ GE426.out) | exact HB.out)) : p := h
theorem b18_ {p : Prop} (h : p := by repeat (first | (with_reducible first | exact HI0.out | apply IsS75.alloc | apply IsS75.drewN | apply IsS75.drew | apply IsS75.set_1 | refine IsS75.far ?_ NB0_418.out _ | refine IsS75.far ?_ NB0_426.out _) | exact HI0.out)) : p := h
theorem b19_ {p : Prop} (h : p := by rw [hg]; exact (below_size bel)) : p := h
theorem b20_ {p : Prop} (h : p := by rw [hg]; exact (keep_size (w := w) (g := g) (row := none) (by repeat (first | (with_reducible first | exact HK.out | apply KeepBut.set_ | apply keep_drewN | apply keep_drew | apply keep_alloc | refine keep_far ?_ GW384.out _) | exact HK.out)))) : p := h
theorem b21_ {p : Prop} (h : p := by rw [hg]; exact (keep_size (w := w) (g := g) (row := none) (by repeat (first | (with_reducible first | exact HK.out | apply KeepBut.set_ | apply keep_drewN | apply keep_drew | apply keep_alloc | refine keep_far ?_ GW418.out _) | exact HK.out)))) : p := h
theorem b22_ {p : Prop} (h : p := by rw [if_neg (show ¬ (false = true) by decide)] at H; exact H) : p := h
theorem b23_ {p : Prop} (h : p := by repeat (first | (with_reducible first | exact HB.out | apply below_alloc | apply pw_below_drewN | apply below_drew1 | refine below_set ?_ GE505.out | refine below_set ?_ GE514.out | refine below_set ?_ GE526.out | refine below_set ?_ GE534.out) | exact HB.out)) : p := h
theorem b24_ {p : Prop} (h : p := by (with_reducible repeat (first | refine blk_drewN ?_ _ | refine blk_drew ?_ | refine blk_alloc ?_ _)); refine blk_put (cs := #[.string ((rd_T43 l0 x7_1).f0), .string (⟨#[]⟩ : ByteArray)]) ?_ 1 _ rfl; (with_reducible repeat (first | refine blk_drewN ?_ _ | refine blk_drew ?_ | refine blk_alloc ?_ _)); refine blk_put (cs := #[.string (⟨#[]⟩ : ByteArray), .string (⟨#[]⟩ : ByteArray)]) ?_ 0 _ rfl; (with_reducible repeat (first | refine blk_drewN ?_ _ | refine blk_drew ?_ | refine blk_alloc ?_ _)); exact BK209.out) : p := h
theorem b25_ {p : Prop} (h : p := by repeat (first | (with_reducible first | exact HK.out | apply KeepBut.set_ | apply keep_drewN | apply keep_drew | apply keep_alloc | refine keep_far ?_ GW297.out _) | exact HK.out)) : p := h
theorem b26_ {p : Prop} (h : p := by (with_reducible repeat (first | refine blk_drewN ?_ _ | refine blk_drew ?_ | refine blk_alloc ?_ _)); refine blk_far ?_ NB418_426.out _; (with_reducible repeat (first | refine blk_drewN ?_ _ | refine blk_drew ?_ | refine blk_alloc ?_ _)); refine blk_far ?_ NB418_426.out _; (with_reducible repeat (first | refine blk_drewN ?_ _ | refine blk_drew ?_ | refine blk_alloc ?_ _)); exact BK418.out) : p := h
theorem b27_ {p : Prop} (h : p := by (with_reducible repeat (first | refine blk_drewN ?_ _ | refine blk_drew ?_ | refine blk_alloc ?_ _)); refine blk_put (cs := #[.slice Ao18 t507.length co18, .slice none 0 0]) ?_ 1 _ rfl; (with_reducible repeat (first | refine blk_drewN ?_ _ | refine blk_drew ?_ | refine blk_alloc ?_ _)); refine blk_put (cs := #[.slice none 0 0, .slice none 0 0]) ?_ 0 _ rfl; (with_reducible repeat (first | refine blk_drewN ?_ _ | refine blk_drew ?_ | refine blk_alloc ?_ _)); exact BK514.out) : p := h
theorem b28_ {p : Prop} (h : p := by repeat (first | (with_reducible first | exact HB.out | apply below_alloc | apply pw_below_drewN | apply below_drew1 | refine below_set ?_ (IsS75.ge HI0.out) | refine below_set ?_ GE384.out | refine below_set ?_ GE391.out) | exact HB.out)) : p := h
theorem b29_ {p : Prop} (h : p := by first | exact Kd.R_nil _ _ _ _ _ | exact Kd.N_nil _ _ _ _ _ | exact Kd.V_nil _ _ _ _ _ | exact Kd.Q_nil _ _ _ _ _ | exact Kd.S_nil _ _ _ _ _) : p := h
theorem b30_ {p : Prop} (h : p := by repeat (first | (with_reducible first | exact HI0.out | apply IsS75.alloc | apply IsS75.drewN | apply IsS75.drew | apply IsS75.set_1 | refine IsS75.far ?_ NB0_384.out _ | refine IsS75.far ?_ NB0_391.out _) | exact HI0.out)) : p := h
theorem b31_ {p : Prop} (h : p := by repeat (first | (with_reducible first | exact HB.out | apply below_alloc | apply pw_below_drewN | apply below_drew1 | refine below_set ?_ (IsS75.ge HI0.out) | refine below_set ?_ GE297.out) | exact HB.out)) : p := h
theorem b32_ {p : Prop} (h : p := by (with_reducible repeat (first | refine blk_drewN ?_ _ | refine blk_drew ?_ | refine blk_alloc ?_ _)); refine blk_far ?_ NB505_514.out _; (with_reducible repeat (first | refine blk_drewN ?_ _ | refine blk_drew ?_ | refine blk_alloc ?_ _)); refine blk_far ?_ NB505_514.out _; (with_reducible repeat (first | refine blk_drewN ?_ _ | refine blk_drew ?_ | refine blk_alloc ?_ _)); exact BK505.out) : p := h
theorem b33_ {p : Prop} (h : p := by (with_reducible repeat (first | refine blk_drewN ?_ _ | refine blk_drew ?_ | refine blk_alloc ?_ _)); refine blk_far ?_ NB505_526.out _; (with_reducible repeat (first | refine blk_drewN ?_ _ | refine blk_drew ?_ | refine blk_alloc ?_ _)); refine blk_far ?_ NB505_526.out _; (with_reducible repeat (first | refine blk_drewN ?_ _ | refine blk_drew ?_ | refine blk_alloc ?_ _)); exact BK505.out) : p := h
theorem b34_ {p : Prop} (h : p := by (with_reducible repeat (first | refine blk_drewN ?_ _ | refine blk_drew ?_ | refine blk_alloc ?_ _)); refine blk_far ?_ NB514_526.out _; (with_reducible repeat (first | refine blk_drewN ?_ _ | refine blk_drew ?_ | refine blk_alloc ?_ _)); refine blk_far ?_ NB514_526.out _; (with_reducible repeat (first | refine blk_drewN ?_ _ | refine blk_drew ?_ | refine blk_alloc ?_ _)); exact BK514.out) : p := h
theorem b35_ {p : Prop} (h : p := by repeat (first | (with_reducible first | exact HI0.out | apply IsS75.alloc | apply IsS75.drewN | apply IsS75.drew | apply IsS75.set_1 | refine IsS75.far ?_ NB0_297.out _) | exact HI0.out)) : p := h
theorem b36_ {p : Prop} (h : p := by rw [hg]; exact Nat.ne_of_lt (blk_lt (g := gb505) (o := .cells #[.slice Ao12 t499.length co12, .slice Ao14 t502.length co14] 25 (0, 0)) (bq BK505.out))) : p := h
theorem b37_ {p : Prop} (h : p := by rw [hg]; exact Nat.ne_of_gt (blk_lt (g := gb505) (o := .cells #[.slice Ao12 t499.length co12, .slice Ao14 t502.length co14] 25 (0, 0)) (bq BK505.out))) : p := h
theorem b38_ {p : Prop} (h : p := by rw [hg]; exact Nat.ne_of_lt (IsS75.lt (show IsS75 w0 _ g s0_0 t390 from by repeat (first | (with_reducible first | exact HI0.out | apply IsS75.alloc | apply IsS75.drewN | apply IsS75.drew | apply IsS75.set_1 | refine IsS75.far ?_ NB0_384.out _) | exact HI0.out)))) : p := h
theorem b39_ {p : Prop} (h : p := by rw [hg]; exact Nat.ne_of_gt (IsS75.lt (show IsS75 w0 _ g s0_0 t390 from by repeat (first | (with_reducible first | exact HI0.out | apply IsS75.alloc | apply IsS75.drewN | apply IsS75.drew | apply IsS75.set_1 | refine IsS75.far ?_ NB0_384.out _) | exact HI0.out)))) : p := h
theorem b40_ {p : Prop} (h : p := by rw [hg]; exact Nat.ne_of_lt (IsS75.lt (show IsS75 w0 _ g s0_0 t425 from by repeat (first | (with_reducible first | exact HI0.out | apply IsS75.alloc | apply IsS75.drewN | apply IsS75.drew | apply IsS75.set_1 | refine IsS75.far ?_ NB0_418.out _) | exact HI0.out)))) : p := h
theorem b41_ {p : Prop} (h : p := by rw [hg]; exact Nat.ne_of_gt (IsS75.lt (show IsS75 w0 _ g s0_0 t425 from by repeat (first | (with_reducible first | exact HI0.out | apply IsS75.alloc | apply IsS75.drewN | apply IsS75.drew | apply IsS75.set_1 | refine IsS75.far ?_ NB0_418.out _) | exact HI0.out)))) : p := h
theorem b42_ {p : Prop} (h : p := by rw [hg]; exact Nat.ne_of_lt (blk_lt (g := gb514) (o := .cells #[.slice Ao18 t507.length co18, .slice Ao21 t510.length co21] 25 (0, 0)) (bq BK514.out))) : p := h
theorem b43_ {p : Prop} (h : p := by rw [hg]; exact Nat.ne_of_gt (blk_lt (g := gb514) (o := .cells #[.slice Ao18 t507.length co18, .slice Ao21 t510.length co21] 25 (0, 0)) (bq BK514.out))) : p := h
theorem b44_ {p : Prop} (h : p := by (with_reducible repeat (first | refine blk_drewN ?_ _ | refine blk_drew ?_ | refine blk_alloc ?_ _)); refine blk_far ?_ NB505_534.out _; (with_reducible repeat (first | refine blk_drewN ?_ _ | refine blk_drew ?_ | refine blk_alloc ?_ _)); refine blk_far ?_ NB505_534.out _; (with_reducible repeat (first | refine blk_drewN ?_ _ | refine blk_drew ?_ | refine blk_alloc ?_ _)); exact BK505.out) : p := h
theorem b45_ {p : Prop} (h : p := by (with_reducible repeat (first | refine blk_drewN ?_ _ | refine blk_drew ?_ | refine blk_alloc ?_ _)); refine blk_far ?_ NB514_534.out _; (with_reducible repeat (first | refine blk_drewN ?_ _ | refine blk_drew ?_ | refine blk_alloc ?_ _)); refine blk_far ?_ NB514_534.out _; (with_reducible repeat (first | refine blk_drewN ?_ _ | refine blk_drew ?_ | refine blk_alloc ?_ _)); exact BK514.out) : p := h
theorem b46_ {p : Prop} (h : p := by (with_reducible repeat (first | refine blk_drewN ?_ _ | refine blk_drew ?_ | refine blk_alloc ?_ _)); refine blk_far ?_ NB526_534.out _; (with_reducible repeat (first | refine blk_drewN ?_ _ | refine blk_drew ?_ | refine blk_alloc ?_ _)); refine blk_far ?_ NB526_534.out _; (with_reducible repeat (first | refine blk_drewN ?_ _ | refine blk_drew ?_ | refine blk_alloc ?_ _)); exact BK526.out) : p := h
theorem b47_ {p : Prop} (h : p := by rw [if_pos rfl] at H; exact H) : p := h
theorem b48_ {p : Prop} (h : p := by rw [hg]; exact Nat.ne_of_lt (blk_lt (g := gb384) (o := .cells #[.string (⟨#[]⟩ : ByteArray), .bool false, .string (⟨#[]⟩ : ByteArray), .string (⟨#[]⟩ : ByteArray), .string (⟨#[]⟩ : ByteArray)] 40 (0, 0)) (bq BK384.out))) : p := h
theorem b49_ {p : Prop} (h : p := by rw [hg]; exact Nat.ne_of_gt (blk_lt (g := gb384) (o := .cells #[.string (⟨#[]⟩ : ByteArray), .bool false, .string (⟨#[]⟩ : ByteArray), .string (⟨#[]⟩ : ByteArray), .string (⟨#[]⟩ : ByteArray)] 40 (0, 0)) (bq BK384.out))) : p := h
theorem b50_ {p : Prop} (h : p := by (with_reducible repeat (first | refine blk_drewN ?_ _ | refine blk_drew ?_ | refine blk_alloc ?_ _)); refine blk_put (cs := #[.string (rdOf ByteArray.empty t138 0), .string (⟨#[]⟩ : ByteArray)]) ?_ 1 _ rfl; (with_reducible repeat (first | refine blk_drewN ?_ _ | refine blk_drew ?_ | refine blk_alloc ?_ _)); refine blk_put (cs := #[.string (⟨#[]⟩ : ByteArray), .string (⟨#[]⟩ : ByteArray)]) ?_ 0 _ rfl; (with_reducible repeat (first | refine blk_drewN ?_ _ | refine blk_drew ?_ | refine blk_alloc ?_ _)); exact BK137.out) : p := h
theorem b51_ {p : Prop} (h : p := by repeat (first | (with_reducible first | exact HB.out | apply below_alloc | apply pw_below_drewN | apply below_drew1 | refine below_set ?_ (IsS75.ge HI0.out) | refine below_set ?_ GE384.out) | exact HB.out)) : p := h
theorem b52_ {p : Prop} (h : p := by repeat (first | (with_reducible first | exact HB.out | apply below_alloc | apply pw_below_drewN | apply below_drew1 | refine below_set ?_ (IsS75.ge HI0.out) | refine below_set ?_ GE418.out) | exact HB.out)) : p := h
theorem b53_ {p : Prop} (h : p := by (with_reducible repeat (first | refine blk_drewN ?_ _ | refine blk_drew ?_ | refine blk_alloc ?_ _)); refine blk_put (cs := #[.string t171, .string (⟨#[]⟩ : ByteArray)]) ?_ 1 _ rfl; (with_reducible repeat (first | refine blk_drewN ?_ _ | refine blk_drew ?_ | refine blk_alloc ?_ _)); refine blk_put (cs := #[.string (⟨#[]⟩ : ByteArray), .string (⟨#[]⟩ : ByteArray)]) ?_ 0 _ rfl; (with_reducible repeat (first | refine blk_drewN ?_ _ | refine blk_drew ?_ | refine blk_alloc ?_ _)); exact BK174.out) : p := h
theorem b54_ {p : Prop} (h : p := by repeat (first | (with_reducible first | exact HI0.out | apply IsS75.alloc | apply IsS75.drewN | apply IsS75.drew | apply IsS75.set_1 | refine IsS75.far ?_ NB0_384.out _) | exact HI0.out)) : p := h
theorem b55_ {p : Prop} (h : p := by repeat (first | (with_reducible first | exact HI0.out | apply IsS75.alloc | apply IsS75.drewN | apply IsS75.drew | apply IsS75.set_1 | refine IsS75.far ?_ NB0_418.out _) | exact HI0.out)) : p := h
theorem b56_ {p : Prop} (h : p := by (with_reducible repeat (first | refine blk_drewN ?_ _ | refine blk_drew ?_ | refine blk_alloc ?_ _)); refine blk_put (cs := #[.slice none 0 0, .slice none 0 0]) ?_ 1 _ rfl; (with_reducible repeat (first | refine blk_drewN ?_ _ | refine blk_drew ?_ | refine blk_alloc ?_ _)); refine blk_put (cs := #[.slice none 0 0, .slice none 0 0]) ?_ 0 _ rfl; (with_reducible repeat (first | refine blk_drewN ?_ _ | refine blk_drew ?_ | refine blk_alloc ?_ _)); exact BK248.out) : p := h
theorem b57_ {p : Prop} (h : p := by (with_reducible repeat (first | refine blk_drewN ?_ _ | refine blk_drew ?_ | refine blk_alloc ?_ _)); refine blk_put (cs := #[.slice none 0 0, .slice none 0 0]) ?_ 1 _ rfl; (with_reducible repeat (first | refine blk_drewN ?_ _ | refine blk_drew ?_ | refine blk_alloc ?_ _)); refine blk_put (cs := #[.slice none 0 0, .slice none 0 0]) ?_ 0 _ rfl; (with_reducible repeat (first | refine blk_drewN ?_ _ | refine blk_drew ?_ | refine blk_alloc ?_ _)); exact BK153.out) : p := h
theorem b58_ {p : Prop} (h : p := by repeat (first | (with_reducible first | exact HK.out | apply KeepBut.set_ | apply keep_drewN | apply keep_drew | apply keep_alloc | refine keep_far ?_ GW353.out _) | exact HK.out)) : p := h
theorem b59_ {p : Prop} (h : p := by repeat (first | (with_reducible first | exact HK.out | apply KeepBut.set_ | apply keep_drewN | apply keep_drew | apply keep_alloc | refine keep_far ?_ GW279.out _) | exact HK.out)) : p := h
theorem b60_ {p : Prop} (h : p := by repeat (first | (with_reducible first | exact HK.out | apply KeepBut.set_ | apply keep_drewN | apply keep_drew | apply keep_alloc | refine keep_far ?_ GW347.out _) | exact HK.out)) : p := h
theorem b61_ {p : Prop} (h : p := by repeat (first | (with_reducible first | exact HB.out | apply below_alloc | apply pw_below_drewN | apply below_drew1 | refine below_set ?_ (IsS75.ge HI488.out)) | exact HB.out)) : p := h
theorem b62_ {p : Prop} (h : p := by rw [hg]; exact Nat.ne_of_lt (IsS75.lt (show IsS75 w0 _ g s0_0 t296 from by repeat (first | (with_reducible first | exact HI0.out | apply IsS75.alloc | apply IsS75.drewN | apply IsS75.drew | apply IsS75.set_1) | exact HI0.out)))) : p := h
theorem b63_ {p : Prop} (h : p := by rw [hg]; exact Nat.ne_of_gt (IsS75.lt (show IsS75 w0 _ g s0_0 t296 from by repeat (first | (with_reducible first | exact HI0.out | apply IsS75.alloc | apply IsS75.drewN | apply IsS75.drew | apply IsS75.set_1) | exact HI0.out)))) : p := h
theorem b64_ {p : Prop} (h : p := by rw [hg]; exact (below_size (by repeat (first | (with_reducible first | exact HBW.out | apply below_alloc | apply pw_below_drewN | apply below_drew1) | exact HBW.out)))) : p := h
theorem b65_ {p : Prop} (h : p := by repeat (first | (with_reducible first | exact HB.out | apply below_alloc | apply pw_below_drewN | apply below_drew1 | refine below_set ?_ (IsS75.ge HI460.out) | refine below_set ?_ GE457.out) | exact HB.out)) : p := h
theorem b66_ {p : Prop} (h : p := by rw [hg]; exact Nat.ne_of_lt (blk_lt (g := gb418) (o := .cells #[.slice none 0 0, .slice none 0 0] 25 (0, 0)) (bq BK418.out))) : p := h
theorem b67_ {p : Prop} (h : p := by rw [hg]; exact Nat.ne_of_gt (blk_lt (g := gb418) (o := .cells #[.slice none 0 0, .slice none 0 0] 25 (0, 0)) (bq BK418.out))) : p := h
theorem b68_ {p : Prop} (h : p := by repeat (first | (with_reducible first | exact HBW.out | apply below_alloc | apply pw_below_drewN | apply below_drew1) | exact HBW.out)) : p := h
theorem b69_ {p : Prop} (h : p := by first | omega | exact Nat.le_refl _) : p := h
theorem b70_ {p : Prop} (h : p := by rw [hg]; exact (below_size (bel3 GE505.out GE514.out GE526.out))) : p := h
theorem b71_ {p : Prop} (h : p := by (with_reducible repeat (first | refine blk_drewN ?_ _ | refine blk_drew ?_ | refine blk_alloc ?_ _)); refine blk_far ?_ NB248_255.out _; (with_reducible repeat (first | refine blk_drewN ?_ _ | refine blk_drew ?_ | refine blk_alloc ?_ _)); exact BK248.out) : p := h
theorem b72_ {p : Prop} (h : p := by (with_reducible repeat (first | refine blk_drewN ?_ _ | refine blk_drew ?_ | refine blk_alloc ?_ _)); refine blk_far ?_ NB153_157.out _; (with_reducible repeat (first | refine blk_drewN ?_ _ | refine blk_drew ?_ | refine blk_alloc ?_ _)); exact BK153.out) : p := h
theorem b73_ {p : Prop} (h : p := by rw [hg]; exact (keep_size (w := w) (g := g) (row := none) (by repeat (first | (with_reducible first | exact HK.out | apply KeepBut.set_ | apply keep_drewN | apply keep_drew | apply keep_alloc | refine keep_far ?_ GW353.out _) | exact HK.out)))) : p := h
theorem b74_ {p : Prop} (h : p := by have := HK1.out; omega) : p := h
theorem b75_ {p : Prop} (h : p := by simp only [putAll, Act.put, List.setIfInBounds_toArray, List.set_cons_zero, List.set_cons_succ]) : p := h
theorem b76_ {p : Prop} (h : p := by rw [hg]; exact Nat.ne_of_lt (blk_lt (g := gb471) (o := .cells #[.slice A0_0 l0_0.length c0_0, .slice A0_1 l0_1.length c0_1] 25 (0, 0)) (bq BK471.out))) : p := h
theorem b77_ {p : Prop} (h : p := by rw [hg]; exact Nat.ne_of_gt (blk_lt (g := gb471) (o := .cells #[.slice A0_0 l0_0.length c0_0, .slice A0_1 l0_1.length c0_1] 25 (0, 0)) (bq BK471.out))) : p := h
theorem b78_ {p : Prop} (h : p := by rw [hg]; exact (below_size (bel2 GE505.out GE514.out))) : p := h
theorem b79_ {p : Prop} (h : p := by repeat (first | (with_reducible first | exact HB.out | apply below_alloc | apply pw_below_drewN | apply below_drew1 | refine below_set ?_ (IsS75.ge HI0.out) | refine below_set ?_ GE279.out) | exact HB.out)) : p := h
theorem b80_ {p : Prop} (h : p := by repeat (first | (with_reducible first | exact HB.out | apply below_alloc | apply pw_below_drewN | apply below_drew1 | refine below_set ?_ (IsS75.ge HI0.out) | refine below_set ?_ GE347.out) | exact HB.out)) : p := h
theorem b81_ {p : Prop} (h : p := by repeat (first | (with_reducible first | exact HI0.out | apply IsS75.alloc | apply IsS75.drewN | apply IsS75.drew | apply IsS75.set_1 | refine IsS75.far ?_ NB0_279.out _) | exact HI0.out)) : p := h
theorem b82_ {p : Prop} (h : p := by repeat (first | (with_reducible first | exact HI0.out | apply IsS75.alloc | apply IsS75.drewN | apply IsS75.drew | apply IsS75.set_1 | refine IsS75.far ?_ NB0_347.out _) | exact HI0.out)) : p := h
theorem b83_ {p : Prop} (h : p := by rw [hg]; exact Nat.ne_of_lt (blk_lt (g := gb153) (o := .cells #[.slice none 0 0, .slice none 0 0] 25 (0, 0)) (bq BK153.out))) : p := h
theorem b84_ {p : Prop} (h : p := by rw [hg]; exact Nat.ne_of_gt (blk_lt (g := gb153) (o := .cells #[.slice none 0 0, .slice none 0 0] 25 (0, 0)) (bq BK153.out))) : p := h
theorem b85_ {p : Prop} (h : p := by have := HK1.out; have := HK2.out; omega) : p := h
theorem b86_ {p : Prop} (h : p := by first | rfl | (simp [errW_none, errW_some] <;> rfl) | (simp only [← hji8]; first | rfl | (simp [errW_none, errW_some] <;> rfl)) | (simp [*, errW_none, errW_some] <;> rfl)) : p := h
theorem b87_ {p : Prop} (h : p := by have h_ : (0 : Int) < ((t422.length : Int) : Int) := of_decide_eq_true ad; first | exact h_ | (have e_ := (Kd.R_reads' HO424.out).1; omega) | simpa using h_) : p := h
theorem b88_ {p : Prop} (h : p := by rw [hg]; exact Nat.ne_of_lt (blk_lt (g := gb137) (o := .cells #[.string (⟨#[]⟩ : ByteArray), .string (⟨#[]⟩ : ByteArray)] 43 (0, 0)) (bq BK137.out))) : p := h
theorem b89_ {p : Prop} (h : p := by rw [hg]; exact Nat.ne_of_gt (blk_lt (g := gb137) (o := .cells #[.string (⟨#[]⟩ : ByteArray), .string (⟨#[]⟩ : ByteArray)] 43 (0, 0)) (bq BK137.out))) : p := h
theorem b90_ {p : Prop} (h : p := by rw [hg]; exact (below_size (bel1 GE471.out))) : p := h
theorem b91_ {p : Prop} (h : p := by rw [hg]; exact (below_size (bel2 GE153.out GE157.out))) : p := h
theorem b92_ {p : Prop} (h : p := by have := HJ2.out; first | omega | exact Nat.le_refl _) : p := h
theorem b93_ {p : Prop} (h : p := by have : (0 : Int) < (a0.size : Int) := of_decide_eq_true ad; omega) : p := h
theorem b94_ {p : Prop} (h : p := by rw [hg]; exact (below_size (bel1 GE215.out))) : p := h
theorem b95_ {p : Prop} (h : p := by rw [hg]; exact (below_size (bel1 GE137.out))) : p := h
-- shrunk

theorem eqA40 (d : Nat) (w : World) (x0 y0 : ByteArray) (x1 y1 : Bool) (x2 y2 : ByteArray) (x3 y3 : ByteArray) (x4 y4 : ByteArray) :
  (Op.equalIn (d + 2) 40 (.agg #[.string x0, .bool x1, .string x2, .string x3, .string x4]) (.agg #[.string y0, .bool y1, .string y2, .string y3, .string y4])).run Tryd.prog w = .ok (x0.toList == y0.toList && (x1 == y1 && (x2.toList == y2.toList && (x3.toList == y3.toList && (x4.toList == y4.toList))))) w := by
 refine eqA_of Tryd.underlying40 (by kernel_rfl) ?_
 refine eqf_cons (by rfl) (by go_simp; rfl) (by go_simp; rfl) (by go_simp) ?_
 refine eqf_cons (by rfl) (by go_simp; rfl) (by go_simp; rfl) (by go_simp) ?_
 refine eqf_cons (by rfl) (by go_simp; rfl) (by go_simp; rfl) (by go_simp) ?_
 refine eqf_cons (by rfl) (by go_simp; rfl) (by go_simp; rfl) (by go_simp) ?_
 exact eqf_last (by rfl) (by go_simp; rfl) (by go_simp; rfl) (by go_simp)
-- shrunk

theorem eqA43 (d : Nat) (w : World) (x0 y0 : ByteArray) (x1 y1 : ByteArray) :
  (Op.equalIn (d + 2) 43 (.agg #[.string x0, .string x1]) (.agg #[.string y0, .string y1])).run Tryd.prog w = .ok (x0.toList == y0.toList && (x1.toList == y1.toList)) w := by
 refine eqA_of Tryd.underlying43 (by kernel_rfl) ?_
 refine eqf_cons (by rfl) (by go_simp; rfl) (by go_simp; rfl) (by go_simp) ?_
 exact eqf_last (by rfl) (by go_simp; rfl) (by go_simp; rfl) (by go_simp)
-- shrunk

/-! ### spec_l2Flag: function 54 -/
def spec_l2Flag.f (a0 : ByteArray) : Option (Bool) := if (a0.size : Int) = 1 then (if 0 < (a0.size : Int) then (if (bt a0 0) ≥ 65 then (some (decide ((bt a0 0) ≤ 90))) else (some false)) else (none)) else (some false)
theorem spec_l2Flag.calls (a0 : ByteArray) (r : Bool) (w : World) (h : spec_l2Flag.f a0 = some r) :
  Calls Tryd.prog 54 #[.string a0] w fun e w' => e = .returned (.bool r) ∧ Drawn0 w w' := by
 have H : (if (a0.size : Int) = 1 then (if 0 < (a0.size : Int) then (if (bt a0 0) ≥ 65 then (some (decide ((bt a0 0) ≤ 90))) else (some false)) else (none)) else (some false)) = some r := h
 clear h
 by_cases c2 : (a0.size : Int) = 1
 ·rw [if_pos c2] at H
  have c2b0 : ((a0.size : Int) == 1) = true := beq_iff_eq.mpr c2
  have c2b1 : ((a0.size : Int) != 1) = false := bne_eq_false_iff_eq.mpr c2
  clear c2
  replace H := ip H; obtain ⟨c3, H⟩ := H; have c3b0 := decide_eq_true c3
  have c3b1 : decide (0 < a0.size) = true := decide_eq_true (by omega)
  clear c3
  by_cases c5 : (bt a0 0) ≥ 65
  ·rw [if_pos c5] at H; have c5b0 := decide_eq_true c5; clear c5; obtain rfl := Option.some.inj H
   have p4 : 0 ≤ (0 : Int) := (by omega)
   have q4 : 0 < a0.size := b93_
   have hx4 : ∀ h : 0 < a0.size, ((a0[0]'h).toNat : Int) = bt a0 0 := bt_at a0 0
   clear p4
   have qi4 : (0 < (a0.size : Int)) = True := eq_true (of_decide_eq_true ad)
   replace q4 := eq_true q4
   have p6 : 0 ≤ (0 : Int) := (by omega)
   have q6 : 0 < a0.size := b93_
   have hx6 : ∀ h : 0 < a0.size, ((a0[0]'h).toNat : Int) = bt a0 0 := bt_at a0 0
   clear p6
   have qi6 : (0 < (a0.size : Int)) = True := eq_true (of_decide_eq_true ad)
   replace q6 := eq_true q6; go_enter Tryd.func54, Tryd.ntmps54; go_wp2; go_ret
   exact ⟨sq, dr⟩
  rw [if_neg c5] at H; have c5b0 := decide_eq_false c5; clear c5; obtain rfl := Option.some.inj H
  have p4 : 0 ≤ (0 : Int) := (by omega)
  have q4 : 0 < a0.size := b93_
  have hx4 : ∀ h : 0 < a0.size, ((a0[0]'h).toNat : Int) = bt a0 0 := bt_at a0 0
  clear p4
  have qi4 : (0 < (a0.size : Int)) = True := eq_true (of_decide_eq_true ad)
  replace q4 := eq_true q4; go_enter Tryd.func54, Tryd.ntmps54; go_wp2; go_ret
  exact ⟨sq, dr⟩
 rw [if_neg c2] at H
 have c2b0 : ((a0.size : Int) == 1) = false := beq_eq_false_iff_ne.mpr c2
 have c2b1 : ((a0.size : Int) != 1) = true := bne_iff_ne.mpr c2
 obtain rfl := Option.some.inj H; go_enter Tryd.func54, Tryd.ntmps54; go_wp2; go_ret
 exact ⟨sq, dr⟩

/-! ### spec_l1Letters: function 71 -/
def spec_l1Letters.l0 : Nat → ByteArray → Int → Int → Option (Bool)
 | 0, _, _, _ => none
 | k + 1, x0, x1, x5 => if x5 < (x0.size : Int) then (if 0 ≤ x5 then (if (bt x0 x5) < 97 then (some false) else (if (bt x0 x5) > 122 then (some false) else (spec_l1Letters.l0 k x0 x1 (wrap64 (x5 + 1))))) else (none)) else (some (decide ((x0.size : Int) ≤ x1)))
def spec_l1Letters.f (k : Nat) (a0 : ByteArray) (a1 : Int) : Option (Bool) := spec_l1Letters.l0 k a0 a1 0
theorem spec_l1Letters.calls (k : Nat) (a0 : ByteArray) (a1 : Int) (r : Bool) (w : World) (h : spec_l1Letters.f k a0 a1 = some r) :
  Calls Tryd.prog 71 #[.string a0, .int .i64 a1] w fun e w' => e = .returned (.bool r) ∧ Drawn0 w w' := by
 have H : (spec_l1Letters.l0 k a0 a1 0) = some r := h
 clear h
 have H' := am H
 clear H; go_enter Tryd.func71, Tryd.ntmps71; go_wp2
 go_loopg [5] k (fun kq v5 w' => ∃ (x5_1 : Int), v5 = .int .i64 x5_1 ∧ Aside0 (spec_l1Letters.l0 kq a0 a1 x5_1 = some r) ∧ Aside0 (kq ≤ k) ∧ Drawn0 w w')
 case atStart => exact ⟨(0), sq, H', ⟨Nat.le_refl _⟩, dr⟩
 case round =>
  clear H'; (try clear p2); obtain ⟨x5_1, rfl, HA, HK1, ⟨m1, rfl⟩⟩ := hrel
  cases gk with
  | zero => exact absurd HA.out (by simp [spec_l1Letters.l0])
  | succ k1 =>
   have H := HA.out; clear HA
   simp only [spec_l1Letters.l0] at H
   by_cases c3 : x5_1 < (a0.size : Int)
   ·rw [if_pos c3] at H; have c3b0 := decide_eq_true c3; clear c3
    replace H := it H; obtain ⟨c4b0, H⟩ := H
    by_cases c6 : (bt a0 x5_1) < 97
    ·rw [if_pos c6] at H; have c6b0 := decide_eq_true c6; clear c6; obtain rfl := Option.some.inj H
     have p5 : 0 ≤ (x5_1 : Int) := of_decide_eq_true ad
     have q5 : x5_1 < (a0.size : Int) := of_decide_eq_true ad
     have hx5 := bt_at a0 x5_1; replace p5 := eq_true p5; replace q5 := eq_true q5; go_wp2; go_ret
     exact ⟨sq, dr⟩
    rw [if_neg c6] at H; have c6b0 := decide_eq_false c6; clear c6
    by_cases c8 : (bt a0 x5_1) > 122
    ·rw [if_pos c8] at H; have c8b0 := decide_eq_true c8; clear c8; obtain rfl := Option.some.inj H
     have p5 : 0 ≤ (x5_1 : Int) := of_decide_eq_true ad
     have q5 : x5_1 < (a0.size : Int) := of_decide_eq_true ad
     have hx5 := bt_at a0 x5_1; replace p5 := eq_true p5; replace q5 := eq_true q5
     have p7 : 0 ≤ (x5_1 : Int) := of_decide_eq_true ad
     have q7 : x5_1 < (a0.size : Int) := of_decide_eq_true ad
     have hx7 := bt_at a0 x5_1; replace p7 := eq_true p7; replace q7 := eq_true q7; go_wp2; go_ret
     exact ⟨sq, dr⟩
    rw [if_neg c8] at H; have c8b0 := decide_eq_false c8; clear c8
    have H' := am H
    clear H
    have p5 : 0 ≤ (x5_1 : Int) := of_decide_eq_true ad
    have q5 : x5_1 < (a0.size : Int) := of_decide_eq_true ad
    have hx5 := bt_at a0 x5_1; replace p5 := eq_true p5; replace q5 := eq_true q5
    have p7 : 0 ≤ (x5_1 : Int) := of_decide_eq_true ad
    have q7 : x5_1 < (a0.size : Int) := of_decide_eq_true ad
    have hx7 := bt_at a0 x5_1; replace p7 := eq_true p7; replace q7 := eq_true q7; go_wp2
    go_roundg k1
    case measure => have := HK1.out; omega
    case rel => exact ⟨(wrap64 (x5_1 + 1)), sq, H', ⟨b74_⟩, dr⟩
   rw [if_neg c3] at H; have c3b0 := decide_eq_false c3; clear c3; obtain rfl := Option.some.inj H; go_wp2; go_ret
   exact ⟨sq, dr⟩

/-! ### spec_l1Word: function 55 -/
def spec_l1Word.f (k : Nat) (a0 : ByteArray) : Option (Bool) := if (a0.size : Int) > 0 then ((spec_l1Letters.f k a0 12).bind fun t101 => (some t101)) else (some false)
theorem spec_l1Word.calls (k : Nat) (a0 : ByteArray) (r : Bool) (w : World) (h : spec_l1Word.f k a0 = some r) :
  Calls Tryd.prog 55 #[.string a0] w fun e w' => e = .returned (.bool r) ∧ Drawn0 w w' := by
 have H : (if (a0.size : Int) > 0 then ((spec_l1Letters.f k a0 12).bind fun t101 => (some t101)) else (some false)) = some r := h
 clear h
 by_cases c2 : (a0.size : Int) > 0
 ·rw [if_pos c2] at H; have c2b0 := decide_eq_true c2
  have c2b1 : decide (0 < a0.size) = true := decide_eq_true (by omega)
  clear c2; replace H := bs H; obtain ⟨t101, A30, H⟩ := H; replace H : (some t101) = some r := H; have A3 := Aside0.mk A30; clear A30; obtain rfl := Option.some.inj H; go_enter Tryd.func55, Tryd.ntmps55
  go_wp2_with (first | (go_at_call 71; (with_reducible refine (spec_l1Letters.calls k a0 12 t101 _ A3.out).mono ?_); rintro e w' ⟨rfl, ⟨nd, rfl⟩⟩))
  go_ret
  exact ⟨sq, dr⟩
 rw [if_neg c2] at H; have c2b0 := decide_eq_false c2
 have c2b1 : decide (0 < a0.size) = false := decide_eq_false (by omega)
 clear c2; obtain rfl := Option.some.inj H; go_enter Tryd.func55, Tryd.ntmps55; go_wp2; go_ret
 exact ⟨sq, dr⟩

/-! ### spec_l2Entry: function 35 -/
def spec_l2Entry.l0 : Nat → Int → ByteArray → ByteArray → Option (Bool)
 | 0, _, _, _ => none
 | k + 1, x3, x103000, x103001 => if x3 < (x103001.size : Int) then (if 0 ≤ x3 then (if x3 ≤ (wrap64 (x3 + 1)) then (if (wrap64 (x3 + 1)) ≤ (x103001.size : Int) then ((spec_l2Flag.f (x103001.extract (x3 : Int).toNat ((wrap64 (x3 + 1)) : Int).toNat)).bind fun t103 => (if t103 = true then (if x3 > 0 then (if 0 ≤ (wrap64 (x3 - 1)) then (if (wrap64 (x3 - 1)) < (x103001.size : Int) then (if (bt x103001 (wrap64 (x3 - 1))) ≥ (bt x103001 x3) then (some false) else (spec_l2Entry.l0 k (wrap64 (x3 + 1)) x103000 x103001)) else (none)) else (none)) else (spec_l2Entry.l0 k (wrap64 (x3 + 1)) x103000 x103001)) else (some false))) else (none)) else (none)) else (none)) else ((spec_l1Word.f k x103000).bind fun t104 => (if t104 = true then (some (decide ((x103001.size : Int) ≤ 4))) else (some false)))
def spec_l2Entry.f (k : Nat) (a0_0 : ByteArray) (a0_1 : ByteArray) : Option (Bool) := spec_l2Entry.l0 k 0 a0_0 a0_1
theorem spec_l2Entry.calls (k : Nat) (a0_0 : ByteArray) (a0_1 : ByteArray) (r : Bool) (w : World) (h : spec_l2Entry.f k a0_0 a0_1 = some r) :
  Calls Tryd.prog 35 #[.agg #[.string a0_0, .string a0_1]] w fun e w' => e = .returned (.bool r) ∧ Below w.heap.size w w' := by
 have hu43 := Tryd.underlying43; have HB := am (Below.refl w.heap.size w)
 have H : (spec_l2Entry.l0 k 0 a0_0 a0_1) = some r := h
 clear h
 have H' := am H
 clear H; go_enter Tryd.func35, Tryd.ntmps35
 go_wp2_with (first | ((with_reducible refine gate_dst (N := 1) rfl ?_); (try (refine gate_guard (by rfl) ?_; dsimp only)); refine bx 1 (cs := #[.string a0_0, .string a0_1]) (t := 43) ?_; intro gb102 hg w2 hbox hb; have BK102 := am (hbox); have GW102 := am ((b19_ : w.heap.size ≤ gb102)); have GE102 := am ((b19_ : w.heap.size ≤ gb102)); replace HB := am (below_step bel hb); clear hb hbox hg))
 repeat (go_quiet (first | ((with_reducible refine gate_dst (N := 1) rfl ?_); (try (refine gate_guard (by rfl) ?_; dsimp only)); refine bx 1 (cs := #[.string a0_0, .string a0_1]) (t := 43) ?_; intro gb102 hg w2 hbox hb; have BK102 := am (hbox); have GW102 := am ((b19_ : w.heap.size ≤ gb102)); have GE102 := am ((b19_ : w.heap.size ≤ gb102)); replace HB := am (below_step bel hb); clear hb hbox hg)); try go_wp2_with (first | ((with_reducible refine gate_dst (N := 1) rfl ?_); (try (refine gate_guard (by rfl) ?_; dsimp only)); refine bx 1 (cs := #[.string a0_0, .string a0_1]) (t := 43) ?_; intro gb102 hg w2 hbox hb; have BK102 := am (hbox); have GW102 := am ((b19_ : w.heap.size ≤ gb102)); have GE102 := am ((b19_ : w.heap.size ≤ gb102)); replace HB := am (below_step bel hb); clear hb hbox hg)))
 go_loopg [3] k (fun kq v3 w' => ∃ (x3_1 : Int), v3 = .int .i64 x3_1 ∧ Aside0 (spec_l2Entry.l0 kq x3_1 a0_0 a0_1 = some r) ∧ Aside0 (kq ≤ k) ∧ Aside0 (w'.heap[gb102]? = some (.cells #[.string a0_0, .string a0_1] 43 (0, 0))) ∧ Aside0 (Below w.heap.size w w'))
 case atStart => exact ⟨(0), sq, H', ⟨Nat.le_refl _⟩, ⟨bq BK102.out⟩, ⟨bel1 GE102.out⟩⟩
 case round =>
  clear H'; (try clear p2); obtain ⟨x3_1, rfl, HA, HK1, BK102, HB⟩ := hrel
  cases gk with
  | zero => exact absurd HA.out (by simp [spec_l2Entry.l0])
  | succ k1 =>
   have H := HA.out; clear HA
   simp only [spec_l2Entry.l0] at H
   by_cases c3 : x3_1 < (a0_1.size : Int)
   ·rw [if_pos c3] at H; have c3b0 := decide_eq_true c3; clear c3
    replace H := ip H; obtain ⟨c4, H⟩ := H; have c4b0 := eq_true c4
    have c4b1 : decide (0 ≤ x3_1) = true := decide_eq_true c4
    clear c4
    replace H := ip H; obtain ⟨c5, H⟩ := H; have c5b0 := eq_true c5
    have c5b1 : decide (x3_1 ≤ (wrap64 (x3_1 + 1))) = true := decide_eq_true c5
    replace H := ip H; obtain ⟨c6, H⟩ := H; have c6b0 := eq_true c6
    have c6b1 : decide ((wrap64 (x3_1 + 1)) ≤ (a0_1.size : Int)) = true := decide_eq_true c6
    replace H := bs H; obtain ⟨t103, A70, H⟩ := H; replace H : (if t103 = true then (if x3_1 > 0 then (if 0 ≤ (wrap64 (x3_1 - 1)) then (if (wrap64 (x3_1 - 1)) < (a0_1.size : Int) then (if (bt a0_1 (wrap64 (x3_1 - 1))) ≥ (bt a0_1 x3_1) then (some false) else (spec_l2Entry.l0 k1 (wrap64 (x3_1 + 1)) a0_0 a0_1)) else (none)) else (none)) else (spec_l2Entry.l0 k1 (wrap64 (x3_1 + 1)) a0_0 a0_1)) else (some false)) = some r := H; have A7 := Aside0.mk A70; clear A70
    by_cases c8 : t103 = true
    ·subst c8
     have H1 : (if x3_1 > 0 then (if 0 ≤ (wrap64 (x3_1 - 1)) then (if (wrap64 (x3_1 - 1)) < (a0_1.size : Int) then (if (bt a0_1 (wrap64 (x3_1 - 1))) ≥ (bt a0_1 x3_1) then (some false) else (spec_l2Entry.l0 k1 (wrap64 (x3_1 + 1)) a0_0 a0_1)) else (none)) else (none)) else (spec_l2Entry.l0 k1 (wrap64 (x3_1 + 1)) a0_0 a0_1)) = some r := b47_
     replace H := H1; clear H1
     by_cases c9 : x3_1 > 0
     ·rw [if_pos c9] at H; have c9b0 := decide_eq_true c9; clear c9; obtain ⟨ji10, hji10⟩ : ∃ j_ : Int, (wrap64 (x3_1 - 1)) = j_ := ⟨_, rfl⟩
      replace H : (if 0 ≤ (ji10) then (if (ji10) < (a0_1.size : Int) then (if (bt a0_1 (ji10)) ≥ (bt a0_1 x3_1) then (some false) else (spec_l2Entry.l0 k1 (wrap64 (x3_1 + 1)) a0_0 a0_1)) else (none)) else (none)) = some r := by first | (rw [hji10] at H; exact H) | (simp only [hji10] at H ⊢; exact H)
      (try rw [hji10] at A7)
      have hji10w : (IntKind.i64.wrap (x3_1 - 1)) = ji10 := (i64_w _).trans hji10
      replace H := it H; obtain ⟨c11b0, H⟩ := H
      replace H := it H; obtain ⟨c12b0, H⟩ := H
      by_cases c15 : (bt a0_1 (ji10)) ≥ (bt a0_1 x3_1)
      ·rw [if_pos c15] at H; have c15b0 := decide_eq_true c15; clear c15; obtain rfl := Option.some.inj H; have hcz16_0 := bc BK102.out 0; have hcz16_1 := bc BK102.out 1; have hfz16_0 := bf BK102.out 0; have hfz16_1 := bf BK102.out 1
       try have p13 : 0 ≤ ((ji10) : Int) := of_decide_eq_true ad
       try have q13 : (ji10) < (a0_1.size : Int) := of_decide_eq_true ad
       try have hx13 := bt_at a0_1 (ji10)
       try replace p13 := eq_true p13
       try replace q13 := eq_true q13
       try have p14 : 0 ≤ (x3_1 : Int) := of_decide_eq_true ad
       try have q14 : x3_1 < (a0_1.size : Int) := of_decide_eq_true ad
       try have hx14 := bt_at a0_1 x3_1
       try replace p14 := eq_true p14
       try replace q14 := eq_true q14
       go_wp2_with (first | (go_at_call 54; (with_reducible refine (spec_l2Flag.calls (a0_1.extract (x3_1 : Int).toNat ((wrap64 (x3_1 + 1)) : Int).toNat) true _ A7.out).mono ?_); rintro e w' ⟨rfl, ⟨nd, rfl⟩⟩; first | exact ⟨rfl, _, World.drewN_drewN _ _ _⟩ | exact ⟨rfl, _, Eq.trans (World.drewN_drewN _ _ _) (congrArg (World.drewN _) (Nat.add_assoc _ _ _))⟩ | (have p13 : 0 ≤ ((ji10) : Int) := of_decide_eq_true ad; have q13 : (ji10) < (a0_1.size : Int) := of_decide_eq_true ad; have hx13 := bt_at a0_1 (ji10); replace p13 := eq_true p13; replace q13 := eq_true q13; have p14 : 0 ≤ (x3_1 : Int) := of_decide_eq_true ad; have q14 : x3_1 < (a0_1.size : Int) := of_decide_eq_true ad; have hx14 := bt_at a0_1 x3_1; replace p14 := eq_true p14; replace q14 := eq_true q14)))
       repeat (go_quiet (first | (go_at_call 54; (with_reducible refine (spec_l2Flag.calls (a0_1.extract (x3_1 : Int).toNat ((wrap64 (x3_1 + 1)) : Int).toNat) true _ A7.out).mono ?_); rintro e w' ⟨rfl, ⟨nd, rfl⟩⟩; first | exact ⟨rfl, _, World.drewN_drewN _ _ _⟩ | exact ⟨rfl, _, Eq.trans (World.drewN_drewN _ _ _) (congrArg (World.drewN _) (Nat.add_assoc _ _ _))⟩ | (have p13 : 0 ≤ ((ji10) : Int) := of_decide_eq_true ad; have q13 : (ji10) < (a0_1.size : Int) := of_decide_eq_true ad; have hx13 := bt_at a0_1 (ji10); replace p13 := eq_true p13; replace q13 := eq_true q13; have p14 : 0 ≤ (x3_1 : Int) := of_decide_eq_true ad; have q14 : x3_1 < (a0_1.size : Int) := of_decide_eq_true ad; have hx14 := bt_at a0_1 x3_1; replace p14 := eq_true p14; replace q14 := eq_true q14))); try go_wp2_with (first | (go_at_call 54; (with_reducible refine (spec_l2Flag.calls (a0_1.extract (x3_1 : Int).toNat ((wrap64 (x3_1 + 1)) : Int).toNat) true _ A7.out).mono ?_); rintro e w' ⟨rfl, ⟨nd, rfl⟩⟩; first | exact ⟨rfl, _, World.drewN_drewN _ _ _⟩ | exact ⟨rfl, _, Eq.trans (World.drewN_drewN _ _ _) (congrArg (World.drewN _) (Nat.add_assoc _ _ _))⟩ | (have p13 : 0 ≤ ((ji10) : Int) := of_decide_eq_true ad; have q13 : (ji10) < (a0_1.size : Int) := of_decide_eq_true ad; have hx13 := bt_at a0_1 (ji10); replace p13 := eq_true p13; replace q13 := eq_true q13; have p14 : 0 ≤ (x3_1 : Int) := of_decide_eq_true ad; have q14 : x3_1 < (a0_1.size : Int) := of_decide_eq_true ad; have hx14 := bt_at a0_1 x3_1; replace p14 := eq_true p14; replace q14 := eq_true q14))))
       go_ret
       exact ⟨by first | rfl | (simp [errW_none, errW_some] <;> rfl) | (simp only [← hji10]; first | rfl | (simp [errW_none, errW_some] <;> rfl)) | (simp [*, errW_none, errW_some] <;> rfl), bel1 GE102.out⟩
      rw [if_neg c15] at H; have c15b0 := decide_eq_false c15; clear c15
      have H' := am H
      clear H; have hcz17_0 := bc BK102.out 0; have hcz17_1 := bc BK102.out 1; have hfz17_0 := bf BK102.out 0; have hfz17_1 := bf BK102.out 1
      try have p13 : 0 ≤ ((ji10) : Int) := of_decide_eq_true ad
      try have q13 : (ji10) < (a0_1.size : Int) := of_decide_eq_true ad
      try have hx13 := bt_at a0_1 (ji10)
      try replace p13 := eq_true p13
      try replace q13 := eq_true q13
      try have p14 : 0 ≤ (x3_1 : Int) := of_decide_eq_true ad
      try have q14 : x3_1 < (a0_1.size : Int) := of_decide_eq_true ad
      try have hx14 := bt_at a0_1 x3_1
      try replace p14 := eq_true p14
      try replace q14 := eq_true q14
      go_wp2_with (first | (go_at_call 54; (with_reducible refine (spec_l2Flag.calls (a0_1.extract (x3_1 : Int).toNat ((wrap64 (x3_1 + 1)) : Int).toNat) true _ A7.out).mono ?_); rintro e w' ⟨rfl, ⟨nd, rfl⟩⟩; first | exact ⟨rfl, _, World.drewN_drewN _ _ _⟩ | exact ⟨rfl, _, Eq.trans (World.drewN_drewN _ _ _) (congrArg (World.drewN _) (Nat.add_assoc _ _ _))⟩ | (have p13 : 0 ≤ ((ji10) : Int) := of_decide_eq_true ad; have q13 : (ji10) < (a0_1.size : Int) := of_decide_eq_true ad; have hx13 := bt_at a0_1 (ji10); replace p13 := eq_true p13; replace q13 := eq_true q13; have p14 : 0 ≤ (x3_1 : Int) := of_decide_eq_true ad; have q14 : x3_1 < (a0_1.size : Int) := of_decide_eq_true ad; have hx14 := bt_at a0_1 x3_1; replace p14 := eq_true p14; replace q14 := eq_true q14)))
      repeat (go_quiet (first | (go_at_call 54; (with_reducible refine (spec_l2Flag.calls (a0_1.extract (x3_1 : Int).toNat ((wrap64 (x3_1 + 1)) : Int).toNat) true _ A7.out).mono ?_); rintro e w' ⟨rfl, ⟨nd, rfl⟩⟩; first | exact ⟨rfl, _, World.drewN_drewN _ _ _⟩ | exact ⟨rfl, _, Eq.trans (World.drewN_drewN _ _ _) (congrArg (World.drewN _) (Nat.add_assoc _ _ _))⟩ | (have p13 : 0 ≤ ((ji10) : Int) := of_decide_eq_true ad; have q13 : (ji10) < (a0_1.size : Int) := of_decide_eq_true ad; have hx13 := bt_at a0_1 (ji10); replace p13 := eq_true p13; replace q13 := eq_true q13; have p14 : 0 ≤ (x3_1 : Int) := of_decide_eq_true ad; have q14 : x3_1 < (a0_1.size : Int) := of_decide_eq_true ad; have hx14 := bt_at a0_1 x3_1; replace p14 := eq_true p14; replace q14 := eq_true q14))); try go_wp2_with (first | (go_at_call 54; (with_reducible refine (spec_l2Flag.calls (a0_1.extract (x3_1 : Int).toNat ((wrap64 (x3_1 + 1)) : Int).toNat) true _ A7.out).mono ?_); rintro e w' ⟨rfl, ⟨nd, rfl⟩⟩; first | exact ⟨rfl, _, World.drewN_drewN _ _ _⟩ | exact ⟨rfl, _, Eq.trans (World.drewN_drewN _ _ _) (congrArg (World.drewN _) (Nat.add_assoc _ _ _))⟩ | (have p13 : 0 ≤ ((ji10) : Int) := of_decide_eq_true ad; have q13 : (ji10) < (a0_1.size : Int) := of_decide_eq_true ad; have hx13 := bt_at a0_1 (ji10); replace p13 := eq_true p13; replace q13 := eq_true q13; have p14 : 0 ≤ (x3_1 : Int) := of_decide_eq_true ad; have q14 : x3_1 < (a0_1.size : Int) := of_decide_eq_true ad; have hx14 := bt_at a0_1 x3_1; replace p14 := eq_true p14; replace q14 := eq_true q14))))
      go_roundg k1
      case measure => have := HK1.out; omega
      case rel => exact ⟨(wrap64 (x3_1 + 1)), sq, H', ⟨b74_⟩, ⟨bq BK102.out⟩, ⟨bel1 GE102.out⟩⟩
     rw [if_neg c9] at H; have c9b0 := decide_eq_false c9; clear c9
     have H' := am H
     clear H; have hcz18_0 := bc BK102.out 0; have hcz18_1 := bc BK102.out 1; have hfz18_0 := bf BK102.out 0; have hfz18_1 := bf BK102.out 1
     go_wp2_with (first | (go_at_call 54; (with_reducible refine (spec_l2Flag.calls (a0_1.extract (x3_1 : Int).toNat ((wrap64 (x3_1 + 1)) : Int).toNat) true _ A7.out).mono ?_); rintro e w' ⟨rfl, ⟨nd, rfl⟩⟩; (try first | exact ⟨rfl, _, World.drewN_drewN _ _ _⟩ | exact ⟨rfl, _, Eq.trans (World.drewN_drewN _ _ _) (congrArg (World.drewN _) (Nat.add_assoc _ _ _))⟩)))
     repeat (go_quiet (first | (go_at_call 54; (with_reducible refine (spec_l2Flag.calls (a0_1.extract (x3_1 : Int).toNat ((wrap64 (x3_1 + 1)) : Int).toNat) true _ A7.out).mono ?_); rintro e w' ⟨rfl, ⟨nd, rfl⟩⟩; (try first | exact ⟨rfl, _, World.drewN_drewN _ _ _⟩ | exact ⟨rfl, _, Eq.trans (World.drewN_drewN _ _ _) (congrArg (World.drewN _) (Nat.add_assoc _ _ _))⟩))); try go_wp2_with (first | (go_at_call 54; (with_reducible refine (spec_l2Flag.calls (a0_1.extract (x3_1 : Int).toNat ((wrap64 (x3_1 + 1)) : Int).toNat) true _ A7.out).mono ?_); rintro e w' ⟨rfl, ⟨nd, rfl⟩⟩; (try first | exact ⟨rfl, _, World.drewN_drewN _ _ _⟩ | exact ⟨rfl, _, Eq.trans (World.drewN_drewN _ _ _) (congrArg (World.drewN _) (Nat.add_assoc _ _ _))⟩))))
     go_roundg k1
     case measure => have := HK1.out; omega
     case rel => exact ⟨(wrap64 (x3_1 + 1)), sq, H', ⟨b74_⟩, ⟨bq BK102.out⟩, ⟨bel1 GE102.out⟩⟩
    replace c8 := Bool.eq_false_iff.mpr c8; subst c8
    have H1 : (some false) = some r := b22_
    replace H := H1; clear H1
    obtain rfl := Option.some.inj H; have hcz19_0 := bc BK102.out 0; have hcz19_1 := bc BK102.out 1; have hfz19_0 := bf BK102.out 0; have hfz19_1 := bf BK102.out 1
    go_wp2_with (first | (go_at_call 54; (with_reducible refine (spec_l2Flag.calls (a0_1.extract (x3_1 : Int).toNat ((wrap64 (x3_1 + 1)) : Int).toNat) false _ A7.out).mono ?_); rintro e w' ⟨rfl, ⟨nd, rfl⟩⟩; (try first | exact ⟨rfl, _, World.drewN_drewN _ _ _⟩ | exact ⟨rfl, _, Eq.trans (World.drewN_drewN _ _ _) (congrArg (World.drewN _) (Nat.add_assoc _ _ _))⟩)))
    repeat (go_quiet (first | (go_at_call 54; (with_reducible refine (spec_l2Flag.calls (a0_1.extract (x3_1 : Int).toNat ((wrap64 (x3_1 + 1)) : Int).toNat) false _ A7.out).mono ?_); rintro e w' ⟨rfl, ⟨nd, rfl⟩⟩; (try first | exact ⟨rfl, _, World.drewN_drewN _ _ _⟩ | exact ⟨rfl, _, Eq.trans (World.drewN_drewN _ _ _) (congrArg (World.drewN _) (Nat.add_assoc _ _ _))⟩))); try go_wp2_with (first | (go_at_call 54; (with_reducible refine (spec_l2Flag.calls (a0_1.extract (x3_1 : Int).toNat ((wrap64 (x3_1 + 1)) : Int).toNat) false _ A7.out).mono ?_); rintro e w' ⟨rfl, ⟨nd, rfl⟩⟩; (try first | exact ⟨rfl, _, World.drewN_drewN _ _ _⟩ | exact ⟨rfl, _, Eq.trans (World.drewN_drewN _ _ _) (congrArg (World.drewN _) (Nat.add_assoc _ _ _))⟩))))
    go_ret
    exact ⟨eq_, bel1 GE102.out⟩
   rw [if_neg c3] at H; have c3b0 := decide_eq_false c3; clear c3; replace H := bs H; obtain ⟨t104, A200, H⟩ := H; replace H : (if t104 = true then (some (decide ((a0_1.size : Int) ≤ 4))) else (some false)) = some r := H; have A20 := Aside0.mk A200; clear A200
   by_cases c21 : t104 = true
   ·subst c21
    have H1 : (some (decide ((a0_1.size : Int) ≤ 4))) = some r := b47_
    replace H := H1; clear H1
    obtain rfl := Option.some.inj H; have hcz22_0 := bc BK102.out 0; have hcz22_1 := bc BK102.out 1; have hfz22_0 := bf BK102.out 0; have hfz22_1 := bf BK102.out 1
    go_wp2_with (first | (go_at_call 55; (with_reducible refine (spec_l1Word.calls k1 a0_0 true _ A20.out).mono ?_); rintro e w' ⟨rfl, ⟨nd, rfl⟩⟩; (try first | exact ⟨rfl, _, World.drewN_drewN _ _ _⟩ | exact ⟨rfl, _, Eq.trans (World.drewN_drewN _ _ _) (congrArg (World.drewN _) (Nat.add_assoc _ _ _))⟩)))
    repeat (go_quiet (first | (go_at_call 55; (with_reducible refine (spec_l1Word.calls k1 a0_0 true _ A20.out).mono ?_); rintro e w' ⟨rfl, ⟨nd, rfl⟩⟩; (try first | exact ⟨rfl, _, World.drewN_drewN _ _ _⟩ | exact ⟨rfl, _, Eq.trans (World.drewN_drewN _ _ _) (congrArg (World.drewN _) (Nat.add_assoc _ _ _))⟩))); try go_wp2_with (first | (go_at_call 55; (with_reducible refine (spec_l1Word.calls k1 a0_0 true _ A20.out).mono ?_); rintro e w' ⟨rfl, ⟨nd, rfl⟩⟩; (try first | exact ⟨rfl, _, World.drewN_drewN _ _ _⟩ | exact ⟨rfl, _, Eq.trans (World.drewN_drewN _ _ _) (congrArg (World.drewN _) (Nat.add_assoc _ _ _))⟩))))
    go_ret
    exact ⟨eq_, bel1 GE102.out⟩
   replace c21 := Bool.eq_false_iff.mpr c21; subst c21
   have H1 : (some false) = some r := b22_
   replace H := H1; clear H1
   obtain rfl := Option.some.inj H; have hcz23_0 := bc BK102.out 0; have hcz23_1 := bc BK102.out 1; have hfz23_0 := bf BK102.out 0; have hfz23_1 := bf BK102.out 1
   go_wp2_with (first | (go_at_call 55; (with_reducible refine (spec_l1Word.calls k1 a0_0 false _ A20.out).mono ?_); rintro e w' ⟨rfl, ⟨nd, rfl⟩⟩; (try first | exact ⟨rfl, _, World.drewN_drewN _ _ _⟩ | exact ⟨rfl, _, Eq.trans (World.drewN_drewN _ _ _) (congrArg (World.drewN _) (Nat.add_assoc _ _ _))⟩)))
   repeat (go_quiet (first | (go_at_call 55; (with_reducible refine (spec_l1Word.calls k1 a0_0 false _ A20.out).mono ?_); rintro e w' ⟨rfl, ⟨nd, rfl⟩⟩; (try first | exact ⟨rfl, _, World.drewN_drewN _ _ _⟩ | exact ⟨rfl, _, Eq.trans (World.drewN_drewN _ _ _) (congrArg (World.drewN _) (Nat.add_assoc _ _ _))⟩))); try go_wp2_with (first | (go_at_call 55; (with_reducible refine (spec_l1Word.calls k1 a0_0 false _ A20.out).mono ?_); rintro e w' ⟨rfl, ⟨nd, rfl⟩⟩; (try first | exact ⟨rfl, _, World.drewN_drewN _ _ _⟩ | exact ⟨rfl, _, Eq.trans (World.drewN_drewN _ _ _) (congrArg (World.drewN _) (Nat.add_assoc _ _ _))⟩))))
   go_ret
   exact ⟨eq_, bel1 GE102.out⟩

/-! ### spec_l2Begins: function 72 -/
def spec_l2Begins.f (a0 : ByteArray) (a1 : ByteArray) : Option (Bool) := if (a0.size : Int) ≥ (a1.size : Int) then (if 0 ≤ (a1.size : Int) then (if (a1.size : Int) ≤ (a0.size : Int) then (some ((a0.extract 0 a1.size).toList == a1.toList)) else (none)) else (none)) else (some false)
theorem spec_l2Begins.calls (a0 : ByteArray) (a1 : ByteArray) (r : Bool) (w : World) (h : spec_l2Begins.f a0 a1 = some r) :
  Calls Tryd.prog 72 #[.string a0, .string a1] w fun e w' => e = .returned (.bool r) ∧ Drawn0 w w' := by
 have H : (if (a0.size : Int) ≥ (a1.size : Int) then (if 0 ≤ (a1.size : Int) then (if (a1.size : Int) ≤ (a0.size : Int) then (some ((a0.extract 0 a1.size).toList == a1.toList)) else (none)) else (none)) else (some false)) = some r := h
 clear h
 by_cases c3 : (a0.size : Int) ≥ (a1.size : Int)
 ·rw [if_pos c3] at H; have c3b0 := decide_eq_true c3
  have c3b1 : decide (a1.size ≤ a0.size) = true := decide_eq_true (Int.ofNat_le.mp c3)
  clear c3
  replace H := ip H; obtain ⟨c4, H⟩ := H; have c4b0 := eq_true c4
  have c4b1 : decide (0 ≤ (a1.size : Int)) = true := decide_eq_true c4
  clear c4
  replace H := ip H; obtain ⟨c5, H⟩ := H; have c5b0 := eq_true c5
  have c5b9 : (a1.size ≤ a0.size) = True := eq_true (by omega)
  have c5b6 : decide (a1.size ≤ a0.size) = true := decide_eq_true (by omega)
  have c5b1 : decide ((a1.size : Int) ≤ (a0.size : Int)) = true := decide_eq_true c5
  clear c5; obtain rfl := Option.some.inj H; go_enter Tryd.func72, Tryd.ntmps72; go_wp2; go_ret
  exact ⟨sq, dr⟩
 rw [if_neg c3] at H; have c3b0 := decide_eq_false c3
 have c3b1 : decide (a1.size ≤ a0.size) = false := decide_eq_false (fun h => c3 (Int.ofNat_le.mpr h))
 clear c3; obtain rfl := Option.some.inj H; go_enter Tryd.func72, Tryd.ntmps72; go_wp2; go_ret
 exact ⟨sq, dr⟩

/-! ### spec_l2Ends: function 73 -/
def spec_l2Ends.f (a0 : ByteArray) (a1 : ByteArray) : Option (Bool) := if (a0.size : Int) ≥ (a1.size : Int) then (if 0 ≤ (wrap64 ((a0.size : Int) - (a1.size : Int))) then (if (wrap64 ((a0.size : Int) - (a1.size : Int))) ≤ (a0.size : Int) then (some ((a0.extract ((wrap64 ((a0.size : Int) - (a1.size : Int))) : Int).toNat a0.size).toList == a1.toList)) else (none)) else (none)) else (some false)
theorem spec_l2Ends.calls (a0 : ByteArray) (a1 : ByteArray) (r : Bool) (w : World) (h : spec_l2Ends.f a0 a1 = some r) :
  Calls Tryd.prog 73 #[.string a0, .string a1] w fun e w' => e = .returned (.bool r) ∧ Drawn0 w w' := by
 have H : (if (a0.size : Int) ≥ (a1.size : Int) then (if 0 ≤ (wrap64 ((a0.size : Int) - (a1.size : Int))) then (if (wrap64 ((a0.size : Int) - (a1.size : Int))) ≤ (a0.size : Int) then (some ((a0.extract ((wrap64 ((a0.size : Int) - (a1.size : Int))) : Int).toNat a0.size).toList == a1.toList)) else (none)) else (none)) else (some false)) = some r := h
 clear h
 by_cases c3 : (a0.size : Int) ≥ (a1.size : Int)
 ·rw [if_pos c3] at H; have c3b0 := decide_eq_true c3
  have c3b1 : decide (a1.size ≤ a0.size) = true := decide_eq_true (Int.ofNat_le.mp c3)
  clear c3; obtain ⟨ji4, hji4⟩ : ∃ j_ : Int, (wrap64 ((a0.size : Int) - (a1.size : Int))) = j_ := ⟨_, rfl⟩
  replace H : (if 0 ≤ (ji4) then (if (ji4) ≤ (a0.size : Int) then (some ((a0.extract ((ji4) : Int).toNat a0.size).toList == a1.toList)) else (none)) else (none)) = some r := by first | (rw [hji4] at H; exact H) | (simp only [hji4] at H ⊢; exact H)
  have hji4w : (IntKind.i64.wrap ((a0.size : Int) - (a1.size : Int))) = ji4 := (i64_w _).trans hji4
  replace H := ip H; obtain ⟨c5, H⟩ := H; have c5b0 := eq_true c5
  have c5b1 : decide (0 ≤ (ji4)) = true := decide_eq_true c5
  clear c5
  replace H := ip H; obtain ⟨c6, H⟩ := H; have c6b0 := eq_true c6
  have c6b1 : decide ((ji4) ≤ (a0.size : Int)) = true := decide_eq_true c6
  clear c6; obtain rfl := Option.some.inj H; go_enter Tryd.func73, Tryd.ntmps73; go_wp2; go_ret
  exact ⟨by first | rfl | (simp; done) | (simp only [← hji4] <;> (first | rfl | simp)) | (simp [*]; done), dr⟩
 rw [if_neg c3] at H; have c3b0 := decide_eq_false c3
 have c3b1 : decide (a1.size ≤ a0.size) = false := decide_eq_false (fun h => c3 (Int.ofNat_le.mpr h))
 clear c3; obtain rfl := Option.some.inj H; go_enter Tryd.func73, Tryd.ntmps73; go_wp2; go_ret
 exact ⟨sq, dr⟩

/-! ### spec_AffixOk: function 56 -/
def spec_AffixOk.j0 : Nat → Bool → ByteArray → Bool → ByteArray → ByteArray → ByteArray → Option (Bool)
 | 0, _, _, _, _, _, _ => none
 | k + 1, x24, x106000, x106001, x106002, x106003, x106004 => if x24 = true then (some false) else (if x106001 = true then ((spec_l2Begins.f x106004 x106002).bind fun t110 => (some t110)) else ((spec_l2Ends.f x106004 x106002).bind fun t111 => (some t111)))
def spec_AffixOk.f (k : Nat) (a0_0 : ByteArray) (a0_1 : Bool) (a0_2 : ByteArray) (a0_3 : ByteArray) (a0_4 : ByteArray) : Option (Bool) := (spec_l2Flag.f a0_0).bind fun t106 => (if t106 = true then ((spec_l1Letters.f k a0_2 4).bind fun t107 => (if t107 = true then ((spec_l1Letters.f k a0_3 4).bind fun t108 => (if t108 = true then ((spec_l1Letters.f k a0_4 4).bind fun t109 => (spec_AffixOk.j0 k (!t109) a0_0 a0_1 a0_2 a0_3 a0_4)) else (spec_AffixOk.j0 k true a0_0 a0_1 a0_2 a0_3 a0_4))) else (spec_AffixOk.j0 k true a0_0 a0_1 a0_2 a0_3 a0_4))) else (spec_AffixOk.j0 k true a0_0 a0_1 a0_2 a0_3 a0_4))
theorem spec_AffixOk.calls (k : Nat) (a0_0 : ByteArray) (a0_1 : Bool) (a0_2 : ByteArray) (a0_3 : ByteArray) (a0_4 : ByteArray) (r : Bool) (w : World) (h : spec_AffixOk.f k a0_0 a0_1 a0_2 a0_3 a0_4 = some r) :
  Calls Tryd.prog 56 #[.agg #[.string a0_0, .bool a0_1, .string a0_2, .string a0_3, .string a0_4]] w fun e w' => e = .returned (.bool r) ∧ Below w.heap.size w w' := by
 have hu40 := Tryd.underlying40; have HB := am (Below.refl w.heap.size w)
 have H : ((spec_l2Flag.f a0_0).bind fun t106 => (if t106 = true then ((spec_l1Letters.f k a0_2 4).bind fun t107 => (if t107 = true then ((spec_l1Letters.f k a0_3 4).bind fun t108 => (if t108 = true then ((spec_l1Letters.f k a0_4 4).bind fun t109 => (spec_AffixOk.j0 k (!t109) a0_0 a0_1 a0_2 a0_3 a0_4)) else (spec_AffixOk.j0 k true a0_0 a0_1 a0_2 a0_3 a0_4))) else (spec_AffixOk.j0 k true a0_0 a0_1 a0_2 a0_3 a0_4))) else (spec_AffixOk.j0 k true a0_0 a0_1 a0_2 a0_3 a0_4))) = some r := h
 clear h; have HC2 := am H; clear H; go_enter Tryd.func56, Tryd.ntmps56
 go_upto_region 1 with (first | ((with_reducible refine gate_dst (N := 1) rfl ?_); refine bx 1 (cs := #[.string a0_0, .bool a0_1, .string a0_2, .string a0_3, .string a0_4]) (t := 40) ?_; intro gb105 hg w3 hbox hb; have BK105 := am (hbox); have GW105 := am ((b19_ : w.heap.size ≤ gb105)); have GE105 := am ((b19_ : w.heap.size ≤ gb105)); replace HB := am (below_step bel hb); clear hb hbox hg))
 (try simp only [Act.put, List.setIfInBounds_toArray, List.set_cons_zero, List.set_cons_succ])
 go_cut [24] (fun v24 wc => ∃ (kq : Nat) (x24_1 : Bool), v24 = .bool x24_1 ∧ Aside0 (spec_AffixOk.j0 kq x24_1 a0_0 a0_1 a0_2 a0_3 a0_4 = some r) ∧ Aside0 (kq ≤ k) ∧ Aside0 (wc.heap[gb105]? = some (.cells #[.string a0_0, .bool a0_1, .string a0_2, .string a0_3, .string a0_4] 40 (0, 0))) ∧ Aside0 (Below w.heap.size w wc))
 case first =>
  have H := HC2.out; clear HC2; replace H := bs H; obtain ⟨t106, A40, H⟩ := H; replace H : (if t106 = true then ((spec_l1Letters.f k a0_2 4).bind fun t107 => (if t107 = true then ((spec_l1Letters.f k a0_3 4).bind fun t108 => (if t108 = true then ((spec_l1Letters.f k a0_4 4).bind fun t109 => (spec_AffixOk.j0 k (!t109) a0_0 a0_1 a0_2 a0_3 a0_4)) else (spec_AffixOk.j0 k true a0_0 a0_1 a0_2 a0_3 a0_4))) else (spec_AffixOk.j0 k true a0_0 a0_1 a0_2 a0_3 a0_4))) else (spec_AffixOk.j0 k true a0_0 a0_1 a0_2 a0_3 a0_4)) = some r := H; have A4 := Aside0.mk A40; clear A40
  by_cases c5 : t106 = true
  ·subst c5
   have H1 : ((spec_l1Letters.f k a0_2 4).bind fun t107 => (if t107 = true then ((spec_l1Letters.f k a0_3 4).bind fun t108 => (if t108 = true then ((spec_l1Letters.f k a0_4 4).bind fun t109 => (spec_AffixOk.j0 k (!t109) a0_0 a0_1 a0_2 a0_3 a0_4)) else (spec_AffixOk.j0 k true a0_0 a0_1 a0_2 a0_3 a0_4))) else (spec_AffixOk.j0 k true a0_0 a0_1 a0_2 a0_3 a0_4))) = some r := b47_
   replace H := H1; clear H1
   replace H := bs H; obtain ⟨t107, A60, H⟩ := H; replace H : (if t107 = true then ((spec_l1Letters.f k a0_3 4).bind fun t108 => (if t108 = true then ((spec_l1Letters.f k a0_4 4).bind fun t109 => (spec_AffixOk.j0 k (!t109) a0_0 a0_1 a0_2 a0_3 a0_4)) else (spec_AffixOk.j0 k true a0_0 a0_1 a0_2 a0_3 a0_4))) else (spec_AffixOk.j0 k true a0_0 a0_1 a0_2 a0_3 a0_4)) = some r := H; have A6 := Aside0.mk A60; clear A60
   by_cases c7 : t107 = true
   ·subst c7
    have H1 : ((spec_l1Letters.f k a0_3 4).bind fun t108 => (if t108 = true then ((spec_l1Letters.f k a0_4 4).bind fun t109 => (spec_AffixOk.j0 k (!t109) a0_0 a0_1 a0_2 a0_3 a0_4)) else (spec_AffixOk.j0 k true a0_0 a0_1 a0_2 a0_3 a0_4))) = some r := b47_
    replace H := H1; clear H1
    replace H := bs H; obtain ⟨t108, A80, H⟩ := H; replace H : (if t108 = true then ((spec_l1Letters.f k a0_4 4).bind fun t109 => (spec_AffixOk.j0 k (!t109) a0_0 a0_1 a0_2 a0_3 a0_4)) else (spec_AffixOk.j0 k true a0_0 a0_1 a0_2 a0_3 a0_4)) = some r := H; have A8 := Aside0.mk A80; clear A80
    by_cases c9 : t108 = true
    ·subst c9
     have H1 : ((spec_l1Letters.f k a0_4 4).bind fun t109 => (spec_AffixOk.j0 k (!t109) a0_0 a0_1 a0_2 a0_3 a0_4)) = some r := b47_
     replace H := H1; clear H1
     replace H := bs H; obtain ⟨t109, A100, H⟩ := H; replace H : (spec_AffixOk.j0 k (!t109) a0_0 a0_1 a0_2 a0_3 a0_4) = some r := H; have A10 := Aside0.mk A100; clear A100
     have H' := am H
     clear H; have hcz11_0 := bc BK105.out 0; have hcz11_1 := bc BK105.out 1; have hcz11_2 := bc BK105.out 2; have hcz11_3 := bc BK105.out 3; have hcz11_4 := bc BK105.out 4; have hfz11_0 := bf BK105.out 0; have hfz11_1 := bf BK105.out 1; have hfz11_2 := bf BK105.out 2; have hfz11_3 := bf BK105.out 3; have hfz11_4 := bf BK105.out 4
     go_wp2_with (first | ((with_reducible refine gate_callee (f := 54) rfl ?_); refine goesL_ (some 5) rfl rfl Tryd.func54 (by kernel_rfl) rfl #[.string a0_0] rfl mq ?_; (with_reducible refine (spec_l2Flag.calls a0_0 true _ A4.out).mono ?_); rintro e w' ⟨rfl, ⟨nd, rfl⟩⟩; refine ⟨_, rfl, ?_⟩) | (go_at_call 71; (with_reducible refine (spec_l1Letters.calls k a0_2 4 true _ A6.out).mono ?_); rintro e w' ⟨rfl, ⟨nd, rfl⟩⟩) | (go_at_call 71; (with_reducible refine (spec_l1Letters.calls k a0_3 4 true _ A8.out).mono ?_); rintro e w' ⟨rfl, ⟨nd, rfl⟩⟩) | (go_at_call 71; (with_reducible refine (spec_l1Letters.calls k a0_4 4 t109 _ A10.out).mono ?_); rintro e w' ⟨rfl, ⟨nd, rfl⟩⟩))
     go_meet
     case rel => exact ⟨_, (!t109), sq, H', ⟨b69_⟩, ⟨bq BK105.out⟩, ⟨bel1 GE105.out⟩⟩
    replace c9 := Bool.eq_false_iff.mpr c9; subst c9
    have H1 : (spec_AffixOk.j0 k true a0_0 a0_1 a0_2 a0_3 a0_4) = some r := b22_
    replace H := H1; clear H1
    have H' := am H
    clear H; have hcz12_0 := bc BK105.out 0; have hcz12_1 := bc BK105.out 1; have hcz12_2 := bc BK105.out 2; have hcz12_3 := bc BK105.out 3; have hcz12_4 := bc BK105.out 4; have hfz12_0 := bf BK105.out 0; have hfz12_1 := bf BK105.out 1; have hfz12_2 := bf BK105.out 2; have hfz12_3 := bf BK105.out 3; have hfz12_4 := bf BK105.out 4
    go_wp2_with (first | ((with_reducible refine gate_callee (f := 54) rfl ?_); refine goesL_ (some 5) rfl rfl Tryd.func54 (by kernel_rfl) rfl #[.string a0_0] rfl mq ?_; (with_reducible refine (spec_l2Flag.calls a0_0 true _ A4.out).mono ?_); rintro e w' ⟨rfl, ⟨nd, rfl⟩⟩; refine ⟨_, rfl, ?_⟩) | (go_at_call 71; (with_reducible refine (spec_l1Letters.calls k a0_2 4 true _ A6.out).mono ?_); rintro e w' ⟨rfl, ⟨nd, rfl⟩⟩) | (go_at_call 71; (with_reducible refine (spec_l1Letters.calls k a0_3 4 false _ A8.out).mono ?_); rintro e w' ⟨rfl, ⟨nd, rfl⟩⟩))
    go_meet
    case rel => exact ⟨_, (true), sq, H', ⟨b69_⟩, ⟨bq BK105.out⟩, ⟨bel1 GE105.out⟩⟩
   replace c7 := Bool.eq_false_iff.mpr c7; subst c7
   have H1 : (spec_AffixOk.j0 k true a0_0 a0_1 a0_2 a0_3 a0_4) = some r := b22_
   replace H := H1; clear H1
   have H' := am H
   clear H; have hcz13_0 := bc BK105.out 0; have hcz13_1 := bc BK105.out 1; have hcz13_2 := bc BK105.out 2; have hcz13_3 := bc BK105.out 3; have hcz13_4 := bc BK105.out 4; have hfz13_0 := bf BK105.out 0; have hfz13_1 := bf BK105.out 1; have hfz13_2 := bf BK105.out 2; have hfz13_3 := bf BK105.out 3; have hfz13_4 := bf BK105.out 4
   go_wp2_with (first | ((with_reducible refine gate_callee (f := 54) rfl ?_); refine goesL_ (some 5) rfl rfl Tryd.func54 (by kernel_rfl) rfl #[.string a0_0] rfl mq ?_; (with_reducible refine (spec_l2Flag.calls a0_0 true _ A4.out).mono ?_); rintro e w' ⟨rfl, ⟨nd, rfl⟩⟩; refine ⟨_, rfl, ?_⟩) | (go_at_call 71; (with_reducible refine (spec_l1Letters.calls k a0_2 4 false _ A6.out).mono ?_); rintro e w' ⟨rfl, ⟨nd, rfl⟩⟩))
   go_meet
   case rel => exact ⟨_, (true), sq, H', ⟨b69_⟩, ⟨bq BK105.out⟩, ⟨bel1 GE105.out⟩⟩
  replace c5 := Bool.eq_false_iff.mpr c5; subst c5
  have H1 : (spec_AffixOk.j0 k true a0_0 a0_1 a0_2 a0_3 a0_4) = some r := b22_
  replace H := H1; clear H1
  have H' := am H
  clear H; have hcz14_0 := bc BK105.out 0; have hcz14_1 := bc BK105.out 1; have hcz14_2 := bc BK105.out 2; have hcz14_3 := bc BK105.out 3; have hcz14_4 := bc BK105.out 4; have hfz14_0 := bf BK105.out 0; have hfz14_1 := bf BK105.out 1; have hfz14_2 := bf BK105.out 2; have hfz14_3 := bf BK105.out 3; have hfz14_4 := bf BK105.out 4
  go_wp2_with (first | ((with_reducible refine gate_callee (f := 54) rfl ?_); refine goesL_ (some 5) rfl rfl Tryd.func54 (by kernel_rfl) rfl #[.string a0_0] rfl mq ?_; (with_reducible refine (spec_l2Flag.calls a0_0 false _ A4.out).mono ?_); rintro e w' ⟨rfl, ⟨nd, rfl⟩⟩; refine ⟨_, rfl, ?_⟩))
  go_meet
  case rel => exact ⟨_, (true), sq, H', ⟨b69_⟩, ⟨bq BK105.out⟩, ⟨bel1 GE105.out⟩⟩
 case rest =>
  clear HC2; (try clear p2); (try clear c5); (try clear c7); (try clear c9); (try clear hcz11_0); (try clear hcz11_1); (try clear hcz11_2); (try clear hcz11_3); (try clear hcz11_4); (try clear hcz12_0); (try clear hcz12_1); (try clear hcz12_2); (try clear hcz12_3); (try clear hcz12_4); (try clear hcz13_0); (try clear hcz13_1); (try clear hcz13_2); (try clear hcz13_3); (try clear hcz13_4); (try clear hcz14_0); (try clear hcz14_1); (try clear hcz14_2); (try clear hcz14_3); (try clear hcz14_4); (try clear hfz11_0); (try clear hfz11_1); (try clear hfz11_2); (try clear hfz11_3); (try clear hfz11_4); (try clear hfz12_0); (try clear hfz12_1); (try clear hfz12_2); (try clear hfz12_3); (try clear hfz12_4); (try clear hfz13_0); (try clear hfz13_1); (try clear hfz13_2); (try clear hfz13_3); (try clear hfz13_4); (try clear hfz14_0); (try clear hfz14_1); (try clear hfz14_2); (try clear hfz14_3); (try clear hfz14_4); obtain ⟨kq, x24_1, rfl, HA, HJ1, BK105, HB⟩ := hcut
  cases kq with
  | zero => exact absurd HA.out (by simp [spec_AffixOk.j0])
  | succ kj1 =>
   have H := HA.out; clear HA
   simp only [spec_AffixOk.j0] at H
   by_cases c15 : x24_1 = true
   ·subst c15
    have H1 : (some false) = some r := b47_
    replace H := H1; clear H1
    obtain rfl := Option.some.inj H; go_wp2; go_ret
    exact ⟨eq_, bel1 GE105.out⟩
   replace c15 := Bool.eq_false_iff.mpr c15; subst c15
   have H1 : (if a0_1 = true then ((spec_l2Begins.f a0_4 a0_2).bind fun t110 => (some t110)) else ((spec_l2Ends.f a0_4 a0_2).bind fun t111 => (some t111))) = some r := b22_
   replace H := H1; clear H1
   by_cases c16 : a0_1 = true
   ·subst c16
    have H1 : ((spec_l2Begins.f a0_4 a0_2).bind fun t110 => (some t110)) = some r := b47_
    replace H := H1; clear H1
    replace H := bs H; obtain ⟨t110, A170, H⟩ := H; replace H : (some t110) = some r := H; have A17 := Aside0.mk A170; clear A170; obtain rfl := Option.some.inj H; have hcz18_0 := bc BK105.out 0; have hcz18_1 := bc BK105.out 1; have hcz18_2 := bc BK105.out 2; have hcz18_3 := bc BK105.out 3; have hcz18_4 := bc BK105.out 4; have hfz18_0 := bf BK105.out 0; have hfz18_1 := bf BK105.out 1; have hfz18_2 := bf BK105.out 2; have hfz18_3 := bf BK105.out 3; have hfz18_4 := bf BK105.out 4
    go_wp2_with (first | ((with_reducible refine gate_callee (f := 72) rfl ?_); refine goesL_ (some 31) rfl rfl Tryd.func72 (by kernel_rfl) rfl #[.string a0_4, .string a0_2] rfl mq ?_; (with_reducible refine (spec_l2Begins.calls a0_4 a0_2 t110 _ A17.out).mono ?_); rintro e w' ⟨rfl, ⟨nd, rfl⟩⟩; refine ⟨_, rfl, ?_⟩))
    go_ret
    exact ⟨eq_, bel1 GE105.out⟩
   replace c16 := Bool.eq_false_iff.mpr c16; subst c16
   have H1 : ((spec_l2Ends.f a0_4 a0_2).bind fun t111 => (some t111)) = some r := b22_
   replace H := H1; clear H1
   replace H := bs H; obtain ⟨t111, A190, H⟩ := H; replace H : (some t111) = some r := H; have A19 := Aside0.mk A190; clear A190; obtain rfl := Option.some.inj H; have hcz20_0 := bc BK105.out 0; have hcz20_1 := bc BK105.out 1; have hcz20_2 := bc BK105.out 2; have hcz20_3 := bc BK105.out 3; have hcz20_4 := bc BK105.out 4; have hfz20_0 := bf BK105.out 0; have hfz20_1 := bf BK105.out 1; have hfz20_2 := bf BK105.out 2; have hfz20_3 := bf BK105.out 3; have hfz20_4 := bf BK105.out 4
   go_wp2_with (first | ((with_reducible refine gate_callee (f := 73) rfl ?_); refine goesL_ (some 36) rfl rfl Tryd.func73 (by kernel_rfl) rfl #[.string a0_4, .string a0_2] rfl mq ?_; (with_reducible refine (spec_l2Ends.calls a0_4 a0_2 t111 _ A19.out).mono ?_); rintro e w' ⟨rfl, ⟨nd, rfl⟩⟩; refine ⟨_, rfl, ?_⟩))
   go_ret
   exact ⟨eq_, bel1 GE105.out⟩
-- shrunk

attribute [local go_sem high] eqA40
/-! ### spec_l2Affixes: function 36 -/
mutual
def spec_l2Affixes.l0 : Nat → List (S40) → Int → Option (Bool)
 | 0, _, _ => none
 | k + 1, x0, x3 => if x3 < (x0.length : Int) then (if 0 ≤ x3 then ((spec_AffixOk.f k ((rd_T40 x0 x3).f0) ((rd_T40 x0 x3).f1) ((rd_T40 x0 x3).f2) ((rd_T40 x0 x3).f3) ((rd_T40 x0 x3).f4)).bind fun t113 => (if t113 = true then (spec_l2Affixes.l1 k x0 x3 0) else (some false))) else (none)) else (some (decide ((x0.length : Int) ≤ 8)))
def spec_l2Affixes.l1 : Nat → List (S40) → Int → Int → Option (Bool)
 | 0, _, _, _ => none
 | k + 1, x0, x3, x4 => if x4 < x3 then (if 0 ≤ x4 then (if x4 < (x0.length : Int) then (if 0 ≤ x3 then (if x3 < (x0.length : Int) then (if ((((rd_T40 x0 x4).f0).toList) == (((rd_T40 x0 x3).f0).toList) && (((rd_T40 x0 x4).f1) == ((rd_T40 x0 x3).f1) && ((((rd_T40 x0 x4).f2).toList) == (((rd_T40 x0 x3).f2).toList) && ((((rd_T40 x0 x4).f3).toList) == (((rd_T40 x0 x3).f3).toList) && ((((rd_T40 x0 x4).f4).toList) == (((rd_T40 x0 x3).f4).toList)))))) = true then (some false) else (spec_l2Affixes.l1 k x0 x3 (wrap64 (x4 + 1)))) else (none)) else (none)) else (none)) else (none)) else (spec_l2Affixes.l0 k x0 (wrap64 (x3 + 1)))
end
def spec_l2Affixes.f (k : Nat) (l0 : List (S40)) : Option (Bool) := spec_l2Affixes.l0 k l0 0
theorem spec_l2Affixes.calls (k : Nat) (A0 : Option Addr) (c0 : Nat) (l0 : List (S40)) (r : Bool) (w : World) (hr0 : Kd.C k40 w A0 l0.length l0) (hc0 : l0.length ≤ c0) (h : spec_l2Affixes.f k l0 = some r) :
  Calls Tryd.prog 36 #[.slice A0 l0.length c0] w fun e w' => e = .returned (.bool r) ∧ Below w.heap.size w w' := by
 have hu40 := Tryd.underlying40; have HR0 := am hr0; have HC0 := am hc0; clear hr0 hc0; have HB := am (Below.refl w.heap.size w)
 have H : (spec_l2Affixes.l0 k l0 0) = some r := h
 clear h
 have H' := am H
 clear H; go_enter Tryd.func36, Tryd.ntmps36; go_wp2
 repeat (go_quiet (fail); try go_wp2)
 go_loopg [3] k (fun kq v3 w' => ∃ (x3_1 : Int), v3 = .int .i64 x3_1 ∧ Aside0 (spec_l2Affixes.l0 kq l0 x3_1 = some r) ∧ Aside0 (kq ≤ k) ∧ Aside0 (Below w.heap.size w w'))
 case atStart => exact ⟨(0), sq, H', ⟨Nat.le_refl _⟩, ⟨bel⟩⟩
 case round =>
  clear H'; obtain ⟨x3_1, rfl, HA, HK1, HB⟩ := hrel
  cases gk with
  | zero => exact absurd HA.out (by simp [spec_l2Affixes.l0])
  | succ k1 =>
   have H := HA.out; clear HA
   simp only [spec_l2Affixes.l0] at H
   by_cases c2 : x3_1 < (l0.length : Int)
   ·rw [if_pos c2] at H; have c2b0 := decide_eq_true c2; clear c2
    replace H := it H; obtain ⟨c3b0, H⟩ := H; replace H := bs H; obtain ⟨t113, A40, H⟩ := H; replace H : (if t113 = true then (spec_l2Affixes.l1 k1 l0 x3_1 0) else (some false)) = some r := H; have A4 := Aside0.mk A40; clear A40
    by_cases c5 : t113 = true
    ·subst c5
     have H1 : (spec_l2Affixes.l1 k1 l0 x3_1 0) = some r := b47_
     replace H := H1; clear H1
     have H' := am H
     clear H
     have p112 : 0 ≤ (x3_1 : Int) := of_decide_eq_true ad
     have q112 : x3_1 < (l0.length : Int) := of_decide_eq_true ad
     obtain ⟨ad112, e112, hx112_0, hx112_1, hx112_2, hx112_3, hx112_4⟩ := at_T40 HR0.out x3_1 p112 q112
     cases e112
     replace hx112_0 := kp HB.out hx112_0; replace hx112_1 := kp HB.out hx112_1; replace hx112_2 := kp HB.out hx112_2; replace hx112_3 := kp HB.out hx112_3; replace hx112_4 := kp HB.out hx112_4; replace p112 := eq_true p112; replace q112 := eq_true q112
     go_wp2_with (first | (go_at_call 56; (with_reducible refine (spec_AffixOk.calls k1 ((rd_T40 l0 x3_1).f0) ((rd_T40 l0 x3_1).f1) ((rd_T40 l0 x3_1).f2) ((rd_T40 l0 x3_1).f3) ((rd_T40 l0 x3_1).f4) true _ A4.out).mono ?_); rintro e w6 ⟨rfl, hb⟩; replace HB := am (below_step bel hb); (try clear hb); (try clear hb2); (try clear hk); (try clear hi)))
     repeat (go_quiet (first | (go_at_call 56; (with_reducible refine (spec_AffixOk.calls k1 ((rd_T40 l0 x3_1).f0) ((rd_T40 l0 x3_1).f1) ((rd_T40 l0 x3_1).f2) ((rd_T40 l0 x3_1).f3) ((rd_T40 l0 x3_1).f4) true _ A4.out).mono ?_); rintro e w6 ⟨rfl, hb⟩; replace HB := am (below_step bel hb); (try clear hb); (try clear hb2); (try clear hk); (try clear hi))); try go_wp2_with (first | (go_at_call 56; (with_reducible refine (spec_AffixOk.calls k1 ((rd_T40 l0 x3_1).f0) ((rd_T40 l0 x3_1).f1) ((rd_T40 l0 x3_1).f2) ((rd_T40 l0 x3_1).f3) ((rd_T40 l0 x3_1).f4) true _ A4.out).mono ?_); rintro e w6 ⟨rfl, hb⟩; replace HB := am (below_step bel hb); (try clear hb); (try clear hb2); (try clear hk); (try clear hi))))
     go_loopg [4] k1 (fun kq v4 w' => ∃ (x4_2 : Int), v4 = .int .i64 x4_2 ∧ Aside0 (spec_l2Affixes.l1 kq l0 x3_1 x4_2 = some r) ∧ Aside0 (kq ≤ k1) ∧ Aside0 (Below w.heap.size w w'))
     case atStart => exact ⟨(0), sq, H', ⟨Nat.le_refl _⟩, ⟨bel⟩⟩
     case round =>
      clear H'; (try clear p1); (try clear q1); (try clear hx1); (try clear c2); (try clear c2b0); (try clear p2); (try clear c3); (try clear c3b0); (try clear c5); (try clear hx112_0); (try clear hx112_1); (try clear hx112_2); (try clear hx112_3); (try clear hx112_4); (try clear p112); (try clear q112); obtain ⟨x4_2, rfl, HA, HK2, HB⟩ := hrel
      cases gk with
      | zero => exact absurd HA.out (by simp [spec_l2Affixes.l1])
      | succ k2 =>
       have H := HA.out; clear HA
       simp only [spec_l2Affixes.l1] at H
       by_cases c7 : x4_2 < x3_1
       ·rw [if_pos c7] at H; have c7b0 := decide_eq_true c7; clear c7
        replace H := it H; obtain ⟨c8b0, H⟩ := H
        replace H := it H; obtain ⟨c9b0, H⟩ := H
        replace H := it H; obtain ⟨c10b0, H⟩ := H
        replace H := it H; obtain ⟨c11b0, H⟩ := H
        by_cases c12 : ((((rd_T40 l0 x4_2).f0).toList) == (((rd_T40 l0 x3_1).f0).toList) && (((rd_T40 l0 x4_2).f1) == ((rd_T40 l0 x3_1).f1) && ((((rd_T40 l0 x4_2).f2).toList) == (((rd_T40 l0 x3_1).f2).toList) && ((((rd_T40 l0 x4_2).f3).toList) == (((rd_T40 l0 x3_1).f3).toList) && ((((rd_T40 l0 x4_2).f4).toList) == (((rd_T40 l0 x3_1).f4).toList)))))) = true
        ·rw [if_pos c12] at H
         have c12b0 : ((((rd_T40 l0 x4_2).f0).toList) == (((rd_T40 l0 x3_1).f0).toList) && (((rd_T40 l0 x4_2).f1) == ((rd_T40 l0 x3_1).f1) && ((((rd_T40 l0 x4_2).f2).toList) == (((rd_T40 l0 x3_1).f2).toList) && ((((rd_T40 l0 x4_2).f3).toList) == (((rd_T40 l0 x3_1).f3).toList) && ((((rd_T40 l0 x4_2).f4).toList) == (((rd_T40 l0 x3_1).f4).toList)))))) = true := c12
         (try (have c12b1 : decide ((((rd_T40 l0 x4_2).f0).toList) = (((rd_T40 l0 x3_1).f0).toList) && (((rd_T40 l0 x4_2).f1) == ((rd_T40 l0 x3_1).f1) && ((((rd_T40 l0 x4_2).f2).toList) == (((rd_T40 l0 x3_1).f2).toList) && ((((rd_T40 l0 x4_2).f3).toList) == (((rd_T40 l0 x3_1).f3).toList) && ((((rd_T40 l0 x4_2).f4).toList) == (((rd_T40 l0 x3_1).f4).toList)))))) = true := by simpa using c12))
         (try (have c12b2 : ((((rd_T40 l0 x4_2).f0).toList) == (((rd_T40 l0 x3_1).f0).toList) && (((rd_T40 l0 x4_2).f1) == ((rd_T40 l0 x3_1).f1) && ((((rd_T40 l0 x4_2).f2).toList) == (((rd_T40 l0 x3_1).f2).toList) && ((((rd_T40 l0 x4_2).f3).toList) == (((rd_T40 l0 x3_1).f3).toList) && ((((rd_T40 l0 x4_2).f4).toList) == (((rd_T40 l0 x3_1).f4).toList)))))) = true := by simpa using c12))
         clear c12; obtain rfl := Option.some.inj H
         have p114 : 0 ≤ (x4_2 : Int) := of_decide_eq_true ad
         have q114 : x4_2 < (l0.length : Int) := of_decide_eq_true ad
         obtain ⟨ad114, e114, hx114_0, hx114_1, hx114_2, hx114_3, hx114_4⟩ := at_T40 HR0.out x4_2 p114 q114
         obtain rfl : ad112 = ad114 := (by injection e114)
         replace hx114_0 := kp HB.out hx114_0; replace hx114_1 := kp HB.out hx114_1; replace hx114_2 := kp HB.out hx114_2; replace hx114_3 := kp HB.out hx114_3; replace hx114_4 := kp HB.out hx114_4; replace p114 := eq_true p114; replace q114 := eq_true q114
         have p115 : 0 ≤ (x3_1 : Int) := of_decide_eq_true ad
         have q115 : x3_1 < (l0.length : Int) := of_decide_eq_true ad
         obtain ⟨ad115, e115, hx115_0, hx115_1, hx115_2, hx115_3, hx115_4⟩ := at_T40 HR0.out x3_1 p115 q115
         obtain rfl : ad112 = ad115 := (by injection e115)
         replace hx115_0 := kp HB.out hx115_0; replace hx115_1 := kp HB.out hx115_1; replace hx115_2 := kp HB.out hx115_2; replace hx115_3 := kp HB.out hx115_3; replace hx115_4 := kp HB.out hx115_4; replace p115 := eq_true p115; replace q115 := eq_true q115; go_wp2
         repeat (go_quiet (fail); try go_wp2)
         go_ret
         exact ⟨eq_, bel⟩
        rw [if_neg c12] at H
        have c12b0 : ((((rd_T40 l0 x4_2).f0).toList) == (((rd_T40 l0 x3_1).f0).toList) && (((rd_T40 l0 x4_2).f1) == ((rd_T40 l0 x3_1).f1) && ((((rd_T40 l0 x4_2).f2).toList) == (((rd_T40 l0 x3_1).f2).toList) && ((((rd_T40 l0 x4_2).f3).toList) == (((rd_T40 l0 x3_1).f3).toList) && ((((rd_T40 l0 x4_2).f4).toList) == (((rd_T40 l0 x3_1).f4).toList)))))) = false := by simpa using c12
        (try (have c12b1 : decide ((((rd_T40 l0 x4_2).f0).toList) = (((rd_T40 l0 x3_1).f0).toList) && (((rd_T40 l0 x4_2).f1) == ((rd_T40 l0 x3_1).f1) && ((((rd_T40 l0 x4_2).f2).toList) == (((rd_T40 l0 x3_1).f2).toList) && ((((rd_T40 l0 x4_2).f3).toList) == (((rd_T40 l0 x3_1).f3).toList) && ((((rd_T40 l0 x4_2).f4).toList) == (((rd_T40 l0 x3_1).f4).toList)))))) = false := by simpa using c12))
        (try (have c12b2 : ((((rd_T40 l0 x4_2).f0).toList) == (((rd_T40 l0 x3_1).f0).toList) && (((rd_T40 l0 x4_2).f1) == ((rd_T40 l0 x3_1).f1) && ((((rd_T40 l0 x4_2).f2).toList) == (((rd_T40 l0 x3_1).f2).toList) && ((((rd_T40 l0 x4_2).f3).toList) == (((rd_T40 l0 x3_1).f3).toList) && ((((rd_T40 l0 x4_2).f4).toList) == (((rd_T40 l0 x3_1).f4).toList)))))) = false := by simpa using c12))
        (try (have c12b3 : ¬ ((((rd_T40 l0 x4_2).f0).toList) = (((rd_T40 l0 x3_1).f0).toList) && (((rd_T40 l0 x4_2).f1) == ((rd_T40 l0 x3_1).f1) && ((((rd_T40 l0 x4_2).f2).toList) == (((rd_T40 l0 x3_1).f2).toList) && ((((rd_T40 l0 x4_2).f3).toList) == (((rd_T40 l0 x3_1).f3).toList) && ((((rd_T40 l0 x4_2).f4).toList) == (((rd_T40 l0 x3_1).f4).toList)))))) := by simpa using c12))
        clear c12
        have H' := am H
        clear H
        have p114 : 0 ≤ (x4_2 : Int) := of_decide_eq_true ad
        have q114 : x4_2 < (l0.length : Int) := of_decide_eq_true ad
        obtain ⟨ad114, e114, hx114_0, hx114_1, hx114_2, hx114_3, hx114_4⟩ := at_T40 HR0.out x4_2 p114 q114
        obtain rfl : ad112 = ad114 := (by injection e114)
        replace hx114_0 := kp HB.out hx114_0; replace hx114_1 := kp HB.out hx114_1; replace hx114_2 := kp HB.out hx114_2; replace hx114_3 := kp HB.out hx114_3; replace hx114_4 := kp HB.out hx114_4; replace p114 := eq_true p114; replace q114 := eq_true q114
        have p115 : 0 ≤ (x3_1 : Int) := of_decide_eq_true ad
        have q115 : x3_1 < (l0.length : Int) := of_decide_eq_true ad
        obtain ⟨ad115, e115, hx115_0, hx115_1, hx115_2, hx115_3, hx115_4⟩ := at_T40 HR0.out x3_1 p115 q115
        obtain rfl : ad112 = ad115 := (by injection e115)
        replace hx115_0 := kp HB.out hx115_0; replace hx115_1 := kp HB.out hx115_1; replace hx115_2 := kp HB.out hx115_2; replace hx115_3 := kp HB.out hx115_3; replace hx115_4 := kp HB.out hx115_4; replace p115 := eq_true p115; replace q115 := eq_true q115; go_wp2
        repeat (go_quiet (fail); try go_wp2)
        go_roundg k2
        case measure => have := HK1.out; have := HK2.out; omega
        case rel => exact ⟨(wrap64 (x4_2 + 1)), sq, H', ⟨b85_⟩, ⟨bel⟩⟩
       rw [if_neg c7] at H; have c7b0 := decide_eq_false c7; clear c7
       have H' := am H
       clear H; go_wp2
       repeat (go_quiet (fail); try go_wp2)
       go_roundg k2
       case measure => have := HK1.out; have := HK2.out; omega
       case rel => exact ⟨(wrap64 (x3_1 + 1)), sq, H', ⟨b85_⟩, ⟨bel⟩⟩
    replace c5 := Bool.eq_false_iff.mpr c5; subst c5
    have H1 : (some false) = some r := b22_
    replace H := H1; clear H1
    obtain rfl := Option.some.inj H
    have p112 : 0 ≤ (x3_1 : Int) := of_decide_eq_true ad
    have q112 : x3_1 < (l0.length : Int) := of_decide_eq_true ad
    obtain ⟨ad112, e112, hx112_0, hx112_1, hx112_2, hx112_3, hx112_4⟩ := at_T40 HR0.out x3_1 p112 q112
    cases e112
    replace hx112_0 := kp HB.out hx112_0; replace hx112_1 := kp HB.out hx112_1; replace hx112_2 := kp HB.out hx112_2; replace hx112_3 := kp HB.out hx112_3; replace hx112_4 := kp HB.out hx112_4; replace p112 := eq_true p112; replace q112 := eq_true q112
    go_wp2_with (first | (go_at_call 56; (with_reducible refine (spec_AffixOk.calls k1 ((rd_T40 l0 x3_1).f0) ((rd_T40 l0 x3_1).f1) ((rd_T40 l0 x3_1).f2) ((rd_T40 l0 x3_1).f3) ((rd_T40 l0 x3_1).f4) false _ A4.out).mono ?_); rintro e w13 ⟨rfl, hb⟩; replace HB := am (below_step bel hb); (try clear hb); (try clear hb2); (try clear hk); (try clear hi)))
    repeat (go_quiet (first | (go_at_call 56; (with_reducible refine (spec_AffixOk.calls k1 ((rd_T40 l0 x3_1).f0) ((rd_T40 l0 x3_1).f1) ((rd_T40 l0 x3_1).f2) ((rd_T40 l0 x3_1).f3) ((rd_T40 l0 x3_1).f4) false _ A4.out).mono ?_); rintro e w13 ⟨rfl, hb⟩; replace HB := am (below_step bel hb); (try clear hb); (try clear hb2); (try clear hk); (try clear hi))); try go_wp2_with (first | (go_at_call 56; (with_reducible refine (spec_AffixOk.calls k1 ((rd_T40 l0 x3_1).f0) ((rd_T40 l0 x3_1).f1) ((rd_T40 l0 x3_1).f2) ((rd_T40 l0 x3_1).f3) ((rd_T40 l0 x3_1).f4) false _ A4.out).mono ?_); rintro e w13 ⟨rfl, hb⟩; replace HB := am (below_step bel hb); (try clear hb); (try clear hb2); (try clear hk); (try clear hi))))
    go_ret
    exact ⟨eq_, bel⟩
   rw [if_neg c2] at H; have c2b0 := decide_eq_false c2; clear c2; obtain rfl := Option.some.inj H; go_wp2
   repeat (go_quiet (fail); try go_wp2)
   go_ret
   exact ⟨eq_, bel⟩
-- shrunk

/-! ### spec_BookOk: function 13 -/
def spec_BookOk.l0 : Nat → Int → List (S40) → List (S43) → Option (Bool)
 | 0, _, _, _ => none
 | k + 1, x3, x117000, x117001 => if x3 < (x117001.length : Int) then (if 0 ≤ x3 then ((spec_l2Entry.f k ((rd_T43 x117001 x3).f0) ((rd_T43 x117001 x3).f1)).bind fun t118 => (if t118 = true then (if x3 > 0 then (if 0 ≤ (wrap64 (x3 - 1)) then (if (wrap64 (x3 - 1)) < (x117001.length : Int) then (if ((Op.bytesLess (((rd_T43 x117001 (wrap64 (x3 - 1))).f0).toList) (((rd_T43 x117001 x3).f0).toList)) = true) then (spec_BookOk.l0 k (wrap64 (x3 + 1)) x117000 x117001) else (some false)) else (none)) else (none)) else (spec_BookOk.l0 k (wrap64 (x3 + 1)) x117000 x117001)) else (some false))) else (none)) else ((spec_l2Affixes.f k x117000).bind fun t121 => (if t121 = true then (some (decide ((x117001.length : Int) ≤ 24))) else (some false)))
def spec_BookOk.f (k : Nat) (l0_0 : List (S40)) (l0_1 : List (S43)) : Option (Bool) := spec_BookOk.l0 k 0 l0_0 l0_1
def spec_BookOk.T4 : Bool × List (List Nat × List Nat) := (true, [([], []), ([0], [0]), ([], []), ([1, 2], [1, 2]), ([3], [3]), ([4], [4]), ([5], [5]), ([6, 5], [6]), ([7], [7]), ([8, 7], [7, 8]), ([9, 7, 7], [7, 9]), ([10], [10]), ([11, 10], [10, 11]), ([10], [10]), ([13, 10], [10, 13]), ([12, 14, 10], [10, 12, 14]), ([15, 10], [10, 15]), ([16, 10], [10, 16]), ([10], [10]), ([18, 10], [10, 18]), ([10], [10]), ([19, 20, 10], [10, 19, 20]), ([21, 10], [10, 21]), ([22, 10], [10, 22]), ([17, 23, 10], [10, 17, 23]), ([10, 24, 7], [7, 10, 24]), ([7, 25], [7, 25])])
def spec_BookOk.B4 : List Nat := [0, 1, 0, 7, 15, 31, 63, 127, 255, 511, 1023, 2047, 4095, 2047, 10239, 32767, 65535, 131071, 2047, 264191, 2047, 1837055, 3934207, 8128511, 16777215, 33554431, 67108863]
theorem spec_BookOk.tab4 : rtab .any (opsOf Tryd.f13 4) = spec_BookOk.T4 := by kernel_rfl
theorem spec_BookOk.bits4 : waitsOk spec_BookOk.T4.2 spec_BookOk.B4 = true := by kernel_rfl
theorem spec_BookOk.calls (k : Nat) (A0_0 : Option Addr) (c0_0 : Nat) (l0_0 : List (S40)) (A0_1 : Option Addr) (c0_1 : Nat) (l0_1 : List (S43)) (r : Bool) (w : World) (hr0_0 : Kd.C k40 w A0_0 l0_0.length l0_0) (hc0_0 : l0_0.length ≤ c0_0) (hr0_1 : Kd.C k43 w A0_1 l0_1.length l0_1) (hc0_1 : l0_1.length ≤ c0_1) (h : spec_BookOk.f k l0_0 l0_1 = some r) :
  Calls Tryd.prog 13 #[.agg #[.slice A0_0 l0_0.length c0_0, .slice A0_1 l0_1.length c0_1]] w fun e w' => e = .returned (.bool r) ∧ Below w.heap.size w w' := by
 have hu25 := Tryd.underlying25; have hu43 := Tryd.underlying43; have HR0_0 := am hr0_0; have HC0_0 := am hc0_0; clear hr0_0 hc0_0; have HR0_1 := am hr0_1; have HC0_1 := am hc0_1; clear hr0_1 hc0_1; have HB := am (Below.refl w.heap.size w)
 have H : (spec_BookOk.l0 k 0 l0_0 l0_1) = some r := h
 clear h
 have H' := am H
 clear H; go_enter Tryd.func13, Tryd.ntmps13
 go_wp2_with (first | ((with_reducible refine gate_dst (N := 1) rfl ?_); (try (refine gate_guard (by rfl) ?_; dsimp only)); refine bx 1 (cs := #[.slice A0_0 l0_0.length c0_0, .slice A0_1 l0_1.length c0_1]) (t := 25) ?_; intro gb116 hg w2 hbox hb; have BK116 := am (hbox); have GW116 := am ((b19_ : w.heap.size ≤ gb116)); have GE116 := am ((b19_ : w.heap.size ≤ gb116)); replace HB := am (below_step bel hb); clear hb hbox hg))
 go_loopg [3] k (fun kq v3 w' => ∃ (x3_1 : Int), v3 = .int .i64 x3_1 ∧ Aside0 (spec_BookOk.l0 kq x3_1 l0_0 l0_1 = some r) ∧ Aside0 (kq ≤ k) ∧ Aside0 (w'.heap[gb116]? = some (.cells #[(.slice A0_0 l0_0.length c0_0), (.slice A0_1 l0_1.length c0_1)] 25 (0, 0))) ∧ Aside0 (Below w.heap.size w w'))
 case atStart => exact ⟨(0), sq, H', ⟨Nat.le_refl _⟩, ⟨bq BK116.out⟩, ⟨bel1 GE116.out⟩⟩
 case round =>
  clear H'; (try clear c1); (try clear p2); obtain ⟨x3_1, rfl, HA, HK1, BK116, HB⟩ := hrel
  cases gk with
  | zero => exact absurd HA.out (by simp [spec_BookOk.l0])
  | succ k1 =>
   have H := HA.out; clear HA
   simp only [spec_BookOk.l0] at H
   by_cases c3 : x3_1 < (l0_1.length : Int)
   ·rw [if_pos c3] at H; have c3b0 := decide_eq_true c3; clear c3
    replace H := it H; obtain ⟨c4b0, H⟩ := H; replace H := bs H; obtain ⟨t118, A50, H⟩ := H; replace H : (if t118 = true then (if x3_1 > 0 then (if 0 ≤ (wrap64 (x3_1 - 1)) then (if (wrap64 (x3_1 - 1)) < (l0_1.length : Int) then (if ((Op.bytesLess (((rd_T43 l0_1 (wrap64 (x3_1 - 1))).f0).toList) (((rd_T43 l0_1 x3_1).f0).toList)) = true) then (spec_BookOk.l0 k1 (wrap64 (x3_1 + 1)) l0_0 l0_1) else (some false)) else (none)) else (none)) else (spec_BookOk.l0 k1 (wrap64 (x3_1 + 1)) l0_0 l0_1)) else (some false)) = some r := H; have A5 := Aside0.mk A50; clear A50
    by_cases c6 : t118 = true
    ·subst c6
     have H1 : (if x3_1 > 0 then (if 0 ≤ (wrap64 (x3_1 - 1)) then (if (wrap64 (x3_1 - 1)) < (l0_1.length : Int) then (if ((Op.bytesLess (((rd_T43 l0_1 (wrap64 (x3_1 - 1))).f0).toList) (((rd_T43 l0_1 x3_1).f0).toList)) = true) then (spec_BookOk.l0 k1 (wrap64 (x3_1 + 1)) l0_0 l0_1) else (some false)) else (none)) else (none)) else (spec_BookOk.l0 k1 (wrap64 (x3_1 + 1)) l0_0 l0_1)) = some r := b47_
     replace H := H1; clear H1
     by_cases c7 : x3_1 > 0
     ·rw [if_pos c7] at H; have c7b0 := decide_eq_true c7; clear c7; obtain ⟨ji8, hji8⟩ : ∃ j_ : Int, (wrap64 (x3_1 - 1)) = j_ := ⟨_, rfl⟩
      replace H : (if 0 ≤ (ji8) then (if (ji8) < (l0_1.length : Int) then (if ((Op.bytesLess (((rd_T43 l0_1 (ji8)).f0).toList) (((rd_T43 l0_1 x3_1).f0).toList)) = true) then (spec_BookOk.l0 k1 (wrap64 (x3_1 + 1)) l0_0 l0_1) else (some false)) else (none)) else (none)) = some r := by first | (rw [hji8] at H; exact H) | (simp only [hji8] at H ⊢; exact H)
      (try rw [hji8] at A5)
      have hji8w : (IntKind.i64.wrap (x3_1 - 1)) = ji8 := (i64_w _).trans hji8
      replace H := it H; obtain ⟨c9b0, H⟩ := H
      replace H := it H; obtain ⟨c10b0, H⟩ := H
      by_cases c11 : ((Op.bytesLess (((rd_T43 l0_1 (ji8)).f0).toList) (((rd_T43 l0_1 x3_1).f0).toList)) = true)
      ·rw [if_pos c11] at H
       have c11b0 : (Op.bytesLess (((rd_T43 l0_1 (ji8)).f0).toList) (((rd_T43 l0_1 x3_1).f0).toList)) = true := c11
       clear c11
       have H' := am H
       clear H; have hcz12_0 := bc BK116.out 0; have hcz12_1 := bc BK116.out 1; have hfz12_0 := bf BK116.out 0; have hfz12_1 := bf BK116.out 1
       try go_wp2
       replace BK116 := am (blk_drew BK116.out); replace HB := am (below_drew1 HB.out)
       have p117 : 0 ≤ (x3_1 : Int) := of_decide_eq_true ad
       have q117 : x3_1 < (l0_1.length : Int) := of_decide_eq_true ad
       obtain ⟨ad117, e117, hx117_0, hx117_1⟩ := at_T43 HR0_1.out x3_1 p117 q117; have hw117_1 := hx117_1; have hw117_0 := hx117_0
       cases e117
       replace hx117_0 := kp HB.out hx117_0; replace hx117_1 := kp HB.out hx117_1; replace p117 := eq_true p117; replace q117 := eq_true q117
       have p119 : 0 ≤ ((ji8) : Int) := of_decide_eq_true ad
       have q119 : (ji8) < (l0_1.length : Int) := of_decide_eq_true ad
       obtain ⟨ad119, e119, hx119_0, hx119_1⟩ := at_T43 HR0_1.out (ji8) p119 q119; have hw119_1 := hx119_1; have hw119_0 := hx119_0
       obtain rfl : ad117 = ad119 := (by injection e119)
       replace hx119_0 := kp HB.out hx119_0; replace hx119_1 := kp HB.out hx119_1; replace p119 := eq_true p119; replace q119 := eq_true q119
       have p120 : 0 ≤ (x3_1 : Int) := of_decide_eq_true ad
       have q120 : x3_1 < (l0_1.length : Int) := of_decide_eq_true ad
       obtain ⟨ad120, e120, hx120_0, hx120_1⟩ := at_T43 HR0_1.out x3_1 p120 q120; have hw120_1 := hx120_1; have hw120_0 := hx120_0
       obtain rfl : ad117 = ad120 := (by injection e120)
       replace hx120_0 := kp HB.out hx120_0; replace hx120_1 := kp HB.out hx120_1; replace p120 := eq_true p120; replace q120 := eq_true q120
       refine st (n := 27) (S := fun w' => w'.cell? ⟨gb116, 0, none⟩ = some (.slice A0_0 l0_0.length c0_0) ∧ w'.cell? ⟨gb116, 1, none⟩ = some (.slice (some ad117) l0_1.length c0_1) ∧ w'.cell? (ad117.add ((x3_1).toNat * 2)) = some (.string ((rd_T43 l0_1 x3_1).f0)) ∧ w'.cell? ⟨(ad117.add ((x3_1).toNat * 2)).block, (ad117.add ((x3_1).toNat * 2)).off + 1, none⟩ = some (.string ((rd_T43 l0_1 x3_1).f1)) ∧ w'.cell? (ad117.add (((ji8)).toNat * 2)) = some (.string ((rd_T43 l0_1 (ji8)).f0)) ∧ w'.cell? ⟨(ad117.add (((ji8)).toNat * 2)).block, (ad117.add (((ji8)).toNat * 2)).off + 1, none⟩ = some (.string ((rd_T43 l0_1 (ji8)).f1)) ∧ w'.cell? (ad117.add ((x3_1).toNat * 2)) = some (.string ((rd_T43 l0_1 x3_1).f0)) ∧ w'.cell? ⟨(ad117.add ((x3_1).toNat * 2)).block, (ad117.add ((x3_1).toNat * 2)).off + 1, none⟩ = some (.string ((rd_T43 l0_1 x3_1).f1))) (ds := []) ⟨(blk_cell BK116.out 0).trans rfl, (blk_cell BK116.out 1).trans rfl, (kp HB.out hw117_0), (kp HB.out hw117_1), (kp HB.out hw119_0), (kp HB.out hw119_1), (kp HB.out hw120_0), (kp HB.out hw120_1)⟩ (fun hHeld => ?_); refine with_tabW spec_BookOk.tab4 spec_BookOk.bits4 (fun HT_ HW_ => ?_)
       generalize wr.drew = w13 at BK116 HB hx117_0 hx117_1 hx119_0 hx119_1 hx120_0 hx120_1 hHeld ⊢
       refine pu 0 11 ?_
       refine pu 2 13 ?_
       refine take_ (i := 1) (N := some 12) (v := ?_) (a' := ?_) #[true, true, true, false, false, false, false, false, false, false, false, false, false, false, false, false, false, false, false, false, false, false, false, false, false, false, false] rfl rfl (take_ofW HT_.out HW_.out (by kernel_rfl)) (fun _ _ _ h => h) (Or.inl ⟨by rfl, ?_⟩) hHeld ?_ ?_
       rotate_left
       ·rintro w' ⟨s0, s1, s2, s3, s4, s5, s6, s7⟩
        go_simp
        with_reducible rfl
       rotate_left
       ·simp only [Act.put, List.setIfInBounds_toArray, List.set_cons_zero, List.set_cons_succ, i64_w, i32_w]
        rfl
       refine pu 3 14 ?_
       refine take_ (i := 4) (N := some 15) (v := ?_) (a' := ?_) #[true, true, true, true, true, false, false, false, false, false, false, false, false, false, false, false, false, false, false, false, false, false, false, false, false, false, false] rfl rfl (take_ofW HT_.out HW_.out (by kernel_rfl)) (fun _ _ _ h => h) (Or.inl ⟨by rfl, ?_⟩) hHeld ?_ ?_
       rotate_left
       ·rintro w' ⟨s0, s1, s2, s3, s4, s5, s6, s7⟩
        go_simp
        with_reducible rfl
       rotate_left
       ·simp only [Act.put, List.setIfInBounds_toArray, List.set_cons_zero, List.set_cons_succ, i64_w, i32_w]
        rfl
       refine on1 5 16 (fun K hK => ?_)
       refine goes_ Tryd.func35 (by kernel_rfl) rfl #[.agg #[.string ((rd_T43 l0_1 x3_1).f0), .string ((rd_T43 l0_1 x3_1).f1)]] (by rfl) rfl rfl mq ?_
       with_reducible refine (spec_l2Entry.calls k1 ((rd_T43 l0_1 x3_1).f0) ((rd_T43 l0_1 x3_1).f1) true _ A5.out).mono ?_
       rintro e w14 ⟨rfl, hb⟩
       refine ⟨_, rfl, ?_⟩
       replace BK116 := am (blk_below (g := gb116) (o := .cells #[.slice A0_0 l0_0.length c0_0, .slice (some ad117) l0_1.length c0_1] 25 (0, 0)) (bq BK116.out) hb); replace HB := am (below_step (bel1 GE116.out) hb)
       (try clear hb)
       (try clear hb2)
       (try clear hk)
       (try clear hi)
       refine hK.out _ _ ⟨(blk_cell BK116.out 0).trans rfl, (blk_cell BK116.out 1).trans rfl, (kp HB.out hw117_0), (kp HB.out hw117_1), (kp HB.out hw119_0), (kp HB.out hw119_1), (kp HB.out hw120_0), (kp HB.out hw120_1)⟩ (fun hHeld => ?_)
       clear hK K
       refine norm_ (a' := ?_) ?_ ?_
       rotate_left
       ·show Act.put _ (some 16) _ = _
        simp only [Act.put, List.setIfInBounds_toArray, List.set_cons_zero, List.set_cons_succ, i64_w, i32_w]
        rfl
       refine pu 6 17 ?_
       refine pu 7 18 ?_
       refine pu 8 19 ?_
       refine pu 9 20 ?_
       refine pu 10 21 ?_
       refine pu 11 22 ?_
       refine pu 13 24 ?_
       refine pu 14 25 ?_
       refine pu 18 29 ?_
       refine pu 20 31 ?_
       refine take_ (i := 12) (N := some 23) (v := ?_) (a' := ?_) #[true, true, true, true, true, true, true, true, true, true, true, true, true, true, true, false, false, false, true, false, true, false, false, false, false, false, false] rfl rfl (take_ofW HT_.out HW_.out (by kernel_rfl)) (fun _ _ _ h => h) (Or.inl ⟨by rfl, ?_⟩) hHeld ?_ ?_
       rotate_left
       ·rintro w' ⟨s0, s1, s2, s3, s4, s5, s6, s7⟩
        go_simp
        with_reducible rfl
       rotate_left
       ·simp only [Act.put, List.setIfInBounds_toArray, List.set_cons_zero, List.set_cons_succ, i64_w, i32_w]
        rfl
       refine pu 15 26 ?_
       refine pu 16 27 ?_
       refine take_ (i := 17) (N := some 28) (v := ?_) (a' := ?_) #[true, true, true, true, true, true, true, true, true, true, true, true, true, true, true, true, true, true, true, false, true, false, false, false, false, false, false] rfl rfl (take_ofW HT_.out HW_.out (by kernel_rfl)) (fun _ _ _ h => h) (Or.inl ⟨by rfl, ?_⟩) hHeld ?_ ?_
       rotate_left
       ·rintro w' ⟨s0, s1, s2, s3, s4, s5, s6, s7⟩
        go_simp
        with_reducible rfl
       rotate_left
       ·simp only [Act.put, List.setIfInBounds_toArray, List.set_cons_zero, List.set_cons_succ, i64_w, i32_w]
        rfl
       refine take_ (i := 19) (N := some 30) (v := ?_) (a' := ?_) #[true, true, true, true, true, true, true, true, true, true, true, true, true, true, true, true, true, true, true, true, true, false, false, false, false, false, false] rfl rfl (take_ofW HT_.out HW_.out (by kernel_rfl)) (fun _ _ _ h => h) (Or.inl ⟨by rfl, ?_⟩) hHeld ?_ ?_
       rotate_left
       ·rintro w' ⟨s0, s1, s2, s3, s4, s5, s6, s7⟩
        go_simp
        with_reducible rfl
       rotate_left
       ·simp only [Act.put, List.setIfInBounds_toArray, List.set_cons_zero, List.set_cons_succ, i64_w, i32_w]
        rfl
       refine pu 21 32 ?_
       refine pu 22 33 ?_
       refine take_ (i := 23) (N := some 34) (v := ?_) (a' := ?_) #[true, true, true, true, true, true, true, true, true, true, true, true, true, true, true, true, true, true, true, true, true, true, true, true, false, false, false] rfl rfl (take_ofW HT_.out HW_.out (by kernel_rfl)) (fun _ _ _ h => h) (Or.inl ⟨by rfl, ?_⟩) hHeld ?_ ?_
       rotate_left
       ·rintro w' ⟨s0, s1, s2, s3, s4, s5, s6, s7⟩
        go_simp
        with_reducible rfl
       rotate_left
       ·simp only [Act.put, List.setIfInBounds_toArray, List.set_cons_zero, List.set_cons_succ, i64_w, i32_w]
        rfl
       refine pu 24 35 ?_
       refine pu 25 36 ?_
       refine pu 26 37 ?_
       refine done_ (done_of HT_.out (by kernel_rfl)) ?_
       try go_wp2
       go_roundg k1
       case measure => have := HK1.out; omega
       case rel => exact ⟨(wrap64 (x3_1 + 1)), sq, H', ⟨b74_⟩, ⟨bq BK116.out⟩, ⟨bel1 GE116.out⟩⟩
      rw [if_neg c11] at H
      have c11b0 : (Op.bytesLess (((rd_T43 l0_1 (ji8)).f0).toList) (((rd_T43 l0_1 x3_1).f0).toList)) = false := by simpa using c11
      clear c11; obtain rfl := Option.some.inj H; have hcz15_0 := bc BK116.out 0; have hcz15_1 := bc BK116.out 1; have hfz15_0 := bf BK116.out 0; have hfz15_1 := bf BK116.out 1
      try go_wp2
      replace BK116 := am (blk_drew BK116.out); replace HB := am (below_drew1 HB.out)
      have p117 : 0 ≤ (x3_1 : Int) := of_decide_eq_true ad
      have q117 : x3_1 < (l0_1.length : Int) := of_decide_eq_true ad
      obtain ⟨ad117, e117, hx117_0, hx117_1⟩ := at_T43 HR0_1.out x3_1 p117 q117; have hw117_1 := hx117_1; have hw117_0 := hx117_0
      cases e117
      replace hx117_0 := kp HB.out hx117_0; replace hx117_1 := kp HB.out hx117_1; replace p117 := eq_true p117; replace q117 := eq_true q117
      have p119 : 0 ≤ ((ji8) : Int) := of_decide_eq_true ad
      have q119 : (ji8) < (l0_1.length : Int) := of_decide_eq_true ad
      obtain ⟨ad119, e119, hx119_0, hx119_1⟩ := at_T43 HR0_1.out (ji8) p119 q119; have hw119_1 := hx119_1; have hw119_0 := hx119_0
      obtain rfl : ad117 = ad119 := (by injection e119)
      replace hx119_0 := kp HB.out hx119_0; replace hx119_1 := kp HB.out hx119_1; replace p119 := eq_true p119; replace q119 := eq_true q119
      have p120 : 0 ≤ (x3_1 : Int) := of_decide_eq_true ad
      have q120 : x3_1 < (l0_1.length : Int) := of_decide_eq_true ad
      obtain ⟨ad120, e120, hx120_0, hx120_1⟩ := at_T43 HR0_1.out x3_1 p120 q120; have hw120_1 := hx120_1; have hw120_0 := hx120_0
      obtain rfl : ad117 = ad120 := (by injection e120)
      replace hx120_0 := kp HB.out hx120_0; replace hx120_1 := kp HB.out hx120_1; replace p120 := eq_true p120; replace q120 := eq_true q120
      refine st (n := 27) (S := fun w' => w'.cell? ⟨gb116, 0, none⟩ = some (.slice A0_0 l0_0.length c0_0) ∧ w'.cell? ⟨gb116, 1, none⟩ = some (.slice (some ad117) l0_1.length c0_1) ∧ w'.cell? (ad117.add ((x3_1).toNat * 2)) = some (.string ((rd_T43 l0_1 x3_1).f0)) ∧ w'.cell? ⟨(ad117.add ((x3_1).toNat * 2)).block, (ad117.add ((x3_1).toNat * 2)).off + 1, none⟩ = some (.string ((rd_T43 l0_1 x3_1).f1)) ∧ w'.cell? (ad117.add (((ji8)).toNat * 2)) = some (.string ((rd_T43 l0_1 (ji8)).f0)) ∧ w'.cell? ⟨(ad117.add (((ji8)).toNat * 2)).block, (ad117.add (((ji8)).toNat * 2)).off + 1, none⟩ = some (.string ((rd_T43 l0_1 (ji8)).f1)) ∧ w'.cell? (ad117.add ((x3_1).toNat * 2)) = some (.string ((rd_T43 l0_1 x3_1).f0)) ∧ w'.cell? ⟨(ad117.add ((x3_1).toNat * 2)).block, (ad117.add ((x3_1).toNat * 2)).off + 1, none⟩ = some (.string ((rd_T43 l0_1 x3_1).f1))) (ds := []) ⟨(blk_cell BK116.out 0).trans rfl, (blk_cell BK116.out 1).trans rfl, (kp HB.out hw117_0), (kp HB.out hw117_1), (kp HB.out hw119_0), (kp HB.out hw119_1), (kp HB.out hw120_0), (kp HB.out hw120_1)⟩ (fun hHeld => ?_); refine with_tabW spec_BookOk.tab4 spec_BookOk.bits4 (fun HT_ HW_ => ?_)
      generalize wr.drew = w16 at BK116 HB hx117_0 hx117_1 hx119_0 hx119_1 hx120_0 hx120_1 hHeld ⊢
      refine pu 0 11 ?_
      refine pu 2 13 ?_
      refine take_ (i := 1) (N := some 12) (v := ?_) (a' := ?_) #[true, true, true, false, false, false, false, false, false, false, false, false, false, false, false, false, false, false, false, false, false, false, false, false, false, false, false] rfl rfl (take_ofW HT_.out HW_.out (by kernel_rfl)) (fun _ _ _ h => h) (Or.inl ⟨by rfl, ?_⟩) hHeld ?_ ?_
      rotate_left
      ·rintro w' ⟨s0, s1, s2, s3, s4, s5, s6, s7⟩
       go_simp
       with_reducible rfl
      rotate_left
      ·simp only [Act.put, List.setIfInBounds_toArray, List.set_cons_zero, List.set_cons_succ, i64_w, i32_w]
       rfl
      refine pu 3 14 ?_
      refine take_ (i := 4) (N := some 15) (v := ?_) (a' := ?_) #[true, true, true, true, true, false, false, false, false, false, false, false, false, false, false, false, false, false, false, false, false, false, false, false, false, false, false] rfl rfl (take_ofW HT_.out HW_.out (by kernel_rfl)) (fun _ _ _ h => h) (Or.inl ⟨by rfl, ?_⟩) hHeld ?_ ?_
      rotate_left
      ·rintro w' ⟨s0, s1, s2, s3, s4, s5, s6, s7⟩
       go_simp
       with_reducible rfl
      rotate_left
      ·simp only [Act.put, List.setIfInBounds_toArray, List.set_cons_zero, List.set_cons_succ, i64_w, i32_w]
       rfl
      refine on1 5 16 (fun K hK => ?_)
      refine goes_ Tryd.func35 (by kernel_rfl) rfl #[.agg #[.string ((rd_T43 l0_1 x3_1).f0), .string ((rd_T43 l0_1 x3_1).f1)]] (by rfl) rfl rfl mq ?_
      with_reducible refine (spec_l2Entry.calls k1 ((rd_T43 l0_1 x3_1).f0) ((rd_T43 l0_1 x3_1).f1) true _ A5.out).mono ?_
      rintro e w17 ⟨rfl, hb⟩
      refine ⟨_, rfl, ?_⟩
      replace BK116 := am (blk_below (g := gb116) (o := .cells #[.slice A0_0 l0_0.length c0_0, .slice (some ad117) l0_1.length c0_1] 25 (0, 0)) (bq BK116.out) hb); replace HB := am (below_step (bel1 GE116.out) hb)
      (try clear hb)
      (try clear hb2)
      (try clear hk)
      (try clear hi)
      refine hK.out _ _ ⟨(blk_cell BK116.out 0).trans rfl, (blk_cell BK116.out 1).trans rfl, (kp HB.out hw117_0), (kp HB.out hw117_1), (kp HB.out hw119_0), (kp HB.out hw119_1), (kp HB.out hw120_0), (kp HB.out hw120_1)⟩ (fun hHeld => ?_)
      clear hK K
      refine norm_ (a' := ?_) ?_ ?_
      rotate_left
      ·show Act.put _ (some 16) _ = _
       simp only [Act.put, List.setIfInBounds_toArray, List.set_cons_zero, List.set_cons_succ, i64_w, i32_w]
       rfl
      refine pu 6 17 ?_
      refine pu 7 18 ?_
      refine pu 8 19 ?_
      refine pu 9 20 ?_
      refine pu 10 21 ?_
      refine pu 11 22 ?_
      refine pu 13 24 ?_
      refine pu 14 25 ?_
      refine pu 18 29 ?_
      refine pu 20 31 ?_
      refine take_ (i := 12) (N := some 23) (v := ?_) (a' := ?_) #[true, true, true, true, true, true, true, true, true, true, true, true, true, true, true, false, false, false, true, false, true, false, false, false, false, false, false] rfl rfl (take_ofW HT_.out HW_.out (by kernel_rfl)) (fun _ _ _ h => h) (Or.inl ⟨by rfl, ?_⟩) hHeld ?_ ?_
      rotate_left
      ·rintro w' ⟨s0, s1, s2, s3, s4, s5, s6, s7⟩
       go_simp
       with_reducible rfl
      rotate_left
      ·simp only [Act.put, List.setIfInBounds_toArray, List.set_cons_zero, List.set_cons_succ, i64_w, i32_w]
       rfl
      refine pu 15 26 ?_
      refine pu 16 27 ?_
      refine take_ (i := 17) (N := some 28) (v := ?_) (a' := ?_) #[true, true, true, true, true, true, true, true, true, true, true, true, true, true, true, true, true, true, true, false, true, false, false, false, false, false, false] rfl rfl (take_ofW HT_.out HW_.out (by kernel_rfl)) (fun _ _ _ h => h) (Or.inl ⟨by rfl, ?_⟩) hHeld ?_ ?_
      rotate_left
      ·rintro w' ⟨s0, s1, s2, s3, s4, s5, s6, s7⟩
       go_simp
       with_reducible rfl
      rotate_left
      ·simp only [Act.put, List.setIfInBounds_toArray, List.set_cons_zero, List.set_cons_succ, i64_w, i32_w]
       rfl
      refine take_ (i := 19) (N := some 30) (v := ?_) (a' := ?_) #[true, true, true, true, true, true, true, true, true, true, true, true, true, true, true, true, true, true, true, true, true, false, false, false, false, false, false] rfl rfl (take_ofW HT_.out HW_.out (by kernel_rfl)) (fun _ _ _ h => h) (Or.inl ⟨by rfl, ?_⟩) hHeld ?_ ?_
      rotate_left
      ·rintro w' ⟨s0, s1, s2, s3, s4, s5, s6, s7⟩
       go_simp
       with_reducible rfl
      rotate_left
      ·simp only [Act.put, List.setIfInBounds_toArray, List.set_cons_zero, List.set_cons_succ, i64_w, i32_w]
       rfl
      refine pu 21 32 ?_
      refine pu 22 33 ?_
      refine take_ (i := 23) (N := some 34) (v := ?_) (a' := ?_) #[true, true, true, true, true, true, true, true, true, true, true, true, true, true, true, true, true, true, true, true, true, true, true, true, false, false, false] rfl rfl (take_ofW HT_.out HW_.out (by kernel_rfl)) (fun _ _ _ h => h) (Or.inl ⟨by rfl, ?_⟩) hHeld ?_ ?_
      rotate_left
      ·rintro w' ⟨s0, s1, s2, s3, s4, s5, s6, s7⟩
       go_simp
       with_reducible rfl
      rotate_left
      ·simp only [Act.put, List.setIfInBounds_toArray, List.set_cons_zero, List.set_cons_succ, i64_w, i32_w]
       rfl
      refine pu 24 35 ?_
      refine pu 25 36 ?_
      refine pu 26 37 ?_
      refine done_ (done_of HT_.out (by kernel_rfl)) ?_
      try go_wp2
      go_ret
      exact ⟨b86_, bel1 GE116.out⟩
     rw [if_neg c7] at H; have c7b0 := decide_eq_false c7; clear c7
     have H' := am H
     clear H; have hcz18_0 := bc BK116.out 0; have hcz18_1 := bc BK116.out 1; have hfz18_0 := bf BK116.out 0; have hfz18_1 := bf BK116.out 1
     try go_wp2
     replace BK116 := am (blk_drew BK116.out); replace HB := am (below_drew1 HB.out)
     have p117 : 0 ≤ (x3_1 : Int) := of_decide_eq_true ad
     have q117 : x3_1 < (l0_1.length : Int) := of_decide_eq_true ad
     obtain ⟨ad117, e117, hx117_0, hx117_1⟩ := at_T43 HR0_1.out x3_1 p117 q117; have hw117_1 := hx117_1; have hw117_0 := hx117_0
     cases e117
     replace hx117_0 := kp HB.out hx117_0; replace hx117_1 := kp HB.out hx117_1; replace p117 := eq_true p117; replace q117 := eq_true q117
     refine st (n := 27) (S := fun w' => w'.cell? ⟨gb116, 0, none⟩ = some (.slice A0_0 l0_0.length c0_0) ∧ w'.cell? ⟨gb116, 1, none⟩ = some (.slice (some ad117) l0_1.length c0_1) ∧ w'.cell? (ad117.add ((x3_1).toNat * 2)) = some (.string ((rd_T43 l0_1 x3_1).f0)) ∧ w'.cell? ⟨(ad117.add ((x3_1).toNat * 2)).block, (ad117.add ((x3_1).toNat * 2)).off + 1, none⟩ = some (.string ((rd_T43 l0_1 x3_1).f1))) (ds := []) ⟨(blk_cell BK116.out 0).trans rfl, (blk_cell BK116.out 1).trans rfl, (kp HB.out hw117_0), (kp HB.out hw117_1)⟩ (fun hHeld => ?_); refine with_tabW spec_BookOk.tab4 spec_BookOk.bits4 (fun HT_ HW_ => ?_)
     generalize wr.drew = w19 at BK116 HB hx117_0 hx117_1 hHeld ⊢
     refine pu 0 11 ?_
     refine pu 2 13 ?_
     refine tk4 1 12 hHeld ?_
     refine pu 3 14 ?_
     refine tk4 4 15 hHeld ?_
     refine on1 5 16 (fun K hK => ?_)
     refine goes_ Tryd.func35 (by kernel_rfl) rfl #[.agg #[.string ((rd_T43 l0_1 x3_1).f0), .string ((rd_T43 l0_1 x3_1).f1)]] (by rfl) rfl rfl mq ?_
     with_reducible refine (spec_l2Entry.calls k1 ((rd_T43 l0_1 x3_1).f0) ((rd_T43 l0_1 x3_1).f1) true _ A5.out).mono ?_
     rintro e w20 ⟨rfl, hb⟩
     refine ⟨_, rfl, ?_⟩
     replace BK116 := am (blk_below (g := gb116) (o := .cells #[.slice A0_0 l0_0.length c0_0, .slice (some ad117) l0_1.length c0_1] 25 (0, 0)) (bq BK116.out) hb); replace HB := am (below_step (bel1 GE116.out) hb)
     (try clear hb)
     (try clear hb2)
     (try clear hk)
     (try clear hi)
     refine hK.out _ _ ⟨(blk_cell BK116.out 0).trans rfl, (blk_cell BK116.out 1).trans rfl, (kp HB.out hw117_0), (kp HB.out hw117_1)⟩ (fun hHeld => ?_)
     clear hK K
     refine norm_ (a' := ?_) ?_ ?_
     rotate_left
     ·show Act.put _ (some 16) _ = _
      simp only [Act.put, List.setIfInBounds_toArray, List.set_cons_zero, List.set_cons_succ, i64_w, i32_w]
      rfl
     refine pu 6 17 ?_
     refine pu 7 18 ?_
     refine pu 8 19 ?_
     refine pu 9 20 ?_
     refine pu 10 21 ?_
     refine puu 11 22 ?_
     refine puu 12 23 ?_
     refine puu 13 24 ?_
     refine puu 14 25 ?_
     refine puu 15 26 ?_
     refine puu 16 27 ?_
     refine puu 17 28 ?_
     refine puu 18 29 ?_
     refine puu 19 30 ?_
     refine puu 20 31 ?_
     refine puu 21 32 ?_
     refine puu 22 33 ?_
     refine puu 23 34 ?_
     refine puu 24 35 ?_
     refine pu 25 36 ?_
     refine pu 26 37 ?_
     refine done_ (done_of HT_.out (by kernel_rfl)) ?_
     try go_wp2
     go_roundg k1
     case measure => have := HK1.out; omega
     case rel => exact ⟨(wrap64 (x3_1 + 1)), sq, H', ⟨b74_⟩, ⟨bq BK116.out⟩, ⟨bel1 GE116.out⟩⟩
    replace c6 := Bool.eq_false_iff.mpr c6; subst c6
    have H1 : (some false) = some r := b22_
    replace H := H1; clear H1
    obtain rfl := Option.some.inj H; have hcz21_0 := bc BK116.out 0; have hcz21_1 := bc BK116.out 1; have hfz21_0 := bf BK116.out 0; have hfz21_1 := bf BK116.out 1
    try go_wp2
    replace BK116 := am (blk_drew BK116.out); replace HB := am (below_drew1 HB.out)
    have p117 : 0 ≤ (x3_1 : Int) := of_decide_eq_true ad
    have q117 : x3_1 < (l0_1.length : Int) := of_decide_eq_true ad
    obtain ⟨ad117, e117, hx117_0, hx117_1⟩ := at_T43 HR0_1.out x3_1 p117 q117; have hw117_1 := hx117_1; have hw117_0 := hx117_0
    cases e117
    replace hx117_0 := kp HB.out hx117_0; replace hx117_1 := kp HB.out hx117_1; replace p117 := eq_true p117; replace q117 := eq_true q117
    refine st (n := 27) (S := fun w' => w'.cell? ⟨gb116, 0, none⟩ = some (.slice A0_0 l0_0.length c0_0) ∧ w'.cell? ⟨gb116, 1, none⟩ = some (.slice (some ad117) l0_1.length c0_1) ∧ w'.cell? (ad117.add ((x3_1).toNat * 2)) = some (.string ((rd_T43 l0_1 x3_1).f0)) ∧ w'.cell? ⟨(ad117.add ((x3_1).toNat * 2)).block, (ad117.add ((x3_1).toNat * 2)).off + 1, none⟩ = some (.string ((rd_T43 l0_1 x3_1).f1))) (ds := []) ⟨(blk_cell BK116.out 0).trans rfl, (blk_cell BK116.out 1).trans rfl, (kp HB.out hw117_0), (kp HB.out hw117_1)⟩ (fun hHeld => ?_); refine with_tabW spec_BookOk.tab4 spec_BookOk.bits4 (fun HT_ HW_ => ?_)
    generalize wr.drew = w22 at BK116 HB hx117_0 hx117_1 hHeld ⊢
    refine pu 0 11 ?_
    refine pu 2 13 ?_
    refine tk4 1 12 hHeld ?_
    refine pu 3 14 ?_
    refine tk4 4 15 hHeld ?_
    refine on1 5 16 (fun K hK => ?_)
    refine goes_ Tryd.func35 (by kernel_rfl) rfl #[.agg #[.string ((rd_T43 l0_1 x3_1).f0), .string ((rd_T43 l0_1 x3_1).f1)]] (by rfl) rfl rfl mq ?_
    with_reducible refine (spec_l2Entry.calls k1 ((rd_T43 l0_1 x3_1).f0) ((rd_T43 l0_1 x3_1).f1) false _ A5.out).mono ?_
    rintro e w23 ⟨rfl, hb⟩
    refine ⟨_, rfl, ?_⟩
    replace BK116 := am (blk_below (g := gb116) (o := .cells #[.slice A0_0 l0_0.length c0_0, .slice (some ad117) l0_1.length c0_1] 25 (0, 0)) (bq BK116.out) hb); replace HB := am (below_step (bel1 GE116.out) hb)
    (try clear hb)
    (try clear hb2)
    (try clear hk)
    (try clear hi)
    refine hK.out _ _ ⟨(blk_cell BK116.out 0).trans rfl, (blk_cell BK116.out 1).trans rfl, (kp HB.out hw117_0), (kp HB.out hw117_1)⟩ (fun hHeld => ?_)
    clear hK K
    refine norm_ (a' := ?_) ?_ ?_
    rotate_left
    ·show Act.put _ (some 16) _ = _
     simp only [Act.put, List.setIfInBounds_toArray, List.set_cons_zero, List.set_cons_succ, i64_w, i32_w]
     rfl
    refine pu 6 17 ?_
    refine pu 7 18 ?_
    refine puu 8 19 ?_
    refine puu 9 20 ?_
    refine puu 10 21 ?_
    refine puu 11 22 ?_
    refine puu 12 23 ?_
    refine puu 13 24 ?_
    refine puu 14 25 ?_
    refine puu 15 26 ?_
    refine puu 16 27 ?_
    refine puu 17 28 ?_
    refine puu 18 29 ?_
    refine puu 19 30 ?_
    refine puu 20 31 ?_
    refine puu 21 32 ?_
    refine puu 22 33 ?_
    refine puu 23 34 ?_
    refine puu 24 35 ?_
    refine puu 25 36 ?_
    refine pu 26 37 ?_
    refine done_ (done_of HT_.out (by kernel_rfl)) ?_
    try go_wp2
    go_ret
    exact ⟨eq_, bel1 GE116.out⟩
   rw [if_neg c3] at H; have c3b0 := decide_eq_false c3; clear c3; replace H := bs H; obtain ⟨t121, A240, H⟩ := H; replace H : (if t121 = true then (some (decide ((l0_1.length : Int) ≤ 24))) else (some false)) = some r := H; have A24 := Aside0.mk A240; clear A240
   by_cases c25 : t121 = true
   ·subst c25
    have H1 : (some (decide ((l0_1.length : Int) ≤ 24))) = some r := b47_
    replace H := H1; clear H1
    obtain rfl := Option.some.inj H; have hcz26_0 := bc BK116.out 0; have hcz26_1 := bc BK116.out 1; have hfz26_0 := bf BK116.out 0; have hfz26_1 := bf BK116.out 1
    go_wp2_with (first | ((with_reducible refine gate_callee (f := 36) rfl ?_); refine goesL_ (some 40) rfl rfl Tryd.func36 (by kernel_rfl) rfl #[.slice A0_0 l0_0.length c0_0] rfl mq ?_; (with_reducible refine (spec_l2Affixes.calls k1 _ _ l0_0 true _ ?side1 ?side2 A24.out).mono ?_); (case side1 => exact cq (Kd.C_below HR0_0.out HB.out)); (case side2 => exact HC0_0.out); rintro e w27 ⟨rfl, hb⟩; refine ⟨_, rfl, ?_⟩; replace BK116 := am (blk_below (g := gb116) (o := .cells #[.slice A0_0 l0_0.length c0_0, .slice A0_1 l0_1.length c0_1] 25 (0, 0)) (bq BK116.out) hb); replace HB := am (below_step (bel1 GE116.out) hb); (try clear hb); (try clear hb2); (try clear hk); (try clear hi); have hcz28_0 := bc BK116.out 0; have hcz28_1 := bc BK116.out 1; have hfz28_0 := bf BK116.out 0; have hfz28_1 := bf BK116.out 1))
    go_ret
    exact ⟨eq_, bel1 GE116.out⟩
   replace c25 := Bool.eq_false_iff.mpr c25; subst c25
   have H1 : (some false) = some r := b22_
   replace H := H1; clear H1
   obtain rfl := Option.some.inj H; have hcz29_0 := bc BK116.out 0; have hcz29_1 := bc BK116.out 1; have hfz29_0 := bf BK116.out 0; have hfz29_1 := bf BK116.out 1
   go_wp2_with (first | ((with_reducible refine gate_callee (f := 36) rfl ?_); refine goesL_ (some 40) rfl rfl Tryd.func36 (by kernel_rfl) rfl #[.slice A0_0 l0_0.length c0_0] rfl mq ?_; (with_reducible refine (spec_l2Affixes.calls k1 _ _ l0_0 false _ ?side1 ?side2 A24.out).mono ?_); (case side1 => exact cq (Kd.C_below HR0_0.out HB.out)); (case side2 => exact HC0_0.out); rintro e w30 ⟨rfl, hb⟩; refine ⟨_, rfl, ?_⟩; replace BK116 := am (blk_below (g := gb116) (o := .cells #[.slice A0_0 l0_0.length c0_0, .slice A0_1 l0_1.length c0_1] 25 (0, 0)) (bq BK116.out) hb); replace HB := am (below_step (bel1 GE116.out) hb); (try clear hb); (try clear hb2); (try clear hk); (try clear hi)))
   go_ret
   exact ⟨eq_, bel1 GE116.out⟩
end Go.Proofs.YtiiefpckcgekgaaDoor.QFnBookText
