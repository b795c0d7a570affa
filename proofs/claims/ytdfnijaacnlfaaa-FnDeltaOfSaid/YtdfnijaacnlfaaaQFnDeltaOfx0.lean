import Derived.Test.YtdfnijaacnlfaaaProg
import Derived.Laws.Cover1
import Derived.Below
import Derived.Deep.Draws
import Derived.Deep.AppendLies
import Derived.Maps.AppendAt
import Derived.OwnWalk
import Derived.Laws.BytesArg
import Derived.Laws.MakeOwn
import Derived.Laws.OwnMore
import Derived.Deep.OwnRows
import Derived.Tactics
import Derived.Lib.ConvBytes
import Derived.Laws.Slices
import Derived.WalkKit
import Derived.KernelRfl
import Derived.RowKit3
import Derived.Deep.LoopGhost
import Derived.Deep.QuietTactic
import Derived.BigQuiet
import Derived.WideLaws
import Derived.Deep.DeepCutAuto
import Derived.Deep.CutBlock
import Derived.Deep.RegionHeld3
import Derived.Laws.Rows
import Derived.Lib.AppendStr
import Derived.ArgAppend
import Derived.Laws.IdiomCopy
import Derived.OrdersHeld
import Derived.Laws.BitsLemmas
import Derived.RowKit
import Derived.Test.YtdfnijaacnlfaaaVMLayIdx
import Derived.Test.YtdfnijaacnlfaaaVMLaySortE
import Derived.Test.YtdfnijaacnlfaaaVWords
import Derived.Test.YtdfnijaacnlfaaaVLast
import Derived.Test.YtdfnijaacnlfaaaVTab
import Derived.Test.YtdfnijaacnlfaaaVApart
import Derived.Test.YtdfnijaacnlfaaaVFoot
import Derived.Test.YtdfnijaacnlfaaaVKept
import Derived.Test.YtdfnijaacnlfaaaVShare
import Derived.Test.YtdfnijaacnlfaaaVN
import Derived.Test.YtdfnijaacnlfaaaVFootNe
import Derived.Test.YtdfnijaacnlfaaaVEqStruct
import Derived.Test.YtdfnijaacnlfaaaVRepsOne
import Derived.Test.YtdfnijaacnlfaaaVGuard
import Derived.Test.YtdfnijaacnlfaaaVMore
import Derived.Test.YtdfnijaacnlfaaaVMSh2
namespace Go.Proofs.Ytdfnijaacnlfaaa.QFnDeltaOf
open Go.RowKit Go.Proofs.YtdfnijaacnlfaaaW.PrintWords Go.Proofs.YtdfnijaacnlfaaaW.PrintLast Go.Proofs.YtdfnijaacnlfaaaW.PrintMore Go.Proofs.Ytdfnijaacnlfaaa.Sh
attribute [local go_sem] max2_int min2_int max_two min_two max_three min_three max_four min_four
set_option linter.unusedVariables false
set_option linter.unusedSimpArgs false
set_option maxHeartbeats 8000000
set_option maxRecDepth 100000
-- shrunk



def errW : Option Int → Value
 | none => .nilIface
 | some c => .iface 0 (.int .i64 c)
theorem errW_none : errW none = .nilIface := rfl
theorem errW_some (c : Int) : errW (some c) = .iface 0 (.int .i64 c) := rfl

theorem info5 : (Try.prog.info? 5).map (fun i => (i.zero, i.size, i.bytes)) = some (some (.int .u8 0), 1, 1) := by kernel_rfl
theorem info9 : (Try.prog.info? 9).map (fun i => (i.zero, i.size, i.bytes)) = some (some (.string ⟨#[]⟩), 1, 16) := by kernel_rfl
theorem info66 : (Try.prog.info? 66).map (fun i => (i.zero, i.size, i.bytes)) = some (some (.agg #[(.string ⟨#[]⟩), (.string ⟨#[]⟩)]), 2, 32) := by kernel_rfl
theorem info73 : (Try.prog.info? 73).map (fun i => (i.zero, i.size, i.bytes)) = some (some (.agg #[(.string ⟨#[]⟩), (.bool false), (.string ⟨#[]⟩), (.string ⟨#[]⟩), (.string ⟨#[]⟩)]), 5, 72) := by kernel_rfl
-- the values' own types
/-! #### struct type 73 -/
structure S73 where
 f0 : ByteArray
 f1 : Bool
 f2 : ByteArray
 f3 : ByteArray
 f4 : ByteArray
def z73 : S73 := ⟨(⟨#[]⟩ : ByteArray), false, (⟨#[]⟩ : ByteArray), (⟨#[]⟩ : ByteArray), (⟨#[]⟩ : ByteArray)⟩
def k73 : Kd S73 := Kd.iso (Kd.pair Kd.string (Kd.pair Kd.bool (Kd.pair Kd.string (Kd.pair Kd.string Kd.string)))) (fun x : S73 => (x.f0, x.f1, x.f2, x.f3, x.f4))
theorem k73_open {w : World} {x : S73} {cs : List Value} (h : k73.K w x cs) : cs = [.string x.f0, .bool x.f1, .string x.f2, .string x.f3, .string x.f4] := by
 obtain ⟨_, _, rfl, rfl, ⟨_, _, rfl, rfl, ⟨_, _, rfl, rfl, ⟨_, _, rfl, rfl, rfl⟩⟩⟩⟩ := h
 exact rfl
theorem k73_openM {w : World} {base : Nat} {ok : Nat → Prop} {x : S73} {cs : List Value} (h : k73.M w base ok x cs) : cs = [.string x.f0, .bool x.f1, .string x.f2, .string x.f3, .string x.f4] := by
 obtain ⟨_, _, rfl, rfl, ⟨_, _, rfl, rfl, ⟨_, _, rfl, rfl, ⟨_, _, rfl, rfl, rfl⟩⟩⟩⟩ := h
 exact rfl
theorem k73_mk (w : World) (x : S73)  : k73.K w x [.string x.f0, .bool x.f1, .string x.f2, .string x.f3, .string x.f4] := ⟨[.string x.f0], [.bool x.f1, .string x.f2, .string x.f3, .string x.f4], rfl, rfl, ⟨[.bool x.f1], [.string x.f2, .string x.f3, .string x.f4], rfl, rfl, ⟨[.string x.f2], [.string x.f3, .string x.f4], rfl, rfl, ⟨[.string x.f3], [.string x.f4], rfl, rfl, rfl⟩⟩⟩⟩
theorem k73_mkM (w : World) (base : Nat) (ok : Nat → Prop) (x : S73)  : k73.M w base ok x [.string x.f0, .bool x.f1, .string x.f2, .string x.f3, .string x.f4] := ⟨[.string x.f0], [.bool x.f1, .string x.f2, .string x.f3, .string x.f4], rfl, rfl, ⟨[.bool x.f1], [.string x.f2, .string x.f3, .string x.f4], rfl, rfl, ⟨[.string x.f2], [.string x.f3, .string x.f4], rfl, rfl, ⟨[.string x.f3], [.string x.f4], rfl, rfl, rfl⟩⟩⟩⟩
theorem k73_mkF (W : World) (ok : Nat → Prop) (x : S73) : Kd.FK k73 W ok x [.string x.f0, .bool x.f1, .string x.f2, .string x.f3, .string x.f4] := fun W2 _ => k73_mk W2 x
def rd_T73 (xs : List S73) (i : Int) : S73 := xs.getD i.toNat z73
theorem at_T73 {w : World} {A : Option Addr} {n : Nat} {xs : List S73} (h : Kd.C k73 w A n xs) (i : Int) (h0 : 0 ≤ i) (h1 : i < n) : ∃ ad , A = some ad ∧ w.cell? (ad.add (i.toNat * 5)) = some (.string (rd_T73 xs i).f0) ∧ w.cell? ⟨(ad.add (i.toNat * 5)).block, (ad.add (i.toNat * 5)).off + 1, none⟩ = some (.bool (rd_T73 xs i).f1) ∧ w.cell? ⟨(ad.add (i.toNat * 5)).block, (ad.add (i.toNat * 5)).off + 2, none⟩ = some (.string (rd_T73 xs i).f2) ∧ w.cell? ⟨(ad.add (i.toNat * 5)).block, (ad.add (i.toNat * 5)).off + 3, none⟩ = some (.string (rd_T73 xs i).f3) ∧ w.cell? ⟨(ad.add (i.toNat * 5)).block, (ad.add (i.toNat * 5)).off + 4, none⟩ = some (.string (rd_T73 xs i).f4) := by
 obtain ⟨ad, c, e, _, hK, hc0⟩ := Kd.C_get h z73 i h0 h1
 have hc : ∀ j u, c[j]? = some u → w.cell? (ad.add (i.toNat * 5 + j)) = some u := hc0
 obtain rfl := k73_open hK
 exact ⟨ad, e, hc 0 _ rfl, by rw [← add_field _ _ 1 (by omega)]; exact hc 1 _ rfl, by rw [← add_field _ _ 2 (by omega)]; exact hc 2 _ rfl, by rw [← add_field _ _ 3 (by omega)]; exact hc 3 _ rfl, by rw [← add_field _ _ 4 (by omega)]; exact hc 4 _ rfl⟩

/-! #### struct type 66 -/
structure S66 where
 f0 : ByteArray
 f1 : ByteArray
def z66 : S66 := ⟨(⟨#[]⟩ : ByteArray), (⟨#[]⟩ : ByteArray)⟩
def k66 : Kd S66 := Kd.iso (Kd.pair Kd.string Kd.string) (fun x : S66 => (x.f0, x.f1))
theorem k66_open {w : World} {x : S66} {cs : List Value} (h : k66.K w x cs) : cs = [.string x.f0, .string x.f1] := by
 obtain ⟨_, _, rfl, rfl, rfl⟩ := h
 exact rfl
theorem k66_openM {w : World} {base : Nat} {ok : Nat → Prop} {x : S66} {cs : List Value} (h : k66.M w base ok x cs) : cs = [.string x.f0, .string x.f1] := by
 obtain ⟨_, _, rfl, rfl, rfl⟩ := h
 exact rfl
theorem k66_mk (w : World) (x : S66)  : k66.K w x [.string x.f0, .string x.f1] := ⟨[.string x.f0], [.string x.f1], rfl, rfl, rfl⟩
theorem k66_mkM (w : World) (base : Nat) (ok : Nat → Prop) (x : S66)  : k66.M w base ok x [.string x.f0, .string x.f1] := ⟨[.string x.f0], [.string x.f1], rfl, rfl, rfl⟩
theorem k66_mkF (W : World) (ok : Nat → Prop) (x : S66) : Kd.FK k66 W ok x [.string x.f0, .string x.f1] := fun W2 _ => k66_mk W2 x
def rd_T66 (xs : List S66) (i : Int) : S66 := xs.getD i.toNat z66
theorem at_T66 {w : World} {A : Option Addr} {n : Nat} {xs : List S66} (h : Kd.C k66 w A n xs) (i : Int) (h0 : 0 ≤ i) (h1 : i < n) : ∃ ad , A = some ad ∧ w.cell? (ad.add (i.toNat * 2)) = some (.string (rd_T66 xs i).f0) ∧ w.cell? ⟨(ad.add (i.toNat * 2)).block, (ad.add (i.toNat * 2)).off + 1, none⟩ = some (.string (rd_T66 xs i).f1) := by
 obtain ⟨ad, c, e, _, hK, hc0⟩ := Kd.C_get h z66 i h0 h1
 have hc : ∀ j u, c[j]? = some u → w.cell? (ad.add (i.toNat * 2 + j)) = some u := hc0
 obtain rfl := k66_open hK
 exact ⟨ad, e, hc 0 _ rfl, by rw [← add_field _ _ 1 (by omega)]; exact hc 1 _ rfl⟩

theorem b0_ {p : Prop} (h : p := by repeat (first | (with_reducible first | exact HK.out | apply KeepBut.set_ | apply keep_drewN | apply keep_drew | apply keep_alloc) | exact HK.out)) : p := h
theorem b1_ {p : Prop} (h : p := by repeat (first | (with_reducible first | exact HB.out | apply below_alloc | apply pw_below_drewN | apply below_drew1 | refine below_set ?_ GE490.out | refine below_set ?_ GE491.out | refine below_set ?_ GE492.out | refine below_set ?_ GE504.out) | exact HB.out)) : p := h
theorem b2_ {p : Prop} (h : p := by repeat (first | (with_reducible first | exact HB.out | apply below_alloc | apply pw_below_drewN | apply below_drew1 | refine below_set ?_ GE126.out | refine below_set ?_ GE127.out | refine below_set ?_ GE128.out | refine below_set ?_ GE129.out) | exact HB.out)) : p := h
theorem b3_ {p : Prop} (h : p := by (with_reducible repeat (first | refine blk_drewN ?_ _ | refine blk_drew ?_ | refine blk_alloc ?_ _)); refine blk_put (cs := #[.string t348, .bool t349, .string t350, .string t351, .string (⟨#[]⟩ : ByteArray)]) ?_ 4 _ rfl; (with_reducible repeat (first | refine blk_drewN ?_ _ | refine blk_drew ?_ | refine blk_alloc ?_ _)); refine blk_put (cs := #[.string t348, .bool t349, .string t350, .string (⟨#[]⟩ : ByteArray), .string (⟨#[]⟩ : ByteArray)]) ?_ 3 _ rfl; (with_reducible repeat (first | refine blk_drewN ?_ _ | refine blk_drew ?_ | refine blk_alloc ?_ _)); refine blk_put (cs := #[.string t348, .bool t349, .string (⟨#[]⟩ : ByteArray), .string (⟨#[]⟩ : ByteArray), .string (⟨#[]⟩ : ByteArray)]) ?_ 2 _ rfl; (with_reducible repeat (first | refine blk_drewN ?_ _ | refine blk_drew ?_ | refine blk_alloc ?_ _)); refine blk_put (cs := #[.string t348, .bool false, .string (⟨#[]⟩ : ByteArray), .string (⟨#[]⟩ : ByteArray), .string (⟨#[]⟩ : ByteArray)]) ?_ 1 _ rfl; (with_reducible repeat (first | refine blk_drewN ?_ _ | refine blk_drew ?_ | refine blk_alloc ?_ _)); refine blk_put (cs := #[.string (⟨#[]⟩ : ByteArray), .bool false, .string (⟨#[]⟩ : ByteArray), .string (⟨#[]⟩ : ByteArray), .string (⟨#[]⟩ : ByteArray)]) ?_ 0 _ rfl; (with_reducible repeat (first | refine blk_drewN ?_ _ | refine blk_drew ?_ | refine blk_alloc ?_ _)); exact BK354.out) : p := h
theorem b4_ {p : Prop} (h : p := by rw [hg]; exact (keep_size (w := w) (g := g) (row := none) (by repeat (first | (with_reducible first | exact HK.out | apply KeepBut.set_ | apply keep_drewN | apply keep_drew | apply keep_alloc) | exact HK.out)))) : p := h
theorem b5_ {p : Prop} (h : p := by repeat (first | (with_reducible first | exact HB.out | apply below_alloc | apply pw_below_drewN | apply below_drew1 | refine below_set ?_ (IsS114.ge HI0.out)) | exact HB.out)) : p := h
theorem b6_ {p : Prop} (h : p := by repeat (first | (with_reducible first | exact HB.out | apply below_alloc | apply pw_below_drewN | apply below_drew1 | refine below_set ?_ GE549.out | refine below_set ?_ GE550.out | refine below_set ?_ GE561.out | refine below_set ?_ GE593.out | refine below_set ?_ GE611.out) | exact HB.out)) : p := h
theorem b7_ {p : Prop} (h : p := by repeat (first | (with_reducible first | exact HK.out | apply KeepBut.set_ | apply keep_drewN | apply keep_drew | apply keep_alloc | refine keep_far ?_ GW372.out _ | refine keep_far ?_ GW380.out _) | exact HK.out)) : p := h
theorem b8_ {p : Prop} (h : p := by repeat (first | (with_reducible first | exact HI0.out | apply IsS114.alloc | apply IsS114.drewN | apply IsS114.drew | apply IsS114.set_1) | exact HI0.out)) : p := h
theorem b9_ {p : Prop} (h : p := by repeat (first | (with_reducible first | exact HB.out | apply below_alloc | apply pw_below_drewN | apply below_drew1 | refine below_set ?_ GE196.out | refine below_set ?_ GE197.out | refine below_set ?_ GE198.out | refine below_set ?_ GE210.out) | exact HB.out)) : p := h
theorem b10_ {p : Prop} (h : p := by repeat (first | (with_reducible first | exact HK.out | apply KeepBut.set_ | apply keep_drewN | apply keep_drew | apply keep_alloc | refine keep_far ?_ GW372.out _) | exact HK.out)) : p := h
theorem b11_ {p : Prop} (h : p := by repeat (first | (with_reducible first | exact HK.out | apply KeepBut.set_ | apply keep_drewN | apply keep_drew | apply keep_alloc | refine keep_far ?_ GW316.out _ | refine keep_far ?_ GW321.out _) | exact HK.out)) : p := h
theorem b12_ {p : Prop} (h : p := by (with_reducible repeat (first | refine blk_drewN ?_ _ | refine blk_drew ?_ | refine blk_alloc ?_ _)); refine blk_put (cs := #[.string ((rd_T73 l0 x7_1).f0), .bool ((rd_T73 l0 x7_1).f1), .string ((rd_T73 l0 x7_1).f2), .string ((rd_T73 l0 x7_1).f3), .string (⟨#[]⟩ : ByteArray)]) ?_ 4 _ rfl; (with_reducible repeat (first | refine blk_drewN ?_ _ | refine blk_drew ?_ | refine blk_alloc ?_ _)); refine blk_put (cs := #[.string ((rd_T73 l0 x7_1).f0), .bool ((rd_T73 l0 x7_1).f1), .string ((rd_T73 l0 x7_1).f2), .string (⟨#[]⟩ : ByteArray), .string (⟨#[]⟩ : ByteArray)]) ?_ 3 _ rfl; (with_reducible repeat (first | refine blk_drewN ?_ _ | refine blk_drew ?_ | refine blk_alloc ?_ _)); refine blk_put (cs := #[.string ((rd_T73 l0 x7_1).f0), .bool ((rd_T73 l0 x7_1).f1), .string (⟨#[]⟩ : ByteArray), .string (⟨#[]⟩ : ByteArray), .string (⟨#[]⟩ : ByteArray)]) ?_ 2 _ rfl; (with_reducible repeat (first | refine blk_drewN ?_ _ | refine blk_drew ?_ | refine blk_alloc ?_ _)); refine blk_put (cs := #[.string ((rd_T73 l0 x7_1).f0), .bool false, .string (⟨#[]⟩ : ByteArray), .string (⟨#[]⟩ : ByteArray), .string (⟨#[]⟩ : ByteArray)]) ?_ 1 _ rfl; (with_reducible repeat (first | refine blk_drewN ?_ _ | refine blk_drew ?_ | refine blk_alloc ?_ _)); refine blk_put (cs := #[.string (⟨#[]⟩ : ByteArray), .bool false, .string (⟨#[]⟩ : ByteArray), .string (⟨#[]⟩ : ByteArray), .string (⟨#[]⟩ : ByteArray)]) ?_ 0 _ rfl; (with_reducible repeat (first | refine blk_drewN ?_ _ | refine blk_drew ?_ | refine blk_alloc ?_ _)); exact BK180.out) : p := h
theorem b13_ {p : Prop} (h : p := by repeat (first | (with_reducible first | exact HB.out | apply below_alloc | apply pw_below_drewN | apply below_drew1 | refine below_set ?_ GE549.out | refine below_set ?_ GE550.out | refine below_set ?_ GE561.out | refine below_set ?_ GE593.out) | exact HB.out)) : p := h
theorem b14_ {p : Prop} (h : p := by repeat (first | (with_reducible first | exact HK.out | apply KeepBut.set_ | apply keep_drewN | apply keep_drew | apply keep_alloc | refine keep_far ?_ GW347.out _ | refine keep_far ?_ GW354.out _) | exact HK.out)) : p := h
theorem b15_ {p : Prop} (h : p := by (with_reducible repeat (first | refine blk_drewN ?_ _ | refine blk_drew ?_ | refine blk_alloc ?_ _)); refine blk_far ?_ NB347_354.out _; (with_reducible repeat (first | refine blk_drewN ?_ _ | refine blk_drew ?_ | refine blk_alloc ?_ _)); refine blk_far ?_ NB347_354.out _; (with_reducible repeat (first | refine blk_drewN ?_ _ | refine blk_drew ?_ | refine blk_alloc ?_ _)); refine blk_far ?_ NB347_354.out _; (with_reducible repeat (first | refine blk_drewN ?_ _ | refine blk_drew ?_ | refine blk_alloc ?_ _)); refine blk_far ?_ NB347_354.out _; (with_reducible repeat (first | refine blk_drewN ?_ _ | refine blk_drew ?_ | refine blk_alloc ?_ _)); refine blk_far ?_ NB347_354.out _; (with_reducible repeat (first | refine blk_drewN ?_ _ | refine blk_drew ?_ | refine blk_alloc ?_ _)); exact BK347.out) : p := h
theorem b16_ {p : Prop} (h : p := by repeat (first | (with_reducible first | exact HK.out | apply KeepBut.set_ | apply keep_drewN | apply keep_drew | apply keep_alloc | refine keep_far ?_ GW347.out _) | exact HK.out)) : p := h
theorem b17_ {p : Prop} (h : p := by repeat (first | (with_reducible first | exact HB.out | apply below_alloc | apply pw_below_drewN | apply below_drew1 | refine below_set ?_ GE490.out | refine below_set ?_ GE491.out | refine below_set ?_ GE492.out | refine below_set ?_ GE504.out | refine below_set ?_ GE514.out) | exact HB.out)) : p := h
theorem b18_ {p : Prop} (h : p := by rw [if_neg (show ¬ (false = true) by decide)] at H; exact H) : p := h
theorem b19_ {p : Prop} (h : p := by repeat (first | (with_reducible first | exact HI0.out | apply IsS114.alloc | apply IsS114.drewN | apply IsS114.drew | apply IsS114.set_1 | refine IsS114.far ?_ NB0_316.out _ | refine IsS114.far ?_ NB0_321.out _) | exact HI0.out)) : p := h
theorem b20_ {p : Prop} (h : p := by repeat (first | (with_reducible first | exact HB.out | apply below_alloc | apply pw_below_drewN | apply below_drew1 | refine below_set ?_ (IsS114.ge HI0.out) | refine below_set ?_ GE316.out | refine below_set ?_ GE321.out) | exact HB.out)) : p := h
theorem b21_ {p : Prop} (h : p := by rw [hg]; exact Nat.ne_of_lt (IsS114.lt (show IsS114 w0 _ g s0_0 s0_1 from by repeat (first | (with_reducible first | exact HI0.out | apply IsS114.alloc | apply IsS114.drewN | apply IsS114.drew | apply IsS114.set_1) | exact HI0.out)))) : p := h
theorem b22_ {p : Prop} (h : p := by rw [hg]; exact Nat.ne_of_gt (IsS114.lt (show IsS114 w0 _ g s0_0 s0_1 from by repeat (first | (with_reducible first | exact HI0.out | apply IsS114.alloc | apply IsS114.drewN | apply IsS114.drew | apply IsS114.set_1) | exact HI0.out)))) : p := h
theorem b23_ {p : Prop} (h : p := by (with_reducible repeat (first | refine blk_drewN ?_ _ | refine blk_drew ?_ | refine blk_alloc ?_ _)); refine blk_put (cs := #[.slice Ao18 t551.length co18, .slice Ao22 t554.length co22, .bool t557, .slice none 0 0]) ?_ 3 _ rfl; (with_reducible repeat (first | refine blk_drewN ?_ _ | refine blk_drew ?_ | refine blk_alloc ?_ _)); refine blk_put (cs := #[.slice Ao18 t551.length co18, .slice Ao22 t554.length co22, .bool false, .slice none 0 0]) ?_ 2 _ rfl; (with_reducible repeat (first | refine blk_drewN ?_ _ | refine blk_drew ?_ | refine blk_alloc ?_ _)); refine blk_put (cs := #[.slice Ao18 t551.length co18, .slice none 0 0, .bool false, .slice none 0 0]) ?_ 1 _ rfl; (with_reducible repeat (first | refine blk_drewN ?_ _ | refine blk_drew ?_ | refine blk_alloc ?_ _)); refine blk_put (cs := #[.slice none 0 0, .slice none 0 0, .bool false, .slice none 0 0]) ?_ 0 _ rfl; (with_reducible repeat (first | refine blk_drewN ?_ _ | refine blk_drew ?_ | refine blk_alloc ?_ _)); exact BK561.out) : p := h
theorem b24_ {p : Prop} (h : p := by repeat (first | (with_reducible first | exact HB.out | apply below_alloc | apply pw_below_drewN | apply below_drew1 | refine below_set ?_ (IsS114.ge HI0.out) | refine below_set ?_ GE372.out | refine below_set ?_ GE380.out) | exact HB.out)) : p := h
theorem b25_ {p : Prop} (h : p := by repeat (first | (with_reducible first | exact HI0.out | apply IsS114.alloc | apply IsS114.drewN | apply IsS114.drew | apply IsS114.set_1 | refine IsS114.far ?_ NB0_372.out _ | refine IsS114.far ?_ NB0_380.out _) | exact HI0.out)) : p := h
theorem b26_ {p : Prop} (h : p := by rw [hg]; exact (below_size bel)) : p := h
theorem b27_ {p : Prop} (h : p := by rw [hg]; exact (keep_size (w := w) (g := g) (row := none) (by repeat (first | (with_reducible first | exact HK.out | apply KeepBut.set_ | apply keep_drewN | apply keep_drew | apply keep_alloc | refine keep_far ?_ GW347.out _) | exact HK.out)))) : p := h
theorem b28_ {p : Prop} (h : p := by rw [hg]; exact (keep_size (w := w) (g := g) (row := none) (by repeat (first | (with_reducible first | exact HK.out | apply KeepBut.set_ | apply keep_drewN | apply keep_drew | apply keep_alloc | refine keep_far ?_ GW372.out _) | exact HK.out)))) : p := h
theorem b29_ {p : Prop} (h : p := by repeat (first | (with_reducible first | exact HB.out | apply below_alloc | apply pw_below_drewN | apply below_drew1 | refine below_set ?_ (IsS114.ge HI426.out) | refine below_set ?_ GE422.out | refine below_set ?_ GE423.out) | exact HB.out)) : p := h
theorem b30_ {p : Prop} (h : p := by rw [hg]; exact (below_size (by repeat (first | (with_reducible first | exact HB.out | apply below_alloc | apply pw_below_drewN | apply below_drew1 | refine below_set ?_ GE196.out | refine below_set ?_ GE197.out | refine below_set ?_ GE198.out | refine below_set ?_ GE210.out) | exact HB.out)))) : p := h
theorem b31_ {p : Prop} (h : p := by repeat (first | (with_reducible first | exact HB.out | apply below_alloc | apply pw_below_drewN | apply below_drew1 | refine below_set ?_ GE196.out | refine below_set ?_ GE197.out | refine below_set ?_ GE198.out | refine below_set ?_ GE210.out | refine below_set ?_ GE212.out) | exact HB.out)) : p := h
theorem b32_ {p : Prop} (h : p := by repeat (first | (with_reducible first | exact HB.out | apply below_alloc | apply pw_below_drewN | apply below_drew1 | refine below_set ?_ GE196.out | refine below_set ?_ GE197.out | refine below_set ?_ GE198.out | refine below_set ?_ GE210.out | refine below_set ?_ GE218.out) | exact HB.out)) : p := h
theorem b33_ {p : Prop} (h : p := by (with_reducible repeat (first | refine blk_drewN ?_ _ | refine blk_drew ?_ | refine blk_alloc ?_ _)); refine blk_put (cs := #[.string ((rd_T66 l0 x7_1).f0), .string (⟨#[]⟩ : ByteArray)]) ?_ 1 _ rfl; (with_reducible repeat (first | refine blk_drewN ?_ _ | refine blk_drew ?_ | refine blk_alloc ?_ _)); refine blk_put (cs := #[.string (⟨#[]⟩ : ByteArray), .string (⟨#[]⟩ : ByteArray)]) ?_ 0 _ rfl; (with_reducible repeat (first | refine blk_drewN ?_ _ | refine blk_drew ?_ | refine blk_alloc ?_ _)); exact BK161.out) : p := h
theorem b34_ {p : Prop} (h : p := by (with_reducible repeat (first | refine blk_drewN ?_ _ | refine blk_drew ?_ | refine blk_alloc ?_ _)); refine blk_far ?_ NB549_561.out _; (with_reducible repeat (first | refine blk_drewN ?_ _ | refine blk_drew ?_ | refine blk_alloc ?_ _)); refine blk_far ?_ NB549_561.out _; (with_reducible repeat (first | refine blk_drewN ?_ _ | refine blk_drew ?_ | refine blk_alloc ?_ _)); refine blk_far ?_ NB549_561.out _; (with_reducible repeat (first | refine blk_drewN ?_ _ | refine blk_drew ?_ | refine blk_alloc ?_ _)); refine blk_far ?_ NB549_561.out _; (with_reducible repeat (first | refine blk_drewN ?_ _ | refine blk_drew ?_ | refine blk_alloc ?_ _)); exact BK549.out) : p := h
theorem b35_ {p : Prop} (h : p := by (with_reducible repeat (first | refine blk_drewN ?_ _ | refine blk_drew ?_ | refine blk_alloc ?_ _)); refine blk_far ?_ NB550_561.out _; (with_reducible repeat (first | refine blk_drewN ?_ _ | refine blk_drew ?_ | refine blk_alloc ?_ _)); refine blk_far ?_ NB550_561.out _; (with_reducible repeat (first | refine blk_drewN ?_ _ | refine blk_drew ?_ | refine blk_alloc ?_ _)); refine blk_far ?_ NB550_561.out _; (with_reducible repeat (first | refine blk_drewN ?_ _ | refine blk_drew ?_ | refine blk_alloc ?_ _)); refine blk_far ?_ NB550_561.out _; (with_reducible repeat (first | refine blk_drewN ?_ _ | refine blk_drew ?_ | refine blk_alloc ?_ _)); exact BK550.out) : p := h
theorem b36_ {p : Prop} (h : p := by repeat (first | (with_reducible first | exact HK.out | apply KeepBut.set_ | apply keep_drewN | apply keep_drew | apply keep_alloc | refine keep_far ?_ GW278.out _) | exact HK.out)) : p := h
theorem b37_ {p : Prop} (h : p := by (with_reducible repeat (first | refine blk_drewN ?_ _ | refine blk_drew ?_ | refine blk_alloc ?_ _)); refine blk_far ?_ NB372_380.out _; (with_reducible repeat (first | refine blk_drewN ?_ _ | refine blk_drew ?_ | refine blk_alloc ?_ _)); refine blk_far ?_ NB372_380.out _; (with_reducible repeat (first | refine blk_drewN ?_ _ | refine blk_drew ?_ | refine blk_alloc ?_ _)); exact BK372.out) : p := h
theorem b38_ {p : Prop} (h : p := by repeat (first | (with_reducible first | exact HB.out | apply below_alloc | apply pw_below_drewN | apply below_drew1 | refine below_set ?_ (IsS114.ge HI0.out) | refine below_set ?_ GE347.out | refine below_set ?_ GE354.out) | exact HB.out)) : p := h
theorem b39_ {p : Prop} (h : p := by repeat (first | (with_reducible first | exact HB.out | apply below_alloc | apply pw_below_drewN | apply below_drew1 | refine below_set ?_ (IsS114.ge HI426.out) | refine below_set ?_ GE422.out | refine below_set ?_ GE423.out | refine below_set ?_ GE434.out) | exact HB.out)) : p := h
theorem b40_ {p : Prop} (h : p := by (with_reducible repeat (first | refine blk_drewN ?_ _ | refine blk_drew ?_ | refine blk_alloc ?_ _)); refine blk_put (cs := #[.slice none 0 0, .slice none 0 0, .bool false, .slice none 0 0]) ?_ 3 _ rfl; (with_reducible repeat (first | refine blk_drewN ?_ _ | refine blk_drew ?_ | refine blk_alloc ?_ _)); refine blk_put (cs := #[.slice none 0 0, .slice none 0 0, .bool false, .slice none 0 0]) ?_ 2 _ rfl; (with_reducible repeat (first | refine blk_drewN ?_ _ | refine blk_drew ?_ | refine blk_alloc ?_ _)); refine blk_put (cs := #[.slice none 0 0, .slice none 0 0, .bool false, .slice none 0 0]) ?_ 1 _ rfl; (with_reducible repeat (first | refine blk_drewN ?_ _ | refine blk_drew ?_ | refine blk_alloc ?_ _)); refine blk_put (cs := #[.slice none 0 0, .slice none 0 0, .bool false, .slice none 0 0]) ?_ 0 _ rfl; (with_reducible repeat (first | refine blk_drewN ?_ _ | refine blk_drew ?_ | refine blk_alloc ?_ _)); exact BK129.out) : p := h
theorem b41_ {p : Prop} (h : p := by repeat (first | (with_reducible first | exact HI0.out | apply IsS114.alloc | apply IsS114.drewN | apply IsS114.drew | apply IsS114.set_1 | refine IsS114.far ?_ NB0_347.out _ | refine IsS114.far ?_ NB0_354.out _) | exact HI0.out)) : p := h
theorem b42_ {p : Prop} (h : p := by rw [hg]; exact (below_size (by repeat (first | (with_reducible first | exact HB.out | apply below_alloc | apply pw_below_drewN | apply below_drew1 | refine below_set ?_ GE490.out | refine below_set ?_ GE491.out | refine below_set ?_ GE492.out | refine below_set ?_ GE504.out) | exact HB.out)))) : p := h
theorem b43_ {p : Prop} (h : p := by rw [hg]; exact (below_size (by repeat (first | (with_reducible first | exact HB.out | apply below_alloc | apply pw_below_drewN | apply below_drew1 | refine below_set ?_ GE549.out | refine below_set ?_ GE550.out | refine below_set ?_ GE561.out | refine below_set ?_ GE593.out) | exact HB.out)))) : p := h
theorem b44_ {p : Prop} (h : p := by rw [if_pos rfl] at H; exact H) : p := h
theorem b45_ {p : Prop} (h : p := by first | exact Kd.R_nil _ _ _ _ _ | exact Kd.N_nil _ _ _ _ _ | exact Kd.V_nil _ _ _ _ _ | exact Kd.Q_nil _ _ _ _ _ | exact Kd.S_nil _ _ _ _ _) : p := h
theorem b46_ {p : Prop} (h : p := by repeat (first | (with_reducible first | exact HB.out | apply below_alloc | apply pw_below_drewN | apply below_drew1 | refine below_set ?_ (IsS114.ge HI0.out) | refine below_set ?_ GE278.out) | exact HB.out)) : p := h
theorem b47_ {p : Prop} (h : p := by repeat (first | (with_reducible first | exact HB.out | apply below_alloc | apply pw_below_drewN | apply below_drew1 | refine below_set ?_ GE549.out | refine below_set ?_ GE550.out | refine below_set ?_ GE561.out | refine below_set ?_ GE593.out | refine below_set ?_ GE611.out | refine below_set ?_ GE622.out) | exact HB.out)) : p := h
theorem b48_ {p : Prop} (h : p := by repeat (first | (with_reducible first | exact HI0.out | apply IsS114.alloc | apply IsS114.drewN | apply IsS114.drew | apply IsS114.set_1 | refine IsS114.far ?_ NB0_278.out _) | exact HI0.out)) : p := h
theorem b49_ {p : Prop} (h : p := by rw [hg]; exact Nat.ne_of_lt (IsS114.lt (show IsS114 w0 _ g s0_0 t353 from by repeat (first | (with_reducible first | exact HI0.out | apply IsS114.alloc | apply IsS114.drewN | apply IsS114.drew | apply IsS114.set_1 | refine IsS114.far ?_ NB0_347.out _) | exact HI0.out)))) : p := h
theorem b50_ {p : Prop} (h : p := by rw [hg]; exact Nat.ne_of_gt (IsS114.lt (show IsS114 w0 _ g s0_0 t353 from by repeat (first | (with_reducible first | exact HI0.out | apply IsS114.alloc | apply IsS114.drewN | apply IsS114.drew | apply IsS114.set_1 | refine IsS114.far ?_ NB0_347.out _) | exact HI0.out)))) : p := h
theorem b51_ {p : Prop} (h : p := by rw [hg]; exact Nat.ne_of_lt (IsS114.lt (show IsS114 w0 _ g s0_0 t379 from by repeat (first | (with_reducible first | exact HI0.out | apply IsS114.alloc | apply IsS114.drewN | apply IsS114.drew | apply IsS114.set_1 | refine IsS114.far ?_ NB0_372.out _) | exact HI0.out)))) : p := h
theorem b52_ {p : Prop} (h : p := by rw [hg]; exact Nat.ne_of_gt (IsS114.lt (show IsS114 w0 _ g s0_0 t379 from by repeat (first | (with_reducible first | exact HI0.out | apply IsS114.alloc | apply IsS114.drewN | apply IsS114.drew | apply IsS114.set_1 | refine IsS114.far ?_ NB0_372.out _) | exact HI0.out)))) : p := h
theorem b53_ {p : Prop} (h : p := by simp only [putAll, Act.put, List.setIfInBounds_toArray, List.set_cons_zero, List.set_cons_succ]) : p := h
theorem b54_ {p : Prop} (h : p := by (with_reducible repeat (first | refine blk_drewN ?_ _ | refine blk_drew ?_ | refine blk_alloc ?_ _)); refine blk_far ?_ NB126_129.out _; (with_reducible repeat (first | refine blk_drewN ?_ _ | refine blk_drew ?_ | refine blk_alloc ?_ _)); refine blk_far ?_ NB126_129.out _; (with_reducible repeat (first | refine blk_drewN ?_ _ | refine blk_drew ?_ | refine blk_alloc ?_ _)); refine blk_far ?_ NB126_129.out _; (with_reducible repeat (first | refine blk_drewN ?_ _ | refine blk_drew ?_ | refine blk_alloc ?_ _)); refine blk_far ?_ NB126_129.out _; (with_reducible repeat (first | refine blk_drewN ?_ _ | refine blk_drew ?_ | refine blk_alloc ?_ _)); exact BK126.out) : p := h
theorem b55_ {p : Prop} (h : p := by (with_reducible repeat (first | refine blk_drewN ?_ _ | refine blk_drew ?_ | refine blk_alloc ?_ _)); refine blk_far ?_ NB127_129.out _; (with_reducible repeat (first | refine blk_drewN ?_ _ | refine blk_drew ?_ | refine blk_alloc ?_ _)); refine blk_far ?_ NB127_129.out _; (with_reducible repeat (first | refine blk_drewN ?_ _ | refine blk_drew ?_ | refine blk_alloc ?_ _)); refine blk_far ?_ NB127_129.out _; (with_reducible repeat (first | refine blk_drewN ?_ _ | refine blk_drew ?_ | refine blk_alloc ?_ _)); refine blk_far ?_ NB127_129.out _; (with_reducible repeat (first | refine blk_drewN ?_ _ | refine blk_drew ?_ | refine blk_alloc ?_ _)); exact BK127.out) : p := h
theorem b56_ {p : Prop} (h : p := by (with_reducible repeat (first | refine blk_drewN ?_ _ | refine blk_drew ?_ | refine blk_alloc ?_ _)); refine blk_far ?_ NB128_129.out _; (with_reducible repeat (first | refine blk_drewN ?_ _ | refine blk_drew ?_ | refine blk_alloc ?_ _)); refine blk_far ?_ NB128_129.out _; (with_reducible repeat (first | refine blk_drewN ?_ _ | refine blk_drew ?_ | refine blk_alloc ?_ _)); refine blk_far ?_ NB128_129.out _; (with_reducible repeat (first | refine blk_drewN ?_ _ | refine blk_drew ?_ | refine blk_alloc ?_ _)); refine blk_far ?_ NB128_129.out _; (with_reducible repeat (first | refine blk_drewN ?_ _ | refine blk_drew ?_ | refine blk_alloc ?_ _)); exact BK128.out) : p := h
theorem b57_ {p : Prop} (h : p := by (with_reducible repeat (first | refine blk_drewN ?_ _ | refine blk_drew ?_ | refine blk_alloc ?_ _)); refine blk_far ?_ NB490_514.out _; (with_reducible repeat (first | refine blk_drewN ?_ _ | refine blk_drew ?_ | refine blk_alloc ?_ _)); refine blk_far ?_ NB490_514.out _; (with_reducible repeat (first | refine blk_drewN ?_ _ | refine blk_drew ?_ | refine blk_alloc ?_ _)); exact BK490.out) : p := h
theorem b58_ {p : Prop} (h : p := by (with_reducible repeat (first | refine blk_drewN ?_ _ | refine blk_drew ?_ | refine blk_alloc ?_ _)); refine blk_far ?_ NB491_514.out _; (with_reducible repeat (first | refine blk_drewN ?_ _ | refine blk_drew ?_ | refine blk_alloc ?_ _)); refine blk_far ?_ NB491_514.out _; (with_reducible repeat (first | refine blk_drewN ?_ _ | refine blk_drew ?_ | refine blk_alloc ?_ _)); exact BK491.out) : p := h
theorem b59_ {p : Prop} (h : p := by (with_reducible repeat (first | refine blk_drewN ?_ _ | refine blk_drew ?_ | refine blk_alloc ?_ _)); refine blk_far ?_ NB492_514.out _; (with_reducible repeat (first | refine blk_drewN ?_ _ | refine blk_drew ?_ | refine blk_alloc ?_ _)); refine blk_far ?_ NB492_514.out _; (with_reducible repeat (first | refine blk_drewN ?_ _ | refine blk_drew ?_ | refine blk_alloc ?_ _)); exact BK492.out) : p := h
theorem b60_ {p : Prop} (h : p := by (with_reducible repeat (first | refine blk_drewN ?_ _ | refine blk_drew ?_ | refine blk_alloc ?_ _)); refine blk_far ?_ NB504_514.out _; (with_reducible repeat (first | refine blk_drewN ?_ _ | refine blk_drew ?_ | refine blk_alloc ?_ _)); refine blk_far ?_ NB504_514.out _; (with_reducible repeat (first | refine blk_drewN ?_ _ | refine blk_drew ?_ | refine blk_alloc ?_ _)); exact BK504.out) : p := h
theorem b61_ {p : Prop} (h : p := by rw [hg]; exact Nat.ne_of_lt (blk_lt (g := gb347) (o := .cells #[.string (⟨#[]⟩ : ByteArray), .bool false, .string (⟨#[]⟩ : ByteArray), .string (⟨#[]⟩ : ByteArray), .string (⟨#[]⟩ : ByteArray)] 73 (0, 0)) (bq BK347.out))) : p := h
theorem b62_ {p : Prop} (h : p := by rw [hg]; exact Nat.ne_of_gt (blk_lt (g := gb347) (o := .cells #[.string (⟨#[]⟩ : ByteArray), .bool false, .string (⟨#[]⟩ : ByteArray), .string (⟨#[]⟩ : ByteArray), .string (⟨#[]⟩ : ByteArray)] 73 (0, 0)) (bq BK347.out))) : p := h
theorem b63_ {p : Prop} (h : p := by rw [hg]; exact (below_size (by repeat (first | (with_reducible first | exact HB.out | apply below_alloc | apply pw_below_drewN | apply below_drew1 | refine below_set ?_ (IsS114.ge HI426.out) | refine below_set ?_ GE422.out | refine below_set ?_ GE423.out) | exact HB.out)))) : p := h
theorem b64_ {p : Prop} (h : p := by (with_reducible repeat (first | refine blk_drewN ?_ _ | refine blk_drew ?_ | refine blk_alloc ?_ _)); refine blk_put (cs := #[.string ((rd_T66 l0_1 x26_2).f0), .string (⟨#[]⟩ : ByteArray)]) ?_ 1 _ rfl; (with_reducible repeat (first | refine blk_drewN ?_ _ | refine blk_drew ?_ | refine blk_alloc ?_ _)); refine blk_put (cs := #[.string (⟨#[]⟩ : ByteArray), .string (⟨#[]⟩ : ByteArray)]) ?_ 0 _ rfl; (with_reducible repeat (first | refine blk_drewN ?_ _ | refine blk_drew ?_ | refine blk_alloc ?_ _)); exact BK212.out) : p := h
theorem b65_ {p : Prop} (h : p := by (with_reducible repeat (first | refine blk_drewN ?_ _ | refine blk_drew ?_ | refine blk_alloc ?_ _)); refine blk_put (cs := #[.string ((rd_T66 l1_1 x47_3).f0), .string (⟨#[]⟩ : ByteArray)]) ?_ 1 _ rfl; (with_reducible repeat (first | refine blk_drewN ?_ _ | refine blk_drew ?_ | refine blk_alloc ?_ _)); refine blk_put (cs := #[.string (⟨#[]⟩ : ByteArray), .string (⟨#[]⟩ : ByteArray)]) ?_ 0 _ rfl; (with_reducible repeat (first | refine blk_drewN ?_ _ | refine blk_drew ?_ | refine blk_alloc ?_ _)); exact BK218.out) : p := h
theorem b66_ {p : Prop} (h : p := by (with_reducible repeat (first | refine blk_drewN ?_ _ | refine blk_drew ?_ | refine blk_alloc ?_ _)); refine blk_put (cs := #[.string ((rd_T66 l0_1 x44_3).f0), .string (⟨#[]⟩ : ByteArray)]) ?_ 1 _ rfl; (with_reducible repeat (first | refine blk_drewN ?_ _ | refine blk_drew ?_ | refine blk_alloc ?_ _)); refine blk_put (cs := #[.string (⟨#[]⟩ : ByteArray), .string (⟨#[]⟩ : ByteArray)]) ?_ 0 _ rfl; (with_reducible repeat (first | refine blk_drewN ?_ _ | refine blk_drew ?_ | refine blk_alloc ?_ _)); exact BK514.out) : p := h
theorem b67_ {p : Prop} (h : p := by repeat (first | (with_reducible first | exact HB.out | apply below_alloc | apply pw_below_drewN | apply below_drew1 | refine below_set ?_ (IsS114.ge HI0.out) | refine below_set ?_ GE347.out) | exact HB.out)) : p := h
theorem b68_ {p : Prop} (h : p := by repeat (first | (with_reducible first | exact HB.out | apply below_alloc | apply pw_below_drewN | apply below_drew1 | refine below_set ?_ (IsS114.ge HI0.out) | refine below_set ?_ GE372.out) | exact HB.out)) : p := h
theorem b69_ {p : Prop} (h : p := by rw [hg]; exact Nat.ne_of_lt (blk_lt (g := gb491) (o := .cells #[.slice A1_0 l1_0.length c1_0, .slice A1_1 l1_1.length c1_1, .bool a1_2, .slice A1_3 l1_3.length c1_3] 31 (0, 0)) (bq BK491.out))) : p := h
theorem b70_ {p : Prop} (h : p := by rw [hg]; exact Nat.ne_of_gt (blk_lt (g := gb491) (o := .cells #[.slice A1_0 l1_0.length c1_0, .slice A1_1 l1_1.length c1_1, .bool a1_2, .slice A1_3 l1_3.length c1_3] 31 (0, 0)) (bq BK491.out))) : p := h
theorem b71_ {p : Prop} (h : p := by rw [hg]; exact Nat.ne_of_lt (blk_lt (g := gb561) (o := .cells #[.slice Ao18 t551.length co18, .slice Ao22 t554.length co22, .bool t557, .slice Ao23 t558.length co23] 31 (0, 0)) (bq BK561.out))) : p := h
theorem b72_ {p : Prop} (h : p := by rw [hg]; exact Nat.ne_of_gt (blk_lt (g := gb561) (o := .cells #[.slice Ao18 t551.length co18, .slice Ao22 t554.length co22, .bool t557, .slice Ao23 t558.length co23] 31 (0, 0)) (bq BK561.out))) : p := h
theorem b73_ {p : Prop} (h : p := by repeat (first | (with_reducible first | exact HI0.out | apply IsS114.alloc | apply IsS114.drewN | apply IsS114.drew | apply IsS114.set_1 | refine IsS114.far ?_ NB0_347.out _) | exact HI0.out)) : p := h
theorem b74_ {p : Prop} (h : p := by repeat (first | (with_reducible first | exact HI0.out | apply IsS114.alloc | apply IsS114.drewN | apply IsS114.drew | apply IsS114.set_1 | refine IsS114.far ?_ NB0_372.out _) | exact HI0.out)) : p := h
theorem b75_ {p : Prop} (h : p := by rw [hg]; exact Nat.ne_of_lt (blk_lt (g := gb550) (o := .cells #[.slice Ao13 t543.length co13, .slice Ao15 t546.length co15] 34 (0, 0)) (bq BK550.out))) : p := h
theorem b76_ {p : Prop} (h : p := by rw [hg]; exact Nat.ne_of_gt (blk_lt (g := gb550) (o := .cells #[.slice Ao13 t543.length co13, .slice Ao15 t546.length co15] 34 (0, 0)) (bq BK550.out))) : p := h
theorem b77_ {p : Prop} (h : p := by repeat (first | (with_reducible first | exact HK.out | apply KeepBut.set_ | apply keep_drewN | apply keep_drew | apply keep_alloc | refine keep_far ?_ GW316.out _) | exact HK.out)) : p := h
theorem b78_ {p : Prop} (h : p := by rw [hg]; exact Nat.ne_of_lt (blk_lt (g := gb549) (o := .cells #[.slice Ao9 t537.length co9, .slice Ao12 t540.length co12] 34 (0, 0)) (bq BK549.out))) : p := h
theorem b79_ {p : Prop} (h : p := by rw [hg]; exact Nat.ne_of_gt (blk_lt (g := gb549) (o := .cells #[.slice Ao9 t537.length co9, .slice Ao12 t540.length co12] 34 (0, 0)) (bq BK549.out))) : p := h
theorem b80_ {p : Prop} (h : p := by rw [← hq_]; exact (by repeat (first | (with_reducible first | exact HB.out | apply below_alloc | apply pw_below_drewN | apply below_drew1 | refine below_set ?_ GE126.out | refine below_set ?_ GE127.out | refine below_set ?_ GE128.out | refine below_set ?_ GE129.out) | exact HB.out))) : p := h
theorem b81_ {p : Prop} (h : p := by first | omega | exact Nat.le_refl _) : p := h
theorem b82_ {p : Prop} (h : p := by (with_reducible repeat (first | refine blk_drewN ?_ _ | refine blk_drew ?_ | refine blk_alloc ?_ _)); refine blk_far ?_ NB196_212.out _; (with_reducible repeat (first | refine blk_drewN ?_ _ | refine blk_drew ?_ | refine blk_alloc ?_ _)); refine blk_far ?_ NB196_212.out _; (with_reducible repeat (first | refine blk_drewN ?_ _ | refine blk_drew ?_ | refine blk_alloc ?_ _)); exact BK196.out) : p := h
theorem b83_ {p : Prop} (h : p := by (with_reducible repeat (first | refine blk_drewN ?_ _ | refine blk_drew ?_ | refine blk_alloc ?_ _)); refine blk_far ?_ NB197_212.out _; (with_reducible repeat (first | refine blk_drewN ?_ _ | refine blk_drew ?_ | refine blk_alloc ?_ _)); refine blk_far ?_ NB197_212.out _; (with_reducible repeat (first | refine blk_drewN ?_ _ | refine blk_drew ?_ | refine blk_alloc ?_ _)); exact BK197.out) : p := h
theorem b84_ {p : Prop} (h : p := by (with_reducible repeat (first | refine blk_drewN ?_ _ | refine blk_drew ?_ | refine blk_alloc ?_ _)); refine blk_far ?_ NB198_212.out _; (with_reducible repeat (first | refine blk_drewN ?_ _ | refine blk_drew ?_ | refine blk_alloc ?_ _)); refine blk_far ?_ NB198_212.out _; (with_reducible repeat (first | refine blk_drewN ?_ _ | refine blk_drew ?_ | refine blk_alloc ?_ _)); exact BK198.out) : p := h
theorem b85_ {p : Prop} (h : p := by (with_reducible repeat (first | refine blk_drewN ?_ _ | refine blk_drew ?_ | refine blk_alloc ?_ _)); refine blk_far ?_ NB210_212.out _; (with_reducible repeat (first | refine blk_drewN ?_ _ | refine blk_drew ?_ | refine blk_alloc ?_ _)); refine blk_far ?_ NB210_212.out _; (with_reducible repeat (first | refine blk_drewN ?_ _ | refine blk_drew ?_ | refine blk_alloc ?_ _)); exact BK210.out) : p := h
theorem b86_ {p : Prop} (h : p := by (with_reducible repeat (first | refine blk_drewN ?_ _ | refine blk_drew ?_ | refine blk_alloc ?_ _)); refine blk_far ?_ NB196_218.out _; (with_reducible repeat (first | refine blk_drewN ?_ _ | refine blk_drew ?_ | refine blk_alloc ?_ _)); refine blk_far ?_ NB196_218.out _; (with_reducible repeat (first | refine blk_drewN ?_ _ | refine blk_drew ?_ | refine blk_alloc ?_ _)); exact BK196.out) : p := h
theorem b87_ {p : Prop} (h : p := by (with_reducible repeat (first | refine blk_drewN ?_ _ | refine blk_drew ?_ | refine blk_alloc ?_ _)); refine blk_far ?_ NB197_218.out _; (with_reducible repeat (first | refine blk_drewN ?_ _ | refine blk_drew ?_ | refine blk_alloc ?_ _)); refine blk_far ?_ NB197_218.out _; (with_reducible repeat (first | refine blk_drewN ?_ _ | refine blk_drew ?_ | refine blk_alloc ?_ _)); exact BK197.out) : p := h
theorem b88_ {p : Prop} (h : p := by (with_reducible repeat (first | refine blk_drewN ?_ _ | refine blk_drew ?_ | refine blk_alloc ?_ _)); refine blk_far ?_ NB198_218.out _; (with_reducible repeat (first | refine blk_drewN ?_ _ | refine blk_drew ?_ | refine blk_alloc ?_ _)); refine blk_far ?_ NB198_218.out _; (with_reducible repeat (first | refine blk_drewN ?_ _ | refine blk_drew ?_ | refine blk_alloc ?_ _)); exact BK198.out) : p := h
theorem b89_ {p : Prop} (h : p := by (with_reducible repeat (first | refine blk_drewN ?_ _ | refine blk_drew ?_ | refine blk_alloc ?_ _)); refine blk_far ?_ NB210_218.out _; (with_reducible repeat (first | refine blk_drewN ?_ _ | refine blk_drew ?_ | refine blk_alloc ?_ _)); refine blk_far ?_ NB210_218.out _; (with_reducible repeat (first | refine blk_drewN ?_ _ | refine blk_drew ?_ | refine blk_alloc ?_ _)); exact BK210.out) : p := h
theorem b90_ {p : Prop} (h : p := by (with_reducible repeat (first | refine blk_drewN ?_ _ | refine blk_drew ?_ | refine blk_alloc ?_ _)); refine blk_far ?_ NB422_434.out _; (with_reducible repeat (first | refine blk_drewN ?_ _ | refine blk_drew ?_ | refine blk_alloc ?_ _)); refine blk_far ?_ NB422_434.out _; (with_reducible repeat (first | refine blk_drewN ?_ _ | refine blk_drew ?_ | refine blk_alloc ?_ _)); exact BK422.out) : p := h
theorem b91_ {p : Prop} (h : p := by (with_reducible repeat (first | refine blk_drewN ?_ _ | refine blk_drew ?_ | refine blk_alloc ?_ _)); refine blk_far ?_ NB423_434.out _; (with_reducible repeat (first | refine blk_drewN ?_ _ | refine blk_drew ?_ | refine blk_alloc ?_ _)); refine blk_far ?_ NB423_434.out _; (with_reducible repeat (first | refine blk_drewN ?_ _ | refine blk_drew ?_ | refine blk_alloc ?_ _)); exact BK423.out) : p := h
theorem b92_ {p : Prop} (h : p := by rw [hg]; exact Nat.ne_of_lt (blk_lt (g := gb198) (o := .cells #[.slice none 0 0, .slice none 0 0, .bool false, .slice none 0 0] 31 (0, 0)) (bq BK198.out))) : p := h
theorem b93_ {p : Prop} (h : p := by rw [hg]; exact Nat.ne_of_gt (blk_lt (g := gb198) (o := .cells #[.slice none 0 0, .slice none 0 0, .bool false, .slice none 0 0] 31 (0, 0)) (bq BK198.out))) : p := h
theorem b94_ {p : Prop} (h : p := by (with_reducible repeat (first | refine blk_drewN ?_ _ | refine blk_drew ?_ | refine blk_alloc ?_ _)); refine blk_far ?_ NB196_210.out _; (with_reducible repeat (first | refine blk_drewN ?_ _ | refine blk_drew ?_ | refine blk_alloc ?_ _)); exact BK196.out) : p := h
theorem b95_ {p : Prop} (h : p := by (with_reducible repeat (first | refine blk_drewN ?_ _ | refine blk_drew ?_ | refine blk_alloc ?_ _)); refine blk_far ?_ NB197_210.out _; (with_reducible repeat (first | refine blk_drewN ?_ _ | refine blk_drew ?_ | refine blk_alloc ?_ _)); exact BK197.out) : p := h
theorem b96_ {p : Prop} (h : p := by (with_reducible repeat (first | refine blk_drewN ?_ _ | refine blk_drew ?_ | refine blk_alloc ?_ _)); refine blk_far ?_ NB198_210.out _; (with_reducible repeat (first | refine blk_drewN ?_ _ | refine blk_drew ?_ | refine blk_alloc ?_ _)); exact BK198.out) : p := h
theorem b97_ {p : Prop} (h : p := by (with_reducible repeat (first | refine blk_drewN ?_ _ | refine blk_drew ?_ | refine blk_alloc ?_ _)); refine blk_far ?_ NB490_504.out _; (with_reducible repeat (first | refine blk_drewN ?_ _ | refine blk_drew ?_ | refine blk_alloc ?_ _)); exact BK490.out) : p := h
theorem b98_ {p : Prop} (h : p := by (with_reducible repeat (first | refine blk_drewN ?_ _ | refine blk_drew ?_ | refine blk_alloc ?_ _)); refine blk_far ?_ NB491_504.out _; (with_reducible repeat (first | refine blk_drewN ?_ _ | refine blk_drew ?_ | refine blk_alloc ?_ _)); exact BK491.out) : p := h
theorem b99_ {p : Prop} (h : p := by (with_reducible repeat (first | refine blk_drewN ?_ _ | refine blk_drew ?_ | refine blk_alloc ?_ _)); refine blk_far ?_ NB492_504.out _; (with_reducible repeat (first | refine blk_drewN ?_ _ | refine blk_drew ?_ | refine blk_alloc ?_ _)); exact BK492.out) : p := h
theorem b100_ {p : Prop} (h : p := by (with_reducible repeat (first | refine blk_drewN ?_ _ | refine blk_drew ?_ | refine blk_alloc ?_ _)); refine blk_far ?_ NB126_129.out _; (with_reducible repeat (first | refine blk_drewN ?_ _ | refine blk_drew ?_ | refine blk_alloc ?_ _)); exact BK126.out) : p := h
theorem b101_ {p : Prop} (h : p := by (with_reducible repeat (first | refine blk_drewN ?_ _ | refine blk_drew ?_ | refine blk_alloc ?_ _)); refine blk_far ?_ NB127_129.out _; (with_reducible repeat (first | refine blk_drewN ?_ _ | refine blk_drew ?_ | refine blk_alloc ?_ _)); exact BK127.out) : p := h
theorem b102_ {p : Prop} (h : p := by (with_reducible repeat (first | refine blk_drewN ?_ _ | refine blk_drew ?_ | refine blk_alloc ?_ _)); refine blk_far ?_ NB128_129.out _; (with_reducible repeat (first | refine blk_drewN ?_ _ | refine blk_drew ?_ | refine blk_alloc ?_ _)); exact BK128.out) : p := h
theorem b103_ {p : Prop} (h : p := by rw [hg]; exact Nat.ne_of_lt (blk_lt (g := gb196) (o := .cells #[.slice A0_0 l0_0.length c0_0, .slice A0_1 l0_1.length c0_1] 34 (0, 0)) (bq BK196.out))) : p := h
theorem b104_ {p : Prop} (h : p := by rw [hg]; exact Nat.ne_of_gt (blk_lt (g := gb196) (o := .cells #[.slice A0_0 l0_0.length c0_0, .slice A0_1 l0_1.length c0_1] 34 (0, 0)) (bq BK196.out))) : p := h
theorem b105_ {p : Prop} (h : p := by repeat (first | (with_reducible first | exact HK.out | apply KeepBut.set_ | apply keep_drewN | apply keep_drew | apply keep_alloc | refine keep_far ?_ GW260.out _) | exact HK.out)) : p := h
theorem b106_ {p : Prop} (h : p := by repeat (first | (with_reducible first | exact HK.out | apply KeepBut.set_ | apply keep_drewN | apply keep_drew | apply keep_alloc | refine keep_far ?_ GW310.out _) | exact HK.out)) : p := h
theorem b107_ {p : Prop} (h : p := by rw [hg]; exact Nat.ne_of_lt (IsS114.lt (show IsS114 w0 _ g s0_0 t277 from by repeat (first | (with_reducible first | exact HI0.out | apply IsS114.alloc | apply IsS114.drewN | apply IsS114.drew | apply IsS114.set_1) | exact HI0.out)))) : p := h
theorem b108_ {p : Prop} (h : p := by rw [hg]; exact Nat.ne_of_gt (IsS114.lt (show IsS114 w0 _ g s0_0 t277 from by repeat (first | (with_reducible first | exact HI0.out | apply IsS114.alloc | apply IsS114.drewN | apply IsS114.drew | apply IsS114.set_1) | exact HI0.out)))) : p := h
theorem b109_ {p : Prop} (h : p := by rw [hg]; exact (below_size (by repeat (first | (with_reducible first | exact HBW.out | apply below_alloc | apply pw_below_drewN | apply below_drew1) | exact HBW.out)))) : p := h
theorem b110_ {p : Prop} (h : p := by rw [hg]; exact (below_size (by repeat (first | (with_reducible first | exact HB.out | apply below_alloc | apply pw_below_drewN | apply below_drew1 | refine below_set ?_ GE549.out | refine below_set ?_ GE550.out | refine below_set ?_ GE561.out | refine below_set ?_ GE593.out | refine below_set ?_ GE611.out) | exact HB.out)))) : p := h
theorem b111_ {p : Prop} (h : p := by rw [hg]; exact Nat.ne_of_lt (IsS114.lt (show IsS114 w _ g426 t424 t433 from by repeat (first | (with_reducible first | exact HI426.out | apply IsS114.alloc | apply IsS114.drewN | apply IsS114.drew | apply IsS114.set_1 | refine IsS114.far ?_ NB426_422.out _ | refine IsS114.far ?_ NB426_423.out _) | exact HI426.out)))) : p := h
theorem b112_ {p : Prop} (h : p := by rw [hg]; exact Nat.ne_of_gt (IsS114.lt (show IsS114 w _ g426 t424 t433 from by repeat (first | (with_reducible first | exact HI426.out | apply IsS114.alloc | apply IsS114.drewN | apply IsS114.drew | apply IsS114.set_1 | refine IsS114.far ?_ NB426_422.out _ | refine IsS114.far ?_ NB426_423.out _) | exact HI426.out)))) : p := h
theorem b113_ {p : Prop} (h : p := by rw [hg]; exact Nat.ne_of_lt (blk_lt (g := gb372) (o := .cells #[.slice none 0 0, .slice none 0 0] 34 (0, 0)) (bq BK372.out))) : p := h
theorem b114_ {p : Prop} (h : p := by rw [hg]; exact Nat.ne_of_gt (blk_lt (g := gb372) (o := .cells #[.slice none 0 0, .slice none 0 0] 34 (0, 0)) (bq BK372.out))) : p := h
theorem b115_ {p : Prop} (h : p := by rw [hg]; exact Nat.ne_of_lt (blk_lt (g := gb197) (o := .cells #[.slice A1_0 l1_0.length c1_0, .slice A1_1 l1_1.length c1_1] 34 (0, 0)) (bq BK197.out))) : p := h
theorem b116_ {p : Prop} (h : p := by rw [hg]; exact Nat.ne_of_gt (blk_lt (g := gb197) (o := .cells #[.slice A1_0 l1_0.length c1_0, .slice A1_1 l1_1.length c1_1] 34 (0, 0)) (bq BK197.out))) : p := h
theorem b117_ {p : Prop} (h : p := by rw [hg]; exact Nat.ne_of_lt (blk_lt (g := gb593) (o := .cells #[.slice Ao75 t586.length co75, .slice Ao80 t589.length co80] 34 (0, 0)) (bq BK593.out))) : p := h
theorem b118_ {p : Prop} (h : p := by rw [hg]; exact Nat.ne_of_gt (blk_lt (g := gb593) (o := .cells #[.slice Ao75 t586.length co75, .slice Ao80 t589.length co80] 34 (0, 0)) (bq BK593.out))) : p := h
theorem b119_ {p : Prop} (h : p := by (with_reducible repeat (first | refine blk_drewN ?_ _ | refine blk_drew ?_ | refine blk_alloc ?_ _)); refine blk_put (cs := #[.slice Ao35 y498.length co35, u505001]) ?_ 1 _ rfl; (with_reducible repeat (first | refine blk_drewN ?_ _ | refine blk_drew ?_ | refine blk_alloc ?_ _)); exact BK504.out) : p := h
theorem b120_ {p : Prop} (h : p := by rw [hg]; exact Nat.ne_of_lt (blk_lt (g := gb458) (o := .cells #[.slice A0_0 l0_0.length c0_0, .slice A0_1 l0_1.length c0_1, .bool a0_2, .slice A0_3 l0_3.length c0_3] 31 (0, 0)) (bq BK458.out))) : p := h
theorem b121_ {p : Prop} (h : p := by rw [hg]; exact Nat.ne_of_gt (blk_lt (g := gb458) (o := .cells #[.slice A0_0 l0_0.length c0_0, .slice A0_1 l0_1.length c0_1, .bool a0_2, .slice A0_3 l0_3.length c0_3] 31 (0, 0)) (bq BK458.out))) : p := h
theorem b122_ {p : Prop} (h : p := by rw [← hq_]; exact (by repeat (first | (with_reducible first | exact HB.out | apply below_alloc | apply pw_below_drewN | apply below_drew1 | refine below_set ?_ GE196.out | refine below_set ?_ GE197.out | refine below_set ?_ GE198.out | refine below_set ?_ GE210.out) | exact HB.out))) : p := h
theorem b123_ {p : Prop} (h : p := by repeat (first | (with_reducible first | exact HBW.out | apply below_alloc | apply pw_below_drewN | apply below_drew1) | exact HBW.out)) : p := h
theorem b124_ {p : Prop} (h : p := by rw [hg]; exact Nat.ne_of_lt (blk_lt (g := gb422) (o := .cells #[.slice none 0 0, .slice none 0 0] 34 (0, 0)) (bq BK422.out))) : p := h
theorem b125_ {p : Prop} (h : p := by rw [hg]; exact Nat.ne_of_gt (blk_lt (g := gb422) (o := .cells #[.slice none 0 0, .slice none 0 0] 34 (0, 0)) (bq BK422.out))) : p := h
theorem b126_ {p : Prop} (h : p := by rw [hg]; exact Nat.ne_of_lt (blk_lt (g := gb492) (o := .cells #[.slice none 0 0, .slice none 0 0] 34 (0, 0)) (bq BK492.out))) : p := h
theorem b127_ {p : Prop} (h : p := by rw [hg]; exact Nat.ne_of_gt (blk_lt (g := gb492) (o := .cells #[.slice none 0 0, .slice none 0 0] 34 (0, 0)) (bq BK492.out))) : p := h
theorem b128_ {p : Prop} (h : p := by rw [hg]; exact (keep_size (w := w) (g := g) (row := none) (by repeat (first | (with_reducible first | exact HK.out | apply KeepBut.set_ | apply keep_drewN | apply keep_drew | apply keep_alloc | refine keep_far ?_ GW316.out _) | exact HK.out)))) : p := h
theorem b129_ {p : Prop} (h : p := by have := HK1.out; omega) : p := h
theorem b130_ {p : Prop} (h : p := by rw [hg]; exact Nat.ne_of_lt (blk_lt (g := gb490) (o := .cells #[.slice A0_0 l0_0.length c0_0, .slice (some ad513) l0_1.length c0_1] 34 (0, 0)) (bq BK490.out))) : p := h
theorem b131_ {p : Prop} (h : p := by rw [hg]; exact Nat.ne_of_gt (blk_lt (g := gb490) (o := .cells #[.slice A0_0 l0_0.length c0_0, .slice (some ad513) l0_1.length c0_1] 34 (0, 0)) (bq BK490.out))) : p := h
theorem b132_ {p : Prop} (h : p := by repeat (first | (with_reducible first | exact HI426.out | apply IsS114.alloc | apply IsS114.drewN | apply IsS114.drew | apply IsS114.set_1 | refine IsS114.far ?_ NB426_422.out _ | refine IsS114.far ?_ NB426_423.out _) | exact HI426.out)) : p := h
theorem b133_ {p : Prop} (h : p := by rw [hg]; exact Nat.ne_of_lt (blk_lt (g := gb450) (o := .cells #[.slice A0_0 l0_0.length c0_0, .slice A0_1 l0_1.length c0_1] 34 (0, 0)) (bq BK450.out))) : p := h
theorem b134_ {p : Prop} (h : p := by rw [hg]; exact Nat.ne_of_gt (blk_lt (g := gb450) (o := .cells #[.slice A0_0 l0_0.length c0_0, .slice A0_1 l0_1.length c0_1] 34 (0, 0)) (bq BK450.out))) : p := h
theorem b135_ {p : Prop} (h : p := by rw [hg]; exact Nat.ne_of_lt (blk_lt (g := gb490) (o := .cells #[.slice A0_0 l0_0.length c0_0, .slice A0_1 l0_1.length c0_1] 34 (0, 0)) (bq BK490.out))) : p := h
theorem b136_ {p : Prop} (h : p := by rw [hg]; exact Nat.ne_of_gt (blk_lt (g := gb490) (o := .cells #[.slice A0_0 l0_0.length c0_0, .slice A0_1 l0_1.length c0_1] 34 (0, 0)) (bq BK490.out))) : p := h
theorem b137_ {p : Prop} (h : p := by rw [hg]; exact Nat.ne_of_lt (blk_lt (g := gb126) (o := .cells #[.slice A0_0 l0_0.length c0_0, .slice A0_1 l0_1.length c0_1] 34 (0, 0)) (bq BK126.out))) : p := h
theorem b138_ {p : Prop} (h : p := by rw [hg]; exact Nat.ne_of_gt (blk_lt (g := gb126) (o := .cells #[.slice A0_0 l0_0.length c0_0, .slice A0_1 l0_1.length c0_1] 34 (0, 0)) (bq BK126.out))) : p := h
theorem b139_ {p : Prop} (h : p := by repeat (first | (with_reducible first | exact HB.out | apply below_alloc | apply pw_below_drewN | apply below_drew1 | refine below_set ?_ (IsS114.ge HI0.out) | refine below_set ?_ GE260.out) | exact HB.out)) : p := h
theorem b140_ {p : Prop} (h : p := by repeat (first | (with_reducible first | exact HB.out | apply below_alloc | apply pw_below_drewN | apply below_drew1 | refine below_set ?_ (IsS114.ge HI0.out) | refine below_set ?_ GE310.out) | exact HB.out)) : p := h
theorem b141_ {p : Prop} (h : p := by rw [hg]; exact Nat.ne_of_lt (blk_lt (g := gb504) (o := .cells #[.slice Ao35 y498.length co35, u505001] 34 (0, 0)) (bq BK504.out))) : p := h
theorem b142_ {p : Prop} (h : p := by rw [hg]; exact Nat.ne_of_gt (blk_lt (g := gb504) (o := .cells #[.slice Ao35 y498.length co35, u505001] 34 (0, 0)) (bq BK504.out))) : p := h
theorem b143_ {p : Prop} (h : p := by repeat (first | (with_reducible first | exact HI0.out | apply IsS114.alloc | apply IsS114.drewN | apply IsS114.drew | apply IsS114.set_1 | refine IsS114.far ?_ NB0_260.out _) | exact HI0.out)) : p := h
theorem b144_ {p : Prop} (h : p := by repeat (first | (with_reducible first | exact HI0.out | apply IsS114.alloc | apply IsS114.drewN | apply IsS114.drew | apply IsS114.set_1 | refine IsS114.far ?_ NB0_310.out _) | exact HI0.out)) : p := h
theorem b145_ {p : Prop} (h : p := by rw [hg]; exact Nat.ne_of_lt (blk_lt (g := gb210) (o := .cells #[u211000, .slice Ao32 y204.length co32, .bool false, .slice Ao31 y207.length co31] 31 (0, 0)) (bq BK210.out))) : p := h
theorem b146_ {p : Prop} (h : p := by rw [hg]; exact Nat.ne_of_gt (blk_lt (g := gb210) (o := .cells #[u211000, .slice Ao32 y204.length co32, .bool false, .slice Ao31 y207.length co31] 31 (0, 0)) (bq BK210.out))) : p := h
theorem b147_ {p : Prop} (h : p := by have := HJ2.out; have := HK2.out; have := HK3.out; first | omega | exact Nat.le_refl _) : p := h
theorem b148_ {p : Prop} (h : p := by first | rfl | (simp [errW_none, errW_some] <;> rfl) | (simp only [← hji8]; first | rfl | (simp [errW_none, errW_some] <;> rfl)) | (simp [*, errW_none, errW_some] <;> rfl)) : p := h
theorem b149_ {p : Prop} (h : p := by have := HJ2.out; have := HK2.out; have := HK3.out; omega) : p := h
theorem b150_ {p : Prop} (h : p := by rw [hg]; exact Nat.ne_of_lt (blk_lt (g := gb196) (o := .cells #[.slice A0_0 l0_0.length c0_0, .slice (some ad211) l0_1.length c0_1] 34 (0, 0)) (bq BK196.out))) : p := h
theorem b151_ {p : Prop} (h : p := by rw [hg]; exact Nat.ne_of_gt (blk_lt (g := gb196) (o := .cells #[.slice A0_0 l0_0.length c0_0, .slice (some ad211) l0_1.length c0_1] 34 (0, 0)) (bq BK196.out))) : p := h
theorem b152_ {p : Prop} (h : p := by rw [hg]; exact Nat.ne_of_lt (blk_lt (g := gb197) (o := .cells #[.slice A1_0 l1_0.length c1_0, .slice (some ad217) l1_1.length c1_1] 34 (0, 0)) (bq BK197.out))) : p := h
theorem b153_ {p : Prop} (h : p := by rw [hg]; exact Nat.ne_of_gt (blk_lt (g := gb197) (o := .cells #[.slice A1_0 l1_0.length c1_0, .slice (some ad217) l1_1.length c1_1] 34 (0, 0)) (bq BK197.out))) : p := h
theorem b154_ {p : Prop} (h : p := by have h_ : (0 : Int) < ((t376.length : Int) : Int) := of_decide_eq_true ad; first | exact h_ | (have e_ := (Kd.R_reads' HO378.out).1; omega) | simpa using h_) : p := h
theorem b155_ {p : Prop} (h : p := by rw [hg]; exact Nat.ne_of_lt (blk_lt (g := gb210) (o := .cells #[u211000, u211001, .bool false, .slice Ao31 y207.length co31] 31 (0, 0)) (bq BK210.out))) : p := h
theorem b156_ {p : Prop} (h : p := by rw [hg]; exact Nat.ne_of_gt (blk_lt (g := gb210) (o := .cells #[u211000, u211001, .bool false, .slice Ao31 y207.length co31] 31 (0, 0)) (bq BK210.out))) : p := h
theorem b157_ {p : Prop} (h : p := by rw [hg]; exact Nat.ne_of_lt (blk_lt (g := gb127) (o := .cells #[.slice A1_0 l1_0.length c1_0, .slice A1_1 l1_1.length c1_1] 34 (0, 0)) (bq BK127.out))) : p := h
theorem b158_ {p : Prop} (h : p := by rw [hg]; exact Nat.ne_of_gt (blk_lt (g := gb127) (o := .cells #[.slice A1_0 l1_0.length c1_0, .slice A1_1 l1_1.length c1_1] 34 (0, 0)) (bq BK127.out))) : p := h
theorem b159_ {p : Prop} (h : p := by first | simpa using c3 | (simp at c3 ⊢; omega)) : p := h
theorem b160_ {p : Prop} (h : p := by have := HK1.out; have := HK2.out; omega) : p := h
theorem b161_ {p : Prop} (h : p := by rw [hg]; exact (below_size (bel1 GE450.out))) : p := h
theorem b162_ {p : Prop} (h : p := by rw [hg]; exact (below_size (bel1 GE458.out))) : p := h
theorem b163_ {p : Prop} (h : p := by repeat (first | (with_reducible first | exact HK.out | apply Kept.alloc | apply Kept.drewN | apply Kept.drew) | exact HK.out)) : p := h
theorem b164_ {p : Prop} (h : p := by rw [hg]; exact Nat.ne_of_lt (blk_lt (g := gb423) (o := .cells #[.slice none 0 0, .slice none 0 0] 34 (0, 0)) (bq BK423.out))) : p := h
theorem b165_ {p : Prop} (h : p := by rw [hg]; exact Nat.ne_of_gt (blk_lt (g := gb423) (o := .cells #[.slice none 0 0, .slice none 0 0] 34 (0, 0)) (bq BK423.out))) : p := h
theorem b166_ {p : Prop} (h : p := by have := HJ2.out; have := HK2.out; omega) : p := h
theorem b167_ {p : Prop} (h : p := by have : (0 : Int) < (a0.size : Int) := of_decide_eq_true ad; omega) : p := h
theorem b168_ {p : Prop} (h : p := by rw [hg]; exact (below_size (bel1 GE422.out))) : p := h
-- shrunk

theorem eqA66 (d : Nat) (w : World) (x0 y0 : ByteArray) (x1 y1 : ByteArray) :
  (Op.equalIn (d + 2) 66 (.agg #[.string x0, .string x1]) (.agg #[.string y0, .string y1])).run Try.prog w = .ok (x0.toList == y0.toList && (x1.toList == y1.toList)) w := by
 refine eqA_of Try.underlying66 (by kernel_rfl) ?_
 refine eqf_cons (by rfl) (by go_simp; rfl) (by go_simp; rfl) (by go_simp) ?_
 exact eqf_last (by rfl) (by go_simp; rfl) (by go_simp; rfl) (by go_simp)
-- shrunk

theorem eqA73 (d : Nat) (w : World) (x0 y0 : ByteArray) (x1 y1 : Bool) (x2 y2 : ByteArray) (x3 y3 : ByteArray) (x4 y4 : ByteArray) :
  (Op.equalIn (d + 2) 73 (.agg #[.string x0, .bool x1, .string x2, .string x3, .string x4]) (.agg #[.string y0, .bool y1, .string y2, .string y3, .string y4])).run Try.prog w = .ok (x0.toList == y0.toList && (x1 == y1 && (x2.toList == y2.toList && (x3.toList == y3.toList && (x4.toList == y4.toList))))) w := by
 refine eqA_of Try.underlying73 (by kernel_rfl) ?_
 refine eqf_cons (by rfl) (by go_simp; rfl) (by go_simp; rfl) (by go_simp) ?_
 refine eqf_cons (by rfl) (by go_simp; rfl) (by go_simp; rfl) (by go_simp) ?_
 refine eqf_cons (by rfl) (by go_simp; rfl) (by go_simp; rfl) (by go_simp) ?_
 refine eqf_cons (by rfl) (by go_simp; rfl) (by go_simp; rfl) (by go_simp) ?_
 exact eqf_last (by rfl) (by go_simp; rfl) (by go_simp; rfl) (by go_simp)
-- shrunk

/-! ### spec_l1Letters: function 107 -/
def spec_l1Letters.l0 : Nat → ByteArray → Int → Int → Option (Bool)
 | 0, _, _, _ => none
 | k + 1, x0, x1, x5 => if x5 < (x0.size : Int) then (if 0 ≤ x5 then (if (bt x0 x5) < 97 then (some false) else (if (bt x0 x5) > 122 then (some false) else (spec_l1Letters.l0 k x0 x1 (wrap64 (x5 + 1))))) else (none)) else (some (decide ((x0.size : Int) ≤ x1)))
def spec_l1Letters.f (k : Nat) (a0 : ByteArray) (a1 : Int) : Option (Bool) := spec_l1Letters.l0 k a0 a1 0
theorem spec_l1Letters.calls (k : Nat) (a0 : ByteArray) (a1 : Int) (r : Bool) (w : World) (h : spec_l1Letters.f k a0 a1 = some r) :
  Calls Try.prog 107 #[.string a0, .int .i64 a1] w fun e w' => e = .returned (.bool r) ∧ Drawn0 w w' := by
 have H := h; unfold spec_l1Letters.f at H
 clear h
 have H' := am H
 clear H; go_enter Try.func107, Try.ntmps107; go_wp2
 go_loopg [5] k (fun kq v5 w' => ∃ (x5_1 : Int), v5 = .int .i64 x5_1 ∧ Aside0 (spec_l1Letters.l0 kq a0 a1 x5_1 = some r) ∧ Aside0 (kq ≤ k) ∧ Drawn0 w w')
 case atStart => exact ⟨(0), sq, H', ⟨Nat.le_refl _⟩, dr⟩
 case round =>
  clear H'; obtain ⟨x5_1, rfl, HA, HK1, ⟨m1, rfl⟩⟩ := hrel
  cases gk with
  | zero => exact absurd HA.out (by simp [spec_l1Letters.l0])
  | succ k1 =>
   have H := HA.out; clear HA; simp only [spec_l1Letters.l0] at H
   by_cases c3 : x5_1 < (a0.size : Int)
   ·rw [if_pos c3] at H; have c3b0 := decide_eq_true c3; clear c3
    replace H := it H; obtain ⟨c4b0, H⟩ := H
    by_cases c6 : (bt a0 x5_1) < 97
    ·rw [if_pos c6] at H; have c6b0 := decide_eq_true c6; clear c6; obtain rfl := Option.some.inj H
     have p5 : 0 ≤ (x5_1 : Int) := of_decide_eq_true ad
     have q5 : x5_1 < (a0.size : Int) := of_decide_eq_true ad
     have hx5 := bt_at a0 x5_1; replace p5 := eq_true p5; replace q5 := eq_true q5; go_wp2; go_ret
     exact ⟨sq, dr⟩
    rw [if_neg c6] at H; have c6b0 := decide_eq_false c6; clear c6
    by_cases c8 : (bt a0 x5_1) > 122
    ·rw [if_pos c8] at H; have c8b0 := decide_eq_true c8; clear c8; obtain rfl := Option.some.inj H
     have p5 : 0 ≤ (x5_1 : Int) := of_decide_eq_true ad
     have q5 : x5_1 < (a0.size : Int) := of_decide_eq_true ad
     have hx5 := bt_at a0 x5_1; replace p5 := eq_true p5; replace q5 := eq_true q5
     have p7 : 0 ≤ (x5_1 : Int) := of_decide_eq_true ad
     have q7 : x5_1 < (a0.size : Int) := of_decide_eq_true ad
     have hx7 := bt_at a0 x5_1; replace p7 := eq_true p7; replace q7 := eq_true q7; go_wp2; go_ret
     exact ⟨sq, dr⟩
    rw [if_neg c8] at H; have c8b0 := decide_eq_false c8; clear c8
    have H' := am H
    clear H
    have p5 : 0 ≤ (x5_1 : Int) := of_decide_eq_true ad
    have q5 : x5_1 < (a0.size : Int) := of_decide_eq_true ad
    have hx5 := bt_at a0 x5_1; replace p5 := eq_true p5; replace q5 := eq_true q5
    have p7 : 0 ≤ (x5_1 : Int) := of_decide_eq_true ad
    have q7 : x5_1 < (a0.size : Int) := of_decide_eq_true ad
    have hx7 := bt_at a0 x5_1; replace p7 := eq_true p7; replace q7 := eq_true q7; go_wp2
    go_roundg k1
    case measure => have := HK1.out; omega
    case rel => exact ⟨(wrap64 (x5_1 + 1)), sq, H', ⟨b129_⟩, dr⟩
   rw [if_neg c3] at H; have c3b0 := decide_eq_false c3; clear c3; obtain rfl := Option.some.inj H; go_wp2; go_ret
   exact ⟨sq, dr⟩

/-! ### spec_l1Word: function 71 -/
def spec_l1Word.f (k : Nat) (a0 : ByteArray) : Option (Bool) := if (a0.size : Int) > 0 then ((spec_l1Letters.f k a0 12).bind fun t101 => (some t101)) else (some false)
theorem spec_l1Word.calls (k : Nat) (a0 : ByteArray) (r : Bool) (w : World) (h : spec_l1Word.f k a0 = some r) :
  Calls Try.prog 71 #[.string a0] w fun e w' => e = .returned (.bool r) ∧ Drawn0 w w' := by
 have H := h; unfold spec_l1Word.f at H
 clear h
 by_cases c2 : (a0.size : Int) > 0
 ·rw [if_pos c2] at H; have c2b0 := decide_eq_true c2
  have c2b1 : decide (0 < a0.size) = true := decide_eq_true (by omega)
  clear c2; replace H := bs H; obtain ⟨t101, A30, H⟩ := H; have A3 := Aside0.mk A30; clear A30; obtain rfl := Option.some.inj H; go_enter Try.func71, Try.ntmps71
  go_wp2_with (go_at_call 107; (with_reducible refine (spec_l1Letters.calls k a0 12 t101 _ A3.out).mono ?_); rintro e w' ⟨rfl, ⟨nd, rfl⟩⟩)
  go_ret
  exact ⟨sq, dr⟩
 rw [if_neg c2] at H; have c2b0 := decide_eq_false c2
 have c2b1 : decide (0 < a0.size) = false := decide_eq_false (by omega)
 clear c2; obtain rfl := Option.some.inj H; go_enter Try.func71, Try.ntmps71; go_wp2; go_ret
 exact ⟨sq, dr⟩

/-! ### spec_l2Flag: function 93 -/
def spec_l2Flag.f (a0 : ByteArray) : Option (Bool) := if (a0.size : Int) = 1 then (if 0 < (a0.size : Int) then (if (bt a0 0) ≥ 65 then (some (decide ((bt a0 0) ≤ 90))) else (some false)) else (none)) else (some false)
theorem spec_l2Flag.calls (a0 : ByteArray) (r : Bool) (w : World) (h : spec_l2Flag.f a0 = some r) :
  Calls Try.prog 93 #[.string a0] w fun e w' => e = .returned (.bool r) ∧ Drawn0 w w' := by
 have H := h; unfold spec_l2Flag.f at H
 clear h
 by_cases c2 : (a0.size : Int) = 1
 ·rw [if_pos c2] at H
  have c2b0 : ((a0.size : Int) == 1) = true := beq_iff_eq.mpr c2
  have c2b1 : ((a0.size : Int) != 1) = false := bne_eq_false_iff_eq.mpr c2
  clear c2; replace H := ip H; obtain ⟨c3, H⟩ := H; have c3b0 := decide_eq_true c3
  have c3b1 : decide (0 < a0.size) = true := decide_eq_true (by omega)
  clear c3
  by_cases c5 : (bt a0 0) ≥ 65
  ·rw [if_pos c5] at H; have c5b0 := decide_eq_true c5; clear c5; obtain rfl := Option.some.inj H
   have p4 : 0 ≤ (0 : Int) := (by omega)
   have q4 : 0 < a0.size := b167_
   have hx4 : ∀ h : 0 < a0.size, ((a0[0]'h).toNat : Int) = bt a0 0 := bt_at a0 0
   clear p4
   have qi4 : (0 < (a0.size : Int)) = True := eq_true (of_decide_eq_true ad)
   replace q4 := eq_true q4
   have p6 : 0 ≤ (0 : Int) := (by omega)
   have q6 : 0 < a0.size := b167_
   have hx6 : ∀ h : 0 < a0.size, ((a0[0]'h).toNat : Int) = bt a0 0 := bt_at a0 0
   clear p6
   have qi6 : (0 < (a0.size : Int)) = True := eq_true (of_decide_eq_true ad)
   replace q6 := eq_true q6; go_enter Try.func93, Try.ntmps93; go_wp2; go_ret
   exact ⟨sq, dr⟩
  rw [if_neg c5] at H; have c5b0 := decide_eq_false c5; clear c5; obtain rfl := Option.some.inj H
  have p4 : 0 ≤ (0 : Int) := (by omega)
  have q4 : 0 < a0.size := b167_
  have hx4 : ∀ h : 0 < a0.size, ((a0[0]'h).toNat : Int) = bt a0 0 := bt_at a0 0
  clear p4
  have qi4 : (0 < (a0.size : Int)) = True := eq_true (of_decide_eq_true ad)
  replace q4 := eq_true q4; go_enter Try.func93, Try.ntmps93; go_wp2; go_ret
  exact ⟨sq, dr⟩
 rw [if_neg c2] at H
 have c2b0 : ((a0.size : Int) == 1) = false := beq_eq_false_iff_ne.mpr c2
 have c2b1 : ((a0.size : Int) != 1) = true := bne_iff_ne.mpr c2
 obtain rfl := Option.some.inj H; go_enter Try.func93, Try.ntmps93; go_wp2; go_ret
 exact ⟨sq, dr⟩

/-! ### spec_l2Entry: function 55 -/
def spec_l2Entry.l0 : Nat → Int → ByteArray → ByteArray → Option (Bool)
 | 0, _, _, _ => none
 | k + 1, x3, x103000, x103001 => if x3 < (x103001.size : Int) then (if 0 ≤ x3 then (if x3 ≤ (wrap64 (x3 + 1)) then (if (wrap64 (x3 + 1)) ≤ (x103001.size : Int) then ((spec_l2Flag.f (x103001.extract (x3 : Int).toNat ((wrap64 (x3 + 1)) : Int).toNat)).bind fun t103 => (if t103 = true then (if x3 > 0 then (if 0 ≤ (wrap64 (x3 - 1)) then (if (wrap64 (x3 - 1)) < (x103001.size : Int) then (if (bt x103001 (wrap64 (x3 - 1))) ≥ (bt x103001 x3) then (some false) else (spec_l2Entry.l0 k (wrap64 (x3 + 1)) x103000 x103001)) else (none)) else (none)) else (spec_l2Entry.l0 k (wrap64 (x3 + 1)) x103000 x103001)) else (some false))) else (none)) else (none)) else (none)) else ((spec_l1Word.f k x103000).bind fun t104 => (if t104 = true then (some (decide ((x103001.size : Int) ≤ 4))) else (some false)))
def spec_l2Entry.f (k : Nat) (a0_0 : ByteArray) (a0_1 : ByteArray) : Option (Bool) := spec_l2Entry.l0 k 0 a0_0 a0_1
theorem spec_l2Entry.calls (k : Nat) (a0_0 : ByteArray) (a0_1 : ByteArray) (r : Bool) (w : World) (h : spec_l2Entry.f k a0_0 a0_1 = some r) :
  Calls Try.prog 55 #[.agg #[.string a0_0, .string a0_1]] w fun e w' => e = .returned (.bool r) ∧ Below w.heap.size w w' := by
 have hu66 := Try.underlying66; have HB := am (Below.refl w.heap.size w)
 have H := h; unfold spec_l2Entry.f at H
 clear h
 have H' := am H
 clear H; go_enter Try.func55, Try.ntmps55
 go_wp2_with ((with_reducible refine gate_dst (N := 1) rfl ?_); ((refine gate_guard (by rfl) ?_; dsimp only)); refine bx 1 (cs := #[.string a0_0, .string a0_1]) (t := 66) ?_; intro gb102 hg w2 hbox hb; have BK102 := am (hbox); have GW102 := am ((b26_ : w.heap.size ≤ gb102)); have GE102 := am ((b26_ : w.heap.size ≤ gb102)); replace HB := am (below_step bel hb); clear hb hbox hg)
 go_loopg [3] k (fun kq v3 w' => ∃ (x3_1 : Int), v3 = .int .i64 x3_1 ∧ Aside0 (spec_l2Entry.l0 kq x3_1 a0_0 a0_1 = some r) ∧ Aside0 (kq ≤ k) ∧ Aside0 (w'.heap[gb102]? = some (.cells #[.string a0_0, .string a0_1] 66 (0, 0))) ∧ Aside0 (Below w.heap.size w w'))
 case atStart => exact ⟨(0), sq, H', ⟨Nat.le_refl _⟩, ⟨bq BK102.out⟩, ⟨bel1 GE102.out⟩⟩
 case round =>
  clear H'; obtain ⟨x3_1, rfl, HA, HK1, BK102, HB⟩ := hrel
  cases gk with
  | zero => exact absurd HA.out (by simp [spec_l2Entry.l0])
  | succ k1 =>
   have H := HA.out; clear HA; simp only [spec_l2Entry.l0] at H
   by_cases c3 : x3_1 < (a0_1.size : Int)
   ·rw [if_pos c3] at H; have c3b0 := decide_eq_true c3; clear c3
    replace H := ip H; obtain ⟨c4, H⟩ := H; have c4b0 := eq_true c4
    have c4b1 : decide (0 ≤ x3_1) = true := decide_eq_true c4
    clear c4; replace H := ip H; obtain ⟨c5, H⟩ := H; have c5b0 := eq_true c5
    have c5b1 : decide (x3_1 ≤ (wrap64 (x3_1 + 1))) = true := decide_eq_true c5
    replace H := ip H; obtain ⟨c6, H⟩ := H; have c6b0 := eq_true c6
    have c6b1 : decide ((wrap64 (x3_1 + 1)) ≤ (a0_1.size : Int)) = true := decide_eq_true c6
    replace H := bs H; obtain ⟨t103, A70, H⟩ := H; have A7 := Aside0.mk A70; clear A70
    by_cases c8 : t103 = true
    ·subst c8
     rw [if_pos rfl] at H
     by_cases c9 : x3_1 > 0
     ·rw [if_pos c9] at H; have c9b0 := decide_eq_true c9; clear c9; obtain ⟨ji10, hji10⟩ : ∃ j_ : Int, (wrap64 (x3_1 - 1)) = j_ := ⟨_, rfl⟩
      rw [hji10] at H
      have hji10w : (IntKind.i64.wrap (x3_1 - 1)) = ji10 := (i64_w _).trans hji10
      replace H := it H; obtain ⟨c11b0, H⟩ := H; replace H := it H; obtain ⟨c12b0, H⟩ := H
      by_cases c15 : (bt a0_1 (ji10)) ≥ (bt a0_1 x3_1)
      ·rw [if_pos c15] at H; have c15b0 := decide_eq_true c15; clear c15; obtain rfl := Option.some.inj H; have ⟨hcz16_0, hcz16_1, hfz16_0, hfz16_1⟩ := b2c BK102.out
       have p13 : 0 ≤ ((ji10) : Int) := of_decide_eq_true ad
       have q13 : (ji10) < (a0_1.size : Int) := of_decide_eq_true ad
       have hx13 := bt_at a0_1 (ji10)
       replace p13 := eq_true p13
       replace q13 := eq_true q13
       have p14 : 0 ≤ (x3_1 : Int) := of_decide_eq_true ad
       have q14 : x3_1 < (a0_1.size : Int) := of_decide_eq_true ad
       have hx14 := bt_at a0_1 x3_1
       replace p14 := eq_true p14
       replace q14 := eq_true q14
       go_wp2
       repeat (go_quiet ((go_at_call 93; (with_reducible refine (spec_l2Flag.calls (a0_1.extract (x3_1 : Int).toNat ((wrap64 (x3_1 + 1)) : Int).toNat) true _ A7.out).mono ?_); rintro e w' ⟨rfl, ⟨nd, rfl⟩⟩; exact ⟨rfl, _, World.drewN_drewN _ _ _⟩)); try go_wp2)
       go_ret
       exact ⟨by rfl, bel1 GE102.out⟩
      rw [if_neg c15] at H; have c15b0 := decide_eq_false c15; clear c15
      have H' := am H
      clear H; have ⟨hcz17_0, hcz17_1, hfz17_0, hfz17_1⟩ := b2c BK102.out
      have p13 : 0 ≤ ((ji10) : Int) := of_decide_eq_true ad
      have q13 : (ji10) < (a0_1.size : Int) := of_decide_eq_true ad
      have hx13 := bt_at a0_1 (ji10)
      replace p13 := eq_true p13
      replace q13 := eq_true q13
      have p14 : 0 ≤ (x3_1 : Int) := of_decide_eq_true ad
      have q14 : x3_1 < (a0_1.size : Int) := of_decide_eq_true ad
      have hx14 := bt_at a0_1 x3_1
      replace p14 := eq_true p14
      replace q14 := eq_true q14
      go_wp2
      repeat (go_quiet ((go_at_call 93; (with_reducible refine (spec_l2Flag.calls (a0_1.extract (x3_1 : Int).toNat ((wrap64 (x3_1 + 1)) : Int).toNat) true _ A7.out).mono ?_); rintro e w' ⟨rfl, ⟨nd, rfl⟩⟩; exact ⟨rfl, _, World.drewN_drewN _ _ _⟩)); try go_wp2)
      go_roundg k1
      case measure => have := HK1.out; omega
      case rel => exact ⟨(wrap64 (x3_1 + 1)), sq, H', ⟨b129_⟩, ⟨bq BK102.out⟩, ⟨bel1 GE102.out⟩⟩
     rw [if_neg c9] at H; have c9b0 := decide_eq_false c9; clear c9
     have H' := am H
     clear H; have ⟨hcz18_0, hcz18_1, hfz18_0, hfz18_1⟩ := b2c BK102.out
     go_wp2
     repeat (go_quiet ((go_at_call 93; (with_reducible refine (spec_l2Flag.calls (a0_1.extract (x3_1 : Int).toNat ((wrap64 (x3_1 + 1)) : Int).toNat) true _ A7.out).mono ?_); rintro e w' ⟨rfl, ⟨nd, rfl⟩⟩; exact ⟨rfl, _, World.drewN_drewN _ _ _⟩)); try go_wp2)
     go_roundg k1
     case measure => have := HK1.out; omega
     case rel => exact ⟨(wrap64 (x3_1 + 1)), sq, H', ⟨b129_⟩, ⟨bq BK102.out⟩, ⟨bel1 GE102.out⟩⟩
    replace c8 := Bool.eq_false_iff.mpr c8; subst c8
    rw [if_neg Bool.false_ne_true] at H
    obtain rfl := Option.some.inj H; have ⟨hcz19_0, hcz19_1, hfz19_0, hfz19_1⟩ := b2c BK102.out
    go_wp2
    repeat (go_quiet ((go_at_call 93; (with_reducible refine (spec_l2Flag.calls (a0_1.extract (x3_1 : Int).toNat ((wrap64 (x3_1 + 1)) : Int).toNat) false _ A7.out).mono ?_); rintro e w' ⟨rfl, ⟨nd, rfl⟩⟩; exact ⟨rfl, _, World.drewN_drewN _ _ _⟩)); try go_wp2)
    go_ret
    exact ⟨eq_, bel1 GE102.out⟩
   rw [if_neg c3] at H; have c3b0 := decide_eq_false c3; clear c3; replace H := bs H; obtain ⟨t104, A200, H⟩ := H; have A20 := Aside0.mk A200; clear A200
   by_cases c21 : t104 = true
   ·subst c21
    rw [if_pos rfl] at H
    obtain rfl := Option.some.inj H; have ⟨hcz22_0, hcz22_1, hfz22_0, hfz22_1⟩ := b2c BK102.out
    go_wp2_with (go_at_call 71; (with_reducible refine (spec_l1Word.calls k1 a0_0 true _ A20.out).mono ?_); rintro e w' ⟨rfl, ⟨nd, rfl⟩⟩)
    go_ret
    exact ⟨eq_, bel1 GE102.out⟩
   replace c21 := Bool.eq_false_iff.mpr c21; subst c21
   rw [if_neg Bool.false_ne_true] at H
   obtain rfl := Option.some.inj H; have ⟨hcz23_0, hcz23_1, hfz23_0, hfz23_1⟩ := b2c BK102.out
   go_wp2_with (go_at_call 71; (with_reducible refine (spec_l1Word.calls k1 a0_0 false _ A20.out).mono ?_); rintro e w' ⟨rfl, ⟨nd, rfl⟩⟩)
   go_ret
   exact ⟨eq_, bel1 GE102.out⟩

/-! ### spec_l2Begins: function 115 -/
def spec_l2Begins.f (a0 : ByteArray) (a1 : ByteArray) : Option (Bool) := if (a0.size : Int) ≥ (a1.size : Int) then (if 0 ≤ (a1.size : Int) then (if (a1.size : Int) ≤ (a0.size : Int) then (some ((a0.extract 0 a1.size).toList == a1.toList)) else (none)) else (none)) else (some false)
theorem spec_l2Begins.calls (a0 : ByteArray) (a1 : ByteArray) (r : Bool) (w : World) (h : spec_l2Begins.f a0 a1 = some r) :
  Calls Try.prog 115 #[.string a0, .string a1] w fun e w' => e = .returned (.bool r) ∧ Drawn0 w w' := by
 have H := h; unfold spec_l2Begins.f at H
 clear h
 by_cases c3 : (a0.size : Int) ≥ (a1.size : Int)
 ·rw [if_pos c3] at H; have c3b0 := decide_eq_true c3
  have c3b1 : decide (a1.size ≤ a0.size) = true := decide_eq_true (Int.ofNat_le.mp c3)
  clear c3; replace H := ip H; obtain ⟨c4, H⟩ := H; have c4b0 := eq_true c4
  have c4b1 : decide (0 ≤ (a1.size : Int)) = true := decide_eq_true c4
  clear c4; replace H := ip H; obtain ⟨c5, H⟩ := H; have c5b0 := eq_true c5
  have c5b9 : (a1.size ≤ a0.size) = True := eq_true (by omega)
  have c5b6 : decide (a1.size ≤ a0.size) = true := decide_eq_true (by omega)
  have c5b1 : decide ((a1.size : Int) ≤ (a0.size : Int)) = true := decide_eq_true c5
  clear c5; obtain rfl := Option.some.inj H; go_enter Try.func115, Try.ntmps115; go_wp2; go_ret
  exact ⟨sq, dr⟩
 rw [if_neg c3] at H; have c3b0 := decide_eq_false c3
 have c3b1 : decide (a1.size ≤ a0.size) = false := decide_eq_false (fun h => c3 (Int.ofNat_le.mpr h))
 clear c3; obtain rfl := Option.some.inj H; go_enter Try.func115, Try.ntmps115; go_wp2; go_ret
 exact ⟨sq, dr⟩

/-! ### spec_l2Ends: function 116 -/
def spec_l2Ends.f (a0 : ByteArray) (a1 : ByteArray) : Option (Bool) := if (a0.size : Int) ≥ (a1.size : Int) then (if 0 ≤ (wrap64 ((a0.size : Int) - (a1.size : Int))) then (if (wrap64 ((a0.size : Int) - (a1.size : Int))) ≤ (a0.size : Int) then (some ((a0.extract ((wrap64 ((a0.size : Int) - (a1.size : Int))) : Int).toNat a0.size).toList == a1.toList)) else (none)) else (none)) else (some false)
theorem spec_l2Ends.calls (a0 : ByteArray) (a1 : ByteArray) (r : Bool) (w : World) (h : spec_l2Ends.f a0 a1 = some r) :
  Calls Try.prog 116 #[.string a0, .string a1] w fun e w' => e = .returned (.bool r) ∧ Drawn0 w w' := by
 have H := h; unfold spec_l2Ends.f at H
 clear h
 by_cases c3 : (a0.size : Int) ≥ (a1.size : Int)
 ·rw [if_pos c3] at H; have c3b0 := decide_eq_true c3
  have c3b1 : decide (a1.size ≤ a0.size) = true := decide_eq_true (Int.ofNat_le.mp c3)
  clear c3; obtain ⟨ji4, hji4⟩ : ∃ j_ : Int, (wrap64 ((a0.size : Int) - (a1.size : Int))) = j_ := ⟨_, rfl⟩
  rw [hji4] at H
  have hji4w : (IntKind.i64.wrap ((a0.size : Int) - (a1.size : Int))) = ji4 := (i64_w _).trans hji4
  replace H := ip H; obtain ⟨c5, H⟩ := H; have c5b0 := eq_true c5
  have c5b1 : decide (0 ≤ (ji4)) = true := decide_eq_true c5
  clear c5; replace H := ip H; obtain ⟨c6, H⟩ := H; have c6b0 := eq_true c6
  have c6b1 : decide ((ji4) ≤ (a0.size : Int)) = true := decide_eq_true c6
  clear c6; obtain rfl := Option.some.inj H; go_enter Try.func116, Try.ntmps116; go_wp2; go_ret
  exact ⟨by rfl, dr⟩
 rw [if_neg c3] at H; have c3b0 := decide_eq_false c3
 have c3b1 : decide (a1.size ≤ a0.size) = false := decide_eq_false (fun h => c3 (Int.ofNat_le.mpr h))
 clear c3; obtain rfl := Option.some.inj H; go_enter Try.func116, Try.ntmps116; go_wp2; go_ret
 exact ⟨sq, dr⟩

/-! ### spec_AffixOk: function 94 -/
def spec_AffixOk.j0 : Nat → Bool → ByteArray → Bool → ByteArray → ByteArray → ByteArray → Option (Bool)
 | 0, _, _, _, _, _, _ => none
 | k + 1, x24, x106000, x106001, x106002, x106003, x106004 => if x24 = true then (some false) else (if x106001 = true then ((spec_l2Begins.f x106004 x106002).bind fun t110 => (some t110)) else ((spec_l2Ends.f x106004 x106002).bind fun t111 => (some t111)))
def spec_AffixOk.f (k : Nat) (a0_0 : ByteArray) (a0_1 : Bool) (a0_2 : ByteArray) (a0_3 : ByteArray) (a0_4 : ByteArray) : Option (Bool) := (spec_l2Flag.f a0_0).bind fun t106 => (if t106 = true then ((spec_l1Letters.f k a0_2 4).bind fun t107 => (if t107 = true then ((spec_l1Letters.f k a0_3 4).bind fun t108 => (if t108 = true then ((spec_l1Letters.f k a0_4 4).bind fun t109 => (spec_AffixOk.j0 k (!t109) a0_0 a0_1 a0_2 a0_3 a0_4)) else (spec_AffixOk.j0 k true a0_0 a0_1 a0_2 a0_3 a0_4))) else (spec_AffixOk.j0 k true a0_0 a0_1 a0_2 a0_3 a0_4))) else (spec_AffixOk.j0 k true a0_0 a0_1 a0_2 a0_3 a0_4))
theorem spec_AffixOk.calls (k : Nat) (a0_0 : ByteArray) (a0_1 : Bool) (a0_2 : ByteArray) (a0_3 : ByteArray) (a0_4 : ByteArray) (r : Bool) (w : World) (h : spec_AffixOk.f k a0_0 a0_1 a0_2 a0_3 a0_4 = some r) :
  Calls Try.prog 94 #[.agg #[.string a0_0, .bool a0_1, .string a0_2, .string a0_3, .string a0_4]] w fun e w' => e = .returned (.bool r) ∧ Below w.heap.size w w' := by
 have hu73 := Try.underlying73; have HB := am (Below.refl w.heap.size w)
 have H := h; unfold spec_AffixOk.f at H
 clear h; have HC2 := am H; clear H; go_enter Try.func94, Try.ntmps94
 go_upto_region 1 with ((with_reducible refine gate_dst (N := 1) rfl ?_); refine bx 1 (cs := #[.string a0_0, .bool a0_1, .string a0_2, .string a0_3, .string a0_4]) (t := 73) ?_; intro gb105 hg w3 hbox hb; have BK105 := am (hbox); have GW105 := am ((b26_ : w.heap.size ≤ gb105)); have GE105 := am ((b26_ : w.heap.size ≤ gb105)); replace HB := am (below_step bel hb); clear hb hbox hg)
 go_cut [24] (fun v24 wc => ∃ (kq : Nat) (x24_1 : Bool), v24 = .bool x24_1 ∧ Aside0 (spec_AffixOk.j0 kq x24_1 a0_0 a0_1 a0_2 a0_3 a0_4 = some r) ∧ Aside0 (kq ≤ k) ∧ Aside0 (wc.heap[gb105]? = some (.cells #[.string a0_0, .bool a0_1, .string a0_2, .string a0_3, .string a0_4] 73 (0, 0))) ∧ Aside0 (Below w.heap.size w wc))
 case first =>
  have H := HC2.out; clear HC2; replace H := bs H; obtain ⟨t106, A40, H⟩ := H; have A4 := Aside0.mk A40; clear A40
  by_cases c5 : t106 = true
  ·subst c5
   rw [if_pos rfl] at H
   replace H := bs H; obtain ⟨t107, A60, H⟩ := H; have A6 := Aside0.mk A60; clear A60
   by_cases c7 : t107 = true
   ·subst c7
    rw [if_pos rfl] at H
    replace H := bs H; obtain ⟨t108, A80, H⟩ := H; have A8 := Aside0.mk A80; clear A80
    by_cases c9 : t108 = true
    ·subst c9
     rw [if_pos rfl] at H
     replace H := bs H; obtain ⟨t109, A100, H⟩ := H; have A10 := Aside0.mk A100; clear A100
     have H' := am H
     clear H; have ⟨hcz11_0, hcz11_1, hcz11_2, hcz11_3, hcz11_4, hfz11_0, hfz11_1, hfz11_2, hfz11_3, hfz11_4⟩ := b5c BK105.out
     go_wp2_with (first | ((with_reducible refine gate_callee (f := 93) rfl ?_); refine gl 5 Try.func93 #[.string a0_0] ?_; (with_reducible refine (spec_l2Flag.calls a0_0 true _ A4.out).mono ?_); rintro e w' ⟨rfl, ⟨nd, rfl⟩⟩; refine ⟨_, rfl, ?_⟩) | (go_at_call 107; (with_reducible refine (spec_l1Letters.calls k a0_2 4 true _ A6.out).mono ?_); rintro e w' ⟨rfl, ⟨nd, rfl⟩⟩) | (go_at_call 107; (with_reducible refine (spec_l1Letters.calls k a0_3 4 true _ A8.out).mono ?_); rintro e w' ⟨rfl, ⟨nd, rfl⟩⟩) | (go_at_call 107; (with_reducible refine (spec_l1Letters.calls k a0_4 4 t109 _ A10.out).mono ?_); rintro e w' ⟨rfl, ⟨nd, rfl⟩⟩))
     go_meet
     case rel => exact ⟨_, (!t109), sq, H', ⟨b81_⟩, ⟨bq BK105.out⟩, ⟨bel1 GE105.out⟩⟩
    replace c9 := Bool.eq_false_iff.mpr c9; subst c9
    rw [if_neg Bool.false_ne_true] at H
    have H' := am H
    clear H; have ⟨hcz12_0, hcz12_1, hcz12_2, hcz12_3, hcz12_4, hfz12_0, hfz12_1, hfz12_2, hfz12_3, hfz12_4⟩ := b5c BK105.out
    go_wp2_with (first | ((with_reducible refine gate_callee (f := 93) rfl ?_); refine gl 5 Try.func93 #[.string a0_0] ?_; (with_reducible refine (spec_l2Flag.calls a0_0 true _ A4.out).mono ?_); rintro e w' ⟨rfl, ⟨nd, rfl⟩⟩; refine ⟨_, rfl, ?_⟩) | (go_at_call 107; (with_reducible refine (spec_l1Letters.calls k a0_2 4 true _ A6.out).mono ?_); rintro e w' ⟨rfl, ⟨nd, rfl⟩⟩) | (go_at_call 107; (with_reducible refine (spec_l1Letters.calls k a0_3 4 false _ A8.out).mono ?_); rintro e w' ⟨rfl, ⟨nd, rfl⟩⟩))
    go_meet
    case rel => exact ⟨_, (true), sq, H', ⟨b81_⟩, ⟨bq BK105.out⟩, ⟨bel1 GE105.out⟩⟩
   replace c7 := Bool.eq_false_iff.mpr c7; subst c7
   rw [if_neg Bool.false_ne_true] at H
   have H' := am H
   clear H; have ⟨hcz13_0, hcz13_1, hcz13_2, hcz13_3, hcz13_4, hfz13_0, hfz13_1, hfz13_2, hfz13_3, hfz13_4⟩ := b5c BK105.out
   go_wp2_with (first | ((with_reducible refine gate_callee (f := 93) rfl ?_); refine gl 5 Try.func93 #[.string a0_0] ?_; (with_reducible refine (spec_l2Flag.calls a0_0 true _ A4.out).mono ?_); rintro e w' ⟨rfl, ⟨nd, rfl⟩⟩; refine ⟨_, rfl, ?_⟩) | (go_at_call 107; (with_reducible refine (spec_l1Letters.calls k a0_2 4 false _ A6.out).mono ?_); rintro e w' ⟨rfl, ⟨nd, rfl⟩⟩))
   go_meet
   case rel => exact ⟨_, (true), sq, H', ⟨b81_⟩, ⟨bq BK105.out⟩, ⟨bel1 GE105.out⟩⟩
  replace c5 := Bool.eq_false_iff.mpr c5; subst c5
  rw [if_neg Bool.false_ne_true] at H
  have H' := am H
  clear H; have ⟨hcz14_0, hcz14_1, hcz14_2, hcz14_3, hcz14_4, hfz14_0, hfz14_1, hfz14_2, hfz14_3, hfz14_4⟩ := b5c BK105.out
  go_wp2_with ((with_reducible refine gate_callee (f := 93) rfl ?_); refine gl 5 Try.func93 #[.string a0_0] ?_; (with_reducible refine (spec_l2Flag.calls a0_0 false _ A4.out).mono ?_); rintro e w' ⟨rfl, ⟨nd, rfl⟩⟩; refine ⟨_, rfl, ?_⟩)
  go_meet
  case rel => exact ⟨_, (true), sq, H', ⟨b81_⟩, ⟨bq BK105.out⟩, ⟨bel1 GE105.out⟩⟩
 case rest =>
  clear HC2; obtain ⟨kq, x24_1, rfl, HA, HJ1, BK105, HB⟩ := hcut
  cases kq with
  | zero => exact absurd HA.out (by simp [spec_AffixOk.j0])
  | succ kj1 =>
   have H := HA.out; clear HA; simp only [spec_AffixOk.j0] at H
   by_cases c15 : x24_1 = true
   ·subst c15
    rw [if_pos rfl] at H
    obtain rfl := Option.some.inj H; go_wp2; go_ret
    exact ⟨eq_, bel1 GE105.out⟩
   replace c15 := Bool.eq_false_iff.mpr c15; subst c15
   rw [if_neg Bool.false_ne_true] at H
   by_cases c16 : a0_1 = true
   ·subst c16
    rw [if_pos rfl] at H
    replace H := bs H; obtain ⟨t110, A170, H⟩ := H; have A17 := Aside0.mk A170; clear A170; obtain rfl := Option.some.inj H; have ⟨hcz18_0, hcz18_1, hcz18_2, hcz18_3, hcz18_4, hfz18_0, hfz18_1, hfz18_2, hfz18_3, hfz18_4⟩ := b5c BK105.out
    go_wp2_with ((with_reducible refine gate_callee (f := 115) rfl ?_); refine gl 31 Try.func115 #[.string a0_4, .string a0_2] ?_; (with_reducible refine (spec_l2Begins.calls a0_4 a0_2 t110 _ A17.out).mono ?_); rintro e w' ⟨rfl, ⟨nd, rfl⟩⟩; refine ⟨_, rfl, ?_⟩)
    go_ret
    exact ⟨eq_, bel1 GE105.out⟩
   replace c16 := Bool.eq_false_iff.mpr c16; subst c16
   rw [if_neg Bool.false_ne_true] at H
   replace H := bs H; obtain ⟨t111, A190, H⟩ := H; have A19 := Aside0.mk A190; clear A190; obtain rfl := Option.some.inj H; have ⟨hcz20_0, hcz20_1, hcz20_2, hcz20_3, hcz20_4, hfz20_0, hfz20_1, hfz20_2, hfz20_3, hfz20_4⟩ := b5c BK105.out
   go_wp2_with ((with_reducible refine gate_callee (f := 116) rfl ?_); refine gl 36 Try.func116 #[.string a0_4, .string a0_2] ?_; (with_reducible refine (spec_l2Ends.calls a0_4 a0_2 t111 _ A19.out).mono ?_); rintro e w' ⟨rfl, ⟨nd, rfl⟩⟩; refine ⟨_, rfl, ?_⟩)
   go_ret
   exact ⟨eq_, bel1 GE105.out⟩
-- shrunk

attribute [local go_sem high] eqA73
/-! ### spec_l2Affixes: function 56 -/
mutual
def spec_l2Affixes.l0 : Nat → List (S73) → Int → Option (Bool)
 | 0, _, _ => none
 | k + 1, x0, x3 => if x3 < (x0.length : Int) then (if 0 ≤ x3 then ((spec_AffixOk.f k ((rd_T73 x0 x3).f0) ((rd_T73 x0 x3).f1) ((rd_T73 x0 x3).f2) ((rd_T73 x0 x3).f3) ((rd_T73 x0 x3).f4)).bind fun t113 => (if t113 = true then (spec_l2Affixes.l1 k x0 x3 0) else (some false))) else (none)) else (some (decide ((x0.length : Int) ≤ 8)))
def spec_l2Affixes.l1 : Nat → List (S73) → Int → Int → Option (Bool)
 | 0, _, _, _ => none
 | k + 1, x0, x3, x4 => if x4 < x3 then (if 0 ≤ x4 then (if x4 < (x0.length : Int) then (if 0 ≤ x3 then (if x3 < (x0.length : Int) then (if ((((rd_T73 x0 x4).f0).toList) == (((rd_T73 x0 x3).f0).toList) && (((rd_T73 x0 x4).f1) == ((rd_T73 x0 x3).f1) && ((((rd_T73 x0 x4).f2).toList) == (((rd_T73 x0 x3).f2).toList) && ((((rd_T73 x0 x4).f3).toList) == (((rd_T73 x0 x3).f3).toList) && ((((rd_T73 x0 x4).f4).toList) == (((rd_T73 x0 x3).f4).toList)))))) = true then (some false) else (spec_l2Affixes.l1 k x0 x3 (wrap64 (x4 + 1)))) else (none)) else (none)) else (none)) else (none)) else (spec_l2Affixes.l0 k x0 (wrap64 (x3 + 1)))
end
def spec_l2Affixes.f (k : Nat) (l0 : List (S73)) : Option (Bool) := spec_l2Affixes.l0 k l0 0
theorem spec_l2Affixes.calls (k : Nat) (A0 : Option Addr) (c0 : Nat) (l0 : List (S73)) (r : Bool) (w : World) (hr0 : Kd.C k73 w A0 l0.length l0) (hc0 : l0.length ≤ c0) (h : spec_l2Affixes.f k l0 = some r) :
  Calls Try.prog 56 #[.slice A0 l0.length c0] w fun e w' => e = .returned (.bool r) ∧ Below w.heap.size w w' := by
 have hu73 := Try.underlying73; have HR0 := am hr0; have HC0 := am hc0; clear hr0 hc0; have HB := am (Below.refl w.heap.size w)
 have H := h; unfold spec_l2Affixes.f at H
 clear h
 have H' := am H
 clear H; go_enter Try.func56, Try.ntmps56; go_wp2
 go_loopg [3] k (fun kq v3 w' => ∃ (x3_1 : Int), v3 = .int .i64 x3_1 ∧ Aside0 (spec_l2Affixes.l0 kq l0 x3_1 = some r) ∧ Aside0 (kq ≤ k) ∧ Aside0 (Below w.heap.size w w'))
 case atStart => exact ⟨(0), sq, H', ⟨Nat.le_refl _⟩, ⟨bel⟩⟩
 case round =>
  clear H'; obtain ⟨x3_1, rfl, HA, HK1, HB⟩ := hrel
  cases gk with
  | zero => exact absurd HA.out (by simp [spec_l2Affixes.l0])
  | succ k1 =>
   have H := HA.out; clear HA; simp only [spec_l2Affixes.l0] at H
   by_cases c2 : x3_1 < (l0.length : Int)
   ·rw [if_pos c2] at H; have c2b0 := decide_eq_true c2; clear c2
    replace H := it H; obtain ⟨c3b0, H⟩ := H; replace H := bs H; obtain ⟨t113, A40, H⟩ := H; have A4 := Aside0.mk A40; clear A40
    by_cases c5 : t113 = true
    ·subst c5
     rw [if_pos rfl] at H
     have H' := am H
     clear H
     have p112 : 0 ≤ (x3_1 : Int) := of_decide_eq_true ad
     have q112 : x3_1 < (l0.length : Int) := of_decide_eq_true ad
     obtain ⟨ad112, e112, hx112_0, hx112_1, hx112_2, hx112_3, hx112_4⟩ := at_T73 HR0.out x3_1 p112 q112; cases e112; replace hx112_0 := kp HB.out hx112_0; replace hx112_1 := kp HB.out hx112_1; replace hx112_2 := kp HB.out hx112_2; replace hx112_3 := kp HB.out hx112_3; replace hx112_4 := kp HB.out hx112_4; replace p112 := eq_true p112; replace q112 := eq_true q112
     go_wp2_with (go_at_call 94; (with_reducible refine (spec_AffixOk.calls k1 ((rd_T73 l0 x3_1).f0) ((rd_T73 l0 x3_1).f1) ((rd_T73 l0 x3_1).f2) ((rd_T73 l0 x3_1).f3) ((rd_T73 l0 x3_1).f4) true _ A4.out).mono ?_); rintro e w6 ⟨rfl, hb⟩; replace HB := am (below_step bel hb); clear hb)
     go_loopg [4] k1 (fun kq v4 w' => ∃ (x4_2 : Int), v4 = .int .i64 x4_2 ∧ Aside0 (spec_l2Affixes.l1 kq l0 x3_1 x4_2 = some r) ∧ Aside0 (kq ≤ k1) ∧ Aside0 (Below w.heap.size w w'))
     case atStart => exact ⟨(0), sq, H', ⟨Nat.le_refl _⟩, ⟨bel⟩⟩
     case round =>
      clear H'; clear c2b0 c3b0 hx112_0 hx112_1 hx112_2 hx112_3 hx112_4 p112 q112; obtain ⟨x4_2, rfl, HA, HK2, HB⟩ := hrel
      cases gk with
      | zero => exact absurd HA.out (by simp [spec_l2Affixes.l1])
      | succ k2 =>
       have H := HA.out; clear HA; simp only [spec_l2Affixes.l1] at H
       by_cases c7 : x4_2 < x3_1
       ·rw [if_pos c7] at H; have c7b0 := decide_eq_true c7; clear c7
        replace H := it H; obtain ⟨c8b0, H⟩ := H; replace H := it H; obtain ⟨c9b0, H⟩ := H; replace H := it H; obtain ⟨c10b0, H⟩ := H; replace H := it H; obtain ⟨c11b0, H⟩ := H
        by_cases c12 : ((((rd_T73 l0 x4_2).f0).toList) == (((rd_T73 l0 x3_1).f0).toList) && (((rd_T73 l0 x4_2).f1) == ((rd_T73 l0 x3_1).f1) && ((((rd_T73 l0 x4_2).f2).toList) == (((rd_T73 l0 x3_1).f2).toList) && ((((rd_T73 l0 x4_2).f3).toList) == (((rd_T73 l0 x3_1).f3).toList) && ((((rd_T73 l0 x4_2).f4).toList) == (((rd_T73 l0 x3_1).f4).toList)))))) = true
        ·rw [if_pos c12] at H
         have c12b0 : ((((rd_T73 l0 x4_2).f0).toList) == (((rd_T73 l0 x3_1).f0).toList) && (((rd_T73 l0 x4_2).f1) == ((rd_T73 l0 x3_1).f1) && ((((rd_T73 l0 x4_2).f2).toList) == (((rd_T73 l0 x3_1).f2).toList) && ((((rd_T73 l0 x4_2).f3).toList) == (((rd_T73 l0 x3_1).f3).toList) && ((((rd_T73 l0 x4_2).f4).toList) == (((rd_T73 l0 x3_1).f4).toList)))))) = true := c12
         (have c12b1 : decide ((((rd_T73 l0 x4_2).f0).toList) = (((rd_T73 l0 x3_1).f0).toList) && (((rd_T73 l0 x4_2).f1) == ((rd_T73 l0 x3_1).f1) && ((((rd_T73 l0 x4_2).f2).toList) == (((rd_T73 l0 x3_1).f2).toList) && ((((rd_T73 l0 x4_2).f3).toList) == (((rd_T73 l0 x3_1).f3).toList) && ((((rd_T73 l0 x4_2).f4).toList) == (((rd_T73 l0 x3_1).f4).toList)))))) = true := by simpa using c12)
         (have c12b2 : ((((rd_T73 l0 x4_2).f0).toList) == (((rd_T73 l0 x3_1).f0).toList) && (((rd_T73 l0 x4_2).f1) == ((rd_T73 l0 x3_1).f1) && ((((rd_T73 l0 x4_2).f2).toList) == (((rd_T73 l0 x3_1).f2).toList) && ((((rd_T73 l0 x4_2).f3).toList) == (((rd_T73 l0 x3_1).f3).toList) && ((((rd_T73 l0 x4_2).f4).toList) == (((rd_T73 l0 x3_1).f4).toList)))))) = true := by simpa using c12)
         clear c12; obtain rfl := Option.some.inj H
         have p114 : 0 ≤ (x4_2 : Int) := of_decide_eq_true ad
         have q114 : x4_2 < (l0.length : Int) := of_decide_eq_true ad
         obtain ⟨ad114, e114, hx114_0, hx114_1, hx114_2, hx114_3, hx114_4⟩ := at_T73 HR0.out x4_2 p114 q114
         obtain rfl : ad112 = ad114 := (by injection e114)
         replace hx114_0 := kp HB.out hx114_0; replace hx114_1 := kp HB.out hx114_1; replace hx114_2 := kp HB.out hx114_2; replace hx114_3 := kp HB.out hx114_3; replace hx114_4 := kp HB.out hx114_4; replace p114 := eq_true p114; replace q114 := eq_true q114
         have p115 : 0 ≤ (x3_1 : Int) := of_decide_eq_true ad
         have q115 : x3_1 < (l0.length : Int) := of_decide_eq_true ad
         obtain ⟨ad115, e115, hx115_0, hx115_1, hx115_2, hx115_3, hx115_4⟩ := at_T73 HR0.out x3_1 p115 q115
         obtain rfl : ad112 = ad115 := (by injection e115)
         replace hx115_0 := kp HB.out hx115_0; replace hx115_1 := kp HB.out hx115_1; replace hx115_2 := kp HB.out hx115_2; replace hx115_3 := kp HB.out hx115_3; replace hx115_4 := kp HB.out hx115_4; replace p115 := eq_true p115; replace q115 := eq_true q115; go_wp2
         repeat (go_quiet (fail); try go_wp2)
         go_ret
         exact ⟨eq_, bel⟩
        rw [if_neg c12] at H
        have c12b0 : ((((rd_T73 l0 x4_2).f0).toList) == (((rd_T73 l0 x3_1).f0).toList) && (((rd_T73 l0 x4_2).f1) == ((rd_T73 l0 x3_1).f1) && ((((rd_T73 l0 x4_2).f2).toList) == (((rd_T73 l0 x3_1).f2).toList) && ((((rd_T73 l0 x4_2).f3).toList) == (((rd_T73 l0 x3_1).f3).toList) && ((((rd_T73 l0 x4_2).f4).toList) == (((rd_T73 l0 x3_1).f4).toList)))))) = false := by simpa using c12
        (have c12b1 : decide ((((rd_T73 l0 x4_2).f0).toList) = (((rd_T73 l0 x3_1).f0).toList) && (((rd_T73 l0 x4_2).f1) == ((rd_T73 l0 x3_1).f1) && ((((rd_T73 l0 x4_2).f2).toList) == (((rd_T73 l0 x3_1).f2).toList) && ((((rd_T73 l0 x4_2).f3).toList) == (((rd_T73 l0 x3_1).f3).toList) && ((((rd_T73 l0 x4_2).f4).toList) == (((rd_T73 l0 x3_1).f4).toList)))))) = false := by simpa using c12)
        (have c12b2 : ((((rd_T73 l0 x4_2).f0).toList) == (((rd_T73 l0 x3_1).f0).toList) && (((rd_T73 l0 x4_2).f1) == ((rd_T73 l0 x3_1).f1) && ((((rd_T73 l0 x4_2).f2).toList) == (((rd_T73 l0 x3_1).f2).toList) && ((((rd_T73 l0 x4_2).f3).toList) == (((rd_T73 l0 x3_1).f3).toList) && ((((rd_T73 l0 x4_2).f4).toList) == (((rd_T73 l0 x3_1).f4).toList)))))) = false := by simpa using c12)
        (have c12b3 : ¬ ((((rd_T73 l0 x4_2).f0).toList) = (((rd_T73 l0 x3_1).f0).toList) && (((rd_T73 l0 x4_2).f1) == ((rd_T73 l0 x3_1).f1) && ((((rd_T73 l0 x4_2).f2).toList) == (((rd_T73 l0 x3_1).f2).toList) && ((((rd_T73 l0 x4_2).f3).toList) == (((rd_T73 l0 x3_1).f3).toList) && ((((rd_T73 l0 x4_2).f4).toList) == (((rd_T73 l0 x3_1).f4).toList)))))) := by simpa using c12)
        clear c12
        have H' := am H
        clear H
        have p114 : 0 ≤ (x4_2 : Int) := of_decide_eq_true ad
        have q114 : x4_2 < (l0.length : Int) := of_decide_eq_true ad
        obtain ⟨ad114, e114, hx114_0, hx114_1, hx114_2, hx114_3, hx114_4⟩ := at_T73 HR0.out x4_2 p114 q114
        obtain rfl : ad112 = ad114 := (by injection e114)
        replace hx114_0 := kp HB.out hx114_0; replace hx114_1 := kp HB.out hx114_1; replace hx114_2 := kp HB.out hx114_2; replace hx114_3 := kp HB.out hx114_3; replace hx114_4 := kp HB.out hx114_4; replace p114 := eq_true p114; replace q114 := eq_true q114
        have p115 : 0 ≤ (x3_1 : Int) := of_decide_eq_true ad
        have q115 : x3_1 < (l0.length : Int) := of_decide_eq_true ad
        obtain ⟨ad115, e115, hx115_0, hx115_1, hx115_2, hx115_3, hx115_4⟩ := at_T73 HR0.out x3_1 p115 q115
        obtain rfl : ad112 = ad115 := (by injection e115)
        replace hx115_0 := kp HB.out hx115_0; replace hx115_1 := kp HB.out hx115_1; replace hx115_2 := kp HB.out hx115_2; replace hx115_3 := kp HB.out hx115_3; replace hx115_4 := kp HB.out hx115_4; replace p115 := eq_true p115; replace q115 := eq_true q115; go_wp2
        repeat (go_quiet (fail); try go_wp2)
        go_roundg k2
        case measure => have := HK1.out; have := HK2.out; omega
        case rel => exact ⟨(wrap64 (x4_2 + 1)), sq, H', ⟨b160_⟩, ⟨bel⟩⟩
       rw [if_neg c7] at H; have c7b0 := decide_eq_false c7; clear c7
       have H' := am H
       clear H; go_wp2
       go_roundg k2
       case measure => have := HK1.out; have := HK2.out; omega
       case rel => exact ⟨(wrap64 (x3_1 + 1)), sq, H', ⟨b160_⟩, ⟨bel⟩⟩
    replace c5 := Bool.eq_false_iff.mpr c5; subst c5
    rw [if_neg Bool.false_ne_true] at H
    obtain rfl := Option.some.inj H
    have p112 : 0 ≤ (x3_1 : Int) := of_decide_eq_true ad
    have q112 : x3_1 < (l0.length : Int) := of_decide_eq_true ad
    obtain ⟨ad112, e112, hx112_0, hx112_1, hx112_2, hx112_3, hx112_4⟩ := at_T73 HR0.out x3_1 p112 q112; cases e112; replace hx112_0 := kp HB.out hx112_0; replace hx112_1 := kp HB.out hx112_1; replace hx112_2 := kp HB.out hx112_2; replace hx112_3 := kp HB.out hx112_3; replace hx112_4 := kp HB.out hx112_4; replace p112 := eq_true p112; replace q112 := eq_true q112
    go_wp2_with (go_at_call 94; (with_reducible refine (spec_AffixOk.calls k1 ((rd_T73 l0 x3_1).f0) ((rd_T73 l0 x3_1).f1) ((rd_T73 l0 x3_1).f2) ((rd_T73 l0 x3_1).f3) ((rd_T73 l0 x3_1).f4) false _ A4.out).mono ?_); rintro e w13 ⟨rfl, hb⟩; replace HB := am (below_step bel hb); clear hb)
    go_ret
    exact ⟨eq_, bel⟩
   rw [if_neg c2] at H; have c2b0 := decide_eq_false c2; clear c2; obtain rfl := Option.some.inj H; go_wp2
   go_ret
   exact ⟨eq_, bel⟩
-- shrunk

/-! ### spec_BookOk: function 17 -/
def spec_BookOk.l0 : Nat → Int → List (S73) → List (S66) → Option (Bool)
 | 0, _, _, _ => none
 | k + 1, x3, x117000, x117001 => if x3 < (x117001.length : Int) then (if 0 ≤ x3 then ((spec_l2Entry.f k ((rd_T66 x117001 x3).f0) ((rd_T66 x117001 x3).f1)).bind fun t118 => (if t118 = true then (if x3 > 0 then (if 0 ≤ (wrap64 (x3 - 1)) then (if (wrap64 (x3 - 1)) < (x117001.length : Int) then (if ((Op.bytesLess (((rd_T66 x117001 (wrap64 (x3 - 1))).f0).toList) (((rd_T66 x117001 x3).f0).toList)) = true) then (spec_BookOk.l0 k (wrap64 (x3 + 1)) x117000 x117001) else (some false)) else (none)) else (none)) else (spec_BookOk.l0 k (wrap64 (x3 + 1)) x117000 x117001)) else (some false))) else (none)) else ((spec_l2Affixes.f k x117000).bind fun t121 => (if t121 = true then (some (decide ((x117001.length : Int) ≤ 24))) else (some false)))
def spec_BookOk.f (k : Nat) (l0_0 : List (S73)) (l0_1 : List (S66)) : Option (Bool) := spec_BookOk.l0 k 0 l0_0 l0_1
def spec_BookOk.T4 : Bool × List (List Nat × List Nat) := (true, [([], []), ([0], [0]), ([], []), ([1, 2], [1, 2]), ([3], [3]), ([4], [4]), ([5], [5]), ([6, 5], [6]), ([7], [7]), ([8, 7], [7, 8]), ([9, 7, 7], [7, 9]), ([10], [10]), ([11, 10], [10, 11]), ([10], [10]), ([13, 10], [10, 13]), ([12, 14, 10], [10, 12, 14]), ([15, 10], [10, 15]), ([16, 10], [10, 16]), ([10], [10]), ([18, 10], [10, 18]), ([10], [10]), ([19, 20, 10], [10, 19, 20]), ([21, 10], [10, 21]), ([22, 10], [10, 22]), ([17, 23, 10], [10, 17, 23]), ([10, 24, 7], [7, 10, 24]), ([7, 25], [7, 25])])
def spec_BookOk.B4 : List Nat := [0, 1, 0, 7, 15, 31, 63, 127, 255, 511, 1023, 2047, 4095, 2047, 10239, 32767, 65535, 131071, 2047, 264191, 2047, 1837055, 3934207, 8128511, 16777215, 33554431, 67108863]
theorem spec_BookOk.tab4 : rtab .any (opsOf Try.f17 4) = spec_BookOk.T4 := by kernel_rfl
theorem spec_BookOk.bits4 : waitsOk spec_BookOk.T4.2 spec_BookOk.B4 = true := by kernel_rfl
theorem spec_BookOk.calls (k : Nat) (A0_0 : Option Addr) (c0_0 : Nat) (l0_0 : List (S73)) (A0_1 : Option Addr) (c0_1 : Nat) (l0_1 : List (S66)) (r : Bool) (w : World) (hr0_0 : Kd.C k73 w A0_0 l0_0.length l0_0) (hc0_0 : l0_0.length ≤ c0_0) (hr0_1 : Kd.C k66 w A0_1 l0_1.length l0_1) (hc0_1 : l0_1.length ≤ c0_1) (h : spec_BookOk.f k l0_0 l0_1 = some r) :
  Calls Try.prog 17 #[.agg #[.slice A0_0 l0_0.length c0_0, .slice A0_1 l0_1.length c0_1]] w fun e w' => e = .returned (.bool r) ∧ Below w.heap.size w w' := by
 have hu34 := Try.underlying34; have hu66 := Try.underlying66; have HR0_0 := am hr0_0; have HC0_0 := am hc0_0; clear hr0_0 hc0_0; have HR0_1 := am hr0_1; have HC0_1 := am hc0_1; clear hr0_1 hc0_1; have HB := am (Below.refl w.heap.size w)
 have H := h; unfold spec_BookOk.f at H
 clear h
 have H' := am H
 clear H; go_enter Try.func17, Try.ntmps17
 go_wp2_with ((with_reducible refine gate_dst (N := 1) rfl ?_); ((refine gate_guard (by rfl) ?_; dsimp only)); refine bx 1 (cs := #[.slice A0_0 l0_0.length c0_0, .slice A0_1 l0_1.length c0_1]) (t := 34) ?_; intro gb116 hg w2 hbox hb; have BK116 := am (hbox); have GW116 := am ((b26_ : w.heap.size ≤ gb116)); have GE116 := am ((b26_ : w.heap.size ≤ gb116)); replace HB := am (below_step bel hb); clear hb hbox hg)
 go_loopg [3] k (fun kq v3 w' => ∃ (x3_1 : Int), v3 = .int .i64 x3_1 ∧ Aside0 (spec_BookOk.l0 kq x3_1 l0_0 l0_1 = some r) ∧ Aside0 (kq ≤ k) ∧ Aside0 (w'.heap[gb116]? = some (.cells #[(.slice A0_0 l0_0.length c0_0), (.slice A0_1 l0_1.length c0_1)] 34 (0, 0))) ∧ Aside0 (Below w.heap.size w w'))
 case atStart => exact ⟨(0), sq, H', ⟨Nat.le_refl _⟩, ⟨bq BK116.out⟩, ⟨bel1 GE116.out⟩⟩
 case round =>
  clear H'; obtain ⟨x3_1, rfl, HA, HK1, BK116, HB⟩ := hrel
  cases gk with
  | zero => exact absurd HA.out (by simp [spec_BookOk.l0])
  | succ k1 =>
   have H := HA.out; clear HA; simp only [spec_BookOk.l0] at H
   by_cases c3 : x3_1 < (l0_1.length : Int)
   ·rw [if_pos c3] at H; have c3b0 := decide_eq_true c3; clear c3
    replace H := it H; obtain ⟨c4b0, H⟩ := H; replace H := bs H; obtain ⟨t118, A50, H⟩ := H; have A5 := Aside0.mk A50; clear A50
    by_cases c6 : t118 = true
    ·subst c6
     rw [if_pos rfl] at H
     by_cases c7 : x3_1 > 0
     ·rw [if_pos c7] at H; have c7b0 := decide_eq_true c7; clear c7; obtain ⟨ji8, hji8⟩ : ∃ j_ : Int, (wrap64 (x3_1 - 1)) = j_ := ⟨_, rfl⟩
      rw [hji8] at H
      have hji8w : (IntKind.i64.wrap (x3_1 - 1)) = ji8 := (i64_w _).trans hji8
      replace H := it H; obtain ⟨c9b0, H⟩ := H; replace H := it H; obtain ⟨c10b0, H⟩ := H
      by_cases c11 : ((Op.bytesLess (((rd_T66 l0_1 (ji8)).f0).toList) (((rd_T66 l0_1 x3_1).f0).toList)) = true)
      ·rw [if_pos c11] at H
       have c11b0 : (Op.bytesLess (((rd_T66 l0_1 (ji8)).f0).toList) (((rd_T66 l0_1 x3_1).f0).toList)) = true := c11
       clear c11
       have H' := am H
       clear H; have ⟨hcz12_0, hcz12_1, hfz12_0, hfz12_1⟩ := b2c BK116.out
       try go_wp2
       replace BK116 := am (blk_drew BK116.out); replace HB := am (below_drew1 HB.out)
       have p117 : 0 ≤ (x3_1 : Int) := of_decide_eq_true ad
       have q117 : x3_1 < (l0_1.length : Int) := of_decide_eq_true ad
       obtain ⟨ad117, e117, hx117_0, hx117_1⟩ := at_T66 HR0_1.out x3_1 p117 q117; have hw117_1 := hx117_1; have hw117_0 := hx117_0; cases e117; replace hx117_0 := kp HB.out hx117_0; replace hx117_1 := kp HB.out hx117_1; replace p117 := eq_true p117; replace q117 := eq_true q117
       have p119 : 0 ≤ ((ji8) : Int) := of_decide_eq_true ad
       have q119 : (ji8) < (l0_1.length : Int) := of_decide_eq_true ad
       obtain ⟨ad119, e119, hx119_0, hx119_1⟩ := at_T66 HR0_1.out (ji8) p119 q119; have hw119_1 := hx119_1; have hw119_0 := hx119_0
       obtain rfl : ad117 = ad119 := (by injection e119)
       replace hx119_0 := kp HB.out hx119_0; replace hx119_1 := kp HB.out hx119_1; replace p119 := eq_true p119; replace q119 := eq_true q119
       have p120 : 0 ≤ (x3_1 : Int) := of_decide_eq_true ad
       have q120 : x3_1 < (l0_1.length : Int) := of_decide_eq_true ad
       obtain ⟨ad120, e120, hx120_0, hx120_1⟩ := at_T66 HR0_1.out x3_1 p120 q120; have hw120_1 := hx120_1; have hw120_0 := hx120_0
       obtain rfl : ad117 = ad120 := (by injection e120)
       replace hx120_0 := kp HB.out hx120_0; replace hx120_1 := kp HB.out hx120_1; replace p120 := eq_true p120; replace q120 := eq_true q120
       refine st (n := 27) (S := fun w' => w'.cell? ⟨gb116, 0, none⟩ = some (.slice A0_0 l0_0.length c0_0) ∧ w'.cell? ⟨gb116, 1, none⟩ = some (.slice (some ad117) l0_1.length c0_1) ∧ w'.cell? (ad117.add ((x3_1).toNat * 2)) = some (.string ((rd_T66 l0_1 x3_1).f0)) ∧ w'.cell? ⟨(ad117.add ((x3_1).toNat * 2)).block, (ad117.add ((x3_1).toNat * 2)).off + 1, none⟩ = some (.string ((rd_T66 l0_1 x3_1).f1)) ∧ w'.cell? (ad117.add (((ji8)).toNat * 2)) = some (.string ((rd_T66 l0_1 (ji8)).f0)) ∧ w'.cell? ⟨(ad117.add (((ji8)).toNat * 2)).block, (ad117.add (((ji8)).toNat * 2)).off + 1, none⟩ = some (.string ((rd_T66 l0_1 (ji8)).f1)) ∧ w'.cell? (ad117.add ((x3_1).toNat * 2)) = some (.string ((rd_T66 l0_1 x3_1).f0)) ∧ w'.cell? ⟨(ad117.add ((x3_1).toNat * 2)).block, (ad117.add ((x3_1).toNat * 2)).off + 1, none⟩ = some (.string ((rd_T66 l0_1 x3_1).f1))) (ds := []) ⟨bd BK116.out 0, bd BK116.out 1, (kp HB.out hw117_0), (kp HB.out hw117_1), (kp HB.out hw119_0), (kp HB.out hw119_1), (kp HB.out hw120_0), (kp HB.out hw120_1)⟩ (fun hHeld => ?_); refine with_tabW spec_BookOk.tab4 spec_BookOk.bits4 (fun HT_ HW_ => ?_)
       generalize wr.drew = w13 at BK116 HB hx117_0 hx117_1 hx119_0 hx119_1 hx120_0 hx120_1 hHeld ⊢; refine pu 0 11 ?_; refine pu 2 13 ?_
       refine take_ (i := 1) (N := some 12) (v := ?_) (a' := ?_) #[true, true, true, false, false, false, false, false, false, false, false, false, false, false, false, false, false, false, false, false, false, false, false, false, false, false, false] rfl rfl (take_ofW HT_.out HW_.out (by kernel_rfl)) (fun _ _ _ h => h) (Or.inl ⟨by rfl, ?_⟩) hHeld ?_ ?_
       rotate_left
       ·rintro w' ⟨s0, s1, s2, s3, s4, s5, s6, s7⟩
        go_simp
        with_reducible rfl
       rotate_left
       ·simp only [Act.put, List.setIfInBounds_toArray, List.set_cons_zero, List.set_cons_succ, i64_w, i32_w]
        rfl
       refine pu 3 14 ?_
       refine take_ (i := 4) (N := some 15) (v := ?_) (a' := ?_) #[true, true, true, true, true, false, false, false, false, false, false, false, false, false, false, false, false, false, false, false, false, false, false, false, false, false, false] rfl rfl (take_ofW HT_.out HW_.out (by kernel_rfl)) (fun _ _ _ h => h) (Or.inl ⟨by rfl, ?_⟩) hHeld ?_ ?_
       rotate_left
       ·rintro w' ⟨s0, s1, s2, s3, s4, s5, s6, s7⟩
        go_simp
        with_reducible rfl
       rotate_left
       ·simp only [Act.put, List.setIfInBounds_toArray, List.set_cons_zero, List.set_cons_succ, i64_w, i32_w]
        rfl
       refine on1 5 16 (fun K hK => ?_)
       refine go1 Try.func55 #[.agg #[.string ((rd_T66 l0_1 x3_1).f0), .string ((rd_T66 l0_1 x3_1).f1)]] ?_
       with_reducible refine (spec_l2Entry.calls k1 ((rd_T66 l0_1 x3_1).f0) ((rd_T66 l0_1 x3_1).f1) true _ A5.out).mono ?_
       rintro e w14 ⟨rfl, hb⟩; refine ⟨_, rfl, ?_⟩; replace BK116 := am (blk_below (bq BK116.out) hb); replace HB := am (below_step (bel1 GE116.out) hb); clear hb; refine hK.out _ _ ⟨bd BK116.out 0, bd BK116.out 1, (kp HB.out hw117_0), (kp HB.out hw117_1), (kp HB.out hw119_0), (kp HB.out hw119_1), (kp HB.out hw120_0), (kp HB.out hw120_1)⟩ (fun hHeld => ?_); clear hK K; refine nm 16 ?_; refine pu 6 17 ?_; refine pu 7 18 ?_; refine pu 8 19 ?_; refine pu 9 20 ?_; refine pu 10 21 ?_; refine pu 11 22 ?_; refine pu 13 24 ?_; refine pu 14 25 ?_; refine pu 18 29 ?_; refine pu 20 31 ?_
       refine take_ (i := 12) (N := some 23) (v := ?_) (a' := ?_) #[true, true, true, true, true, true, true, true, true, true, true, true, true, true, true, false, false, false, true, false, true, false, false, false, false, false, false] rfl rfl (take_ofW HT_.out HW_.out (by kernel_rfl)) (fun _ _ _ h => h) (Or.inl ⟨by rfl, ?_⟩) hHeld ?_ ?_
       rotate_left
       ·rintro w' ⟨s0, s1, s2, s3, s4, s5, s6, s7⟩
        go_simp
        with_reducible rfl
       rotate_left
       ·simp only [Act.put, List.setIfInBounds_toArray, List.set_cons_zero, List.set_cons_succ, i64_w, i32_w]
        rfl
       refine pu 15 26 ?_; refine pu 16 27 ?_
       refine take_ (i := 17) (N := some 28) (v := ?_) (a' := ?_) #[true, true, true, true, true, true, true, true, true, true, true, true, true, true, true, true, true, true, true, false, true, false, false, false, false, false, false] rfl rfl (take_ofW HT_.out HW_.out (by kernel_rfl)) (fun _ _ _ h => h) (Or.inl ⟨by rfl, ?_⟩) hHeld ?_ ?_
       rotate_left
       ·rintro w' ⟨s0, s1, s2, s3, s4, s5, s6, s7⟩
        go_simp
        with_reducible rfl
       rotate_left
       ·simp only [Act.put, List.setIfInBounds_toArray, List.set_cons_zero, List.set_cons_succ, i64_w, i32_w]
        rfl
       refine take_ (i := 19) (N := some 30) (v := ?_) (a' := ?_) #[true, true, true, true, true, true, true, true, true, true, true, true, true, true, true, true, true, true, true, true, true, false, false, false, false, false, false] rfl rfl (take_ofW HT_.out HW_.out (by kernel_rfl)) (fun _ _ _ h => h) (Or.inl ⟨by rfl, ?_⟩) hHeld ?_ ?_
       rotate_left
       ·rintro w' ⟨s0, s1, s2, s3, s4, s5, s6, s7⟩
        go_simp
        with_reducible rfl
       rotate_left
       ·simp only [Act.put, List.setIfInBounds_toArray, List.set_cons_zero, List.set_cons_succ, i64_w, i32_w]
        rfl
       refine pu 21 32 ?_; refine pu 22 33 ?_
       refine take_ (i := 23) (N := some 34) (v := ?_) (a' := ?_) #[true, true, true, true, true, true, true, true, true, true, true, true, true, true, true, true, true, true, true, true, true, true, true, true, false, false, false] rfl rfl (take_ofW HT_.out HW_.out (by kernel_rfl)) (fun _ _ _ h => h) (Or.inl ⟨by rfl, ?_⟩) hHeld ?_ ?_
       rotate_left
       ·rintro w' ⟨s0, s1, s2, s3, s4, s5, s6, s7⟩
        go_simp
        with_reducible rfl
       rotate_left
       ·simp only [Act.put, List.setIfInBounds_toArray, List.set_cons_zero, List.set_cons_succ, i64_w, i32_w]
        rfl
       refine pu 24 35 ?_; refine pu 25 36 ?_; refine pu 26 37 ?_
       refine done_ (done_of HT_.out (by kernel_rfl)) ?_
       try go_wp2
       go_roundg k1
       case measure => have := HK1.out; omega
       case rel => exact ⟨(wrap64 (x3_1 + 1)), sq, H', ⟨b129_⟩, ⟨bq BK116.out⟩, ⟨bel1 GE116.out⟩⟩
      rw [if_neg c11] at H
      have c11b0 : (Op.bytesLess (((rd_T66 l0_1 (ji8)).f0).toList) (((rd_T66 l0_1 x3_1).f0).toList)) = false := by simpa using c11
      clear c11; obtain rfl := Option.some.inj H; have ⟨hcz15_0, hcz15_1, hfz15_0, hfz15_1⟩ := b2c BK116.out
      try go_wp2
      replace BK116 := am (blk_drew BK116.out); replace HB := am (below_drew1 HB.out)
      have p117 : 0 ≤ (x3_1 : Int) := of_decide_eq_true ad
      have q117 : x3_1 < (l0_1.length : Int) := of_decide_eq_true ad
      obtain ⟨ad117, e117, hx117_0, hx117_1⟩ := at_T66 HR0_1.out x3_1 p117 q117; have hw117_1 := hx117_1; have hw117_0 := hx117_0; cases e117; replace hx117_0 := kp HB.out hx117_0; replace hx117_1 := kp HB.out hx117_1; replace p117 := eq_true p117; replace q117 := eq_true q117
      have p119 : 0 ≤ ((ji8) : Int) := of_decide_eq_true ad
      have q119 : (ji8) < (l0_1.length : Int) := of_decide_eq_true ad
      obtain ⟨ad119, e119, hx119_0, hx119_1⟩ := at_T66 HR0_1.out (ji8) p119 q119; have hw119_1 := hx119_1; have hw119_0 := hx119_0
      obtain rfl : ad117 = ad119 := (by injection e119)
      replace hx119_0 := kp HB.out hx119_0; replace hx119_1 := kp HB.out hx119_1; replace p119 := eq_true p119; replace q119 := eq_true q119
      have p120 : 0 ≤ (x3_1 : Int) := of_decide_eq_true ad
      have q120 : x3_1 < (l0_1.length : Int) := of_decide_eq_true ad
      obtain ⟨ad120, e120, hx120_0, hx120_1⟩ := at_T66 HR0_1.out x3_1 p120 q120; have hw120_1 := hx120_1; have hw120_0 := hx120_0
      obtain rfl : ad117 = ad120 := (by injection e120)
      replace hx120_0 := kp HB.out hx120_0; replace hx120_1 := kp HB.out hx120_1; replace p120 := eq_true p120; replace q120 := eq_true q120
      refine st (n := 27) (S := fun w' => w'.cell? ⟨gb116, 0, none⟩ = some (.slice A0_0 l0_0.length c0_0) ∧ w'.cell? ⟨gb116, 1, none⟩ = some (.slice (some ad117) l0_1.length c0_1) ∧ w'.cell? (ad117.add ((x3_1).toNat * 2)) = some (.string ((rd_T66 l0_1 x3_1).f0)) ∧ w'.cell? ⟨(ad117.add ((x3_1).toNat * 2)).block, (ad117.add ((x3_1).toNat * 2)).off + 1, none⟩ = some (.string ((rd_T66 l0_1 x3_1).f1)) ∧ w'.cell? (ad117.add (((ji8)).toNat * 2)) = some (.string ((rd_T66 l0_1 (ji8)).f0)) ∧ w'.cell? ⟨(ad117.add (((ji8)).toNat * 2)).block, (ad117.add (((ji8)).toNat * 2)).off + 1, none⟩ = some (.string ((rd_T66 l0_1 (ji8)).f1)) ∧ w'.cell? (ad117.add ((x3_1).toNat * 2)) = some (.string ((rd_T66 l0_1 x3_1).f0)) ∧ w'.cell? ⟨(ad117.add ((x3_1).toNat * 2)).block, (ad117.add ((x3_1).toNat * 2)).off + 1, none⟩ = some (.string ((rd_T66 l0_1 x3_1).f1))) (ds := []) ⟨bd BK116.out 0, bd BK116.out 1, (kp HB.out hw117_0), (kp HB.out hw117_1), (kp HB.out hw119_0), (kp HB.out hw119_1), (kp HB.out hw120_0), (kp HB.out hw120_1)⟩ (fun hHeld => ?_); refine with_tabW spec_BookOk.tab4 spec_BookOk.bits4 (fun HT_ HW_ => ?_)
      generalize wr.drew = w16 at BK116 HB hx117_0 hx117_1 hx119_0 hx119_1 hx120_0 hx120_1 hHeld ⊢; refine pu 0 11 ?_; refine pu 2 13 ?_
      refine take_ (i := 1) (N := some 12) (v := ?_) (a' := ?_) #[true, true, true, false, false, false, false, false, false, false, false, false, false, false, false, false, false, false, false, false, false, false, false, false, false, false, false] rfl rfl (take_ofW HT_.out HW_.out (by kernel_rfl)) (fun _ _ _ h => h) (Or.inl ⟨by rfl, ?_⟩) hHeld ?_ ?_
      rotate_left
      ·rintro w' ⟨s0, s1, s2, s3, s4, s5, s6, s7⟩
       go_simp
       with_reducible rfl
      rotate_left
      ·simp only [Act.put, List.setIfInBounds_toArray, List.set_cons_zero, List.set_cons_succ, i64_w, i32_w]
       rfl
      refine pu 3 14 ?_
      refine take_ (i := 4) (N := some 15) (v := ?_) (a' := ?_) #[true, true, true, true, true, false, false, false, false, false, false, false, false, false, false, false, false, false, false, false, false, false, false, false, false, false, false] rfl rfl (take_ofW HT_.out HW_.out (by kernel_rfl)) (fun _ _ _ h => h) (Or.inl ⟨by rfl, ?_⟩) hHeld ?_ ?_
      rotate_left
      ·rintro w' ⟨s0, s1, s2, s3, s4, s5, s6, s7⟩
       go_simp
       with_reducible rfl
      rotate_left
      ·simp only [Act.put, List.setIfInBounds_toArray, List.set_cons_zero, List.set_cons_succ, i64_w, i32_w]
       rfl
      refine on1 5 16 (fun K hK => ?_)
      refine go1 Try.func55 #[.agg #[.string ((rd_T66 l0_1 x3_1).f0), .string ((rd_T66 l0_1 x3_1).f1)]] ?_
      with_reducible refine (spec_l2Entry.calls k1 ((rd_T66 l0_1 x3_1).f0) ((rd_T66 l0_1 x3_1).f1) true _ A5.out).mono ?_
      rintro e w17 ⟨rfl, hb⟩; refine ⟨_, rfl, ?_⟩; replace BK116 := am (blk_below (bq BK116.out) hb); replace HB := am (below_step (bel1 GE116.out) hb); clear hb; refine hK.out _ _ ⟨bd BK116.out 0, bd BK116.out 1, (kp HB.out hw117_0), (kp HB.out hw117_1), (kp HB.out hw119_0), (kp HB.out hw119_1), (kp HB.out hw120_0), (kp HB.out hw120_1)⟩ (fun hHeld => ?_); clear hK K; refine nm 16 ?_; refine pu 6 17 ?_; refine pu 7 18 ?_; refine pu 8 19 ?_; refine pu 9 20 ?_; refine pu 10 21 ?_; refine pu 11 22 ?_; refine pu 13 24 ?_; refine pu 14 25 ?_; refine pu 18 29 ?_; refine pu 20 31 ?_
      refine take_ (i := 12) (N := some 23) (v := ?_) (a' := ?_) #[true, true, true, true, true, true, true, true, true, true, true, true, true, true, true, false, false, false, true, false, true, false, false, false, false, false, false] rfl rfl (take_ofW HT_.out HW_.out (by kernel_rfl)) (fun _ _ _ h => h) (Or.inl ⟨by rfl, ?_⟩) hHeld ?_ ?_
      rotate_left
      ·rintro w' ⟨s0, s1, s2, s3, s4, s5, s6, s7⟩
       go_simp
       with_reducible rfl
      rotate_left
      ·simp only [Act.put, List.setIfInBounds_toArray, List.set_cons_zero, List.set_cons_succ, i64_w, i32_w]
       rfl
      refine pu 15 26 ?_; refine pu 16 27 ?_
      refine take_ (i := 17) (N := some 28) (v := ?_) (a' := ?_) #[true, true, true, true, true, true, true, true, true, true, true, true, true, true, true, true, true, true, true, false, true, false, false, false, false, false, false] rfl rfl (take_ofW HT_.out HW_.out (by kernel_rfl)) (fun _ _ _ h => h) (Or.inl ⟨by rfl, ?_⟩) hHeld ?_ ?_
      rotate_left
      ·rintro w' ⟨s0, s1, s2, s3, s4, s5, s6, s7⟩
       go_simp
       with_reducible rfl
      rotate_left
      ·simp only [Act.put, List.setIfInBounds_toArray, List.set_cons_zero, List.set_cons_succ, i64_w, i32_w]
       rfl
      refine take_ (i := 19) (N := some 30) (v := ?_) (a' := ?_) #[true, true, true, true, true, true, true, true, true, true, true, true, true, true, true, true, true, true, true, true, true, false, false, false, false, false, false] rfl rfl (take_ofW HT_.out HW_.out (by kernel_rfl)) (fun _ _ _ h => h) (Or.inl ⟨by rfl, ?_⟩) hHeld ?_ ?_
      rotate_left
      ·rintro w' ⟨s0, s1, s2, s3, s4, s5, s6, s7⟩
       go_simp
       with_reducible rfl
      rotate_left
      ·simp only [Act.put, List.setIfInBounds_toArray, List.set_cons_zero, List.set_cons_succ, i64_w, i32_w]
       rfl
      refine pu 21 32 ?_; refine pu 22 33 ?_
      refine take_ (i := 23) (N := some 34) (v := ?_) (a' := ?_) #[true, true, true, true, true, true, true, true, true, true, true, true, true, true, true, true, true, true, true, true, true, true, true, true, false, false, false] rfl rfl (take_ofW HT_.out HW_.out (by kernel_rfl)) (fun _ _ _ h => h) (Or.inl ⟨by rfl, ?_⟩) hHeld ?_ ?_
      rotate_left
      ·rintro w' ⟨s0, s1, s2, s3, s4, s5, s6, s7⟩
       go_simp
       with_reducible rfl
      rotate_left
      ·simp only [Act.put, List.setIfInBounds_toArray, List.set_cons_zero, List.set_cons_succ, i64_w, i32_w]
       rfl
      refine pu 24 35 ?_; refine pu 25 36 ?_; refine pu 26 37 ?_
      refine done_ (done_of HT_.out (by kernel_rfl)) ?_
      try go_wp2
      go_ret
      exact ⟨b148_, bel1 GE116.out⟩
     rw [if_neg c7] at H; have c7b0 := decide_eq_false c7; clear c7
     have H' := am H
     clear H; have ⟨hcz18_0, hcz18_1, hfz18_0, hfz18_1⟩ := b2c BK116.out
     try go_wp2
     replace BK116 := am (blk_drew BK116.out); replace HB := am (below_drew1 HB.out)
     have p117 : 0 ≤ (x3_1 : Int) := of_decide_eq_true ad
     have q117 : x3_1 < (l0_1.length : Int) := of_decide_eq_true ad
     obtain ⟨ad117, e117, hx117_0, hx117_1⟩ := at_T66 HR0_1.out x3_1 p117 q117; have hw117_1 := hx117_1; have hw117_0 := hx117_0; cases e117; replace hx117_0 := kp HB.out hx117_0; replace hx117_1 := kp HB.out hx117_1; replace p117 := eq_true p117; replace q117 := eq_true q117
     refine st (n := 27) (S := fun w' => w'.cell? ⟨gb116, 0, none⟩ = some (.slice A0_0 l0_0.length c0_0) ∧ w'.cell? ⟨gb116, 1, none⟩ = some (.slice (some ad117) l0_1.length c0_1) ∧ w'.cell? (ad117.add ((x3_1).toNat * 2)) = some (.string ((rd_T66 l0_1 x3_1).f0)) ∧ w'.cell? ⟨(ad117.add ((x3_1).toNat * 2)).block, (ad117.add ((x3_1).toNat * 2)).off + 1, none⟩ = some (.string ((rd_T66 l0_1 x3_1).f1))) (ds := []) ⟨bd BK116.out 0, bd BK116.out 1, (kp HB.out hw117_0), (kp HB.out hw117_1)⟩ (fun hHeld => ?_); refine with_tabW spec_BookOk.tab4 spec_BookOk.bits4 (fun HT_ HW_ => ?_)
     generalize wr.drew = w19 at BK116 HB hx117_0 hx117_1 hHeld ⊢; refine pu 0 11 ?_; refine pu 2 13 ?_; refine tk4 1 12 hHeld ?_; refine pu 3 14 ?_; refine tk4 4 15 hHeld ?_; refine on1 5 16 (fun K hK => ?_)
     refine go1 Try.func55 #[.agg #[.string ((rd_T66 l0_1 x3_1).f0), .string ((rd_T66 l0_1 x3_1).f1)]] ?_
     with_reducible refine (spec_l2Entry.calls k1 ((rd_T66 l0_1 x3_1).f0) ((rd_T66 l0_1 x3_1).f1) true _ A5.out).mono ?_
     rintro e w20 ⟨rfl, hb⟩; refine ⟨_, rfl, ?_⟩; replace BK116 := am (blk_below (bq BK116.out) hb); replace HB := am (below_step (bel1 GE116.out) hb); clear hb; refine hK.out _ _ ⟨bd BK116.out 0, bd BK116.out 1, (kp HB.out hw117_0), (kp HB.out hw117_1)⟩ (fun hHeld => ?_); clear hK K; refine nm 16 ?_; refine pu 6 17 ?_; refine pu 7 18 ?_; refine pu 8 19 ?_; refine pu 9 20 ?_; refine pu 10 21 ?_; refine puu 11 22 ?_; refine puu 12 23 ?_; refine puu 13 24 ?_; refine puu 14 25 ?_; refine puu 15 26 ?_; refine puu 16 27 ?_; refine puu 17 28 ?_; refine puu 18 29 ?_; refine puu 19 30 ?_; refine puu 20 31 ?_; refine puu 21 32 ?_; refine puu 22 33 ?_; refine puu 23 34 ?_; refine puu 24 35 ?_; refine pu 25 36 ?_; refine pu 26 37 ?_
     refine done_ (done_of HT_.out (by kernel_rfl)) ?_
     try go_wp2
     go_roundg k1
     case measure => have := HK1.out; omega
     case rel => exact ⟨(wrap64 (x3_1 + 1)), sq, H', ⟨b129_⟩, ⟨bq BK116.out⟩, ⟨bel1 GE116.out⟩⟩
    replace c6 := Bool.eq_false_iff.mpr c6; subst c6
    rw [if_neg Bool.false_ne_true] at H
    obtain rfl := Option.some.inj H; have ⟨hcz21_0, hcz21_1, hfz21_0, hfz21_1⟩ := b2c BK116.out
    try go_wp2
    replace BK116 := am (blk_drew BK116.out); replace HB := am (below_drew1 HB.out)
    have p117 : 0 ≤ (x3_1 : Int) := of_decide_eq_true ad
    have q117 : x3_1 < (l0_1.length : Int) := of_decide_eq_true ad
    obtain ⟨ad117, e117, hx117_0, hx117_1⟩ := at_T66 HR0_1.out x3_1 p117 q117; have hw117_1 := hx117_1; have hw117_0 := hx117_0; cases e117; replace hx117_0 := kp HB.out hx117_0; replace hx117_1 := kp HB.out hx117_1; replace p117 := eq_true p117; replace q117 := eq_true q117
    refine st (n := 27) (S := fun w' => w'.cell? ⟨gb116, 0, none⟩ = some (.slice A0_0 l0_0.length c0_0) ∧ w'.cell? ⟨gb116, 1, none⟩ = some (.slice (some ad117) l0_1.length c0_1) ∧ w'.cell? (ad117.add ((x3_1).toNat * 2)) = some (.string ((rd_T66 l0_1 x3_1).f0)) ∧ w'.cell? ⟨(ad117.add ((x3_1).toNat * 2)).block, (ad117.add ((x3_1).toNat * 2)).off + 1, none⟩ = some (.string ((rd_T66 l0_1 x3_1).f1))) (ds := []) ⟨bd BK116.out 0, bd BK116.out 1, (kp HB.out hw117_0), (kp HB.out hw117_1)⟩ (fun hHeld => ?_); refine with_tabW spec_BookOk.tab4 spec_BookOk.bits4 (fun HT_ HW_ => ?_)
    generalize wr.drew = w22 at BK116 HB hx117_0 hx117_1 hHeld ⊢; refine pu 0 11 ?_; refine pu 2 13 ?_; refine tk4 1 12 hHeld ?_; refine pu 3 14 ?_; refine tk4 4 15 hHeld ?_; refine on1 5 16 (fun K hK => ?_)
    refine go1 Try.func55 #[.agg #[.string ((rd_T66 l0_1 x3_1).f0), .string ((rd_T66 l0_1 x3_1).f1)]] ?_
    with_reducible refine (spec_l2Entry.calls k1 ((rd_T66 l0_1 x3_1).f0) ((rd_T66 l0_1 x3_1).f1) false _ A5.out).mono ?_
    rintro e w23 ⟨rfl, hb⟩; refine ⟨_, rfl, ?_⟩; replace BK116 := am (blk_below (bq BK116.out) hb); replace HB := am (below_step (bel1 GE116.out) hb); clear hb; refine hK.out _ _ ⟨bd BK116.out 0, bd BK116.out 1, (kp HB.out hw117_0), (kp HB.out hw117_1)⟩ (fun hHeld => ?_); clear hK K; refine nm 16 ?_; refine pu 6 17 ?_; refine pu 7 18 ?_; refine puu 8 19 ?_; refine puu 9 20 ?_; refine puu 10 21 ?_; refine puu 11 22 ?_; refine puu 12 23 ?_; refine puu 13 24 ?_; refine puu 14 25 ?_; refine puu 15 26 ?_; refine puu 16 27 ?_; refine puu 17 28 ?_; refine puu 18 29 ?_; refine puu 19 30 ?_; refine puu 20 31 ?_; refine puu 21 32 ?_; refine puu 22 33 ?_; refine puu 23 34 ?_; refine puu 24 35 ?_; refine puu 25 36 ?_; refine pu 26 37 ?_
    refine done_ (done_of HT_.out (by kernel_rfl)) ?_
    try go_wp2
    go_ret
    exact ⟨eq_, bel1 GE116.out⟩
   rw [if_neg c3] at H; have c3b0 := decide_eq_false c3; clear c3; replace H := bs H; obtain ⟨t121, A240, H⟩ := H; have A24 := Aside0.mk A240; clear A240
   by_cases c25 : t121 = true
   ·subst c25
    rw [if_pos rfl] at H
    obtain rfl := Option.some.inj H; have ⟨hcz26_0, hcz26_1, hfz26_0, hfz26_1⟩ := b2c BK116.out
    go_wp2_with ((with_reducible refine gate_callee (f := 56) rfl ?_); refine gl 40 Try.func56 #[.slice A0_0 l0_0.length c0_0] ?_; (with_reducible refine (spec_l2Affixes.calls k1 _ _ l0_0 true _ ?side1 ?side2 A24.out).mono ?_); (case side1 => exact cq (Kd.C_below HR0_0.out HB.out)); (case side2 => exact HC0_0.out); rintro e w27 ⟨rfl, hb⟩; refine ⟨_, rfl, ?_⟩; replace BK116 := am (blk_below (bq BK116.out) hb); replace HB := am (below_step (bel1 GE116.out) hb); clear hb; have ⟨hcz28_0, hcz28_1, hfz28_0, hfz28_1⟩ := b2c BK116.out)
    go_ret
    exact ⟨eq_, bel1 GE116.out⟩
   replace c25 := Bool.eq_false_iff.mpr c25; subst c25
   rw [if_neg Bool.false_ne_true] at H
   obtain rfl := Option.some.inj H; have ⟨hcz29_0, hcz29_1, hfz29_0, hfz29_1⟩ := b2c BK116.out
   go_wp2_with ((with_reducible refine gate_callee (f := 56) rfl ?_); refine gl 40 Try.func56 #[.slice A0_0 l0_0.length c0_0] ?_; (with_reducible refine (spec_l2Affixes.calls k1 _ _ l0_0 false _ ?side1 ?side2 A24.out).mono ?_); (case side1 => exact cq (Kd.C_below HR0_0.out HB.out)); (case side2 => exact HC0_0.out); rintro e w30 ⟨rfl, hb⟩; refine ⟨_, rfl, ?_⟩; replace BK116 := am (blk_below (bq BK116.out) hb); replace HB := am (below_step (bel1 GE116.out) hb); clear hb)
   go_ret
   exact ⟨eq_, bel1 GE116.out⟩
-- shrunk

attribute [local go_sem high] eqA73
/-! ### spec_l5At: function 34 -/
def spec_l5At.l0 : Nat → List (S66) → ByteArray → Int → Option (Int × Bool)
 | 0, _, _, _ => none
 | k + 1, x0, x1, x6 => if x6 < (x0.length : Int) then (if 0 ≤ x6 then (if (Op.bytesLess (((rd_T66 x0 x6).f0).toList) x1.toList) = true then (spec_l5At.l0 k x0 x1 (wrap64 (x6 + 1))) else (some (x6, (((rd_T66 x0 x6).f0).toList == x1.toList)))) else (none)) else (some (x6, false))
def spec_l5At.f (k : Nat) (l0 : List (S66)) (a1 : ByteArray) : Option (Int × Bool) := spec_l5At.l0 k l0 a1 0
theorem spec_l5At.calls (k : Nat) (A0 : Option Addr) (c0 : Nat) (l0 : List (S66)) (a1 : ByteArray) (r1 : Int) (r2 : Bool) (w : World) (hr0 : Kd.C k66 w A0 l0.length l0) (hc0 : l0.length ≤ c0) (h : spec_l5At.f k l0 a1 = some (r1, r2)) :
  Calls Try.prog 34 #[.slice A0 l0.length c0, .string a1] w fun e w' => e = .returned (.tuple #[.int .i64 r1, .bool r2]) ∧ Drawn0 w w' := by
 have HR0 := am hr0; have HC0 := am hc0; clear hr0 hc0
 have H := h; unfold spec_l5At.f at H
 clear h
 have H' := am H
 clear H; go_enter Try.func34, Try.ntmps34; go_wp2
 go_loopg [6] k (fun kq v6 w' => ∃ (x6_1 : Int), v6 = .int .i64 x6_1 ∧ Aside0 (spec_l5At.l0 kq l0 a1 x6_1 = some (r1, r2)) ∧ Aside0 (kq ≤ k) ∧ Drawn0 w w')
 case atStart => exact ⟨(0), sq, H', ⟨Nat.le_refl _⟩, dr⟩
 case round =>
  clear H'; obtain ⟨x6_1, rfl, HA, HK1, ⟨m1, rfl⟩⟩ := hrel
  cases gk with
  | zero => exact absurd HA.out (by simp [spec_l5At.l0])
  | succ k1 =>
   have H := HA.out; clear HA; simp only [spec_l5At.l0] at H
   by_cases c3 : x6_1 < (l0.length : Int)
   ·rw [if_pos c3] at H; have c3b0 := decide_eq_true c3; clear c3
    replace H := it H; obtain ⟨c4b0, H⟩ := H
    by_cases c5 : (Op.bytesLess (((rd_T66 l0 x6_1).f0).toList) a1.toList) = true
    ·rw [if_pos c5] at H
     have c5b0 : (Op.bytesLess (((rd_T66 l0 x6_1).f0).toList) a1.toList) = true := c5
     clear c5
     have H' := am H
     clear H
     have p122 : 0 ≤ (x6_1 : Int) := of_decide_eq_true ad
     have q122 : x6_1 < (l0.length : Int) := of_decide_eq_true ad
     obtain ⟨ad122, e122, hx122_0, hx122_1⟩ := at_T66 HR0.out x6_1 p122 q122; cases e122
     replace p122 := eq_true p122; replace q122 := eq_true q122; go_wp2
     go_roundg k1
     case measure => have := HK1.out; omega
     case rel => exact ⟨(wrap64 (x6_1 + 1)), sq, H', ⟨b129_⟩, dr⟩
    rw [if_neg c5] at H
    have c5b0 : (Op.bytesLess (((rd_T66 l0 x6_1).f0).toList) a1.toList) = false := by simpa using c5
    clear c5; simp only [Option.some.injEq, Prod.mk.injEq] at H; obtain ⟨rfl, rfl⟩ := H
    have p122 : 0 ≤ (x6_1 : Int) := of_decide_eq_true ad
    have q122 : x6_1 < (l0.length : Int) := of_decide_eq_true ad
    obtain ⟨ad122, e122, hx122_0, hx122_1⟩ := at_T66 HR0.out x6_1 p122 q122; cases e122; replace p122 := eq_true p122; replace q122 := eq_true q122
    have p123 : 0 ≤ (x6_1 : Int) := of_decide_eq_true ad
    have q123 : x6_1 < (l0.length : Int) := of_decide_eq_true ad
    obtain ⟨ad123, e123, hx123_0, hx123_1⟩ := at_T66 HR0.out x6_1 p123 q123
    obtain rfl : ad122 = ad123 := (by injection e123)
    replace p123 := eq_true p123; replace q123 := eq_true q123; go_wp2
    repeat (go_quiet (fail); try go_wp2)
    go_ret2
    exact ⟨sq, dr⟩
   rw [if_neg c3] at H; have c3b0 := decide_eq_false c3; clear c3; simp only [Option.some.injEq, Prod.mk.injEq] at H
   obtain ⟨rfl, rfl⟩ := H; go_wp2
   repeat (go_quiet (fail); try go_wp2)
   go_ret2
   exact ⟨sq, dr⟩

/-! ### spec_l5Affixes: function 35 -/
def spec_l5Affixes.l0 : Nat → List (S73) → List (S73) → Int → Option (Bool)
 | 0, _, _, _ => none
 | k + 1, x0, x1, x5 => if x5 < (x0.length : Int) then (if 0 ≤ x5 then (if x5 < (x1.length : Int) then (if (!((((rd_T73 x0 x5).f0).toList) == (((rd_T73 x1 x5).f0).toList)) || (!(((rd_T73 x0 x5).f1) == ((rd_T73 x1 x5).f1)) || (!((((rd_T73 x0 x5).f2).toList) == (((rd_T73 x1 x5).f2).toList)) || (!((((rd_T73 x0 x5).f3).toList) == (((rd_T73 x1 x5).f3).toList)) || (!((((rd_T73 x0 x5).f4).toList) == (((rd_T73 x1 x5).f4).toList))))))) = true then (some false) else (spec_l5Affixes.l0 k x0 x1 (wrap64 (x5 + 1)))) else (none)) else (none)) else (some true)
def spec_l5Affixes.f (k : Nat) (l0 : List (S73)) (l1 : List (S73)) : Option (Bool) := if (l0.length : Int) = (l1.length : Int) then (spec_l5Affixes.l0 k l0 l1 0) else (some false)
theorem spec_l5Affixes.calls (k : Nat) (A0 : Option Addr) (c0 : Nat) (l0 : List (S73)) (A1 : Option Addr) (c1 : Nat) (l1 : List (S73)) (r : Bool) (w : World) (hr0 : Kd.C k73 w A0 l0.length l0) (hc0 : l0.length ≤ c0) (hr1 : Kd.C k73 w A1 l1.length l1) (hc1 : l1.length ≤ c1) (h : spec_l5Affixes.f k l0 l1 = some r) :
  Calls Try.prog 35 #[.slice A0 l0.length c0, .slice A1 l1.length c1] w fun e w' => e = .returned (.bool r) ∧ Drawn0 w w' := by
 have hu73 := Try.underlying73; have HR0 := am hr0; have HC0 := am hc0; clear hr0 hc0; have HR1 := am hr1; have HC1 := am hc1; clear hr1 hc1
 have H := h; unfold spec_l5Affixes.f at H
 clear h
 by_cases c3 : (l0.length : Int) = (l1.length : Int)
 ·rw [if_pos c3] at H
  have c3b0 : ((l0.length : Int) == (l1.length : Int)) = true := beq_iff_eq.mpr c3
  have c3b1 : ((l0.length : Int) != (l1.length : Int)) = false := bne_eq_false_iff_eq.mpr c3
  have c3b2 : (l0.length == l1.length) = true := b159_
  clear c3
  have H' := am H
  clear H; go_enter Try.func35, Try.ntmps35; go_wp2
  go_loopg [5] k (fun kq v5 w' => ∃ (x5_1 : Int), v5 = .int .i64 x5_1 ∧ Aside0 (spec_l5Affixes.l0 kq l0 l1 x5_1 = some r) ∧ Aside0 (kq ≤ k) ∧ Drawn0 w w')
  case atStart => exact ⟨(0), sq, H', ⟨Nat.le_refl _⟩, dr⟩
  case round =>
   clear H'; clear c3b0 c3b1 c3b2; obtain ⟨x5_1, rfl, HA, HK1, ⟨m1, rfl⟩⟩ := hrel
   cases gk with
   | zero => exact absurd HA.out (by simp [spec_l5Affixes.l0])
   | succ k1 =>
    have H := HA.out; clear HA; simp only [spec_l5Affixes.l0] at H
    by_cases c4 : x5_1 < (l0.length : Int)
    ·rw [if_pos c4] at H; have c4b0 := decide_eq_true c4; clear c4
     replace H := it H; obtain ⟨c5b0, H⟩ := H; replace H := it H; obtain ⟨c6b0, H⟩ := H
     by_cases c7 : (!((((rd_T73 l0 x5_1).f0).toList) == (((rd_T73 l1 x5_1).f0).toList)) || (!(((rd_T73 l0 x5_1).f1) == ((rd_T73 l1 x5_1).f1)) || (!((((rd_T73 l0 x5_1).f2).toList) == (((rd_T73 l1 x5_1).f2).toList)) || (!((((rd_T73 l0 x5_1).f3).toList) == (((rd_T73 l1 x5_1).f3).toList)) || (!((((rd_T73 l0 x5_1).f4).toList) == (((rd_T73 l1 x5_1).f4).toList))))))) = true
     ·rw [if_pos c7] at H
      have c7b0 : (!((((rd_T73 l0 x5_1).f0).toList) == (((rd_T73 l1 x5_1).f0).toList)) || (!(((rd_T73 l0 x5_1).f1) == ((rd_T73 l1 x5_1).f1)) || (!((((rd_T73 l0 x5_1).f2).toList) == (((rd_T73 l1 x5_1).f2).toList)) || (!((((rd_T73 l0 x5_1).f3).toList) == (((rd_T73 l1 x5_1).f3).toList)) || (!((((rd_T73 l0 x5_1).f4).toList) == (((rd_T73 l1 x5_1).f4).toList))))))) = true := c7
      clear c7; obtain rfl := Option.some.inj H
      have p124 : 0 ≤ (x5_1 : Int) := of_decide_eq_true ad
      have q124 : x5_1 < (l0.length : Int) := of_decide_eq_true ad
      obtain ⟨ad124, e124, hx124_0, hx124_1, hx124_2, hx124_3, hx124_4⟩ := at_T73 HR0.out x5_1 p124 q124; cases e124; replace p124 := eq_true p124; replace q124 := eq_true q124
      have p125 : 0 ≤ (x5_1 : Int) := of_decide_eq_true ad
      have q125 : x5_1 < (l1.length : Int) := of_decide_eq_true ad
      obtain ⟨ad125, e125, hx125_0, hx125_1, hx125_2, hx125_3, hx125_4⟩ := at_T73 HR1.out x5_1 p125 q125; cases e125
      replace p125 := eq_true p125; replace q125 := eq_true q125; go_wp2
      repeat (go_quiet (fail); try go_wp2)
      go_ret
      exact ⟨sq, dr⟩
     rw [if_neg c7] at H
     have c7b0 : (!((((rd_T73 l0 x5_1).f0).toList) == (((rd_T73 l1 x5_1).f0).toList)) || (!(((rd_T73 l0 x5_1).f1) == ((rd_T73 l1 x5_1).f1)) || (!((((rd_T73 l0 x5_1).f2).toList) == (((rd_T73 l1 x5_1).f2).toList)) || (!((((rd_T73 l0 x5_1).f3).toList) == (((rd_T73 l1 x5_1).f3).toList)) || (!((((rd_T73 l0 x5_1).f4).toList) == (((rd_T73 l1 x5_1).f4).toList))))))) = false := by simpa using c7
     clear c7
     have H' := am H
     clear H
     have p124 : 0 ≤ (x5_1 : Int) := of_decide_eq_true ad
     have q124 : x5_1 < (l0.length : Int) := of_decide_eq_true ad
     obtain ⟨ad124, e124, hx124_0, hx124_1, hx124_2, hx124_3, hx124_4⟩ := at_T73 HR0.out x5_1 p124 q124; cases e124; replace p124 := eq_true p124; replace q124 := eq_true q124
     have p125 : 0 ≤ (x5_1 : Int) := of_decide_eq_true ad
     have q125 : x5_1 < (l1.length : Int) := of_decide_eq_true ad
     obtain ⟨ad125, e125, hx125_0, hx125_1, hx125_2, hx125_3, hx125_4⟩ := at_T73 HR1.out x5_1 p125 q125; cases e125
     replace p125 := eq_true p125; replace q125 := eq_true q125; go_wp2
     repeat (go_quiet (fail); try go_wp2)
     go_roundg k1
     case measure => have := HK1.out; omega
     case rel => exact ⟨(wrap64 (x5_1 + 1)), sq, H', ⟨b129_⟩, dr⟩
    rw [if_neg c4] at H; have c4b0 := decide_eq_false c4; clear c4; obtain rfl := Option.some.inj H; go_wp2
    go_ret
    exact ⟨sq, dr⟩
 rw [if_neg c3] at H
 have c3b0 : ((l0.length : Int) == (l1.length : Int)) = false := beq_eq_false_iff_ne.mpr c3
 have c3b1 : ((l0.length : Int) != (l1.length : Int)) = true := bne_iff_ne.mpr c3
 have c3b2 : (l0.length == l1.length) = false := b159_
 obtain rfl := Option.some.inj H; go_enter Try.func35, Try.ntmps35; go_wp2
 go_ret
 exact ⟨sq, dr⟩
end Go.Proofs.Ytdfnijaacnlfaaa.QFnDeltaOf
