import Derived.Test.YtfpmfaelodfecaaProg
import Derived.Laws.Cover1
import Derived.Below
import Derived.Deep.Draws
import Derived.Deep.AppendLies
import Derived.Maps.AppendAt
import Derived.OwnWalk
import Derived.Laws.BytesArg
import Derived.Laws.MakeOwn
import Derived.Laws.OwnMore
import Derived.Deep.OwnRows
import Derived.Tactics
import Derived.Lib.ConvBytes
import Derived.Laws.Slices
import Derived.WalkKit
import Derived.KernelRfl
import Derived.RowKit3
import Derived.Deep.LoopGhost
import Derived.Deep.QuietTactic
import Derived.BigQuiet
import Derived.WideLaws
import Derived.Deep.DeepCutAuto
import Derived.Deep.CutBlock
import Derived.Deep.RegionHeld3
import Derived.Laws.Rows
import Derived.Lib.AppendStr
import Derived.ArgAppend
import Derived.Laws.IdiomCopy
import Derived.OrdersHeld
import Derived.Laws.BitsLemmas
import Derived.RowKit
import Derived.Test.YtfpmfaelodfecaaVMLaySortG
import Derived.Test.YtfpmfaelodfecaaVWords
import Derived.Test.YtfpmfaelodfecaaVLast
import Derived.Test.YtfpmfaelodfecaaVTab
import Derived.Test.YtfpmfaelodfecaaVApart
import Derived.Test.YtfpmfaelodfecaaVFoot
import Derived.Test.YtfpmfaelodfecaaVKept
import Derived.Test.YtfpmfaelodfecaaVShare
import Derived.Test.YtfpmfaelodfecaaVN
import Derived.Test.YtfpmfaelodfecaaVAt
import Derived.Test.YtfpmfaelodfecaaVEqStruct
import Derived.Test.YtfpmfaelodfecaaVRepsOne
import Derived.Test.YtfpmfaelodfecaaVMore
import Derived.Test.YtfpmfaelodfecaaVMSh2
namespace Go.Proofs.Ytfpmfaelodfecaa.QFnGuesses
open Go.RowKit Go.Proofs.YtfpmfaelodfecaaW.PrintWords Go.Proofs.YtfpmfaelodfecaaW.PrintLast Go.Proofs.YtfpmfaelodfecaaW.PrintMore Go.Proofs.Ytfpmfaelodfecaa.Sh
attribute [local go_sem] max2_int min2_int max_two min_two max_three min_three max_four min_four
set_option linter.unusedVariables false
set_option linter.unusedSimpArgs false
set_option maxHeartbeats 8000000
set_option maxRecDepth 100000
-- shrunk



def errW : Option Int → Value
 | none => .nilIface
 | some c => .iface 0 (.int .i64 c)
theorem errW_none : errW none = .nilIface := rfl
theorem errW_some (c : Int) : errW (some c) = .iface 0 (.int .i64 c) := rfl

theorem info3 : (Try.prog.info? 3).map (fun i => (i.zero, i.size, i.bytes)) = some (some (.int .i64 0), 1, 8) := by kernel_rfl
theorem info5 : (Try.prog.info? 5).map (fun i => (i.zero, i.size, i.bytes)) = some (some (.int .u8 0), 1, 1) := by kernel_rfl
theorem info9 : (Try.prog.info? 9).map (fun i => (i.zero, i.size, i.bytes)) = some (some (.string ⟨#[]⟩), 1, 16) := by kernel_rfl
theorem info36 : (Try.prog.info? 36).map (fun i => (i.zero, i.size, i.bytes)) = some (some (.agg #[(.string ⟨#[]⟩), (.int .i64 0)]), 2, 24) := by kernel_rfl
theorem info86 : (Try.prog.info? 86).map (fun i => (i.zero, i.size, i.bytes)) = some (some (.slice none 0 0), 1, 24) := by kernel_rfl
theorem info110 : (Try.prog.info? 110).map (fun i => (i.zero, i.size, i.bytes)) = some (some (.agg #[(.string ⟨#[]⟩), (.string ⟨#[]⟩)]), 2, 32) := by kernel_rfl
theorem info117 : (Try.prog.info? 117).map (fun i => (i.zero, i.size, i.bytes)) = some (some (.agg #[(.string ⟨#[]⟩), (.bool false), (.string ⟨#[]⟩), (.string ⟨#[]⟩), (.string ⟨#[]⟩)]), 5, 72) := by kernel_rfl
-- the values' own types
def rd_L2 (xs : List (List Int)) (i : Int) : (List Int) := xs.getD i.toNat ([] : List Int)
theorem at_L2 {w : World} {A : Option Addr} {n : Nat} {xs : List (List Int)} (h : Kd.C (Kd.slice 3 (Kd.int .i64)) w A n xs) (i : Int) (h0 : 0 ≤ i) (h1 : i < n) : ∃ ad A0 c0, A = some ad ∧ w.cell? (ad.add i.toNat) = some (.slice A0 (rd_L2 xs i).length c0) ∧ (rd_L2 xs i).length ≤ c0 ∧ (Kd.int .i64).C w A0 (rd_L2 xs i).length (rd_L2 xs i) := by
 obtain ⟨ad, c, e, _, hK, hc0⟩ := Kd.C_get h ([] : List Int) i h0 h1
 have hc : ∀ j u, c[j]? = some u → w.cell? (ad.add (i.toNat * 1 + j)) = some u := hc0
 obtain ⟨A0, c0, rfl, l0, g0⟩ := hK
 exact ⟨ad, A0, c0, e, by have hq := hc 0 _ rfl; rwa [Nat.mul_one, Nat.add_zero] at hq, l0, g0⟩

/-! #### struct type 36 -/
structure S36 where
 f0 : ByteArray
 f1 : Int
def z36 : S36 := ⟨(⟨#[]⟩ : ByteArray), (0 : Int)⟩
def k36 : Kd S36 := Kd.iso (Kd.pair Kd.string (Kd.int .i64)) (fun x : S36 => (x.f0, x.f1))
theorem k36_open {w : World} {x : S36} {cs : List Value} (h : k36.K w x cs) : cs = [.string x.f0, .int .i64 x.f1] := by
 obtain ⟨_, _, rfl, rfl, rfl⟩ := h
 exact rfl
theorem k36_openM {w : World} {base : Nat} {ok : Nat → Prop} {x : S36} {cs : List Value} (h : k36.M w base ok x cs) : cs = [.string x.f0, .int .i64 x.f1] := by
 obtain ⟨_, _, rfl, rfl, rfl⟩ := h
 exact rfl
theorem k36_mk (w : World) (x : S36)  : k36.K w x [.string x.f0, .int .i64 x.f1] := ⟨[.string x.f0], [.int .i64 x.f1], rfl, rfl, rfl⟩
theorem k36_mkM (w : World) (base : Nat) (ok : Nat → Prop) (x : S36)  : k36.M w base ok x [.string x.f0, .int .i64 x.f1] := ⟨[.string x.f0], [.int .i64 x.f1], rfl, rfl, rfl⟩
def rd_T36 (xs : List S36) (i : Int) : S36 := xs.getD i.toNat z36
theorem at_T36 {w : World} {A : Option Addr} {n : Nat} {xs : List S36} (h : Kd.C k36 w A n xs) (i : Int) (h0 : 0 ≤ i) (h1 : i < n) : ∃ ad , A = some ad ∧ w.cell? (ad.add (i.toNat * 2)) = some (.string (rd_T36 xs i).f0) ∧ w.cell? ⟨(ad.add (i.toNat * 2)).block, (ad.add (i.toNat * 2)).off + 1, none⟩ = some (.int .i64 (rd_T36 xs i).f1) := by
 obtain ⟨ad, c, e, _, hK, hc0⟩ := Kd.C_get h z36 i h0 h1
 have hc : ∀ j u, c[j]? = some u → w.cell? (ad.add (i.toNat * 2 + j)) = some u := hc0
 obtain rfl := k36_open hK
 exact ⟨ad, e, hc 0 _ rfl, by rw [← add_field _ _ 1 (by omega)]; exact hc 1 _ rfl⟩

/-! #### struct type 117 -/
structure S117 where
 f0 : ByteArray
 f1 : Bool
 f2 : ByteArray
 f3 : ByteArray
 f4 : ByteArray
def z117 : S117 := ⟨(⟨#[]⟩ : ByteArray), false, (⟨#[]⟩ : ByteArray), (⟨#[]⟩ : ByteArray), (⟨#[]⟩ : ByteArray)⟩
def k117 : Kd S117 := Kd.iso (Kd.pair Kd.string (Kd.pair Kd.bool (Kd.pair Kd.string (Kd.pair Kd.string Kd.string)))) (fun x : S117 => (x.f0, x.f1, x.f2, x.f3, x.f4))
theorem k117_open {w : World} {x : S117} {cs : List Value} (h : k117.K w x cs) : cs = [.string x.f0, .bool x.f1, .string x.f2, .string x.f3, .string x.f4] := by
 obtain ⟨_, _, rfl, rfl, ⟨_, _, rfl, rfl, ⟨_, _, rfl, rfl, ⟨_, _, rfl, rfl, rfl⟩⟩⟩⟩ := h
 exact rfl
theorem k117_openM {w : World} {base : Nat} {ok : Nat → Prop} {x : S117} {cs : List Value} (h : k117.M w base ok x cs) : cs = [.string x.f0, .bool x.f1, .string x.f2, .string x.f3, .string x.f4] := by
 obtain ⟨_, _, rfl, rfl, ⟨_, _, rfl, rfl, ⟨_, _, rfl, rfl, ⟨_, _, rfl, rfl, rfl⟩⟩⟩⟩ := h
 exact rfl
theorem k117_mk (w : World) (x : S117)  : k117.K w x [.string x.f0, .bool x.f1, .string x.f2, .string x.f3, .string x.f4] := ⟨[.string x.f0], [.bool x.f1, .string x.f2, .string x.f3, .string x.f4], rfl, rfl, ⟨[.bool x.f1], [.string x.f2, .string x.f3, .string x.f4], rfl, rfl, ⟨[.string x.f2], [.string x.f3, .string x.f4], rfl, rfl, ⟨[.string x.f3], [.string x.f4], rfl, rfl, rfl⟩⟩⟩⟩
theorem k117_mkM (w : World) (base : Nat) (ok : Nat → Prop) (x : S117)  : k117.M w base ok x [.string x.f0, .bool x.f1, .string x.f2, .string x.f3, .string x.f4] := ⟨[.string x.f0], [.bool x.f1, .string x.f2, .string x.f3, .string x.f4], rfl, rfl, ⟨[.bool x.f1], [.string x.f2, .string x.f3, .string x.f4], rfl, rfl, ⟨[.string x.f2], [.string x.f3, .string x.f4], rfl, rfl, ⟨[.string x.f3], [.string x.f4], rfl, rfl, rfl⟩⟩⟩⟩
def rd_T117 (xs : List S117) (i : Int) : S117 := xs.getD i.toNat z117
theorem at_T117 {w : World} {A : Option Addr} {n : Nat} {xs : List S117} (h : Kd.C k117 w A n xs) (i : Int) (h0 : 0 ≤ i) (h1 : i < n) : ∃ ad , A = some ad ∧ w.cell? (ad.add (i.toNat * 5)) = some (.string (rd_T117 xs i).f0) ∧ w.cell? ⟨(ad.add (i.toNat * 5)).block, (ad.add (i.toNat * 5)).off + 1, none⟩ = some (.bool (rd_T117 xs i).f1) ∧ w.cell? ⟨(ad.add (i.toNat * 5)).block, (ad.add (i.toNat * 5)).off + 2, none⟩ = some (.string (rd_T117 xs i).f2) ∧ w.cell? ⟨(ad.add (i.toNat * 5)).block, (ad.add (i.toNat * 5)).off + 3, none⟩ = some (.string (rd_T117 xs i).f3) ∧ w.cell? ⟨(ad.add (i.toNat * 5)).block, (ad.add (i.toNat * 5)).off + 4, none⟩ = some (.string (rd_T117 xs i).f4) := by
 obtain ⟨ad, c, e, _, hK, hc0⟩ := Kd.C_get h z117 i h0 h1
 have hc : ∀ j u, c[j]? = some u → w.cell? (ad.add (i.toNat * 5 + j)) = some u := hc0
 obtain rfl := k117_open hK
 exact ⟨ad, e, hc 0 _ rfl, by rw [← add_field _ _ 1 (by omega)]; exact hc 1 _ rfl, by rw [← add_field _ _ 2 (by omega)]; exact hc 2 _ rfl, by rw [← add_field _ _ 3 (by omega)]; exact hc 3 _ rfl, by rw [← add_field _ _ 4 (by omega)]; exact hc 4 _ rfl⟩

/-! #### struct type 110 -/
structure S110 where
 f0 : ByteArray
 f1 : ByteArray
def z110 : S110 := ⟨(⟨#[]⟩ : ByteArray), (⟨#[]⟩ : ByteArray)⟩
def k110 : Kd S110 := Kd.iso (Kd.pair Kd.string Kd.string) (fun x : S110 => (x.f0, x.f1))
theorem k110_open {w : World} {x : S110} {cs : List Value} (h : k110.K w x cs) : cs = [.string x.f0, .string x.f1] := by
 obtain ⟨_, _, rfl, rfl, rfl⟩ := h
 exact rfl
theorem k110_openM {w : World} {base : Nat} {ok : Nat → Prop} {x : S110} {cs : List Value} (h : k110.M w base ok x cs) : cs = [.string x.f0, .string x.f1] := by
 obtain ⟨_, _, rfl, rfl, rfl⟩ := h
 exact rfl
theorem k110_mk (w : World) (x : S110)  : k110.K w x [.string x.f0, .string x.f1] := ⟨[.string x.f0], [.string x.f1], rfl, rfl, rfl⟩
theorem k110_mkM (w : World) (base : Nat) (ok : Nat → Prop) (x : S110)  : k110.M w base ok x [.string x.f0, .string x.f1] := ⟨[.string x.f0], [.string x.f1], rfl, rfl, rfl⟩
def rd_T110 (xs : List S110) (i : Int) : S110 := xs.getD i.toNat z110
theorem at_T110 {w : World} {A : Option Addr} {n : Nat} {xs : List S110} (h : Kd.C k110 w A n xs) (i : Int) (h0 : 0 ≤ i) (h1 : i < n) : ∃ ad , A = some ad ∧ w.cell? (ad.add (i.toNat * 2)) = some (.string (rd_T110 xs i).f0) ∧ w.cell? ⟨(ad.add (i.toNat * 2)).block, (ad.add (i.toNat * 2)).off + 1, none⟩ = some (.string (rd_T110 xs i).f1) := by
 obtain ⟨ad, c, e, _, hK, hc0⟩ := Kd.C_get h z110 i h0 h1
 have hc : ∀ j u, c[j]? = some u → w.cell? (ad.add (i.toNat * 2 + j)) = some u := hc0
 obtain rfl := k110_open hK
 exact ⟨ad, e, hc 0 _ rfl, by rw [← add_field _ _ 1 (by omega)]; exact hc 1 _ rfl⟩

theorem b0_ {p : Prop} (h : p := by repeat (first | (with_reducible first | exact HK.out | apply KeepBut.set_ | apply keep_drewN | apply keep_drew | apply keep_alloc) | exact HK.out)) : p := h
theorem b1_ {p : Prop} (h : p := by repeat (first | (with_reducible first | exact HB.out | apply below_alloc | apply pw_below_drewN | apply below_drew1 | refine below_set ?_ (IsS127.ge HI0.out)) | exact HB.out)) : p := h
theorem b2_ {p : Prop} (h : p := by repeat (first | (with_reducible first | exact HI0.out | apply IsS127.alloc | apply IsS127.drewN | apply IsS127.drew | apply IsS127.set_1) | exact HI0.out)) : p := h
theorem b3_ {p : Prop} (h : p := by repeat (first | (with_reducible first | exact HK.out | apply KeepBut.set_ | apply keep_drewN | apply keep_drew | apply keep_alloc | refine keep_far ?_ GW376.out _ | refine keep_far ?_ GW381.out _) | exact HK.out)) : p := h
theorem b4_ {p : Prop} (h : p := by repeat (first | (with_reducible first | exact HI0.out | apply IsS127.alloc | apply IsS127.drewN | apply IsS127.drew | apply IsS127.set_1 | refine IsS127.far ?_ NB0_376.out _ | refine IsS127.far ?_ NB0_381.out _) | exact HI0.out)) : p := h
theorem b5_ {p : Prop} (h : p := by repeat (first | (with_reducible first | exact HB.out | apply below_alloc | apply pw_below_drewN | apply below_drew1 | refine below_set ?_ (IsS127.ge HI0.out) | refine below_set ?_ GE376.out | refine below_set ?_ GE381.out) | exact HB.out)) : p := h
theorem b6_ {p : Prop} (h : p := by rw [hg]; exact (keep_size (w := w) (g := g) (row := none) (by repeat (first | (with_reducible first | exact HK.out | apply KeepBut.set_ | apply keep_drewN | apply keep_drew | apply keep_alloc) | exact HK.out)))) : p := h
theorem b7_ {p : Prop} (h : p := by rw [if_neg (show ¬ (false = true) by decide)] at H; exact H) : p := h
theorem b8_ {p : Prop} (h : p := by repeat (first | (with_reducible first | exact HK.out | apply KeepBut.set_ | apply keep_drewN | apply keep_drew | apply keep_alloc | refine keep_far ?_ GW365.out _) | exact HK.out)) : p := h
theorem b9_ {p : Prop} (h : p := by have h_ : (x25_2 : Int) < ((x5_2.length : Int) : Int) := of_decide_eq_true ad; first | exact h_ | (have e_ := (Kd.S_reads' HO_5.out).1; omega) | simpa using h_) : p := h
theorem b10_ {p : Prop} (h : p := by (try simp only [hl5_2]); (try simp only [hl5_3]); (try simp only [hl5_4]); (try simp only [hl5_5]); (with_reducible repeat (first | apply Kd.S_alloc | apply Kd.S_drewN | apply Kd.S_drew)); exact HO_5.out) : p := h
theorem b11_ {p : Prop} (h : p := by (with_reducible repeat (first | apply Kd.S_alloc | apply Kd.S_drewN | apply Kd.S_drew)); exact Kd.S_mono HO_5.out (fun _ hk => ⟨trivial, hk⟩)) : p := h
theorem b12_ {p : Prop} (h : p := by repeat (first | (with_reducible first | exact HB.out | apply below_alloc | apply pw_below_drewN | apply below_drew1 | refine below_set ?_ (IsS127.ge HI0.out) | refine below_set ?_ GE365.out) | exact HB.out)) : p := h
theorem b13_ {p : Prop} (h : p := by have h_ : (x8_4 : Int) < ((x5_5.length : Int) : Int) := of_decide_eq_true ad; first | exact h_ | (have e_ := (Kd.S_reads' HO_5.out).1; omega) | simpa only [List.length_set, List.length_set] using h_) : p := h
theorem b14_ {p : Prop} (h : p := by repeat (first | (with_reducible first | exact HI0.out | apply IsS127.alloc | apply IsS127.drewN | apply IsS127.drew | apply IsS127.set_1 | refine IsS127.far ?_ NB0_365.out _) | exact HI0.out)) : p := h
theorem b15_ {p : Prop} (h : p := by (with_reducible repeat (first | apply Kd.S_alloc | apply Kd.S_drewN | apply Kd.S_drew)); exact Kd.S_mono HO_5.out (fun k_ hk => ⟨trivial, fun e_ => hk e_⟩)) : p := h
theorem b16_ {p : Prop} (h : p := by repeat (first | (with_reducible exact HR123_0.out) | (with_reducible refine Kd.C_alloc ?_ _) | (with_reducible refine Kd.C_drewN ?_ _) | (with_reducible refine Kd.C_drew ?_) | exact HR123_0.out)) : p := h
theorem b17_ {p : Prop} (h : p := by repeat (first | (with_reducible exact HR214_0.out) | (with_reducible refine Kd.C_alloc ?_ _) | (with_reducible refine Kd.C_drewN ?_ _) | (with_reducible refine Kd.C_drew ?_) | exact HR214_0.out)) : p := h
theorem b18_ {p : Prop} (h : p := by (with_reducible repeat (first | apply Kd.S_alloc | apply Kd.S_drewN | apply Kd.S_drew)); exact HO_5.out) : p := h
theorem b19_ {p : Prop} (h : p := by rw [if_pos rfl] at H; exact H) : p := h
theorem b20_ {p : Prop} (h : p := by have h_ : (x25_2 : Int) < ((x5_2.length : Int) : Int) := of_decide_eq_true ad; first | exact h_ | (have e_ := (Kd.S_reads' HO_5.out).1; omega) | simpa only [Ny202.out, List.length_set] using h_) : p := h
theorem b21_ {p : Prop} (h : p := by rw [hg]; exact (below_size bel)) : p := h
theorem b22_ {p : Prop} (h : p := by repeat (first | (with_reducible exact HR125_0.out) | (with_reducible refine Kd.C_alloc ?_ _) | (with_reducible refine Kd.C_drewN ?_ _) | (with_reducible refine Kd.C_drew ?_) | exact HR125_0.out)) : p := h
theorem b23_ {p : Prop} (h : p := by repeat (first | (with_reducible exact HR216_0.out) | (with_reducible refine Kd.C_alloc ?_ _) | (with_reducible refine Kd.C_drewN ?_ _) | (with_reducible refine Kd.C_drew ?_) | exact HR216_0.out)) : p := h
theorem b24_ {p : Prop} (h : p := by repeat (first | (with_reducible exact HR218_0.out) | (with_reducible refine Kd.C_alloc ?_ _) | (with_reducible refine Kd.C_drewN ?_ _) | (with_reducible refine Kd.C_drew ?_) | exact HR218_0.out)) : p := h
theorem b25_ {p : Prop} (h : p := by repeat (first | (with_reducible first | exact HK.out | apply KeepBut.set_ | apply keep_drewN | apply keep_drew | apply keep_alloc | refine keep_far ?_ GW376.out _) | exact HK.out)) : p := h
theorem b26_ {p : Prop} (h : p := by repeat (first | (with_reducible first | exact HB.out | apply below_alloc | apply pw_below_drewN | apply below_drew1 | refine below_set ?_ (IsS127.ge HI493.out)) | exact HB.out)) : p := h
theorem b27_ {p : Prop} (h : p := by have h_ : (0 : Int) < ((x5_3.length : Int) : Int) := of_decide_eq_true ad; first | exact h_ | (have e_ := (Kd.S_reads' HO_5.out).1; omega) | simpa only [List.length_set, List.length_set] using h_) : p := h
theorem b28_ {p : Prop} (h : p := by repeat (first | (with_reducible first | exact HK.out | apply KeepBut.set_ | apply keep_drewN | apply keep_drew | apply keep_alloc | refine keep_far ?_ GW347.out _) | exact HK.out)) : p := h
theorem b29_ {p : Prop} (h : p := by repeat (first | (with_reducible first | exact HK.out | apply KeepBut.set_ | apply keep_drewN | apply keep_drew | apply keep_alloc | refine keep_far ?_ GW370.out _) | exact HK.out)) : p := h
theorem b30_ {p : Prop} (h : p := by rw [hg]; exact Nat.ne_of_lt (IsS127.lt (show IsS127 w0 _ g s0_0 s0_1 from by repeat (first | (with_reducible first | exact HI0.out | apply IsS127.alloc | apply IsS127.drewN | apply IsS127.drew | apply IsS127.set_1) | exact HI0.out)))) : p := h
theorem b31_ {p : Prop} (h : p := by rw [hg]; exact Nat.ne_of_gt (IsS127.lt (show IsS127 w0 _ g s0_0 s0_1 from by repeat (first | (with_reducible first | exact HI0.out | apply IsS127.alloc | apply IsS127.drewN | apply IsS127.drew | apply IsS127.set_1) | exact HI0.out)))) : p := h
theorem b32_ {p : Prop} (h : p := by rw [hg]; exact Nat.ne_of_lt (IsS127.lt (show IsS127 w0 _ g s0_0 t364 from by repeat (first | (with_reducible first | exact HI0.out | apply IsS127.alloc | apply IsS127.drewN | apply IsS127.drew | apply IsS127.set_1) | exact HI0.out)))) : p := h
theorem b33_ {p : Prop} (h : p := by rw [hg]; exact Nat.ne_of_gt (IsS127.lt (show IsS127 w0 _ g s0_0 t364 from by repeat (first | (with_reducible first | exact HI0.out | apply IsS127.alloc | apply IsS127.drewN | apply IsS127.drew | apply IsS127.set_1) | exact HI0.out)))) : p := h
theorem b34_ {p : Prop} (h : p := by rw [hg]; exact (below_size (by repeat (first | (with_reducible first | exact HBW.out | apply below_alloc | apply pw_below_drewN | apply below_drew1) | exact HBW.out)))) : p := h
theorem b35_ {p : Prop} (h : p := by (with_reducible repeat (first | apply Kd.S_alloc | apply Kd.S_drewN | apply Kd.S_drew)); exact Kd.S_mono HO_5.out (fun _ hk => hk.2)) : p := h
theorem b36_ {p : Prop} (h : p := by repeat (first | (with_reducible first | exact HK.out | apply Kept.alloc | apply Kept.drewN | apply Kept.drew) | exact HK.out)) : p := h
theorem b37_ {p : Prop} (h : p := by have := HJ4.out; have := HK2.out; first | omega | exact Nat.le_refl _) : p := h
theorem b38_ {p : Prop} (h : p := by have := HK1.out; first | omega | exact Nat.le_refl _) : p := h
theorem b39_ {p : Prop} (h : p := by simp only [putAll, Act.put, List.setIfInBounds_toArray, List.set_cons_zero, List.set_cons_succ]) : p := h
theorem b40_ {p : Prop} (h : p := by have := HJ2.out; have := HK2.out; have := HK3.out; have := HK4.out; have := HK5.out; have := HJ48.out; first | omega | exact Nat.le_refl _) : p := h
theorem b41_ {p : Prop} (h : p := by have h_ : (x25_2 : Int) < ((x5_2.length : Int) : Int) := of_decide_eq_true ad; first | (have e_ := (Kd.S_reads' HO_5.out).1; omega) | simpa only [Ny202.out, List.length_set] using h_) : p := h
theorem b42_ {p : Prop} (h : p := by first | (rw [hy159]; with_reducible exact H) | (have H2_ := bm H; rw [hy159]; with_reducible exact H2_) | (with_reducible exact bm H) | with_reducible exact H | (rw [hy159]; exact H) | exact H) : p := h
theorem b43_ {p : Prop} (h : p := by repeat (first | (with_reducible first | exact HBW.out | apply below_alloc | apply pw_below_drewN | apply below_drew1) | exact HBW.out)) : p := h
theorem b44_ {p : Prop} (h : p := by rw [hg]; exact (keep_size (w := w) (g := g) (row := none) (by repeat (first | (with_reducible first | exact HK.out | apply KeepBut.set_ | apply keep_drewN | apply keep_drew | apply keep_alloc | refine keep_far ?_ GW376.out _) | exact HK.out)))) : p := h
theorem b45_ {p : Prop} (h : p := by have := HK1.out; have := HK2.out; omega) : p := h
theorem b46_ {p : Prop} (h : p := by first | omega | exact Nat.le_refl _) : p := h
theorem b47_ {p : Prop} (h : p := by have := HJ4.out; have := HK2.out; have := HJ47.out; have := HK4.out; have := HJ55.out; have := HJ58.out; first | omega | exact Nat.le_refl _) : p := h
theorem b48_ {p : Prop} (h : p := by (with_reducible repeat (first | apply Kd.R_alloc | apply Kd.R_drewN | apply Kd.R_drew)); exact HO_3.out) : p := h
theorem b49_ {p : Prop} (h : p := by repeat (first | (with_reducible first | exact HB.out | apply below_alloc | apply pw_below_drewN | apply below_drew1 | refine below_set ?_ (IsS127.ge HI0.out) | refine below_set ?_ GE347.out) | exact HB.out)) : p := h
theorem b50_ {p : Prop} (h : p := by repeat (first | (with_reducible first | exact HB.out | apply below_alloc | apply pw_below_drewN | apply below_drew1 | refine below_set ?_ (IsS127.ge HI0.out) | refine below_set ?_ GE370.out) | exact HB.out)) : p := h
theorem b51_ {p : Prop} (h : p := by repeat (first | (with_reducible first | exact HI0.out | apply IsS127.alloc | apply IsS127.drewN | apply IsS127.drew | apply IsS127.set_1 | refine IsS127.far ?_ NB0_347.out _) | exact HI0.out)) : p := h
theorem b52_ {p : Prop} (h : p := by repeat (first | (with_reducible first | exact HI0.out | apply IsS127.alloc | apply IsS127.drewN | apply IsS127.drew | apply IsS127.set_1 | refine IsS127.far ?_ NB0_370.out _) | exact HI0.out)) : p := h
theorem b53_ {p : Prop} (h : p := by have := HK1.out; omega) : p := h
theorem b54_ {p : Prop} (h : p := by have := HK1.out; have := HK2.out; have := HJ24.out; first | omega | exact Nat.le_refl _) : p := h
theorem b55_ {p : Prop} (h : p := by rw [Ny206.out]; exact hbk27 hg (fun k_ e_ => by injection e_ with e_; subst e_; exact ge27_0.1 _ rfl) (Kd.M_row hz_)) : p := h
theorem b56_ {p : Prop} (h : p := by rw [Ny211.out]; exact hbk35 hg (fun k_ e_ => by injection e_ with e_; subst e_; exact ge35_0.1 _ rfl) (Kd.M_row hz_)) : p := h
theorem b57_ {p : Prop} (h : p := by rw [Ny225.out]; exact hbk92 hg (fun k_ e_ => by injection e_ with e_; subst e_; exact ge92_0.1 _ rfl) (Kd.M_row hz_)) : p := h
theorem b58_ {p : Prop} (h : p := by rw [Ny229.out]; exact hbk99 hg (fun k_ e_ => by injection e_ with e_; subst e_; exact ge99_0.1 _ rfl) (Kd.M_row hz_)) : p := h
theorem b59_ {p : Prop} (h : p := by have := HK1.out; have := HK2.out; first | omega | exact Nat.le_refl _) : p := h
theorem b60_ {p : Prop} (h : p := by repeat (first | (with_reducible first | exact HI493.out | apply IsS127.alloc | apply IsS127.drewN | apply IsS127.drew | apply IsS127.set_1) | exact HI493.out)) : p := h
theorem b61_ {p : Prop} (h : p := by (try simp only [hl5_2]); (try simp only [hl5_3]); (with_reducible repeat (first | apply Kd.S_alloc | apply Kd.S_drewN | apply Kd.S_drew)); exact HO_5.out) : p := h
theorem b62_ {p : Prop} (h : p := by first | exact q203 | exact of_decide_eq_true ad | (have e_ := (Kd.S_reads' HO_5.out).1; omega)) : p := h
theorem b63_ {p : Prop} (h : p := by first | exact hq27 | exact of_decide_eq_true ad | (have e_ := (Kd.S_reads' HO_5.out).1; omega)) : p := h
theorem b64_ {p : Prop} (h : p := by (try simp only [hl5_2]); (with_reducible repeat (first | apply Kd.S_alloc | apply Kd.S_drewN | apply Kd.S_drew)); exact HO_5.out) : p := h
theorem b65_ {p : Prop} (h : p := by have := HJ2.out; have := HK2.out; have := HK3.out; have := HK4.out; have := HK5.out; have := HJ48.out; have := HJ62.out; omega) : p := h
-- shrunk

theorem eqA36 (d : Nat) (w : World) (x0 y0 : ByteArray) (x1 y1 : Int) :
  (Op.equalIn (d + 2) 36 (.agg #[.string x0, .int .i64 x1]) (.agg #[.string y0, .int .i64 y1])).run Try.prog w = .ok (x0.toList == y0.toList && (x1 == y1)) w := by
 refine eqA_of Try.underlying36 (by kernel_rfl) ?_
 refine eqf_cons (by rfl) (by go_simp; rfl) (by go_simp; rfl) (by go_simp) ?_
 exact eqf_last (by rfl) (by go_simp; rfl) (by go_simp; rfl) (by go_simp)
-- shrunk

theorem eqA117 (d : Nat) (w : World) (x0 y0 : ByteArray) (x1 y1 : Bool) (x2 y2 : ByteArray) (x3 y3 : ByteArray) (x4 y4 : ByteArray) :
  (Op.equalIn (d + 2) 117 (.agg #[.string x0, .bool x1, .string x2, .string x3, .string x4]) (.agg #[.string y0, .bool y1, .string y2, .string y3, .string y4])).run Try.prog w = .ok (x0.toList == y0.toList && (x1 == y1 && (x2.toList == y2.toList && (x3.toList == y3.toList && (x4.toList == y4.toList))))) w := by
 refine eqA_of Try.underlying117 (by kernel_rfl) ?_
 refine eqf_cons (by rfl) (by go_simp; rfl) (by go_simp; rfl) (by go_simp) ?_
 refine eqf_cons (by rfl) (by go_simp; rfl) (by go_simp; rfl) (by go_simp) ?_
 refine eqf_cons (by rfl) (by go_simp; rfl) (by go_simp; rfl) (by go_simp) ?_
 refine eqf_cons (by rfl) (by go_simp; rfl) (by go_simp; rfl) (by go_simp) ?_
 exact eqf_last (by rfl) (by go_simp; rfl) (by go_simp; rfl) (by go_simp)
-- shrunk

/-! ### spec_l1Letters: function 102 -/
def spec_l1Letters.l0 : Nat → ByteArray → Int → Int → Option (Bool)
 | 0, _, _, _ => none
 | k + 1, x0, x1, x5 => if x5 < (x0.size : Int) then (if 0 ≤ x5 then (if (bt x0 x5) < 97 then (some false) else (if (bt x0 x5) > 122 then (some false) else (spec_l1Letters.l0 k x0 x1 (wrap64 (x5 + 1))))) else (none)) else (some (decide ((x0.size : Int) ≤ x1)))
def spec_l1Letters.f (k : Nat) (a0 : ByteArray) (a1 : Int) : Option (Bool) := spec_l1Letters.l0 k a0 a1 0
theorem spec_l1Letters.calls (k : Nat) (a0 : ByteArray) (a1 : Int) (r : Bool) (w : World) (h : spec_l1Letters.f k a0 a1 = some r) :
  Calls Try.prog 102 #[.string a0, .int .i64 a1] w fun e w' => e = .returned (.bool r) ∧ Drawn0 w w' := by
 have H : (spec_l1Letters.l0 k a0 a1 0) = some r := h
 clear h
 have H' := am H
 clear H; go_enter Try.func102, Try.ntmps102; go_wp2
 go_loopg [5] k (fun kq v5 w' => ∃ (x5_1 : Int), v5 = .int .i64 x5_1 ∧ Aside0 (spec_l1Letters.l0 kq a0 a1 x5_1 = some r) ∧ Aside0 (kq ≤ k) ∧ Drawn0 w w')
 case atStart => exact ⟨(0), sq, H', ⟨Nat.le_refl _⟩, dr⟩
 case round =>
  clear H'; (try clear c1); (try clear p2); obtain ⟨x5_1, rfl, HA, HK1, ⟨m1, rfl⟩⟩ := hrel
  cases gk with
  | zero => exact absurd HA.out (by simp [spec_l1Letters.l0])
  | succ k1 =>
   have H := HA.out; clear HA
   simp only [spec_l1Letters.l0] at H
   by_cases c3 : x5_1 < (a0.size : Int)
   ·rw [if_pos c3] at H; have c3b0 := decide_eq_true c3; clear c3
    replace H := it H; obtain ⟨c4b0, H⟩ := H
    by_cases c6 : (bt a0 x5_1) < 97
    ·rw [if_pos c6] at H; have c6b0 := decide_eq_true c6; clear c6; obtain rfl := Option.some.inj H
     have p5 : 0 ≤ (x5_1 : Int) := of_decide_eq_true ad
     have q5 : x5_1 < (a0.size : Int) := of_decide_eq_true ad
     have hx5 := bt_at a0 x5_1; replace p5 := eq_true p5; replace q5 := eq_true q5; go_wp2; go_ret
     exact ⟨sq, dr⟩
    rw [if_neg c6] at H; have c6b0 := decide_eq_false c6; clear c6
    by_cases c8 : (bt a0 x5_1) > 122
    ·rw [if_pos c8] at H; have c8b0 := decide_eq_true c8; clear c8; obtain rfl := Option.some.inj H
     have p5 : 0 ≤ (x5_1 : Int) := of_decide_eq_true ad
     have q5 : x5_1 < (a0.size : Int) := of_decide_eq_true ad
     have hx5 := bt_at a0 x5_1; replace p5 := eq_true p5; replace q5 := eq_true q5
     have p7 : 0 ≤ (x5_1 : Int) := of_decide_eq_true ad
     have q7 : x5_1 < (a0.size : Int) := of_decide_eq_true ad
     have hx7 := bt_at a0 x5_1; replace p7 := eq_true p7; replace q7 := eq_true q7; go_wp2; go_ret
     exact ⟨sq, dr⟩
    rw [if_neg c8] at H; have c8b0 := decide_eq_false c8; clear c8
    have H' := am H
    clear H
    have p5 : 0 ≤ (x5_1 : Int) := of_decide_eq_true ad
    have q5 : x5_1 < (a0.size : Int) := of_decide_eq_true ad
    have hx5 := bt_at a0 x5_1; replace p5 := eq_true p5; replace q5 := eq_true q5
    have p7 : 0 ≤ (x5_1 : Int) := of_decide_eq_true ad
    have q7 : x5_1 < (a0.size : Int) := of_decide_eq_true ad
    have hx7 := bt_at a0 x5_1; replace p7 := eq_true p7; replace q7 := eq_true q7; go_wp2
    go_roundg k1
    case measure => have := HK1.out; omega
    case rel => exact ⟨(wrap64 (x5_1 + 1)), sq, H', ⟨b53_⟩, dr⟩
   rw [if_neg c3] at H; have c3b0 := decide_eq_false c3; clear c3; obtain rfl := Option.some.inj H; go_wp2; go_ret
   exact ⟨sq, dr⟩

/-! ### spec_l1Word: function 57 -/
def spec_l1Word.f (k : Nat) (a0 : ByteArray) : Option (Bool) := if (a0.size : Int) > 0 then ((spec_l1Letters.f k a0 12).bind fun t101 => (some t101)) else (some false)
theorem spec_l1Word.calls (k : Nat) (a0 : ByteArray) (r : Bool) (w : World) (h : spec_l1Word.f k a0 = some r) :
  Calls Try.prog 57 #[.string a0] w fun e w' => e = .returned (.bool r) ∧ Drawn0 w w' := by
 have H : (if (a0.size : Int) > 0 then ((spec_l1Letters.f k a0 12).bind fun t101 => (some t101)) else (some false)) = some r := h
 clear h
 by_cases c2 : (a0.size : Int) > 0
 ·rw [if_pos c2] at H; have c2b0 := decide_eq_true c2
  have c2b1 : decide (0 < a0.size) = true := decide_eq_true (by omega)
  clear c2; replace H := bs H; obtain ⟨t101, A30, H⟩ := H; replace H : (some t101) = some r := H; have A3 := Aside0.mk A30; clear A30; obtain rfl := Option.some.inj H; go_enter Try.func57, Try.ntmps57
  go_wp2_with (first | (go_at_call 102; (with_reducible refine (spec_l1Letters.calls k a0 12 t101 _ A3.out).mono ?_); rintro e w' ⟨rfl, ⟨nd, rfl⟩⟩))
  go_ret
  exact ⟨sq, dr⟩
 rw [if_neg c2] at H; have c2b0 := decide_eq_false c2
 have c2b1 : decide (0 < a0.size) = false := decide_eq_false (by omega)
 clear c2; obtain rfl := Option.some.inj H; go_enter Try.func57, Try.ntmps57; go_wp2; go_ret
 exact ⟨sq, dr⟩

/-! ### spec_l3Words: function 56 -/
def spec_l3Words.l0 : Nat → List ByteArray → Int → Option (Bool)
 | 0, _, _ => none
 | k + 1, x0, x3 => if x3 < (x0.length : Int) then (if 0 ≤ x3 then ((spec_l1Word.f k (rdOf ByteArray.empty x0 x3)).bind fun t103 => (if t103 = true then (if x3 > 0 then (if 0 ≤ (wrap64 (x3 - 1)) then (if (wrap64 (x3 - 1)) < (x0.length : Int) then (if ((Op.bytesLess ((rdOf ByteArray.empty x0 (wrap64 (x3 - 1))).toList) ((rdOf ByteArray.empty x0 x3).toList)) = true) then (spec_l3Words.l0 k x0 (wrap64 (x3 + 1))) else (some false)) else (none)) else (none)) else (spec_l3Words.l0 k x0 (wrap64 (x3 + 1)))) else (some false))) else (none)) else (some (decide ((x0.length : Int) ≤ 300)))
def spec_l3Words.f (k : Nat) (l0 : List ByteArray) : Option (Bool) := spec_l3Words.l0 k l0 0
theorem spec_l3Words.calls (k : Nat) (A0 : Option Addr) (c0 : Nat) (l0 : List ByteArray) (r : Bool) (w : World) (hr0 : Kd.C Kd.string w A0 l0.length l0) (hc0 : l0.length ≤ c0) (h : spec_l3Words.f k l0 = some r) :
  Calls Try.prog 56 #[.slice A0 l0.length c0] w fun e w' => e = .returned (.bool r) ∧ Drawn0 w w' := by
 have HR0 := am hr0; have HC0 := am hc0; clear hr0 hc0
 have H : (spec_l3Words.l0 k l0 0) = some r := h
 clear h
 have H' := am H
 clear H; go_enter Try.func56, Try.ntmps56; go_wp2
 repeat (go_quiet (fail); try go_wp2)
 go_loopg [3] k (fun kq v3 w' => ∃ (x3_1 : Int), v3 = .int .i64 x3_1 ∧ Aside0 (spec_l3Words.l0 kq l0 x3_1 = some r) ∧ Aside0 (kq ≤ k) ∧ Drawn0 w w')
 case atStart => exact ⟨(0), sq, H', ⟨Nat.le_refl _⟩, dr⟩
 case round =>
  clear H'; obtain ⟨x3_1, rfl, HA, HK1, ⟨m1, rfl⟩⟩ := hrel
  cases gk with
  | zero => exact absurd HA.out (by simp [spec_l3Words.l0])
  | succ k1 =>
   have H := HA.out; clear HA
   simp only [spec_l3Words.l0] at H
   by_cases c2 : x3_1 < (l0.length : Int)
   ·rw [if_pos c2] at H; have c2b0 := decide_eq_true c2; clear c2
    replace H := it H; obtain ⟨c3b0, H⟩ := H; replace H := bs H; obtain ⟨t103, A40, H⟩ := H; replace H : (if t103 = true then (if x3_1 > 0 then (if 0 ≤ (wrap64 (x3_1 - 1)) then (if (wrap64 (x3_1 - 1)) < (l0.length : Int) then (if ((Op.bytesLess ((rdOf ByteArray.empty l0 (wrap64 (x3_1 - 1))).toList) ((rdOf ByteArray.empty l0 x3_1).toList)) = true) then (spec_l3Words.l0 k1 l0 (wrap64 (x3_1 + 1))) else (some false)) else (none)) else (none)) else (spec_l3Words.l0 k1 l0 (wrap64 (x3_1 + 1)))) else (some false)) = some r := H; have A4 := Aside0.mk A40; clear A40
    by_cases c5 : t103 = true
    ·subst c5
     have H1 : (if x3_1 > 0 then (if 0 ≤ (wrap64 (x3_1 - 1)) then (if (wrap64 (x3_1 - 1)) < (l0.length : Int) then (if ((Op.bytesLess ((rdOf ByteArray.empty l0 (wrap64 (x3_1 - 1))).toList) ((rdOf ByteArray.empty l0 x3_1).toList)) = true) then (spec_l3Words.l0 k1 l0 (wrap64 (x3_1 + 1))) else (some false)) else (none)) else (none)) else (spec_l3Words.l0 k1 l0 (wrap64 (x3_1 + 1)))) = some r := b19_
     replace H := H1; clear H1
     by_cases c6 : x3_1 > 0
     ·rw [if_pos c6] at H; have c6b0 := decide_eq_true c6; clear c6; obtain ⟨ji7, hji7⟩ : ∃ j_ : Int, (wrap64 (x3_1 - 1)) = j_ := ⟨_, rfl⟩
      replace H : (if 0 ≤ (ji7) then (if (ji7) < (l0.length : Int) then (if ((Op.bytesLess ((rdOf ByteArray.empty l0 (ji7)).toList) ((rdOf ByteArray.empty l0 x3_1).toList)) = true) then (spec_l3Words.l0 k1 l0 (wrap64 (x3_1 + 1))) else (some false)) else (none)) else (none)) = some r := by first | (rw [hji7] at H; exact H) | (simp only [hji7] at H ⊢; exact H)
      (try rw [hji7] at A4)
      have hji7w : (IntKind.i64.wrap (x3_1 - 1)) = ji7 := (i64_w _).trans hji7
      replace H := it H; obtain ⟨c8b0, H⟩ := H
      replace H := it H; obtain ⟨c9b0, H⟩ := H
      by_cases c10 : ((Op.bytesLess ((rdOf ByteArray.empty l0 (ji7)).toList) ((rdOf ByteArray.empty l0 x3_1).toList)) = true)
      ·rw [if_pos c10] at H
       have c10b0 : (Op.bytesLess ((rdOf ByteArray.empty l0 (ji7)).toList) ((rdOf ByteArray.empty l0 x3_1).toList)) = true := c10
       clear c10
       have H' := am H
       clear H
       have p102 : 0 ≤ (x3_1 : Int) := of_decide_eq_true ad
       have q102 : x3_1 < (l0.length : Int) := of_decide_eq_true ad
       obtain ⟨ad102, e102, hx102_0⟩ := Kd.at_string HR0.out x3_1 p102 q102
       cases e102
       replace p102 := eq_true p102; replace q102 := eq_true q102
       try have p104 : 0 ≤ ((ji7) : Int) := of_decide_eq_true ad
       try have q104 : (ji7) < (l0.length : Int) := of_decide_eq_true ad
       try obtain ⟨ad104, e104, hx104_0⟩ := Kd.at_string HR0.out (ji7) p104 q104
       try obtain rfl : ad102 = ad104 := (by injection e104)
       try replace p104 := eq_true p104
       try replace q104 := eq_true q104
       try have p105 : 0 ≤ (x3_1 : Int) := of_decide_eq_true ad
       try have q105 : x3_1 < (l0.length : Int) := of_decide_eq_true ad
       try obtain ⟨ad105, e105, hx105_0⟩ := Kd.at_string HR0.out x3_1 p105 q105
       try obtain rfl : ad102 = ad105 := (by injection e105)
       try replace p105 := eq_true p105
       try replace q105 := eq_true q105
       go_wp2_with (first | (go_at_call 57; (with_reducible refine (spec_l1Word.calls k1 (rdOf ByteArray.empty l0 x3_1) true _ A4.out).mono ?_); rintro e w' ⟨rfl, ⟨nd, rfl⟩⟩; first | exact ⟨rfl, _, World.drewN_drewN _ _ _⟩ | exact ⟨rfl, _, Eq.trans (World.drewN_drewN _ _ _) (congrArg (World.drewN _) (Nat.add_assoc _ _ _))⟩ | (have p104 : 0 ≤ ((ji7) : Int) := of_decide_eq_true ad; have q104 : (ji7) < (l0.length : Int) := of_decide_eq_true ad; obtain ⟨ad104, e104, hx104_0⟩ := Kd.at_string HR0.out (ji7) p104 q104; obtain rfl : ad102 = ad104 := (by injection e104); replace p104 := eq_true p104; replace q104 := eq_true q104; have p105 : 0 ≤ (x3_1 : Int) := of_decide_eq_true ad; have q105 : x3_1 < (l0.length : Int) := of_decide_eq_true ad; obtain ⟨ad105, e105, hx105_0⟩ := Kd.at_string HR0.out x3_1 p105 q105; obtain rfl : ad102 = ad105 := (by injection e105); replace p105 := eq_true p105; replace q105 := eq_true q105)))
       repeat (go_quiet (first | (go_at_call 57; (with_reducible refine (spec_l1Word.calls k1 (rdOf ByteArray.empty l0 x3_1) true _ A4.out).mono ?_); rintro e w' ⟨rfl, ⟨nd, rfl⟩⟩; first | exact ⟨rfl, _, World.drewN_drewN _ _ _⟩ | exact ⟨rfl, _, Eq.trans (World.drewN_drewN _ _ _) (congrArg (World.drewN _) (Nat.add_assoc _ _ _))⟩ | (have p104 : 0 ≤ ((ji7) : Int) := of_decide_eq_true ad; have q104 : (ji7) < (l0.length : Int) := of_decide_eq_true ad; obtain ⟨ad104, e104, hx104_0⟩ := Kd.at_string HR0.out (ji7) p104 q104; obtain rfl : ad102 = ad104 := (by injection e104); replace p104 := eq_true p104; replace q104 := eq_true q104; have p105 : 0 ≤ (x3_1 : Int) := of_decide_eq_true ad; have q105 : x3_1 < (l0.length : Int) := of_decide_eq_true ad; obtain ⟨ad105, e105, hx105_0⟩ := Kd.at_string HR0.out x3_1 p105 q105; obtain rfl : ad102 = ad105 := (by injection e105); replace p105 := eq_true p105; replace q105 := eq_true q105))); try go_wp2_with (first | (go_at_call 57; (with_reducible refine (spec_l1Word.calls k1 (rdOf ByteArray.empty l0 x3_1) true _ A4.out).mono ?_); rintro e w' ⟨rfl, ⟨nd, rfl⟩⟩; first | exact ⟨rfl, _, World.drewN_drewN _ _ _⟩ | exact ⟨rfl, _, Eq.trans (World.drewN_drewN _ _ _) (congrArg (World.drewN _) (Nat.add_assoc _ _ _))⟩ | (have p104 : 0 ≤ ((ji7) : Int) := of_decide_eq_true ad; have q104 : (ji7) < (l0.length : Int) := of_decide_eq_true ad; obtain ⟨ad104, e104, hx104_0⟩ := Kd.at_string HR0.out (ji7) p104 q104; obtain rfl : ad102 = ad104 := (by injection e104); replace p104 := eq_true p104; replace q104 := eq_true q104; have p105 : 0 ≤ (x3_1 : Int) := of_decide_eq_true ad; have q105 : x3_1 < (l0.length : Int) := of_decide_eq_true ad; obtain ⟨ad105, e105, hx105_0⟩ := Kd.at_string HR0.out x3_1 p105 q105; obtain rfl : ad102 = ad105 := (by injection e105); replace p105 := eq_true p105; replace q105 := eq_true q105))))
       go_roundg k1
       case measure => have := HK1.out; omega
       case rel => exact ⟨(wrap64 (x3_1 + 1)), sq, H', ⟨b53_⟩, dr⟩
      rw [if_neg c10] at H
      have c10b0 : (Op.bytesLess ((rdOf ByteArray.empty l0 (ji7)).toList) ((rdOf ByteArray.empty l0 x3_1).toList)) = false := by simpa using c10
      clear c10; obtain rfl := Option.some.inj H
      have p102 : 0 ≤ (x3_1 : Int) := of_decide_eq_true ad
      have q102 : x3_1 < (l0.length : Int) := of_decide_eq_true ad
      obtain ⟨ad102, e102, hx102_0⟩ := Kd.at_string HR0.out x3_1 p102 q102
      cases e102
      replace p102 := eq_true p102; replace q102 := eq_true q102
      try have p104 : 0 ≤ ((ji7) : Int) := of_decide_eq_true ad
      try have q104 : (ji7) < (l0.length : Int) := of_decide_eq_true ad
      try obtain ⟨ad104, e104, hx104_0⟩ := Kd.at_string HR0.out (ji7) p104 q104
      try obtain rfl : ad102 = ad104 := (by injection e104)
      try replace p104 := eq_true p104
      try replace q104 := eq_true q104
      try have p105 : 0 ≤ (x3_1 : Int) := of_decide_eq_true ad
      try have q105 : x3_1 < (l0.length : Int) := of_decide_eq_true ad
      try obtain ⟨ad105, e105, hx105_0⟩ := Kd.at_string HR0.out x3_1 p105 q105
      try obtain rfl : ad102 = ad105 := (by injection e105)
      try replace p105 := eq_true p105
      try replace q105 := eq_true q105
      go_wp2_with (first | (go_at_call 57; (with_reducible refine (spec_l1Word.calls k1 (rdOf ByteArray.empty l0 x3_1) true _ A4.out).mono ?_); rintro e w' ⟨rfl, ⟨nd, rfl⟩⟩; first | exact ⟨rfl, _, World.drewN_drewN _ _ _⟩ | exact ⟨rfl, _, Eq.trans (World.drewN_drewN _ _ _) (congrArg (World.drewN _) (Nat.add_assoc _ _ _))⟩ | (have p104 : 0 ≤ ((ji7) : Int) := of_decide_eq_true ad; have q104 : (ji7) < (l0.length : Int) := of_decide_eq_true ad; obtain ⟨ad104, e104, hx104_0⟩ := Kd.at_string HR0.out (ji7) p104 q104; obtain rfl : ad102 = ad104 := (by injection e104); replace p104 := eq_true p104; replace q104 := eq_true q104; have p105 : 0 ≤ (x3_1 : Int) := of_decide_eq_true ad; have q105 : x3_1 < (l0.length : Int) := of_decide_eq_true ad; obtain ⟨ad105, e105, hx105_0⟩ := Kd.at_string HR0.out x3_1 p105 q105; obtain rfl : ad102 = ad105 := (by injection e105); replace p105 := eq_true p105; replace q105 := eq_true q105)))
      repeat (go_quiet (first | (go_at_call 57; (with_reducible refine (spec_l1Word.calls k1 (rdOf ByteArray.empty l0 x3_1) true _ A4.out).mono ?_); rintro e w' ⟨rfl, ⟨nd, rfl⟩⟩; first | exact ⟨rfl, _, World.drewN_drewN _ _ _⟩ | exact ⟨rfl, _, Eq.trans (World.drewN_drewN _ _ _) (congrArg (World.drewN _) (Nat.add_assoc _ _ _))⟩ | (have p104 : 0 ≤ ((ji7) : Int) := of_decide_eq_true ad; have q104 : (ji7) < (l0.length : Int) := of_decide_eq_true ad; obtain ⟨ad104, e104, hx104_0⟩ := Kd.at_string HR0.out (ji7) p104 q104; obtain rfl : ad102 = ad104 := (by injection e104); replace p104 := eq_true p104; replace q104 := eq_true q104; have p105 : 0 ≤ (x3_1 : Int) := of_decide_eq_true ad; have q105 : x3_1 < (l0.length : Int) := of_decide_eq_true ad; obtain ⟨ad105, e105, hx105_0⟩ := Kd.at_string HR0.out x3_1 p105 q105; obtain rfl : ad102 = ad105 := (by injection e105); replace p105 := eq_true p105; replace q105 := eq_true q105))); try go_wp2_with (first | (go_at_call 57; (with_reducible refine (spec_l1Word.calls k1 (rdOf ByteArray.empty l0 x3_1) true _ A4.out).mono ?_); rintro e w' ⟨rfl, ⟨nd, rfl⟩⟩; first | exact ⟨rfl, _, World.drewN_drewN _ _ _⟩ | exact ⟨rfl, _, Eq.trans (World.drewN_drewN _ _ _) (congrArg (World.drewN _) (Nat.add_assoc _ _ _))⟩ | (have p104 : 0 ≤ ((ji7) : Int) := of_decide_eq_true ad; have q104 : (ji7) < (l0.length : Int) := of_decide_eq_true ad; obtain ⟨ad104, e104, hx104_0⟩ := Kd.at_string HR0.out (ji7) p104 q104; obtain rfl : ad102 = ad104 := (by injection e104); replace p104 := eq_true p104; replace q104 := eq_true q104; have p105 : 0 ≤ (x3_1 : Int) := of_decide_eq_true ad; have q105 : x3_1 < (l0.length : Int) := of_decide_eq_true ad; obtain ⟨ad105, e105, hx105_0⟩ := Kd.at_string HR0.out x3_1 p105 q105; obtain rfl : ad102 = ad105 := (by injection e105); replace p105 := eq_true p105; replace q105 := eq_true q105))))
      go_ret
      exact ⟨by first | rfl | (simp; done) | (simp only [← hji7] <;> (first | rfl | simp)) | (simp [*]; done), dr⟩
     rw [if_neg c6] at H; have c6b0 := decide_eq_false c6; clear c6
     have H' := am H
     clear H
     have p102 : 0 ≤ (x3_1 : Int) := of_decide_eq_true ad
     have q102 : x3_1 < (l0.length : Int) := of_decide_eq_true ad
     obtain ⟨ad102, e102, hx102_0⟩ := Kd.at_string HR0.out x3_1 p102 q102
     cases e102
     replace p102 := eq_true p102; replace q102 := eq_true q102
     go_wp2_with (first | (go_at_call 57; (with_reducible refine (spec_l1Word.calls k1 (rdOf ByteArray.empty l0 x3_1) true _ A4.out).mono ?_); rintro e w' ⟨rfl, ⟨nd, rfl⟩⟩; (try first | exact ⟨rfl, _, World.drewN_drewN _ _ _⟩ | exact ⟨rfl, _, Eq.trans (World.drewN_drewN _ _ _) (congrArg (World.drewN _) (Nat.add_assoc _ _ _))⟩)))
     repeat (go_quiet (first | (go_at_call 57; (with_reducible refine (spec_l1Word.calls k1 (rdOf ByteArray.empty l0 x3_1) true _ A4.out).mono ?_); rintro e w' ⟨rfl, ⟨nd, rfl⟩⟩; (try first | exact ⟨rfl, _, World.drewN_drewN _ _ _⟩ | exact ⟨rfl, _, Eq.trans (World.drewN_drewN _ _ _) (congrArg (World.drewN _) (Nat.add_assoc _ _ _))⟩))); try go_wp2_with (first | (go_at_call 57; (with_reducible refine (spec_l1Word.calls k1 (rdOf ByteArray.empty l0 x3_1) true _ A4.out).mono ?_); rintro e w' ⟨rfl, ⟨nd, rfl⟩⟩; (try first | exact ⟨rfl, _, World.drewN_drewN _ _ _⟩ | exact ⟨rfl, _, Eq.trans (World.drewN_drewN _ _ _) (congrArg (World.drewN _) (Nat.add_assoc _ _ _))⟩))))
     go_roundg k1
     case measure => have := HK1.out; omega
     case rel => exact ⟨(wrap64 (x3_1 + 1)), sq, H', ⟨b53_⟩, dr⟩
    replace c5 := Bool.eq_false_iff.mpr c5; subst c5
    have H1 : (some false) = some r := b7_
    replace H := H1; clear H1
    obtain rfl := Option.some.inj H
    have p102 : 0 ≤ (x3_1 : Int) := of_decide_eq_true ad
    have q102 : x3_1 < (l0.length : Int) := of_decide_eq_true ad
    obtain ⟨ad102, e102, hx102_0⟩ := Kd.at_string HR0.out x3_1 p102 q102
    cases e102
    replace p102 := eq_true p102; replace q102 := eq_true q102
    go_wp2_with (first | (go_at_call 57; (with_reducible refine (spec_l1Word.calls k1 (rdOf ByteArray.empty l0 x3_1) false _ A4.out).mono ?_); rintro e w' ⟨rfl, ⟨nd, rfl⟩⟩; (try first | exact ⟨rfl, _, World.drewN_drewN _ _ _⟩ | exact ⟨rfl, _, Eq.trans (World.drewN_drewN _ _ _) (congrArg (World.drewN _) (Nat.add_assoc _ _ _))⟩)))
    repeat (go_quiet (first | (go_at_call 57; (with_reducible refine (spec_l1Word.calls k1 (rdOf ByteArray.empty l0 x3_1) false _ A4.out).mono ?_); rintro e w' ⟨rfl, ⟨nd, rfl⟩⟩; (try first | exact ⟨rfl, _, World.drewN_drewN _ _ _⟩ | exact ⟨rfl, _, Eq.trans (World.drewN_drewN _ _ _) (congrArg (World.drewN _) (Nat.add_assoc _ _ _))⟩))); try go_wp2_with (first | (go_at_call 57; (with_reducible refine (spec_l1Word.calls k1 (rdOf ByteArray.empty l0 x3_1) false _ A4.out).mono ?_); rintro e w' ⟨rfl, ⟨nd, rfl⟩⟩; (try first | exact ⟨rfl, _, World.drewN_drewN _ _ _⟩ | exact ⟨rfl, _, Eq.trans (World.drewN_drewN _ _ _) (congrArg (World.drewN _) (Nat.add_assoc _ _ _))⟩))))
    go_ret
    exact ⟨sq, dr⟩
   rw [if_neg c2] at H; have c2b0 := decide_eq_false c2; clear c2; obtain rfl := Option.some.inj H; go_wp2
   repeat (go_quiet (fail); try go_wp2)
   go_ret
   exact ⟨sq, dr⟩

/-! ### spec_l1Least: function 119 -/
def spec_l1Least.f (a0 : Int) (a1 : Int) : Option (Int) := if a0 < a1 then (some a0) else (some a1)
theorem spec_l1Least.calls (a0 : Int) (a1 : Int) (r : Int) (w : World) (h : spec_l1Least.f a0 a1 = some r) :
  Calls Try.prog 119 #[.int .i64 a0, .int .i64 a1] w fun e w' => e = .returned (.int .i64 r) ∧ Drawn0 w w' := by
 have H : (if a0 < a1 then (some a0) else (some a1)) = some r := h
 clear h
 by_cases c3 : a0 < a1
 ·rw [if_pos c3] at H; have c3b0 := decide_eq_true c3; clear c3; obtain rfl := Option.some.inj H; go_enter Try.func119, Try.ntmps119; go_wp2; go_ret
  exact ⟨sq, dr⟩
 rw [if_neg c3] at H; have c3b0 := decide_eq_false c3; clear c3; obtain rfl := Option.some.inj H; go_enter Try.func119, Try.ntmps119; go_wp2; go_ret
 exact ⟨sq, dr⟩
-- shrunk

/-! ### spec_l1Far: function 103 -/
mutual
def spec_l1Far.l0 : Nat → ByteArray → ByteArray → List (List Int) → Int → Option (Int)
 | 0, _, _, _, _ => none
 | k + 1, x0, x1, x5, x6 => if x6 ≤ (x0.size : Int) then (spec_l1Far.l1 k x0 x1 x5 x6 (([] : List Int)) 0) else (if 0 ≤ (x0.size : Int) then (if (x0.size : Int) < (x5.length : Int) then (if 0 ≤ (x1.size : Int) then (if (x1.size : Int) < ((rd_L2 x5 (x0.size : Int)).length : Int) then (some (rd (rd_L2 x5 (x0.size : Int)) (x1.size : Int))) else (none)) else (none)) else (none)) else (none))
def spec_l1Far.l1 : Nat → ByteArray → ByteArray → List (List Int) → Int → List Int → Int → Option (Int)
 | 0, _, _, _, _, _, _ => none
 | k + 1, x0, x1, x5, x6, x7, x8 => if x8 ≤ (x1.size : Int) then (if x6 = 0 then (if x7.length < 17592186044416 then (spec_l1Far.l1 k x0 x1 x5 x6 (x7 ++ [x8]) (wrap64 (x8 + 1))) else (none)) else (if x8 = 0 then (if x7.length < 17592186044416 then (spec_l1Far.l1 k x0 x1 x5 x6 (x7 ++ [x6]) (wrap64 (x8 + 1))) else (none)) else (if 0 ≤ (wrap64 (x6 - 1)) then (if (wrap64 (x6 - 1)) < (x5.length : Int) then (if 0 ≤ (wrap64 (x8 - 1)) then (if (wrap64 (x8 - 1)) < ((rd_L2 x5 (wrap64 (x6 - 1))).length : Int) then (if (wrap64 (x6 - 1)) < (x0.size : Int) then (if (wrap64 (x8 - 1)) < (x1.size : Int) then (if (bt x0 (wrap64 (x6 - 1))) = (bt x1 (wrap64 (x8 - 1))) then (spec_l1Far.j2 k x0 x1 x5 x6 x7 x8 (rd (rd_L2 x5 (wrap64 (x6 - 1))) (wrap64 (x8 - 1)))) else (spec_l1Far.j2 k x0 x1 x5 x6 x7 x8 (wrap64 ((rd (rd_L2 x5 (wrap64 (x6 - 1))) (wrap64 (x8 - 1))) + 1)))) else (none)) else (none)) else (none)) else (none)) else (none)) else (none)))) else (if x5.length < 5864062014805 then (spec_l1Far.l0 k x0 x1 (x5 ++ [x7]) (wrap64 (x6 + 1))) else (none))
def spec_l1Far.j2 : Nat → ByteArray → ByteArray → List (List Int) → Int → List Int → Int → Int → Option (Int)
 | 0, _, _, _, _, _, _, _ => none
 | k + 1, x0, x1, x5, x6, x7, x8, x9 => if 0 ≤ (wrap64 (x6 - 1)) then (if (wrap64 (x6 - 1)) < (x5.length : Int) then (if 0 ≤ x8 then (if x8 < ((rd_L2 x5 (wrap64 (x6 - 1))).length : Int) then (if 0 ≤ (wrap64 (x8 - 1)) then (if (wrap64 (x8 - 1)) < (x7.length : Int) then ((spec_l1Least.f (wrap64 ((rd (rd_L2 x5 (wrap64 (x6 - 1))) x8) + 1)) (wrap64 ((rd x7 (wrap64 (x8 - 1))) + 1))).bind fun t128 => ((spec_l1Least.f x9 t128).bind fun t129 => (if x6 > 1 then (if x8 > 1 then (if (wrap64 (x6 - 1)) < (x0.size : Int) then (if 0 ≤ (wrap64 (x8 - 2)) then (if (wrap64 (x8 - 2)) < (x1.size : Int) then (if (bt x0 (wrap64 (x6 - 1))) = (bt x1 (wrap64 (x8 - 2))) then (if 0 ≤ (wrap64 (x6 - 2)) then (if (wrap64 (x6 - 2)) < (x0.size : Int) then (if (wrap64 (x8 - 1)) < (x1.size : Int) then (spec_l1Far.j3 k x0 x1 x5 x6 x7 x8 t129 ((bt x0 (wrap64 (x6 - 2))) == (bt x1 (wrap64 (x8 - 1))))) else (none)) else (none)) else (none)) else (spec_l1Far.j3 k x0 x1 x5 x6 x7 x8 t129 false)) else (none)) else (none)) else (none)) else (spec_l1Far.j3 k x0 x1 x5 x6 x7 x8 t129 false)) else (spec_l1Far.j3 k x0 x1 x5 x6 x7 x8 t129 false)))) else (none)) else (none)) else (none)) else (none)) else (none)) else (none)
def spec_l1Far.j3 : Nat → ByteArray → ByteArray → List (List Int) → Int → List Int → Int → Int → Bool → Option (Int)
 | 0, _, _, _, _, _, _, _, _ => none
 | k + 1, x0, x1, x5, x6, x7, x8, x9, x89 => if x89 = true then (if 0 ≤ (wrap64 (x6 - 2)) then (if (wrap64 (x6 - 2)) < (x5.length : Int) then (if 0 ≤ (wrap64 (x8 - 2)) then (if (wrap64 (x8 - 2)) < ((rd_L2 x5 (wrap64 (x6 - 2))).length : Int) then ((spec_l1Least.f x9 (wrap64 ((rd (rd_L2 x5 (wrap64 (x6 - 2))) (wrap64 (x8 - 2))) + 1))).bind fun t132 => (if x7.length < 17592186044416 then (spec_l1Far.l1 k x0 x1 x5 x6 (x7 ++ [t132]) (wrap64 (x8 + 1))) else (none))) else (none)) else (none)) else (none)) else (none)) else (if x7.length < 17592186044416 then (spec_l1Far.l1 k x0 x1 x5 x6 (x7 ++ [x9]) (wrap64 (x8 + 1))) else (none))
end
def spec_l1Far.f (k : Nat) (a0 : ByteArray) (a1 : ByteArray) : Option (Int) := spec_l1Far.l0 k a0 a1 (([] : List (List Int))) 0
theorem spec_l1Far.calls (k : Nat) (a0 : ByteArray) (a1 : ByteArray) (r : Int) (w : World) (h : spec_l1Far.f k a0 a1 = some r) :
  Calls Try.prog 103 #[.string a0, .string a1] w fun e w' => e = .returned (.int .i64 r) ∧ Below w.heap.size w w' := by
 have HB := am (Below.refl w.heap.size w)
 have H : (spec_l1Far.l0 k a0 a1 (([] : List (List Int))) 0) = some r := h
 clear h; obtain ⟨y106, hy106⟩ : ∃ y_ : List (List Int), y_ = (([] : List (List Int))) := ⟨_, rfl⟩
 replace H : (spec_l1Far.l0 k a0 a1 y106 0) = some r := by first | (rw [hy106]; with_reducible exact H) | (have H2_ := bm H; rw [hy106]; with_reducible exact H2_) | (with_reducible exact bm H) | with_reducible exact H | (rw [hy106]; exact H) | exact H
 have Ny106 := am hy106; clear hy106
 have H' := am H
 clear H; go_enter Try.func103, Try.ntmps103
 go_wp2_with (first | ((with_reducible refine gate_dst (N := 10) rfl ?_); refine Kd.S_lit (Kd.slice 3 (Kd.int .i64)) _ 86 ?hg (N := 10) ?hd (xs := ([] : List (List Int))) (inner := []) (ok := fun _ => True) (okp := fun _ => True) ?hr ?hp (fun _ hk => hk) trivial (Below.refl _ _) (Nat.le_refl _) (by simp) ?_; (case hd => rfl); (case hg => rfl); (case hr => first | (go_simp; done) | (go_simp; rfl)); (case hp => exact (Reps.none _ _)); intro v107 w3 ho4 hb hg_ hnew_; clear hg_ hnew_; (first | rw [← Ny106.out] at ho4 | (simp only [Int.reduceToNat] at ho4; rw [← Ny106.out] at ho4) | (simp only [Int.toNat_natCast] at ho4; rw [← Ny106.out] at ho4)); have HO108 := am (Kd.S_lower ho4 (below_size bel)); replace HB := am (below_step bel hb); clear hb ho4))
 repeat (go_quiet (first | ((with_reducible refine gate_dst (N := 10) rfl ?_); refine Kd.S_lit (Kd.slice 3 (Kd.int .i64)) _ 86 ?hg (N := 10) ?hd (xs := ([] : List (List Int))) (inner := []) (ok := fun _ => True) (okp := fun _ => True) ?hr ?hp (fun _ hk => hk) trivial (Below.refl _ _) (Nat.le_refl _) (by simp) ?_; (case hd => rfl); (case hg => rfl); (case hr => first | (go_simp; done) | (go_simp; rfl)); (case hp => exact (Reps.none _ _)); intro v107 w3 ho4 hb hg_ hnew_; clear hg_ hnew_; (first | rw [← Ny106.out] at ho4 | (simp only [Int.reduceToNat] at ho4; rw [← Ny106.out] at ho4) | (simp only [Int.toNat_natCast] at ho4; rw [← Ny106.out] at ho4)); have HO108 := am (Kd.S_lower ho4 (below_size bel)); replace HB := am (below_step bel hb); clear hb ho4)); try go_wp2_with (first | ((with_reducible refine gate_dst (N := 10) rfl ?_); refine Kd.S_lit (Kd.slice 3 (Kd.int .i64)) _ 86 ?hg (N := 10) ?hd (xs := ([] : List (List Int))) (inner := []) (ok := fun _ => True) (okp := fun _ => True) ?hr ?hp (fun _ hk => hk) trivial (Below.refl _ _) (Nat.le_refl _) (by simp) ?_; (case hd => rfl); (case hg => rfl); (case hr => first | (go_simp; done) | (go_simp; rfl)); (case hp => exact (Reps.none _ _)); intro v107 w3 ho4 hb hg_ hnew_; clear hg_ hnew_; (first | rw [← Ny106.out] at ho4 | (simp only [Int.reduceToNat] at ho4; rw [← Ny106.out] at ho4) | (simp only [Int.toNat_natCast] at ho4; rw [← Ny106.out] at ho4)); have HO108 := am (Kd.S_lower ho4 (below_size bel)); replace HB := am (below_step bel hb); clear hb ho4)))
 go_loopg [5, 6] k (fun kq v5 v6 w' => ∃ (x5_1 : List (List Int)) (x6_1 : Int), v6 = .int .i64 x6_1 ∧ Aside0 (spec_l1Far.l0 kq a0 a1 x5_1 x6_1 = some r) ∧ Aside0 (kq ≤ k) ∧ Aside0 (Kd.S (Kd.slice 3 (Kd.int .i64)) 86 w' w.heap.size (fun _ => True) v5 x5_1) ∧ Aside0 (Below w.heap.size w w'))
 case atStart => exact ⟨(y106), (0), sq, H', ⟨Nat.le_refl _⟩, ⟨by (with_reducible repeat (first | apply Kd.S_alloc | apply Kd.S_drewN | apply Kd.S_drew)); exact HO108.out⟩, ⟨bel⟩⟩
 case round =>
  clear H'; (try clear c1); (try clear p2); obtain ⟨x5_1, x6_1, rfl, HA, HK1, HO_5, HB⟩ := hrel
  cases gk with
  | zero => exact absurd HA.out (by simp [spec_l1Far.l0])
  | succ k1 =>
   have H := HA.out; clear HA
   simp only [spec_l1Far.l0] at H
   by_cases c5 : x6_1 ≤ (a0.size : Int)
   ·rw [if_pos c5] at H; have c5b0 := decide_eq_true c5; clear c5; obtain ⟨y111, hy111⟩ : ∃ y_ : List Int, y_ = (([] : List Int)) := ⟨_, rfl⟩
    replace H : (spec_l1Far.l1 k1 a0 a1 x5_1 x6_1 y111 0) = some r := by first | (rw [hy111]; with_reducible exact H) | (have H2_ := bm H; rw [hy111]; with_reducible exact H2_) | (with_reducible exact bm H) | with_reducible exact H | (rw [hy111]; exact H) | exact H
    have Ny111 := am hy111; clear hy111
    have H' := am H
    clear H
    go_wp2_with (first | ((with_reducible refine gate_dst (N := 17) rfl ?_); refine Kd.R_lit (Kd.int .i64) _ 3 ?hg (N := 17) ?hd (xs := ([] : List Int)) (inner := []) (ok := fun _ => True) (okp := fun _ => True) ?hr ?hp (fun _ hk => hk) trivial (Below.refl _ _) (Nat.le_refl _) (by simp) ?_; (case hd => rfl); (case hg => rfl); (case hr => first | (go_simp; done) | (go_simp; rfl)); (case hp => exact (Reps.none _ _)); intro v112 w6 ho7 hb hg_ hnew_; clear hg_ hnew_; (first | rw [← Ny111.out] at ho7 | (simp only [Int.reduceToNat] at ho7; rw [← Ny111.out] at ho7) | (simp only [Int.toNat_natCast] at ho7; rw [← Ny111.out] at ho7)); replace HO_5 := am (Kd.S_elder' b18_ (Kd.R_base ho7) hb); have HO113 := am (Kd.R_lower ho7 (below_size bel)); replace HB := am (below_step bel hb); clear hb ho7))
    repeat (go_quiet (first | ((with_reducible refine gate_dst (N := 17) rfl ?_); refine Kd.R_lit (Kd.int .i64) _ 3 ?hg (N := 17) ?hd (xs := ([] : List Int)) (inner := []) (ok := fun _ => True) (okp := fun _ => True) ?hr ?hp (fun _ hk => hk) trivial (Below.refl _ _) (Nat.le_refl _) (by simp) ?_; (case hd => rfl); (case hg => rfl); (case hr => first | (go_simp; done) | (go_simp; rfl)); (case hp => exact (Reps.none _ _)); intro v112 w6 ho7 hb hg_ hnew_; clear hg_ hnew_; (first | rw [← Ny111.out] at ho7 | (simp only [Int.reduceToNat] at ho7; rw [← Ny111.out] at ho7) | (simp only [Int.toNat_natCast] at ho7; rw [← Ny111.out] at ho7)); replace HO_5 := am (Kd.S_elder' b18_ (Kd.R_base ho7) hb); have HO113 := am (Kd.R_lower ho7 (below_size bel)); replace HB := am (below_step bel hb); clear hb ho7)); try go_wp2_with (first | ((with_reducible refine gate_dst (N := 17) rfl ?_); refine Kd.R_lit (Kd.int .i64) _ 3 ?hg (N := 17) ?hd (xs := ([] : List Int)) (inner := []) (ok := fun _ => True) (okp := fun _ => True) ?hr ?hp (fun _ hk => hk) trivial (Below.refl _ _) (Nat.le_refl _) (by simp) ?_; (case hd => rfl); (case hg => rfl); (case hr => first | (go_simp; done) | (go_simp; rfl)); (case hp => exact (Reps.none _ _)); intro v112 w6 ho7 hb hg_ hnew_; clear hg_ hnew_; (first | rw [← Ny111.out] at ho7 | (simp only [Int.reduceToNat] at ho7; rw [← Ny111.out] at ho7) | (simp only [Int.toNat_natCast] at ho7; rw [← Ny111.out] at ho7)); replace HO_5 := am (Kd.S_elder' b18_ (Kd.R_base ho7) hb); have HO113 := am (Kd.R_lower ho7 (below_size bel)); replace HB := am (below_step bel hb); clear hb ho7)))
    go_loopg [7, 8] k1 (fun kq v7 v8 w' => ∃ (x7_2 : List Int) (x8_2 : Int), v8 = .int .i64 x8_2 ∧ Aside0 (spec_l1Far.l1 kq a0 a1 x5_1 x6_1 x7_2 x8_2 = some r) ∧ Aside0 (kq ≤ k1) ∧ Aside0 (Kd.S (Kd.slice 3 (Kd.int .i64)) 86 w' w.heap.size (fun k_ => some k_ ≠ (v7 : Value).ownBlock) u5 x5_1) ∧ Aside0 (Kd.R (Kd.int .i64) 3 w' w.heap.size (fun _ => True) v7 x7_2) ∧ Aside0 (Below w.heap.size w w'))
    case atStart => exact ⟨(y111), (0), sq, H', ⟨Nat.le_refl _⟩, ⟨b35_⟩, ⟨rq HO113.out⟩, ⟨bel⟩⟩
    case round =>
     clear H'; (try clear c1); (try clear p2); (try clear c5); (try clear c5b0); (try clear p2); obtain ⟨x7_2, x8_2, rfl, HA, HK2, HO_5, HO_7, HB⟩ := hrel
     cases gk with
     | zero => exact absurd HA.out (by simp [spec_l1Far.l1])
     | succ k2 =>
      have H := HA.out; clear HA
      simp only [spec_l1Far.l1] at H
      by_cases c8 : x8_2 ≤ (a1.size : Int)
      ·rw [if_pos c8] at H; have c8b0 := decide_eq_true c8; clear c8
       by_cases c9 : x6_1 = 0
       ·rw [if_pos c9] at H
        have c9b0 : (x6_1 == 0) = true := beq_iff_eq.mpr c9
        have c9b1 : (x6_1 != 0) = false := bne_eq_false_iff_eq.mpr c9
        clear c9
        replace H := ip H; obtain ⟨c10, H⟩ := H; have LMc10 := Aside0.mk c10; clear c10; obtain ⟨y117, hy117⟩ : ∃ y_ : List Int, y_ = (x7_2 ++ [x8_2]) := ⟨_, rfl⟩
        replace H : (spec_l1Far.l1 k2 a0 a1 x5_1 x6_1 y117 (wrap64 (x8_2 + 1))) = some r := by first | (rw [hy117]; with_reducible exact H) | (have H2_ := bm H; rw [hy117]; with_reducible exact H2_) | (with_reducible exact bm H) | with_reducible exact H | (rw [hy117]; exact H) | exact H
        have Ny117 := am hy117; clear hy117
        have H' := am H
        clear H
        go_wp2_with (first | ((with_reducible refine gate_builtin (b := .append) (xs := #[.tmp 109, .tmp 111]) rfl ?_); at_builtin; refine Kd.R_append (Kd.int .i64) (w0 := w) w.heap.size rfl (.tmp 109) (.tmp 111) 86 3 (.int .i64 0) 8 rfl Try.underlying86 info3 rfl (by decide) (by omega) u7 x7_2 x8_2 [.int .i64 x8_2] (fun _ => True) (fun _ => False) rfl rfl ?aP (fun _ hk => hk.elim) ?aF ?aO ?aB ?aS ?aL ?_; (case aP => exact rfl); (case aB => exact bel); (case aF => exact (fun _ _ => trivial)); (case aO => exact (rq HO_7.out)); (case aS => exact (below_size bel)); (case aL => have := LMc10.out; omega); intro v118 w11 ho hb hg hat; rw [← Ny117.out] at ho; replace HO_5 := am (Kd.S_after (ok := (fun _ => True)) b11_ hg hat); replace HB := am (hb); have HO119 := am (ho); clear HO_7; clear ho hb hg hat))
        repeat (go_quiet (first | ((with_reducible refine gate_builtin (b := .append) (xs := #[.tmp 109, .tmp 111]) rfl ?_); at_builtin; refine Kd.R_append (Kd.int .i64) (w0 := w) w.heap.size rfl (.tmp 109) (.tmp 111) 86 3 (.int .i64 0) 8 rfl Try.underlying86 info3 rfl (by decide) (by omega) u7 x7_2 x8_2 [.int .i64 x8_2] (fun _ => True) (fun _ => False) rfl rfl ?aP (fun _ hk => hk.elim) ?aF ?aO ?aB ?aS ?aL ?_; (case aP => exact rfl); (case aB => exact bel); (case aF => exact (fun _ _ => trivial)); (case aO => exact (rq HO_7.out)); (case aS => exact (below_size bel)); (case aL => have := LMc10.out; omega); intro v118 w11 ho hb hg hat; rw [← Ny117.out] at ho; replace HO_5 := am (Kd.S_after (ok := (fun _ => True)) b11_ hg hat); replace HB := am (hb); have HO119 := am (ho); clear HO_7; clear ho hb hg hat)); try go_wp2_with (first | ((with_reducible refine gate_builtin (b := .append) (xs := #[.tmp 109, .tmp 111]) rfl ?_); at_builtin; refine Kd.R_append (Kd.int .i64) (w0 := w) w.heap.size rfl (.tmp 109) (.tmp 111) 86 3 (.int .i64 0) 8 rfl Try.underlying86 info3 rfl (by decide) (by omega) u7 x7_2 x8_2 [.int .i64 x8_2] (fun _ => True) (fun _ => False) rfl rfl ?aP (fun _ hk => hk.elim) ?aF ?aO ?aB ?aS ?aL ?_; (case aP => exact rfl); (case aB => exact bel); (case aF => exact (fun _ _ => trivial)); (case aO => exact (rq HO_7.out)); (case aS => exact (below_size bel)); (case aL => have := LMc10.out; omega); intro v118 w11 ho hb hg hat; rw [← Ny117.out] at ho; replace HO_5 := am (Kd.S_after (ok := (fun _ => True)) b11_ hg hat); replace HB := am (hb); have HO119 := am (ho); clear HO_7; clear ho hb hg hat)))
        go_roundg k2
        case measure => have := HK1.out; have := HK2.out; omega
        case rel => exact ⟨(y117), (wrap64 (x8_2 + 1)), sq, H', ⟨b45_⟩, ⟨b35_⟩, ⟨rq HO119.out⟩, ⟨bel⟩⟩
       rw [if_neg c9] at H
       have c9b0 : (x6_1 == 0) = false := beq_eq_false_iff_ne.mpr c9
       have c9b1 : (x6_1 != 0) = true := bne_iff_ne.mpr c9
       by_cases c12 : x8_2 = 0
       ·rw [if_pos c12] at H
        have c12b0 : (x8_2 == 0) = true := beq_iff_eq.mpr c12
        have c12b1 : (x8_2 != 0) = false := bne_eq_false_iff_eq.mpr c12
        clear c12
        replace H := ip H; obtain ⟨c13, H⟩ := H; have LMc13 := Aside0.mk c13; clear c13; obtain ⟨y120, hy120⟩ : ∃ y_ : List Int, y_ = (x7_2 ++ [x6_1]) := ⟨_, rfl⟩
        replace H : (spec_l1Far.l1 k2 a0 a1 x5_1 x6_1 y120 (wrap64 (x8_2 + 1))) = some r := by first | (rw [hy120]; with_reducible exact H) | (have H2_ := bm H; rw [hy120]; with_reducible exact H2_) | (with_reducible exact bm H) | with_reducible exact H | (rw [hy120]; exact H) | exact H
        have Ny120 := am hy120; clear hy120
        have H' := am H
        clear H
        go_wp2_with (first | ((with_reducible refine gate_builtin (b := .append) (xs := #[.tmp 116, .tmp 118]) rfl ?_); at_builtin; refine Kd.R_append (Kd.int .i64) (w0 := w) w.heap.size rfl (.tmp 116) (.tmp 118) 86 3 (.int .i64 0) 8 rfl Try.underlying86 info3 rfl (by decide) (by omega) u7 x7_2 x6_1 [.int .i64 x6_1] (fun _ => True) (fun _ => False) rfl rfl ?aP (fun _ hk => hk.elim) ?aF ?aO ?aB ?aS ?aL ?_; (case aP => exact rfl); (case aB => exact bel); (case aF => exact (fun _ _ => trivial)); (case aO => exact (rq HO_7.out)); (case aS => exact (below_size bel)); (case aL => have := LMc13.out; omega); intro v121 w14 ho hb hg hat; rw [← Ny120.out] at ho; replace HO_5 := am (Kd.S_after (ok := (fun _ => True)) b11_ hg hat); replace HB := am (hb); have HO122 := am (ho); clear HO_7; clear ho hb hg hat))
        repeat (go_quiet (first | ((with_reducible refine gate_builtin (b := .append) (xs := #[.tmp 116, .tmp 118]) rfl ?_); at_builtin; refine Kd.R_append (Kd.int .i64) (w0 := w) w.heap.size rfl (.tmp 116) (.tmp 118) 86 3 (.int .i64 0) 8 rfl Try.underlying86 info3 rfl (by decide) (by omega) u7 x7_2 x6_1 [.int .i64 x6_1] (fun _ => True) (fun _ => False) rfl rfl ?aP (fun _ hk => hk.elim) ?aF ?aO ?aB ?aS ?aL ?_; (case aP => exact rfl); (case aB => exact bel); (case aF => exact (fun _ _ => trivial)); (case aO => exact (rq HO_7.out)); (case aS => exact (below_size bel)); (case aL => have := LMc13.out; omega); intro v121 w14 ho hb hg hat; rw [← Ny120.out] at ho; replace HO_5 := am (Kd.S_after (ok := (fun _ => True)) b11_ hg hat); replace HB := am (hb); have HO122 := am (ho); clear HO_7; clear ho hb hg hat)); try go_wp2_with (first | ((with_reducible refine gate_builtin (b := .append) (xs := #[.tmp 116, .tmp 118]) rfl ?_); at_builtin; refine Kd.R_append (Kd.int .i64) (w0 := w) w.heap.size rfl (.tmp 116) (.tmp 118) 86 3 (.int .i64 0) 8 rfl Try.underlying86 info3 rfl (by decide) (by omega) u7 x7_2 x6_1 [.int .i64 x6_1] (fun _ => True) (fun _ => False) rfl rfl ?aP (fun _ hk => hk.elim) ?aF ?aO ?aB ?aS ?aL ?_; (case aP => exact rfl); (case aB => exact bel); (case aF => exact (fun _ _ => trivial)); (case aO => exact (rq HO_7.out)); (case aS => exact (below_size bel)); (case aL => have := LMc13.out; omega); intro v121 w14 ho hb hg hat; rw [← Ny120.out] at ho; replace HO_5 := am (Kd.S_after (ok := (fun _ => True)) b11_ hg hat); replace HB := am (hb); have HO122 := am (ho); clear HO_7; clear ho hb hg hat)))
        go_roundg k2
        case measure => have := HK1.out; have := HK2.out; omega
        case rel => exact ⟨(y120), (wrap64 (x8_2 + 1)), sq, H', ⟨b45_⟩, ⟨b35_⟩, ⟨rq HO122.out⟩, ⟨bel⟩⟩
       rw [if_neg c12] at H
       have c12b0 : (x8_2 == 0) = false := beq_eq_false_iff_ne.mpr c12
       have c12b1 : (x8_2 != 0) = true := bne_iff_ne.mpr c12
       obtain ⟨ji15, hji15⟩ : ∃ j_ : Int, (wrap64 (x6_1 - 1)) = j_ := ⟨_, rfl⟩
       replace H : (if 0 ≤ (ji15) then (if (ji15) < (x5_1.length : Int) then (if 0 ≤ (wrap64 (x8_2 - 1)) then (if (wrap64 (x8_2 - 1)) < ((rd_L2 x5_1 (ji15)).length : Int) then (if (ji15) < (a0.size : Int) then (if (wrap64 (x8_2 - 1)) < (a1.size : Int) then (if (bt a0 (ji15)) = (bt a1 (wrap64 (x8_2 - 1))) then (spec_l1Far.j2 k2 a0 a1 x5_1 x6_1 x7_2 x8_2 (rd (rd_L2 x5_1 (ji15)) (wrap64 (x8_2 - 1)))) else (spec_l1Far.j2 k2 a0 a1 x5_1 x6_1 x7_2 x8_2 (wrap64 ((rd (rd_L2 x5_1 (ji15)) (wrap64 (x8_2 - 1))) + 1)))) else (none)) else (none)) else (none)) else (none)) else (none)) else (none)) = some r := by first | (rw [hji15] at H; exact H) | (simp only [hji15] at H ⊢; exact H)
       have hji15w : (IntKind.i64.wrap (x6_1 - 1)) = ji15 := (i64_w _).trans hji15
       replace H := it H; obtain ⟨c16b0, H⟩ := H
       replace H := it H; obtain ⟨c17b0, H⟩ := H; obtain ⟨ji18, hji18⟩ : ∃ j_ : Int, (wrap64 (x8_2 - 1)) = j_ := ⟨_, rfl⟩
       replace H : (if 0 ≤ (ji18) then (if (ji18) < ((rd_L2 x5_1 (ji15)).length : Int) then (if (ji15) < (a0.size : Int) then (if (ji18) < (a1.size : Int) then (if (bt a0 (ji15)) = (bt a1 (ji18)) then (spec_l1Far.j2 k2 a0 a1 x5_1 x6_1 x7_2 x8_2 (rd (rd_L2 x5_1 (ji15)) (ji18))) else (spec_l1Far.j2 k2 a0 a1 x5_1 x6_1 x7_2 x8_2 (wrap64 ((rd (rd_L2 x5_1 (ji15)) (ji18)) + 1)))) else (none)) else (none)) else (none)) else (none)) = some r := by first | (rw [hji18] at H; exact H) | (simp only [hji18] at H ⊢; exact H)
       have hji18w : (IntKind.i64.wrap (x8_2 - 1)) = ji18 := (i64_w _).trans hji18
       replace H := it H; obtain ⟨c19b0, H⟩ := H
       replace H := it H; obtain ⟨c20b0, H⟩ := H
       replace H := it H; obtain ⟨c21b0, H⟩ := H
       replace H := it H; obtain ⟨c23b0, H⟩ := H; have HC25 := am H; clear H; obtain ⟨Ao26, co26, eo26⟩ := Kd.S_slice HO_5.out; subst eo26
       have p123 : 0 ≤ ((ji15) : Int) := of_decide_eq_true ad
       have q123 : (ji15) < (x5_1.length : Int) := of_decide_eq_true ad
       obtain ⟨ad123, A123_0, c123_0, e123, hx123_0, hl123_0, hi123_0⟩ := at_L2 (Kd.S_reads' HO_5.out).2.2 (ji15) p123 q123
       cases e123
       obtain ⟨ce123, hce123, hMe123, hcc123⟩ := Kd.S_get HO_5.out [] (ji15) p123 (by first | exact q123 | exact of_decide_eq_true ad | (have e_ := (Kd.S_reads' HO_5.out).1; omega))
       obtain ⟨ve123_0, rfl, ge123_0⟩ := hMe123; have hv123_0 := hcc123 0 _ rfl; rw [Nat.add_zero, show ((Kd.slice 3 (Kd.int .i64))).sz = 1 from rfl, Nat.mul_one] at hv123_0; replace hv123_0 := Option.some.inj (hv123_0.symm.trans hx123_0); rw [hv123_0] at ge123_0; have HL123_0 := am (show Kd.R (Kd.int .i64) 3 _ _ _ _ (rd_L2 x5_1 (ji15)) from ge123_0); clear hv123_0 ge123_0; clear hcc123 hce123; have HR123_0 := am hi123_0; have HC123_0 := am hl123_0; clear hi123_0 hl123_0; replace p123 := eq_true p123; replace q123 := eq_true q123
       have p124 : 0 ≤ ((ji18) : Int) := of_decide_eq_true ad
       have q124 : (ji18) < ((rd_L2 x5_1 (ji15)).length : Int) := of_decide_eq_true ad
       obtain ⟨ad124, e124, hx124_0⟩ := Kd.at_int b16_ (ji18) p124 q124
       cases e124
       replace p124 := eq_true p124; replace q124 := eq_true q124
       have p22 : 0 ≤ ((ji15) : Int) := of_decide_eq_true ad
       have q22 : (ji15) < (a0.size : Int) := of_decide_eq_true ad
       have hx22 := bt_at a0 (ji15); replace p22 := eq_true p22; replace q22 := eq_true q22
       have p24 : 0 ≤ ((ji18) : Int) := of_decide_eq_true ad
       have q24 : (ji18) < (a1.size : Int) := of_decide_eq_true ad
       have hx24 := bt_at a1 (ji18); replace p24 := eq_true p24; replace q24 := eq_true q24
       go_upto_if 41 with (fail)
       repeat (go_quiet (fail); go_upto_if 41 with (fail))
       go_cut [9] (fun v9 wc => ∃ (kq : Nat) (x9_24 : Int), v9 = .int .i64 x9_24 ∧ Aside0 (spec_l1Far.j2 kq a0 a1 x5_1 x6_1 x7_2 x8_2 x9_24 = some r) ∧ Aside0 (kq ≤ k2) ∧ Aside0 (Kd.S (Kd.slice 3 (Kd.int .i64)) 86 wc w.heap.size (fun k_ => some k_ ≠ (u7 : Value).ownBlock) (.slice (some ad123) x5_1.length co26) x5_1) ∧ Aside0 (Kd.R (Kd.int .i64) 3 wc w.heap.size (fun _ => True) u7 x7_2) ∧ Aside0 (Kd.C (Kd.int .i64) wc (some ad124) (rd_L2 x5_1 (ji15)).length (rd_L2 x5_1 (ji15))) ∧ Aside0 (Below w.heap.size w wc))
       case first =>
        have H := HC25.out; clear HC25
        by_cases c27 : (bt a0 (ji15)) = (bt a1 (ji18))
        ·rw [if_pos c27] at H
         have c27b0 : ((bt a0 (ji15)) == (bt a1 (ji18))) = true := beq_iff_eq.mpr c27
         have c27b1 : ((bt a0 (ji15)) != (bt a1 (ji18))) = false := bne_eq_false_iff_eq.mpr c27
         clear c27
         (first | rw [c27b0] | (simp only [i64_w, i32_w]; rw [c27b0]) | skip)
         have H' := am H
         clear H; go_wp2
         repeat (go_quiet (fail); try go_wp2)
         go_meet
         case rel => exact ⟨_, (rd (rd_L2 x5_1 (ji15)) (ji18)), (by first | rfl | (simp; done) | (simp only [← hji15, ← hji18] <;> (first | rfl | simp)) | (simp [*]; done)), H', ⟨b59_⟩, ⟨b18_⟩, ⟨rq HO_7.out⟩, ⟨b16_⟩, ⟨bel⟩⟩
        rw [if_neg c27] at H
        have c27b0 : ((bt a0 (ji15)) == (bt a1 (ji18))) = false := beq_eq_false_iff_ne.mpr c27
        have c27b1 : ((bt a0 (ji15)) != (bt a1 (ji18))) = true := bne_iff_ne.mpr c27
        (first | rw [c27b0] | (simp only [i64_w, i32_w]; rw [c27b0]) | skip)
        have H' := am H
        clear H; go_wp2
        repeat (go_quiet (fail); try go_wp2)
        go_meet
        case rel => exact ⟨_, (wrap64 ((rd (rd_L2 x5_1 (ji15)) (ji18)) + 1)), (by first | rfl | (simp; done) | (simp only [← hji15, ← hji18] <;> (first | rfl | simp)) | (simp [*]; done)), H', ⟨b59_⟩, ⟨b18_⟩, ⟨rq HO_7.out⟩, ⟨b16_⟩, ⟨bel⟩⟩
       case rest =>
        clear HC25; (try clear c1); (try clear p1); (try clear q1); (try clear hx1); (try clear c2); (try clear p2); (try clear q2); (try clear hx2); (try clear c5); (try clear c5b0); (try clear p6); (try clear c8); (try clear c8b0); (try clear c9); (try clear c9b0); (try clear c9b1); (try clear c10); (try clear c12); (try clear c12b0); (try clear c12b1); (try clear p12); (try clear q12); (try clear hx12); (try clear c13); (try clear c16); (try clear c16b0); (try clear c17); (try clear c17b0); (try clear c19); (try clear c19b0); (try clear c20); (try clear c20b0); (try clear c21); (try clear c21b0); (try clear p22); (try clear q22); (try clear hx22); (try clear c23); (try clear c23b0); (try clear p24); (try clear q24); (try clear hx24); (try clear c27); (try clear c27b0); (try clear c27b1); (try clear hx123_0); (try clear hx124_0); (try clear p123); (try clear p124); (try clear p2); (try clear p22); (try clear p24); (try clear q123); (try clear q124); (try clear q22); (try clear q24); obtain ⟨kq, x9_24, rfl, HA, HJ24, HO_5, HO_7, HR123_0, HB⟩ := hcut
        cases kq with
        | zero => exact absurd HA.out (by simp [spec_l1Far.j2])
        | succ kj24 =>
         have H := HA.out; clear HA
         simp only [spec_l1Far.j2] at H
         obtain ⟨ji28, hji28⟩ : ∃ j_ : Int, (wrap64 (x6_1 - 1)) = j_ := ⟨_, rfl⟩
         replace H : (if 0 ≤ (ji28) then (if (ji28) < (x5_1.length : Int) then (if 0 ≤ x8_2 then (if x8_2 < ((rd_L2 x5_1 (ji28)).length : Int) then (if 0 ≤ (wrap64 (x8_2 - 1)) then (if (wrap64 (x8_2 - 1)) < (x7_2.length : Int) then ((spec_l1Least.f (wrap64 ((rd (rd_L2 x5_1 (ji28)) x8_2) + 1)) (wrap64 ((rd x7_2 (wrap64 (x8_2 - 1))) + 1))).bind fun t128 => ((spec_l1Least.f x9_24 t128).bind fun t129 => (if x6_1 > 1 then (if x8_2 > 1 then (if (ji28) < (a0.size : Int) then (if 0 ≤ (wrap64 (x8_2 - 2)) then (if (wrap64 (x8_2 - 2)) < (a1.size : Int) then (if (bt a0 (ji28)) = (bt a1 (wrap64 (x8_2 - 2))) then (if 0 ≤ (wrap64 (x6_1 - 2)) then (if (wrap64 (x6_1 - 2)) < (a0.size : Int) then (if (wrap64 (x8_2 - 1)) < (a1.size : Int) then (spec_l1Far.j3 kj24 a0 a1 x5_1 x6_1 x7_2 x8_2 t129 ((bt a0 (wrap64 (x6_1 - 2))) == (bt a1 (wrap64 (x8_2 - 1))))) else (none)) else (none)) else (none)) else (spec_l1Far.j3 kj24 a0 a1 x5_1 x6_1 x7_2 x8_2 t129 false)) else (none)) else (none)) else (none)) else (spec_l1Far.j3 kj24 a0 a1 x5_1 x6_1 x7_2 x8_2 t129 false)) else (spec_l1Far.j3 kj24 a0 a1 x5_1 x6_1 x7_2 x8_2 t129 false)))) else (none)) else (none)) else (none)) else (none)) else (none)) else (none)) = some r := by first | (rw [hji28] at H; exact H) | (simp only [hji28] at H ⊢; exact H)
         have hji28w : (IntKind.i64.wrap (x6_1 - 1)) = ji28 := (i64_w _).trans hji28
         (try clear hji15w)
         replace H := it H; obtain ⟨c29b0, H⟩ := H
         replace H := it H; obtain ⟨c30b0, H⟩ := H
         replace H := it H; obtain ⟨c31b0, H⟩ := H
         replace H := it H; obtain ⟨c32b0, H⟩ := H; obtain ⟨ji33, hji33⟩ : ∃ j_ : Int, (wrap64 (x8_2 - 1)) = j_ := ⟨_, rfl⟩
         replace H : (if 0 ≤ (ji33) then (if (ji33) < (x7_2.length : Int) then ((spec_l1Least.f (wrap64 ((rd (rd_L2 x5_1 (ji28)) x8_2) + 1)) (wrap64 ((rd x7_2 (ji33)) + 1))).bind fun t128 => ((spec_l1Least.f x9_24 t128).bind fun t129 => (if x6_1 > 1 then (if x8_2 > 1 then (if (ji28) < (a0.size : Int) then (if 0 ≤ (wrap64 (x8_2 - 2)) then (if (wrap64 (x8_2 - 2)) < (a1.size : Int) then (if (bt a0 (ji28)) = (bt a1 (wrap64 (x8_2 - 2))) then (if 0 ≤ (wrap64 (x6_1 - 2)) then (if (wrap64 (x6_1 - 2)) < (a0.size : Int) then (if (ji33) < (a1.size : Int) then (spec_l1Far.j3 kj24 a0 a1 x5_1 x6_1 x7_2 x8_2 t129 ((bt a0 (wrap64 (x6_1 - 2))) == (bt a1 (ji33)))) else (none)) else (none)) else (none)) else (spec_l1Far.j3 kj24 a0 a1 x5_1 x6_1 x7_2 x8_2 t129 false)) else (none)) else (none)) else (none)) else (spec_l1Far.j3 kj24 a0 a1 x5_1 x6_1 x7_2 x8_2 t129 false)) else (spec_l1Far.j3 kj24 a0 a1 x5_1 x6_1 x7_2 x8_2 t129 false)))) else (none)) else (none)) = some r := by first | (rw [hji33] at H; exact H) | (simp only [hji33] at H ⊢; exact H)
         have hji33w : (IntKind.i64.wrap (x8_2 - 1)) = ji33 := (i64_w _).trans hji33
         (try clear hji18w)
         replace H := it H; obtain ⟨c34b0, H⟩ := H
         replace H := it H; obtain ⟨c35b0, H⟩ := H; replace H := bs H; obtain ⟨t128, A360, H⟩ := H; replace H : ((spec_l1Least.f x9_24 t128).bind fun t129 => (if x6_1 > 1 then (if x8_2 > 1 then (if (ji28) < (a0.size : Int) then (if 0 ≤ (wrap64 (x8_2 - 2)) then (if (wrap64 (x8_2 - 2)) < (a1.size : Int) then (if (bt a0 (ji28)) = (bt a1 (wrap64 (x8_2 - 2))) then (if 0 ≤ (wrap64 (x6_1 - 2)) then (if (wrap64 (x6_1 - 2)) < (a0.size : Int) then (if (ji33) < (a1.size : Int) then (spec_l1Far.j3 kj24 a0 a1 x5_1 x6_1 x7_2 x8_2 t129 ((bt a0 (wrap64 (x6_1 - 2))) == (bt a1 (ji33)))) else (none)) else (none)) else (none)) else (spec_l1Far.j3 kj24 a0 a1 x5_1 x6_1 x7_2 x8_2 t129 false)) else (none)) else (none)) else (none)) else (spec_l1Far.j3 kj24 a0 a1 x5_1 x6_1 x7_2 x8_2 t129 false)) else (spec_l1Far.j3 kj24 a0 a1 x5_1 x6_1 x7_2 x8_2 t129 false))) = some r := H; have A36 := Aside0.mk A360; clear A360; replace H := bs H; obtain ⟨t129, A370, H⟩ := H; replace H : (if x6_1 > 1 then (if x8_2 > 1 then (if (ji28) < (a0.size : Int) then (if 0 ≤ (wrap64 (x8_2 - 2)) then (if (wrap64 (x8_2 - 2)) < (a1.size : Int) then (if (bt a0 (ji28)) = (bt a1 (wrap64 (x8_2 - 2))) then (if 0 ≤ (wrap64 (x6_1 - 2)) then (if (wrap64 (x6_1 - 2)) < (a0.size : Int) then (if (ji33) < (a1.size : Int) then (spec_l1Far.j3 kj24 a0 a1 x5_1 x6_1 x7_2 x8_2 t129 ((bt a0 (wrap64 (x6_1 - 2))) == (bt a1 (ji33)))) else (none)) else (none)) else (none)) else (spec_l1Far.j3 kj24 a0 a1 x5_1 x6_1 x7_2 x8_2 t129 false)) else (none)) else (none)) else (none)) else (spec_l1Far.j3 kj24 a0 a1 x5_1 x6_1 x7_2 x8_2 t129 false)) else (spec_l1Far.j3 kj24 a0 a1 x5_1 x6_1 x7_2 x8_2 t129 false)) = some r := H; have A37 := Aside0.mk A370; clear A370; have HC38 := am H; clear H
         have p125 : 0 ≤ ((ji28) : Int) := of_decide_eq_true ad
         have q125 : (ji28) < (x5_1.length : Int) := of_decide_eq_true ad
         obtain ⟨ad125, A125_0, c125_0, e125, hx125_0, hl125_0, hi125_0⟩ := at_L2 (Kd.S_reads' HO_5.out).2.2 (ji28) p125 q125
         obtain rfl : ad123 = ad125 := (by injection e125)
         obtain ⟨ce125, hce125, hMe125, hcc125⟩ := Kd.S_get HO_5.out [] (ji28) p125 (by first | exact q125 | exact of_decide_eq_true ad | (have e_ := (Kd.S_reads' HO_5.out).1; omega))
         obtain ⟨ve125_0, rfl, ge125_0⟩ := hMe125; have hv125_0 := hcc125 0 _ rfl; rw [Nat.add_zero, show ((Kd.slice 3 (Kd.int .i64))).sz = 1 from rfl, Nat.mul_one] at hv125_0; replace hv125_0 := Option.some.inj (hv125_0.symm.trans hx125_0); rw [hv125_0] at ge125_0; have HL125_0 := am (show Kd.R (Kd.int .i64) 3 _ _ _ _ (rd_L2 x5_1 (ji28)) from ge125_0); clear hv125_0 ge125_0; clear hcc125 hce125; have HR125_0 := am hi125_0; have HC125_0 := am hl125_0; clear hi125_0 hl125_0; replace p125 := eq_true p125; replace q125 := eq_true q125
         have p126 : 0 ≤ (x8_2 : Int) := of_decide_eq_true ad
         have q126 : x8_2 < ((rd_L2 x5_1 (ji28)).length : Int) := of_decide_eq_true ad
         obtain ⟨ad126, e126, hx126_0⟩ := Kd.at_int b22_ x8_2 p126 q126
         cases e126
         replace p126 := eq_true p126; replace q126 := eq_true q126; obtain ⟨Ao39, co39, eo39⟩ := Kd.R_slice HO_7.out; subst eo39
         have p127 : 0 ≤ ((ji33) : Int) := of_decide_eq_true ad
         have q127 : (ji33) < (x7_2.length : Int) := of_decide_eq_true ad
         obtain ⟨ad127, e127, hx127_0⟩ := Kd.at_int (Kd.R_reads' HO_7.out).2.2 (ji33) p127 q127
         cases e127
         replace p127 := eq_true p127; replace q127 := eq_true q127
         go_upto_region 13 with (first | (go_at_call 119; (with_reducible refine (spec_l1Least.calls (wrap64 ((rd (rd_L2 x5_1 (ji28)) x8_2) + 1)) (wrap64 ((rd x7_2 (ji33)) + 1)) t128 _ A36.out).mono ?_); rintro e w' ⟨rfl, ⟨nd, rfl⟩⟩; (try first | exact ⟨rfl, _, World.drewN_drewN _ _ _⟩ | exact ⟨rfl, _, Eq.trans (World.drewN_drewN _ _ _) (congrArg (World.drewN _) (Nat.add_assoc _ _ _))⟩)) | (go_at_call 119; (with_reducible refine (spec_l1Least.calls x9_24 t128 t129 _ A37.out).mono ?_); rintro e w' ⟨rfl, ⟨nd, rfl⟩⟩; (try first | exact ⟨rfl, _, World.drewN_drewN _ _ _⟩ | exact ⟨rfl, _, Eq.trans (World.drewN_drewN _ _ _) (congrArg (World.drewN _) (Nat.add_assoc _ _ _))⟩)))
         repeat (go_quiet (first | (go_at_call 119; (with_reducible refine (spec_l1Least.calls (wrap64 ((rd (rd_L2 x5_1 (ji28)) x8_2) + 1)) (wrap64 ((rd x7_2 (ji33)) + 1)) t128 _ A36.out).mono ?_); rintro e w' ⟨rfl, ⟨nd, rfl⟩⟩; (try first | exact ⟨rfl, _, World.drewN_drewN _ _ _⟩ | exact ⟨rfl, _, Eq.trans (World.drewN_drewN _ _ _) (congrArg (World.drewN _) (Nat.add_assoc _ _ _))⟩)) | (go_at_call 119; (with_reducible refine (spec_l1Least.calls x9_24 t128 t129 _ A37.out).mono ?_); rintro e w' ⟨rfl, ⟨nd, rfl⟩⟩; (try first | exact ⟨rfl, _, World.drewN_drewN _ _ _⟩ | exact ⟨rfl, _, Eq.trans (World.drewN_drewN _ _ _) (congrArg (World.drewN _) (Nat.add_assoc _ _ _))⟩))); go_upto_region 13 with (first | (go_at_call 119; (with_reducible refine (spec_l1Least.calls (wrap64 ((rd (rd_L2 x5_1 (ji28)) x8_2) + 1)) (wrap64 ((rd x7_2 (ji33)) + 1)) t128 _ A36.out).mono ?_); rintro e w' ⟨rfl, ⟨nd, rfl⟩⟩; (try first | exact ⟨rfl, _, World.drewN_drewN _ _ _⟩ | exact ⟨rfl, _, Eq.trans (World.drewN_drewN _ _ _) (congrArg (World.drewN _) (Nat.add_assoc _ _ _))⟩)) | (go_at_call 119; (with_reducible refine (spec_l1Least.calls x9_24 t128 t129 _ A37.out).mono ?_); rintro e w' ⟨rfl, ⟨nd, rfl⟩⟩; (try first | exact ⟨rfl, _, World.drewN_drewN _ _ _⟩ | exact ⟨rfl, _, Eq.trans (World.drewN_drewN _ _ _) (congrArg (World.drewN _) (Nat.add_assoc _ _ _))⟩))))
         (try simp only [Act.put, List.setIfInBounds_toArray, List.set_cons_zero, List.set_cons_succ])
         go_cut [89] (fun v89 wc => ∃ (kq : Nat) (x89_37 : Bool), v89 = .bool x89_37 ∧ Aside0 (spec_l1Far.j3 kq a0 a1 x5_1 x6_1 x7_2 x8_2 t129 x89_37 = some r) ∧ Aside0 (kq ≤ kj24) ∧ Aside0 (Kd.S (Kd.slice 3 (Kd.int .i64)) 86 wc w.heap.size (fun k_ => some k_ ≠ ((.slice (some ad127) x7_2.length co39) : Value).ownBlock) (.slice (some ad123) x5_1.length co26) x5_1) ∧ Aside0 (Kd.R (Kd.int .i64) 3 wc w.heap.size (fun _ => True) (.slice (some ad127) x7_2.length co39) x7_2) ∧ Aside0 (Kd.C (Kd.int .i64) wc (some ad124) (rd_L2 x5_1 (ji15)).length (rd_L2 x5_1 (ji15))) ∧ Aside0 (Kd.C (Kd.int .i64) wc (some ad126) (rd_L2 x5_1 (ji28)).length (rd_L2 x5_1 (ji28))) ∧ Aside0 (Below w.heap.size w wc))
         case first =>
          have H := HC38.out; clear HC38
          by_cases c40 : x6_1 > 1
          ·rw [if_pos c40] at H; have c40b0 := decide_eq_true c40; clear c40
           (first | rw [c40b0] | (simp only [i64_w, i32_w]; rw [c40b0]) | skip)
           by_cases c41 : x8_2 > 1
           ·rw [if_pos c41] at H; have c41b0 := decide_eq_true c41; clear c41
            replace H := it H; obtain ⟨c42b0, H⟩ := H; obtain ⟨ji44, hji44⟩ : ∃ j_ : Int, (wrap64 (x8_2 - 2)) = j_ := ⟨_, rfl⟩
            replace H : (if 0 ≤ (ji44) then (if (ji44) < (a1.size : Int) then (if (bt a0 (ji28)) = (bt a1 (ji44)) then (if 0 ≤ (wrap64 (x6_1 - 2)) then (if (wrap64 (x6_1 - 2)) < (a0.size : Int) then (if (ji33) < (a1.size : Int) then (spec_l1Far.j3 kj24 a0 a1 x5_1 x6_1 x7_2 x8_2 t129 ((bt a0 (wrap64 (x6_1 - 2))) == (bt a1 (ji33)))) else (none)) else (none)) else (none)) else (spec_l1Far.j3 kj24 a0 a1 x5_1 x6_1 x7_2 x8_2 t129 false)) else (none)) else (none)) = some r := by first | (rw [hji44] at H; exact H) | (simp only [hji44] at H ⊢; exact H)
            have hji44w : (IntKind.i64.wrap (x8_2 - 2)) = ji44 := (i64_w _).trans hji44
            replace H := it H; obtain ⟨c45b0, H⟩ := H
            replace H := it H; obtain ⟨c46b0, H⟩ := H
            by_cases c48 : (bt a0 (ji28)) = (bt a1 (ji44))
            ·rw [if_pos c48] at H
             have c48b0 : ((bt a0 (ji28)) == (bt a1 (ji44))) = true := beq_iff_eq.mpr c48
             have c48b1 : ((bt a0 (ji28)) != (bt a1 (ji44))) = false := bne_eq_false_iff_eq.mpr c48
             clear c48; obtain ⟨ji49, hji49⟩ : ∃ j_ : Int, (wrap64 (x6_1 - 2)) = j_ := ⟨_, rfl⟩
             replace H : (if 0 ≤ (ji49) then (if (ji49) < (a0.size : Int) then (if (ji33) < (a1.size : Int) then (spec_l1Far.j3 kj24 a0 a1 x5_1 x6_1 x7_2 x8_2 t129 ((bt a0 (ji49)) == (bt a1 (ji33)))) else (none)) else (none)) else (none)) = some r := by first | (rw [hji49] at H; exact H) | (simp only [hji49] at H ⊢; exact H)
             have hji49w : (IntKind.i64.wrap (x6_1 - 2)) = ji49 := (i64_w _).trans hji49
             replace H := it H; obtain ⟨c50b0, H⟩ := H
             replace H := it H; obtain ⟨c51b0, H⟩ := H
             replace H := it H; obtain ⟨c53b0, H⟩ := H
             have H' := am H
             clear H
             have p43 : 0 ≤ ((ji28) : Int) := of_decide_eq_true ad
             have q43 : (ji28) < (a0.size : Int) := of_decide_eq_true ad
             have hx43 := bt_at a0 (ji28); replace p43 := eq_true p43; replace q43 := eq_true q43
             have p47 : 0 ≤ ((ji44) : Int) := of_decide_eq_true ad
             have q47 : (ji44) < (a1.size : Int) := of_decide_eq_true ad
             have hx47 := bt_at a1 (ji44); replace p47 := eq_true p47; replace q47 := eq_true q47
             have p52 : 0 ≤ ((ji49) : Int) := of_decide_eq_true ad
             have q52 : (ji49) < (a0.size : Int) := of_decide_eq_true ad
             have hx52 := bt_at a0 (ji49); replace p52 := eq_true p52; replace q52 := eq_true q52
             have p54 : 0 ≤ ((ji33) : Int) := of_decide_eq_true ad
             have q54 : (ji33) < (a1.size : Int) := of_decide_eq_true ad
             have hx54 := bt_at a1 (ji33); replace p54 := eq_true p54; replace q54 := eq_true q54; go_wp2
             repeat (go_quiet (fail); try go_wp2)
             go_meet
             case rel => exact ⟨_, (((bt a0 (ji49)) == (bt a1 (ji33)))), (by first | rfl | (simp; done) | (simp only [← hji33, ← hji49] <;> (first | rfl | simp)) | (simp [*]; done)), H', ⟨b54_⟩, ⟨b18_⟩, ⟨rq HO_7.out⟩, ⟨b16_⟩, ⟨b22_⟩, ⟨bel⟩⟩
            rw [if_neg c48] at H
            have c48b0 : ((bt a0 (ji28)) == (bt a1 (ji44))) = false := beq_eq_false_iff_ne.mpr c48
            have c48b1 : ((bt a0 (ji28)) != (bt a1 (ji44))) = true := bne_iff_ne.mpr c48
            have H' := am H
            clear H
            have p43 : 0 ≤ ((ji28) : Int) := of_decide_eq_true ad
            have q43 : (ji28) < (a0.size : Int) := of_decide_eq_true ad
            have hx43 := bt_at a0 (ji28); replace p43 := eq_true p43; replace q43 := eq_true q43
            have p47 : 0 ≤ ((ji44) : Int) := of_decide_eq_true ad
            have q47 : (ji44) < (a1.size : Int) := of_decide_eq_true ad
            have hx47 := bt_at a1 (ji44); replace p47 := eq_true p47; replace q47 := eq_true q47; go_wp2
            repeat (go_quiet (fail); try go_wp2)
            go_meet
            case rel => exact ⟨_, (false), sq, H', ⟨b54_⟩, ⟨b18_⟩, ⟨rq HO_7.out⟩, ⟨b16_⟩, ⟨b22_⟩, ⟨bel⟩⟩
           rw [if_neg c41] at H; have c41b0 := decide_eq_false c41; clear c41
           have H' := am H
           clear H; go_wp2
           repeat (go_quiet (fail); try go_wp2)
           go_meet
           case rel => exact ⟨_, (false), sq, H', ⟨b54_⟩, ⟨b18_⟩, ⟨rq HO_7.out⟩, ⟨b16_⟩, ⟨b22_⟩, ⟨bel⟩⟩
          rw [if_neg c40] at H; have c40b0 := decide_eq_false c40; clear c40
          (first | rw [c40b0] | (simp only [i64_w, i32_w]; rw [c40b0]) | skip)
          have H' := am H
          clear H; go_wp2
          repeat (go_quiet (fail); try go_wp2)
          go_meet
          case rel => exact ⟨_, (false), sq, H', ⟨b54_⟩, ⟨b18_⟩, ⟨rq HO_7.out⟩, ⟨b16_⟩, ⟨b22_⟩, ⟨bel⟩⟩
         case rest =>
          clear HC38; (try clear c1); (try clear p1); (try clear q1); (try clear hx1); (try clear c2); (try clear p2); (try clear q2); (try clear hx2); (try clear c3); (try clear c4); (try clear p4); (try clear q4); (try clear hx4); (try clear c5); (try clear c5b0); (try clear p5); (try clear q5); (try clear hx5); (try clear p6); (try clear c8); (try clear c8b0); (try clear c9); (try clear c9b0); (try clear c9b1); (try clear c10); (try clear c12); (try clear c12b0); (try clear c12b1); (try clear p12); (try clear q12); (try clear hx12); (try clear c13); (try clear c16); (try clear c16b0); (try clear c17); (try clear c17b0); (try clear c19); (try clear c19b0); (try clear c20); (try clear c20b0); (try clear c21); (try clear c21b0); (try clear p22); (try clear q22); (try clear hx22); (try clear c23); (try clear c23b0); (try clear p24); (try clear q24); (try clear hx24); (try clear c27); (try clear c27b0); (try clear c27b1); (try clear c29); (try clear c29b0); (try clear c30); (try clear c30b0); (try clear c31); (try clear c31b0); (try clear c32); (try clear c32b0); (try clear c34); (try clear c34b0); (try clear c35); (try clear c35b0); (try clear c40); (try clear c40b0); (try clear c41); (try clear c41b0); (try clear c42); (try clear c42b0); (try clear p43); (try clear q43); (try clear hx43); (try clear c45); (try clear c45b0); (try clear c46); (try clear c46b0); (try clear p47); (try clear q47); (try clear hx47); (try clear c48); (try clear c48b0); (try clear c48b1); (try clear c50); (try clear c50b0); (try clear c51); (try clear c51b0); (try clear p52); (try clear q52); (try clear hx52); (try clear c53); (try clear c53b0); (try clear p54); (try clear q54); (try clear hx54); (try clear hx123_0); (try clear hx124_0); (try clear hx125_0); (try clear hx126_0); (try clear hx127_0); (try clear p1); (try clear p12); (try clear p123); (try clear p124); (try clear p125); (try clear p126); (try clear p127); (try clear p2); (try clear p22); (try clear p24); (try clear p43); (try clear p47); (try clear p52); (try clear p54); (try clear p6); (try clear q1); (try clear q12); (try clear q123); (try clear q124); (try clear q125); (try clear q126); (try clear q127); (try clear q2); (try clear q22); (try clear q24); (try clear q43); (try clear q47); (try clear q52); (try clear q54); obtain ⟨kq, x89_37, rfl, HA, HJ37, HO_5, HO_7, HR123_0, HR125_0, HB⟩ := hcut
          cases kq with
          | zero => exact absurd HA.out (by simp [spec_l1Far.j3])
          | succ kj37 =>
           have H := HA.out; clear HA
           simp only [spec_l1Far.j3] at H
           by_cases c55 : x89_37 = true
           ·subst c55
            have H1 : (if 0 ≤ (wrap64 (x6_1 - 2)) then (if (wrap64 (x6_1 - 2)) < (x5_1.length : Int) then (if 0 ≤ (wrap64 (x8_2 - 2)) then (if (wrap64 (x8_2 - 2)) < ((rd_L2 x5_1 (wrap64 (x6_1 - 2))).length : Int) then ((spec_l1Least.f t129 (wrap64 ((rd (rd_L2 x5_1 (wrap64 (x6_1 - 2))) (wrap64 (x8_2 - 2))) + 1))).bind fun t132 => (if x7_2.length < 17592186044416 then (spec_l1Far.l1 kj37 a0 a1 x5_1 x6_1 (x7_2 ++ [t132]) (wrap64 (x8_2 + 1))) else (none))) else (none)) else (none)) else (none)) else (none)) = some r := b19_
            replace H := H1; clear H1
            obtain ⟨ji56, hji56⟩ : ∃ j_ : Int, (wrap64 (x6_1 - 2)) = j_ := ⟨_, rfl⟩
            replace H : (if 0 ≤ (ji56) then (if (ji56) < (x5_1.length : Int) then (if 0 ≤ (wrap64 (x8_2 - 2)) then (if (wrap64 (x8_2 - 2)) < ((rd_L2 x5_1 (ji56)).length : Int) then ((spec_l1Least.f t129 (wrap64 ((rd (rd_L2 x5_1 (ji56)) (wrap64 (x8_2 - 2))) + 1))).bind fun t132 => (if x7_2.length < 17592186044416 then (spec_l1Far.l1 kj37 a0 a1 x5_1 x6_1 (x7_2 ++ [t132]) (wrap64 (x8_2 + 1))) else (none))) else (none)) else (none)) else (none)) else (none)) = some r := by first | (rw [hji56] at H; exact H) | (simp only [hji56] at H ⊢; exact H)
            have hji56w : (IntKind.i64.wrap (x6_1 - 2)) = ji56 := (i64_w _).trans hji56
            (try clear hji49w)
            replace H := it H; obtain ⟨c57b0, H⟩ := H
            replace H := it H; obtain ⟨c58b0, H⟩ := H; obtain ⟨ji59, hji59⟩ : ∃ j_ : Int, (wrap64 (x8_2 - 2)) = j_ := ⟨_, rfl⟩
            replace H : (if 0 ≤ (ji59) then (if (ji59) < ((rd_L2 x5_1 (ji56)).length : Int) then ((spec_l1Least.f t129 (wrap64 ((rd (rd_L2 x5_1 (ji56)) (ji59)) + 1))).bind fun t132 => (if x7_2.length < 17592186044416 then (spec_l1Far.l1 kj37 a0 a1 x5_1 x6_1 (x7_2 ++ [t132]) (wrap64 (x8_2 + 1))) else (none))) else (none)) else (none)) = some r := by first | (rw [hji59] at H; exact H) | (simp only [hji59] at H ⊢; exact H)
            have hji59w : (IntKind.i64.wrap (x8_2 - 2)) = ji59 := (i64_w _).trans hji59
            (try clear hji44w)
            replace H := it H; obtain ⟨c60b0, H⟩ := H
            replace H := it H; obtain ⟨c61b0, H⟩ := H; replace H := bs H; obtain ⟨t132, A620, H⟩ := H; replace H : (if x7_2.length < 17592186044416 then (spec_l1Far.l1 kj37 a0 a1 x5_1 x6_1 (x7_2 ++ [t132]) (wrap64 (x8_2 + 1))) else (none)) = some r := H; have A62 := Aside0.mk A620; clear A620
            replace H := ip H; obtain ⟨c63, H⟩ := H; have LMc63 := Aside0.mk c63; clear c63; obtain ⟨y133, hy133⟩ : ∃ y_ : List Int, y_ = (x7_2 ++ [t132]) := ⟨_, rfl⟩
            replace H : (spec_l1Far.l1 kj37 a0 a1 x5_1 x6_1 y133 (wrap64 (x8_2 + 1))) = some r := by first | (rw [hy133]; with_reducible exact H) | (have H2_ := bm H; rw [hy133]; with_reducible exact H2_) | (with_reducible exact bm H) | with_reducible exact H | (rw [hy133]; exact H) | exact H
            have Ny133 := am hy133; clear hy133
            have H' := am H
            clear H
            have p130 : 0 ≤ ((ji56) : Int) := of_decide_eq_true ad
            have q130 : (ji56) < (x5_1.length : Int) := of_decide_eq_true ad
            obtain ⟨ad130, A130_0, c130_0, e130, hx130_0, hl130_0, hi130_0⟩ := at_L2 (Kd.S_reads' HO_5.out).2.2 (ji56) p130 q130
            obtain rfl : ad123 = ad130 := (by injection e130)
            obtain ⟨ce130, hce130, hMe130, hcc130⟩ := Kd.S_get HO_5.out [] (ji56) p130 (by first | exact q130 | exact of_decide_eq_true ad | (have e_ := (Kd.S_reads' HO_5.out).1; omega))
            obtain ⟨ve130_0, rfl, ge130_0⟩ := hMe130; have hv130_0 := hcc130 0 _ rfl; rw [Nat.add_zero, show ((Kd.slice 3 (Kd.int .i64))).sz = 1 from rfl, Nat.mul_one] at hv130_0; replace hv130_0 := Option.some.inj (hv130_0.symm.trans hx130_0); rw [hv130_0] at ge130_0; have HL130_0 := am (show Kd.R (Kd.int .i64) 3 _ _ _ _ (rd_L2 x5_1 (ji56)) from ge130_0); clear hv130_0 ge130_0; clear hcc130 hce130; have HR130_0 := am hi130_0; have HC130_0 := am hl130_0; clear hi130_0 hl130_0; replace p130 := eq_true p130; replace q130 := eq_true q130
            have p131 : 0 ≤ ((ji59) : Int) := of_decide_eq_true ad
            have q131 : (ji59) < ((rd_L2 x5_1 (ji56)).length : Int) := of_decide_eq_true ad
            obtain ⟨ad131, e131, hx131_0⟩ := Kd.at_int (by repeat (first | (with_reducible exact HR130_0.out) | (with_reducible refine Kd.C_alloc ?_ _) | (with_reducible refine Kd.C_drewN ?_ _) | (with_reducible refine Kd.C_drew ?_) | exact HR130_0.out)) (ji59) p131 q131
            cases e131
            replace p131 := eq_true p131; replace q131 := eq_true q131
            go_wp2_with (first | (go_at_call 119; (with_reducible refine (spec_l1Least.calls t129 (wrap64 ((rd (rd_L2 x5_1 (ji56)) (ji59)) + 1)) t132 _ A62.out).mono ?_); rintro e w' ⟨rfl, ⟨nd, rfl⟩⟩; (try first | exact ⟨rfl, _, World.drewN_drewN _ _ _⟩ | exact ⟨rfl, _, Eq.trans (World.drewN_drewN _ _ _) (congrArg (World.drewN _) (Nat.add_assoc _ _ _))⟩)) | ((with_reducible refine gate_builtin (b := .append) (xs := #[.tmp 102, .tmp 104]) rfl ?_); at_builtin; refine Kd.R_append (Kd.int .i64) (w0 := w) w.heap.size rfl (.tmp 102) (.tmp 104) 86 3 (.int .i64 0) 8 rfl Try.underlying86 info3 rfl (by decide) (by omega) (.slice (some ad127) x7_2.length co39) x7_2 t132 [.int .i64 t132] (fun _ => True) (fun _ => False) rfl rfl ?aP (fun _ hk => hk.elim) ?aF ?aO ?aB ?aS ?aL ?_; (case aP => exact rfl); (case aB => exact bel); (case aF => exact (fun _ _ => trivial)); (case aO => exact (rq HO_7.out)); (case aS => exact (below_size bel)); (case aL => have := LMc63.out; omega); intro v134 w64 ho hb hg hat; rw [← Ny133.out] at ho; replace HO_5 := am (Kd.S_after (ok := (fun _ => True)) b11_ hg hat); replace HL130_0 := am (Kd.R_after (ok := (fun k_ => some k_ ≠ (.slice (some ad123) x5_1.length co26 : Value).ownBlock)) (rq (Kd.R_mono HL130_0.out (fun _ hk => ⟨hk.2, hk.1⟩))) hg hat); replace HB := am (hb); have HO135 := am (ho); clear HO_7; clear ho hb hg hat))
            repeat (go_quiet (first | (go_at_call 119; (with_reducible refine (spec_l1Least.calls t129 (wrap64 ((rd (rd_L2 x5_1 (ji56)) (ji59)) + 1)) t132 _ A62.out).mono ?_); rintro e w' ⟨rfl, ⟨nd, rfl⟩⟩; (try first | exact ⟨rfl, _, World.drewN_drewN _ _ _⟩ | exact ⟨rfl, _, Eq.trans (World.drewN_drewN _ _ _) (congrArg (World.drewN _) (Nat.add_assoc _ _ _))⟩)) | ((with_reducible refine gate_builtin (b := .append) (xs := #[.tmp 102, .tmp 104]) rfl ?_); at_builtin; refine Kd.R_append (Kd.int .i64) (w0 := w) w.heap.size rfl (.tmp 102) (.tmp 104) 86 3 (.int .i64 0) 8 rfl Try.underlying86 info3 rfl (by decide) (by omega) (.slice (some ad127) x7_2.length co39) x7_2 t132 [.int .i64 t132] (fun _ => True) (fun _ => False) rfl rfl ?aP (fun _ hk => hk.elim) ?aF ?aO ?aB ?aS ?aL ?_; (case aP => exact rfl); (case aB => exact bel); (case aF => exact (fun _ _ => trivial)); (case aO => exact (rq HO_7.out)); (case aS => exact (below_size bel)); (case aL => have := LMc63.out; omega); intro v134 w64 ho hb hg hat; rw [← Ny133.out] at ho; replace HO_5 := am (Kd.S_after (ok := (fun _ => True)) b11_ hg hat); replace HL130_0 := am (Kd.R_after (ok := (fun k_ => some k_ ≠ (.slice (some ad123) x5_1.length co26 : Value).ownBlock)) (rq (Kd.R_mono HL130_0.out (fun _ hk => ⟨hk.2, hk.1⟩))) hg hat); replace HB := am (hb); have HO135 := am (ho); clear HO_7; clear ho hb hg hat)); try go_wp2_with (first | (go_at_call 119; (with_reducible refine (spec_l1Least.calls t129 (wrap64 ((rd (rd_L2 x5_1 (ji56)) (ji59)) + 1)) t132 _ A62.out).mono ?_); rintro e w' ⟨rfl, ⟨nd, rfl⟩⟩; (try first | exact ⟨rfl, _, World.drewN_drewN _ _ _⟩ | exact ⟨rfl, _, Eq.trans (World.drewN_drewN _ _ _) (congrArg (World.drewN _) (Nat.add_assoc _ _ _))⟩)) | ((with_reducible refine gate_builtin (b := .append) (xs := #[.tmp 102, .tmp 104]) rfl ?_); at_builtin; refine Kd.R_append (Kd.int .i64) (w0 := w) w.heap.size rfl (.tmp 102) (.tmp 104) 86 3 (.int .i64 0) 8 rfl Try.underlying86 info3 rfl (by decide) (by omega) (.slice (some ad127) x7_2.length co39) x7_2 t132 [.int .i64 t132] (fun _ => True) (fun _ => False) rfl rfl ?aP (fun _ hk => hk.elim) ?aF ?aO ?aB ?aS ?aL ?_; (case aP => exact rfl); (case aB => exact bel); (case aF => exact (fun _ _ => trivial)); (case aO => exact (rq HO_7.out)); (case aS => exact (below_size bel)); (case aL => have := LMc63.out; omega); intro v134 w64 ho hb hg hat; rw [← Ny133.out] at ho; replace HO_5 := am (Kd.S_after (ok := (fun _ => True)) b11_ hg hat); replace HL130_0 := am (Kd.R_after (ok := (fun k_ => some k_ ≠ (.slice (some ad123) x5_1.length co26 : Value).ownBlock)) (rq (Kd.R_mono HL130_0.out (fun _ hk => ⟨hk.2, hk.1⟩))) hg hat); replace HB := am (hb); have HO135 := am (ho); clear HO_7; clear ho hb hg hat)))
            go_roundg kj37
            case measure => have := HK1.out; have := HK2.out; have := HJ24.out; have := HJ37.out; omega
            case rel => exact ⟨(y133), (wrap64 (x8_2 + 1)), sq, H', ⟨by have := HK1.out; have := HK2.out; have := HJ24.out; have := HJ37.out; omega⟩, ⟨b35_⟩, ⟨rq HO135.out⟩, ⟨bel⟩⟩
           replace c55 := Bool.eq_false_iff.mpr c55; subst c55
           have H1 : (if x7_2.length < 17592186044416 then (spec_l1Far.l1 kj37 a0 a1 x5_1 x6_1 (x7_2 ++ [t129]) (wrap64 (x8_2 + 1))) else (none)) = some r := b7_
           replace H := H1; clear H1
           replace H := ip H; obtain ⟨c65, H⟩ := H; have LMc65 := Aside0.mk c65; clear c65; obtain ⟨y136, hy136⟩ : ∃ y_ : List Int, y_ = (x7_2 ++ [t129]) := ⟨_, rfl⟩
           replace H : (spec_l1Far.l1 kj37 a0 a1 x5_1 x6_1 y136 (wrap64 (x8_2 + 1))) = some r := by first | (rw [hy136]; with_reducible exact H) | (have H2_ := bm H; rw [hy136]; with_reducible exact H2_) | (with_reducible exact bm H) | with_reducible exact H | (rw [hy136]; exact H) | exact H
           have Ny136 := am hy136; clear hy136
           have H' := am H
           clear H
           go_wp2_with (first | ((with_reducible refine gate_builtin (b := .append) (xs := #[.tmp 102, .tmp 104]) rfl ?_); at_builtin; refine Kd.R_append (Kd.int .i64) (w0 := w) w.heap.size rfl (.tmp 102) (.tmp 104) 86 3 (.int .i64 0) 8 rfl Try.underlying86 info3 rfl (by decide) (by omega) (.slice (some ad127) x7_2.length co39) x7_2 t129 [.int .i64 t129] (fun _ => True) (fun _ => False) rfl rfl ?aP (fun _ hk => hk.elim) ?aF ?aO ?aB ?aS ?aL ?_; (case aP => exact rfl); (case aB => exact bel); (case aF => exact (fun _ _ => trivial)); (case aO => exact (rq HO_7.out)); (case aS => exact (below_size bel)); (case aL => have := LMc65.out; omega); intro v137 w66 ho hb hg hat; rw [← Ny136.out] at ho; replace HO_5 := am (Kd.S_after (ok := (fun _ => True)) b11_ hg hat); replace HB := am (hb); have HO138 := am (ho); clear HO_7; clear ho hb hg hat))
           repeat (go_quiet (first | ((with_reducible refine gate_builtin (b := .append) (xs := #[.tmp 102, .tmp 104]) rfl ?_); at_builtin; refine Kd.R_append (Kd.int .i64) (w0 := w) w.heap.size rfl (.tmp 102) (.tmp 104) 86 3 (.int .i64 0) 8 rfl Try.underlying86 info3 rfl (by decide) (by omega) (.slice (some ad127) x7_2.length co39) x7_2 t129 [.int .i64 t129] (fun _ => True) (fun _ => False) rfl rfl ?aP (fun _ hk => hk.elim) ?aF ?aO ?aB ?aS ?aL ?_; (case aP => exact rfl); (case aB => exact bel); (case aF => exact (fun _ _ => trivial)); (case aO => exact (rq HO_7.out)); (case aS => exact (below_size bel)); (case aL => have := LMc65.out; omega); intro v137 w66 ho hb hg hat; rw [← Ny136.out] at ho; replace HO_5 := am (Kd.S_after (ok := (fun _ => True)) b11_ hg hat); replace HB := am (hb); have HO138 := am (ho); clear HO_7; clear ho hb hg hat)); try go_wp2_with (first | ((with_reducible refine gate_builtin (b := .append) (xs := #[.tmp 102, .tmp 104]) rfl ?_); at_builtin; refine Kd.R_append (Kd.int .i64) (w0 := w) w.heap.size rfl (.tmp 102) (.tmp 104) 86 3 (.int .i64 0) 8 rfl Try.underlying86 info3 rfl (by decide) (by omega) (.slice (some ad127) x7_2.length co39) x7_2 t129 [.int .i64 t129] (fun _ => True) (fun _ => False) rfl rfl ?aP (fun _ hk => hk.elim) ?aF ?aO ?aB ?aS ?aL ?_; (case aP => exact rfl); (case aB => exact bel); (case aF => exact (fun _ _ => trivial)); (case aO => exact (rq HO_7.out)); (case aS => exact (below_size bel)); (case aL => have := LMc65.out; omega); intro v137 w66 ho hb hg hat; rw [← Ny136.out] at ho; replace HO_5 := am (Kd.S_after (ok := (fun _ => True)) b11_ hg hat); replace HB := am (hb); have HO138 := am (ho); clear HO_7; clear ho hb hg hat)))
           go_roundg kj37
           case measure => have := HK1.out; have := HK2.out; have := HJ24.out; have := HJ37.out; omega
           case rel => exact ⟨(y136), (wrap64 (x8_2 + 1)), sq, H', ⟨by have := HK1.out; have := HK2.out; have := HJ24.out; have := HJ37.out; omega⟩, ⟨b35_⟩, ⟨rq HO138.out⟩, ⟨bel⟩⟩
      rw [if_neg c8] at H; have c8b0 := decide_eq_false c8; clear c8
      replace H := ip H; obtain ⟨c67, H⟩ := H; have LMc67 := Aside0.mk c67; clear c67; obtain ⟨y114, hy114⟩ : ∃ y_ : List (List Int), y_ = (x5_1 ++ [x7_2]) := ⟨_, rfl⟩
      replace H : (spec_l1Far.l0 k2 a0 a1 y114 (wrap64 (x6_1 + 1))) = some r := by first | (rw [hy114]; with_reducible exact H) | (have H2_ := bm H; rw [hy114]; with_reducible exact H2_) | (with_reducible exact bm H) | with_reducible exact H | (rw [hy114]; exact H) | exact H
      have Ny114 := am hy114; clear hy114
      have H' := am H
      clear H; obtain ⟨Ao69, co69, eo69⟩ := Kd.R_slice HO_7.out; subst eo69
      go_wp2_with (first | ((with_reducible refine gate_builtin (b := .append) (xs := #[.tmp 120, .tmp 122]) rfl ?_); at_builtin; refine Kd.S_append (Kd.slice 3 (Kd.int .i64)) (w0 := w) w.heap.size rfl (.tmp 120) (.tmp 122) 85 86 (.slice none 0 0) 24 rfl Try.underlying85 info86 rfl (by decide) (by omega) u5 x5_1 x7_2 [.slice Ao69 x7_2.length co69] (fun _ => True) (fun k_ => some k_ = (.slice Ao69 x7_2.length co69 : Value).ownBlock) rfl rfl ?aP (fun k_ hk_ => ((Kd.R_mono (ok' := fun k_ => ((fun _ => True)) k_ ∧ some k_ ≠ (u5 : Value).ownBlock) (Kd.R_apart' (HO_7.out) (Kd.S_typed HO_5.out) (by decide)) (fun k_ hk => ⟨trivial, hk.2⟩))).1 k_ hk_.symm) ?aF ?aO ?aB ?aS ?aL ?_; (case aP => exact Kd.M_row (Kd.R_mono (Kd.R_tight rfl (Kd.R_mono (ok' := fun k_ => ((fun _ => True)) k_ ∧ some k_ ≠ (u5 : Value).ownBlock) (Kd.R_apart' (HO_7.out) (Kd.S_typed HO_5.out) (by decide)) (fun k_ hk => ⟨trivial, hk.2⟩))) (fun _ h_ => h_))); (case aB => exact bel); (case aF => exact (fun _ _ => trivial)); (case aO => exact b15_); (case aS => exact (below_size bel)); (case aL => have := LMc67.out; omega); intro v115 w68 ho hb hg hat; rw [← Ny114.out] at ho; replace HB := am (hb); have HO116 := am (ho); clear HO_5 HO_7; clear ho hb hg hat))
      repeat (go_quiet (first | ((with_reducible refine gate_builtin (b := .append) (xs := #[.tmp 120, .tmp 122]) rfl ?_); at_builtin; refine Kd.S_append (Kd.slice 3 (Kd.int .i64)) (w0 := w) w.heap.size rfl (.tmp 120) (.tmp 122) 85 86 (.slice none 0 0) 24 rfl Try.underlying85 info86 rfl (by decide) (by omega) u5 x5_1 x7_2 [.slice Ao69 x7_2.length co69] (fun _ => True) (fun k_ => some k_ = (.slice Ao69 x7_2.length co69 : Value).ownBlock) rfl rfl ?aP (fun k_ hk_ => ((Kd.R_mono (ok' := fun k_ => ((fun _ => True)) k_ ∧ some k_ ≠ (u5 : Value).ownBlock) (Kd.R_apart' (HO_7.out) (Kd.S_typed HO_5.out) (by decide)) (fun k_ hk => ⟨trivial, hk.2⟩))).1 k_ hk_.symm) ?aF ?aO ?aB ?aS ?aL ?_; (case aP => exact Kd.M_row (Kd.R_mono (Kd.R_tight rfl (Kd.R_mono (ok' := fun k_ => ((fun _ => True)) k_ ∧ some k_ ≠ (u5 : Value).ownBlock) (Kd.R_apart' (HO_7.out) (Kd.S_typed HO_5.out) (by decide)) (fun k_ hk => ⟨trivial, hk.2⟩))) (fun _ h_ => h_))); (case aB => exact bel); (case aF => exact (fun _ _ => trivial)); (case aO => exact b15_); (case aS => exact (below_size bel)); (case aL => have := LMc67.out; omega); intro v115 w68 ho hb hg hat; rw [← Ny114.out] at ho; replace HB := am (hb); have HO116 := am (ho); clear HO_5 HO_7; clear ho hb hg hat)); try go_wp2_with (first | ((with_reducible refine gate_builtin (b := .append) (xs := #[.tmp 120, .tmp 122]) rfl ?_); at_builtin; refine Kd.S_append (Kd.slice 3 (Kd.int .i64)) (w0 := w) w.heap.size rfl (.tmp 120) (.tmp 122) 85 86 (.slice none 0 0) 24 rfl Try.underlying85 info86 rfl (by decide) (by omega) u5 x5_1 x7_2 [.slice Ao69 x7_2.length co69] (fun _ => True) (fun k_ => some k_ = (.slice Ao69 x7_2.length co69 : Value).ownBlock) rfl rfl ?aP (fun k_ hk_ => ((Kd.R_mono (ok' := fun k_ => ((fun _ => True)) k_ ∧ some k_ ≠ (u5 : Value).ownBlock) (Kd.R_apart' (HO_7.out) (Kd.S_typed HO_5.out) (by decide)) (fun k_ hk => ⟨trivial, hk.2⟩))).1 k_ hk_.symm) ?aF ?aO ?aB ?aS ?aL ?_; (case aP => exact Kd.M_row (Kd.R_mono (Kd.R_tight rfl (Kd.R_mono (ok' := fun k_ => ((fun _ => True)) k_ ∧ some k_ ≠ (u5 : Value).ownBlock) (Kd.R_apart' (HO_7.out) (Kd.S_typed HO_5.out) (by decide)) (fun k_ hk => ⟨trivial, hk.2⟩))) (fun _ h_ => h_))); (case aB => exact bel); (case aF => exact (fun _ _ => trivial)); (case aO => exact b15_); (case aS => exact (below_size bel)); (case aL => have := LMc67.out; omega); intro v115 w68 ho hb hg hat; rw [← Ny114.out] at ho; replace HB := am (hb); have HO116 := am (ho); clear HO_5 HO_7; clear ho hb hg hat)))
      go_roundg k2
      case measure => have := HK1.out; have := HK2.out; omega
      case rel => exact ⟨(y114), (wrap64 (x6_1 + 1)), sq, H', ⟨b45_⟩, ⟨by (with_reducible repeat (first | apply Kd.S_alloc | apply Kd.S_drewN | apply Kd.S_drew)); exact HO116.out⟩, ⟨bel⟩⟩
   rw [if_neg c5] at H; have c5b0 := decide_eq_false c5; clear c5
   replace H := ip H; obtain ⟨c70, H⟩ := H; have c70b0 := decide_eq_true c70
   have c70b1 : decide (0 ≤ a0.size) = true := decide_eq_true (by omega)
   clear c70
   replace H := ip H; obtain ⟨c71, H⟩ := H; have c71b0 := decide_eq_true c71
   have c71b1 : decide (a0.size < x5_1.length) = true := decide_eq_true (Int.ofNat_lt.mp c71)
   clear c71
   replace H := ip H; obtain ⟨c72, H⟩ := H; have c72b0 := decide_eq_true c72
   have c72b1 : decide (0 ≤ a1.size) = true := decide_eq_true (by omega)
   clear c72
   replace H := ip H; obtain ⟨c73, H⟩ := H; have c73b0 := decide_eq_true c73
   have c73b1 : decide (a1.size < (rd_L2 x5_1 (a0.size : Int)).length) = true := decide_eq_true (Int.ofNat_lt.mp c73)
   clear c73; obtain rfl := Option.some.inj H; obtain ⟨Ao74, co74, eo74⟩ := Kd.S_slice HO_5.out; subst eo74
   have p109 : 0 ≤ ((a0.size : Int) : Int) := of_decide_eq_true ad
   have q109 : (a0.size : Int) < (x5_1.length : Int) := of_decide_eq_true ad
   obtain ⟨ad109, A109_0, c109_0, e109, hx109_0, hl109_0, hi109_0⟩ := at_L2 (Kd.S_reads' HO_5.out).2.2 (a0.size : Int) p109 q109
   cases e109
   obtain ⟨ce109, hce109, hMe109, hcc109⟩ := Kd.S_get HO_5.out [] (a0.size : Int) p109 (by first | exact q109 | exact of_decide_eq_true ad | (have e_ := (Kd.S_reads' HO_5.out).1; omega))
   obtain ⟨ve109_0, rfl, ge109_0⟩ := hMe109; have hv109_0 := hcc109 0 _ rfl; rw [Nat.add_zero, show ((Kd.slice 3 (Kd.int .i64))).sz = 1 from rfl, Nat.mul_one] at hv109_0; replace hv109_0 := Option.some.inj (hv109_0.symm.trans hx109_0); rw [hv109_0] at ge109_0; have HL109_0 := am (show Kd.R (Kd.int .i64) 3 _ _ _ _ (rd_L2 x5_1 (a0.size : Int)) from ge109_0); clear hv109_0 ge109_0; clear hcc109 hce109; have HR109_0 := am hi109_0; have HC109_0 := am hl109_0; clear hi109_0 hl109_0; replace p109 := eq_true p109; replace q109 := eq_true q109
   (try have qn109 : (a0.size < x5_1.length) = True := eq_true (by have h_ := of_eq_true q109; omega))
   (try simp only [Int.toNat_natCast] at hx109_0)
   have p110 : 0 ≤ ((a1.size : Int) : Int) := of_decide_eq_true ad
   have q110 : (a1.size : Int) < ((rd_L2 x5_1 (a0.size : Int)).length : Int) := of_decide_eq_true ad
   obtain ⟨ad110, e110, hx110_0⟩ := Kd.at_int (by repeat (first | (with_reducible exact HR109_0.out) | (with_reducible refine Kd.C_alloc ?_ _) | (with_reducible refine Kd.C_drewN ?_ _) | (with_reducible refine Kd.C_drew ?_) | exact HR109_0.out)) (a1.size : Int) p110 q110
   cases e110
   replace p110 := eq_true p110; replace q110 := eq_true q110
   (try have qn110 : (a1.size < (rd_L2 x5_1 (a0.size : Int)).length) = True := eq_true (by have h_ := of_eq_true q110; omega))
   (try simp only [Int.toNat_natCast] at hx110_0)
   go_wp2
   repeat (go_quiet (fail); try go_wp2)
   go_ret
   exact ⟨eq_, bel⟩
-- shrunk

/-! ### spec_l4Put: function 104 -/
mutual
def spec_l4Put.l0 : Nat → List (S36) → Int → ByteArray → Int → Option ((List (S36)))
 | 0, _, _, _, _ => none
 | k + 1, x0, x5, x140000, x140001 => if x5 < (x0.length : Int) then (if 0 ≤ x5 then (if ((rd_T36 x0 x5).f1) < x140001 then (spec_l4Put.j1 k x0 x5 true x140000 x140001) else (if ((rd_T36 x0 x5).f1) = x140001 then (spec_l4Put.j1 k x0 x5 (Op.bytesLess (((rd_T36 x0 x5).f0).toList) x140000.toList) x140000 x140001) else (spec_l4Put.j1 k x0 x5 false x140000 x140001))) else (none)) else (spec_l4Put.j1 k x0 x5 false x140000 x140001)
def spec_l4Put.j1 : Nat → List (S36) → Int → Bool → ByteArray → Int → Option ((List (S36)))
 | 0, _, _, _, _, _ => none
 | k + 1, x0, x5, x39, x140000, x140001 => if x39 = true then (spec_l4Put.l0 k x0 (wrap64 (x5 + 1)) x140000 x140001) else ((some (([] : List (S36)) : List (S36))).bind fun y143 => (if 0 ≤ x5 then (if x5 ≤ (x0.length : Int) then ((some (x0.take (x5 : Int).toNat : List (S36))).bind fun y146 => (if y143.length + y146.length < 5864062014805 then ((some (y143 ++ y146 : List (S36))).bind fun y150 => ((some (([(⟨x140000, x140001⟩ : S36)] : List (S36)) : List (S36))).bind fun y153 => (if y150.length + y153.length < 5864062014805 then ((some (y150 ++ y153 : List (S36))).bind fun y156 => ((some (x0.drop (x5 : Int).toNat : List (S36))).bind fun y159 => (if y156.length + y159.length < 5864062014805 then (some (y156 ++ y159)) else (none)))) else (none)))) else (none))) else (none)) else (none)))
end
def spec_l4Put.f (k : Nat) (l0 : List (S36)) (a1_0 : ByteArray) (a1_1 : Int) : Option ((List (S36))) := spec_l4Put.l0 k l0 0 a1_0 a1_1
def spec_l4Put.T2 : Bool × List (List Nat × List Nat) := (true, [([], []), ([], []), ([1], [1]), ([0, 2], [0, 2]), ([3], [3]), ([4], [4]), ([4], [4]), ([5, 6, 4], [4, 5, 6]), ([7, 4], [4, 7]), ([8, 4], [4, 8]), ([4], [4]), ([10, 4], [4, 10]), ([9, 11, 4], [4, 9, 11]), ([12, 4, 4], [4, 12]), ([13], [13]), ([13], [13]), ([14, 15, 13], [13, 14, 15]), ([16, 13], [13, 16]), ([17, 13], [13, 17]), ([13], [13]), ([19, 13], [13, 19]), ([18, 20, 13], [13, 18, 20]), ([21, 13, 13], [13, 21]), ([22], [22]), ([22], [22]), ([23, 24, 22], [22, 23, 24]), ([25, 22], [22, 25]), ([26, 22], [22, 26]), ([22], [22]), ([28, 22], [22, 28]), ([27, 29, 22], [22, 27, 29]), ([22, 30, 13], [13, 22, 30]), ([13, 31, 4], [4, 13, 31]), ([4, 32], [4, 32])])
def spec_l4Put.B2 : List Nat := [0, 0, 2, 7, 15, 31, 31, 127, 255, 511, 31, 1055, 4095, 8191, 16383, 16383, 65535, 131071, 262143, 16383, 540671, 2097151, 4194303, 8388607, 8388607, 33554431, 67108863, 134217727, 8388607, 276824063, 1073741823, 2147483647, 4294967295, 8589934591]
theorem spec_l4Put.tab2 : rtab .any (opsOf Try.f104 2) = spec_l4Put.T2 := by kernel_rfl
theorem spec_l4Put.bits2 : waitsOk spec_l4Put.T2.2 spec_l4Put.B2 = true := by kernel_rfl
def spec_l4Put.T4 : Bool × List (List Nat × List Nat) := (true, [([], []), ([], []), ([], []), ([1, 2], [1, 2]), ([0, 3], [0, 3]), ([], []), ([5], [5]), ([4, 6, 4], [4, 6]), ([], []), ([], []), ([8, 9], [8, 9]), ([7, 10, 7], [7, 10]), ([11, 11, 0, 1, 2, 3, 4, 5, 6, 7, 8, 9, 10, 11], [11])])
def spec_l4Put.B4 : List Nat := [0, 0, 0, 6, 15, 0, 32, 127, 0, 0, 768, 2047, 4095]
theorem spec_l4Put.tab4 : rtab .any (opsOf Try.f104 4) = spec_l4Put.T4 := by kernel_rfl
theorem spec_l4Put.bits4 : waitsOk spec_l4Put.T4.2 spec_l4Put.B4 = true := by kernel_rfl
theorem spec_l4Put.calls (k : Nat) (A0 : Option Addr) (c0 : Nat) (l0 : List (S36)) (a1_0 : ByteArray) (a1_1 : Int) (r : List (S36)) (w : World) (hr0 : Kd.C k36 w A0 l0.length l0) (hc0 : l0.length ≤ c0) (h : spec_l4Put.f k l0 a1_0 a1_1 = some r) :
  Calls Try.prog 104 #[.slice A0 l0.length c0, .agg #[.string a1_0, .int .i64 a1_1]] w fun e w' => ∃ v0_ : Value, e = .returned (v0_) ∧ Kd.R k36 36 w' w.heap.size (fun _ => True) v0_ r ∧ Below w.heap.size w w' := by
 have hu36 := Try.underlying36; have HR0 := am hr0; have HC0 := am hc0; clear hr0 hc0; have HB := am (Below.refl w.heap.size w)
 have H : (spec_l4Put.l0 k l0 0 a1_0 a1_1) = some r := h
 clear h
 have H' := am H
 clear H; go_enter Try.func104, Try.ntmps104
 go_wp2_with (first | ((with_reducible refine gate_dst (N := 3) rfl ?_); refine bx 3 (cs := #[.string a1_0, .int .i64 a1_1]) (t := 36) ?_; intro gb139 hg w3 hbox hb; have BK139 := am (hbox); have GW139 := am ((b21_ : w.heap.size ≤ gb139)); have GE139 := am ((b21_ : w.heap.size ≤ gb139)); replace HB := am (below_step bel hb); clear hb hbox hg))
 go_loopg [5] k (fun kq v5 w' => ∃ (x5_1 : Int), v5 = .int .i64 x5_1 ∧ Aside0 (spec_l4Put.l0 kq l0 x5_1 a1_0 a1_1 = some r) ∧ Aside0 (kq ≤ k) ∧ Aside0 (w'.heap[gb139]? = some (.cells #[.string a1_0, .int .i64 a1_1] 36 (0, 0))) ∧ Aside0 (Below w.heap.size w w'))
 case atStart => exact ⟨(0), sq, H', ⟨Nat.le_refl _⟩, ⟨bq BK139.out⟩, ⟨bel1 GE139.out⟩⟩
 case round =>
  clear H'; (try clear c1); (try clear p2); obtain ⟨x5_1, rfl, HA, HK1, BK139, HB⟩ := hrel
  cases gk with
  | zero => exact absurd HA.out (by simp [spec_l4Put.l0])
  | succ k1 =>
   have H := HA.out; clear HA
   simp only [spec_l4Put.l0] at H
   have HC4 := am H; clear H
   go_upto_region 2 with (fail)
   go_cut [39] (fun v39 wc => ∃ (kq : Nat) (x39_3 : Bool), v39 = .bool x39_3 ∧ Aside0 (spec_l4Put.j1 kq l0 x5_1 x39_3 a1_0 a1_1 = some r) ∧ Aside0 (kq ≤ k1) ∧ Aside0 (wc.heap[gb139]? = some (.cells #[.string a1_0, .int .i64 a1_1] 36 (0, 0))) ∧ Aside0 (Below w.heap.size w wc))
   case first =>
    have H := HC4.out; clear HC4
    by_cases c5 : x5_1 < (l0.length : Int)
    ·rw [if_pos c5] at H; have c5b0 := decide_eq_true c5; clear c5
     (first | rw [c5b0] | (simp only [i64_w, i32_w]; rw [c5b0]) | skip)
     replace H := it H; obtain ⟨c6b0, H⟩ := H
     by_cases c7 : ((rd_T36 l0 x5_1).f1) < a1_1
     ·rw [if_pos c7] at H; have c7b0 := decide_eq_true c7; clear c7
      have H' := am H
      clear H
      try go_wp2
      replace BK139 := am (blk_drew BK139.out); replace HB := am (below_drew1 HB.out)
      have p140 : 0 ≤ (x5_1 : Int) := of_decide_eq_true ad
      have q140 : x5_1 < (l0.length : Int) := of_decide_eq_true ad
      obtain ⟨ad140, e140, hx140_0, hx140_1⟩ := at_T36 HR0.out x5_1 p140 q140; have hw140_1 := hx140_1; have hw140_0 := hx140_0
      cases e140
      replace hx140_0 := kp HB.out hx140_0; replace hx140_1 := kp HB.out hx140_1; replace p140 := eq_true p140; replace q140 := eq_true q140
      refine st (n := 34) (S := fun w' => w'.cell? ⟨gb139, 0, none⟩ = some (.string a1_0) ∧ w'.cell? ⟨gb139, 1, none⟩ = some (.int .i64 a1_1) ∧ w'.cell? (ad140.add ((x5_1).toNat * 2)) = some (.string ((rd_T36 l0 x5_1).f0)) ∧ w'.cell? ⟨(ad140.add ((x5_1).toNat * 2)).block, (ad140.add ((x5_1).toNat * 2)).off + 1, none⟩ = some (.int .i64 ((rd_T36 l0 x5_1).f1))) (ds := []) ⟨(blk_cell BK139.out 0).trans rfl, (blk_cell BK139.out 1).trans rfl, (kp HB.out hw140_0), (kp HB.out hw140_1)⟩ (fun hHeld => ?_); refine with_tabW spec_l4Put.tab2 spec_l4Put.bits2 (fun HT_ HW_ => ?_)
      generalize wr.drew = w8 at BK139 HB hx140_0 hx140_1 hHeld ⊢
      refine pu 0 6 ?_
      refine pu 1 7 ?_
      refine pu 2 8 ?_
      refine pu 3 9 ?_
      refine pu 4 10 ?_
      refine pu 5 11 ?_
      refine pu 6 12 ?_
      refine pu 7 13 ?_
      refine pu 8 14 ?_
      refine pu 10 16 ?_
      refine tk4 9 15 hHeld ?_
      refine tk4 11 17 hHeld ?_
      refine pu 12 18 ?_
      refine pu 13 19 ?_
      refine puu 14 20 ?_
      refine puu 15 21 ?_
      refine puu 16 22 ?_
      refine puu 17 23 ?_
      refine puu 18 24 ?_
      refine puu 19 25 ?_
      refine puu 20 26 ?_
      refine puu 21 27 ?_
      refine puu 22 28 ?_
      refine puu 23 29 ?_
      refine puu 24 30 ?_
      refine puu 25 31 ?_
      refine puu 26 32 ?_
      refine puu 27 33 ?_
      refine puu 28 34 ?_
      refine puu 29 35 ?_
      refine puu 30 36 ?_
      refine puu 31 37 ?_
      refine pu 32 38 ?_
      refine pu 33 39 ?_
      refine done_ (done_of HT_.out (by kernel_rfl)) ?_
      try go_wp2
      go_meet
      case rel => exact ⟨_, (true), sq, H', ⟨b38_⟩, ⟨bq BK139.out⟩, ⟨bel1 GE139.out⟩⟩
     rw [if_neg c7] at H; have c7b0 := decide_eq_false c7; clear c7
     by_cases c9 : ((rd_T36 l0 x5_1).f1) = a1_1
     ·rw [if_pos c9] at H
      have c9b0 : (((rd_T36 l0 x5_1).f1) == a1_1) = true := beq_iff_eq.mpr c9
      have c9b1 : (((rd_T36 l0 x5_1).f1) != a1_1) = false := bne_eq_false_iff_eq.mpr c9
      clear c9
      have H' := am H
      clear H
      try go_wp2
      replace BK139 := am (blk_drew BK139.out); replace HB := am (below_drew1 HB.out)
      have p140 : 0 ≤ (x5_1 : Int) := of_decide_eq_true ad
      have q140 : x5_1 < (l0.length : Int) := of_decide_eq_true ad
      obtain ⟨ad140, e140, hx140_0, hx140_1⟩ := at_T36 HR0.out x5_1 p140 q140; have hw140_1 := hx140_1; have hw140_0 := hx140_0
      cases e140
      replace hx140_0 := kp HB.out hx140_0; replace hx140_1 := kp HB.out hx140_1; replace p140 := eq_true p140; replace q140 := eq_true q140
      have p141 : 0 ≤ (x5_1 : Int) := of_decide_eq_true ad
      have q141 : x5_1 < (l0.length : Int) := of_decide_eq_true ad
      obtain ⟨ad141, e141, hx141_0, hx141_1⟩ := at_T36 HR0.out x5_1 p141 q141; have hw141_1 := hx141_1; have hw141_0 := hx141_0
      obtain rfl : ad140 = ad141 := (by injection e141)
      replace hx141_0 := kp HB.out hx141_0; replace hx141_1 := kp HB.out hx141_1; replace p141 := eq_true p141; replace q141 := eq_true q141
      have p142 : 0 ≤ (x5_1 : Int) := of_decide_eq_true ad
      have q142 : x5_1 < (l0.length : Int) := of_decide_eq_true ad
      obtain ⟨ad142, e142, hx142_0, hx142_1⟩ := at_T36 HR0.out x5_1 p142 q142; have hw142_1 := hx142_1; have hw142_0 := hx142_0
      obtain rfl : ad140 = ad142 := (by injection e142)
      replace hx142_0 := kp HB.out hx142_0; replace hx142_1 := kp HB.out hx142_1; replace p142 := eq_true p142; replace q142 := eq_true q142
      refine st (n := 34) (S := fun w' => w'.cell? ⟨gb139, 0, none⟩ = some (.string a1_0) ∧ w'.cell? ⟨gb139, 1, none⟩ = some (.int .i64 a1_1) ∧ w'.cell? (ad140.add ((x5_1).toNat * 2)) = some (.string ((rd_T36 l0 x5_1).f0)) ∧ w'.cell? ⟨(ad140.add ((x5_1).toNat * 2)).block, (ad140.add ((x5_1).toNat * 2)).off + 1, none⟩ = some (.int .i64 ((rd_T36 l0 x5_1).f1)) ∧ w'.cell? (ad140.add ((x5_1).toNat * 2)) = some (.string ((rd_T36 l0 x5_1).f0)) ∧ w'.cell? ⟨(ad140.add ((x5_1).toNat * 2)).block, (ad140.add ((x5_1).toNat * 2)).off + 1, none⟩ = some (.int .i64 ((rd_T36 l0 x5_1).f1)) ∧ w'.cell? (ad140.add ((x5_1).toNat * 2)) = some (.string ((rd_T36 l0 x5_1).f0)) ∧ w'.cell? ⟨(ad140.add ((x5_1).toNat * 2)).block, (ad140.add ((x5_1).toNat * 2)).off + 1, none⟩ = some (.int .i64 ((rd_T36 l0 x5_1).f1))) (ds := []) ⟨(blk_cell BK139.out 0).trans rfl, (blk_cell BK139.out 1).trans rfl, (kp HB.out hw140_0), (kp HB.out hw140_1), (kp HB.out hw141_0), (kp HB.out hw141_1), (kp HB.out hw142_0), (kp HB.out hw142_1)⟩ (fun hHeld => ?_); refine with_tabW spec_l4Put.tab2 spec_l4Put.bits2 (fun HT_ HW_ => ?_)
      generalize wr.drew = w10 at BK139 HB hx140_0 hx140_1 hx141_0 hx141_1 hx142_0 hx142_1 hHeld ⊢
      refine pu 0 6 ?_
      refine pu 1 7 ?_
      refine pu 2 8 ?_
      refine pu 3 9 ?_
      refine pu 4 10 ?_
      refine pu 5 11 ?_
      refine pu 6 12 ?_
      refine pu 7 13 ?_
      refine pu 8 14 ?_
      refine pu 10 16 ?_
      refine take_ (i := 9) (N := some 15) (v := ?_) (a' := ?_) #[true, true, true, true, true, true, true, true, true, true, true, false, false, false, false, false, false, false, false, false, false, false, false, false, false, false, false, false, false, false, false, false, false, false] rfl rfl (take_ofW HT_.out HW_.out (by kernel_rfl)) (fun _ _ _ h => h) (Or.inl ⟨by rfl, ?_⟩) hHeld ?_ ?_
      rotate_left
      ·rintro w' ⟨s0, s1, s2, s3, s4, s5, s6, s7⟩
       go_simp
       with_reducible rfl
      rotate_left
      ·simp only [Act.put, List.setIfInBounds_toArray, List.set_cons_zero, List.set_cons_succ, i64_w, i32_w]
       rfl
      refine take_ (i := 11) (N := some 17) (v := ?_) (a' := ?_) #[true, true, true, true, true, true, true, true, true, true, true, true, false, false, false, false, false, false, false, false, false, false, false, false, false, false, false, false, false, false, false, false, false, false] rfl rfl (take_ofW HT_.out HW_.out (by kernel_rfl)) (fun _ _ _ h => h) (Or.inl ⟨by rfl, ?_⟩) hHeld ?_ ?_
      rotate_left
      ·rintro w' ⟨s0, s1, s2, s3, s4, s5, s6, s7⟩
       go_simp
       with_reducible rfl
      rotate_left
      ·simp only [Act.put, List.setIfInBounds_toArray, List.set_cons_zero, List.set_cons_succ, i64_w, i32_w]
       rfl
      refine pu 12 18 ?_
      refine pu 13 19 ?_
      refine pu 14 20 ?_
      refine pu 15 21 ?_
      refine pu 16 22 ?_
      refine pu 17 23 ?_
      refine pu 19 25 ?_
      refine take_ (i := 18) (N := some 24) (v := ?_) (a' := ?_) #[true, true, true, true, true, true, true, true, true, true, true, true, true, true, true, true, true, true, true, true, false, false, false, false, false, false, false, false, false, false, false, false, false, false] rfl rfl (take_ofW HT_.out HW_.out (by kernel_rfl)) (fun _ _ _ h => h) (Or.inl ⟨by rfl, ?_⟩) hHeld ?_ ?_
      rotate_left
      ·rintro w' ⟨s0, s1, s2, s3, s4, s5, s6, s7⟩
       go_simp
       with_reducible rfl
      rotate_left
      ·simp only [Act.put, List.setIfInBounds_toArray, List.set_cons_zero, List.set_cons_succ, i64_w, i32_w]
       rfl
      refine take_ (i := 20) (N := some 26) (v := ?_) (a' := ?_) #[true, true, true, true, true, true, true, true, true, true, true, true, true, true, true, true, true, true, true, true, true, false, false, false, false, false, false, false, false, false, false, false, false, false] rfl rfl (take_ofW HT_.out HW_.out (by kernel_rfl)) (fun _ _ _ h => h) (Or.inl ⟨by rfl, ?_⟩) hHeld ?_ ?_
      rotate_left
      ·rintro w' ⟨s0, s1, s2, s3, s4, s5, s6, s7⟩
       go_simp
       with_reducible rfl
      rotate_left
      ·simp only [Act.put, List.setIfInBounds_toArray, List.set_cons_zero, List.set_cons_succ, i64_w, i32_w]
       rfl
      refine pu 21 27 ?_
      refine pu 22 28 ?_
      refine pu 23 29 ?_
      refine pu 24 30 ?_
      refine pu 25 31 ?_
      refine pu 26 32 ?_
      refine pu 28 34 ?_
      refine take_ (i := 27) (N := some 33) (v := ?_) (a' := ?_) #[true, true, true, true, true, true, true, true, true, true, true, true, true, true, true, true, true, true, true, true, true, true, true, true, true, true, true, true, true, false, false, false, false, false] rfl rfl (take_ofW HT_.out HW_.out (by kernel_rfl)) (fun _ _ _ h => h) (Or.inl ⟨by rfl, ?_⟩) hHeld ?_ ?_
      rotate_left
      ·rintro w' ⟨s0, s1, s2, s3, s4, s5, s6, s7⟩
       go_simp
       with_reducible rfl
      rotate_left
      ·simp only [Act.put, List.setIfInBounds_toArray, List.set_cons_zero, List.set_cons_succ, i64_w, i32_w]
       rfl
      refine take_ (i := 29) (N := some 35) (v := ?_) (a' := ?_) #[true, true, true, true, true, true, true, true, true, true, true, true, true, true, true, true, true, true, true, true, true, true, true, true, true, true, true, true, true, true, false, false, false, false] rfl rfl (take_ofW HT_.out HW_.out (by kernel_rfl)) (fun _ _ _ h => h) (Or.inl ⟨by rfl, ?_⟩) hHeld ?_ ?_
      rotate_left
      ·rintro w' ⟨s0, s1, s2, s3, s4, s5, s6, s7⟩
       go_simp
       with_reducible rfl
      rotate_left
      ·simp only [Act.put, List.setIfInBounds_toArray, List.set_cons_zero, List.set_cons_succ, i64_w, i32_w]
       rfl
      refine pu 30 36 ?_
      refine pu 31 37 ?_
      refine pu 32 38 ?_
      refine pu 33 39 ?_
      refine done_ (done_of HT_.out (by kernel_rfl)) ?_
      try go_wp2
      go_meet
      case rel => exact ⟨_, ((Op.bytesLess (((rd_T36 l0 x5_1).f0).toList) a1_0.toList)), sq, H', ⟨b38_⟩, ⟨bq BK139.out⟩, ⟨bel1 GE139.out⟩⟩
     rw [if_neg c9] at H
     have c9b0 : (((rd_T36 l0 x5_1).f1) == a1_1) = false := beq_eq_false_iff_ne.mpr c9
     have c9b1 : (((rd_T36 l0 x5_1).f1) != a1_1) = true := bne_iff_ne.mpr c9
     have H' := am H
     clear H
     try go_wp2
     replace BK139 := am (blk_drew BK139.out); replace HB := am (below_drew1 HB.out)
     have p140 : 0 ≤ (x5_1 : Int) := of_decide_eq_true ad
     have q140 : x5_1 < (l0.length : Int) := of_decide_eq_true ad
     obtain ⟨ad140, e140, hx140_0, hx140_1⟩ := at_T36 HR0.out x5_1 p140 q140; have hw140_1 := hx140_1; have hw140_0 := hx140_0
     cases e140
     replace hx140_0 := kp HB.out hx140_0; replace hx140_1 := kp HB.out hx140_1; replace p140 := eq_true p140; replace q140 := eq_true q140
     have p141 : 0 ≤ (x5_1 : Int) := of_decide_eq_true ad
     have q141 : x5_1 < (l0.length : Int) := of_decide_eq_true ad
     obtain ⟨ad141, e141, hx141_0, hx141_1⟩ := at_T36 HR0.out x5_1 p141 q141; have hw141_1 := hx141_1; have hw141_0 := hx141_0
     obtain rfl : ad140 = ad141 := (by injection e141)
     replace hx141_0 := kp HB.out hx141_0; replace hx141_1 := kp HB.out hx141_1; replace p141 := eq_true p141; replace q141 := eq_true q141
     refine st (n := 34) (S := fun w' => w'.cell? ⟨gb139, 0, none⟩ = some (.string a1_0) ∧ w'.cell? ⟨gb139, 1, none⟩ = some (.int .i64 a1_1) ∧ w'.cell? (ad140.add ((x5_1).toNat * 2)) = some (.string ((rd_T36 l0 x5_1).f0)) ∧ w'.cell? ⟨(ad140.add ((x5_1).toNat * 2)).block, (ad140.add ((x5_1).toNat * 2)).off + 1, none⟩ = some (.int .i64 ((rd_T36 l0 x5_1).f1)) ∧ w'.cell? (ad140.add ((x5_1).toNat * 2)) = some (.string ((rd_T36 l0 x5_1).f0)) ∧ w'.cell? ⟨(ad140.add ((x5_1).toNat * 2)).block, (ad140.add ((x5_1).toNat * 2)).off + 1, none⟩ = some (.int .i64 ((rd_T36 l0 x5_1).f1))) (ds := []) ⟨(blk_cell BK139.out 0).trans rfl, (blk_cell BK139.out 1).trans rfl, (kp HB.out hw140_0), (kp HB.out hw140_1), (kp HB.out hw141_0), (kp HB.out hw141_1)⟩ (fun hHeld => ?_); refine with_tabW spec_l4Put.tab2 spec_l4Put.bits2 (fun HT_ HW_ => ?_)
     generalize wr.drew = w11 at BK139 HB hx140_0 hx140_1 hx141_0 hx141_1 hHeld ⊢
     refine pu 0 6 ?_
     refine pu 1 7 ?_
     refine pu 2 8 ?_
     refine pu 3 9 ?_
     refine pu 4 10 ?_
     refine pu 5 11 ?_
     refine pu 6 12 ?_
     refine pu 7 13 ?_
     refine pu 8 14 ?_
     refine pu 10 16 ?_
     refine tk6 9 15 hHeld ?_
     refine tk6 11 17 hHeld ?_
     refine pu 12 18 ?_
     refine pu 13 19 ?_
     refine pu 14 20 ?_
     refine pu 15 21 ?_
     refine pu 16 22 ?_
     refine pu 17 23 ?_
     refine pu 19 25 ?_
     refine tk6 18 24 hHeld ?_
     refine tk6 20 26 hHeld ?_
     refine pu 21 27 ?_
     refine pu 22 28 ?_
     refine puu 23 29 ?_
     refine puu 24 30 ?_
     refine puu 25 31 ?_
     refine puu 26 32 ?_
     refine puu 27 33 ?_
     refine puu 28 34 ?_
     refine puu 29 35 ?_
     refine puu 30 36 ?_
     refine pu 31 37 ?_
     refine pu 32 38 ?_
     refine pu 33 39 ?_
     refine done_ (done_of HT_.out (by kernel_rfl)) ?_
     try go_wp2
     go_meet
     case rel => exact ⟨_, (false), sq, H', ⟨b38_⟩, ⟨bq BK139.out⟩, ⟨bel1 GE139.out⟩⟩
    rw [if_neg c5] at H; have c5b0 := decide_eq_false c5; clear c5
    (first | rw [c5b0] | (simp only [i64_w, i32_w]; rw [c5b0]) | skip)
    have H' := am H
    clear H
    try go_wp2
    replace BK139 := am (blk_drew BK139.out); replace HB := am (below_drew1 HB.out)
    refine st (n := 34) (S := fun w' => True) (ds := []) trivial (fun hHeld => ?_); refine with_tabW spec_l4Put.tab2 spec_l4Put.bits2 (fun HT_ HW_ => ?_)
    generalize wr.drew = w12 at BK139 HB hHeld ⊢
    refine pu 0 6 ?_
    refine pu 1 7 ?_
    refine pu 2 8 ?_
    refine pu 3 9 ?_
    refine pu 4 10 ?_
    refine puu 5 11 ?_
    refine puu 6 12 ?_
    refine puu 7 13 ?_
    refine puu 8 14 ?_
    refine puu 9 15 ?_
    refine puu 10 16 ?_
    refine puu 11 17 ?_
    refine puu 12 18 ?_
    refine puu 13 19 ?_
    refine puu 14 20 ?_
    refine puu 15 21 ?_
    refine puu 16 22 ?_
    refine puu 17 23 ?_
    refine puu 18 24 ?_
    refine puu 19 25 ?_
    refine puu 20 26 ?_
    refine puu 21 27 ?_
    refine puu 22 28 ?_
    refine puu 23 29 ?_
    refine puu 24 30 ?_
    refine puu 25 31 ?_
    refine puu 26 32 ?_
    refine puu 27 33 ?_
    refine puu 28 34 ?_
    refine puu 29 35 ?_
    refine puu 30 36 ?_
    refine puu 31 37 ?_
    refine puu 32 38 ?_
    refine pu 33 39 ?_
    refine done_ (done_of HT_.out (by kernel_rfl)) ?_
    try go_wp2
    go_meet
    case rel => exact ⟨_, (false), sq, H', ⟨b38_⟩, ⟨bq BK139.out⟩, ⟨bel1 GE139.out⟩⟩
   case rest =>
    clear HC4; (try clear p1); (try clear q1); (try clear hx1); (try clear p2); (try clear c5); (try clear c5b0); (try clear c6); (try clear c9); (try clear c9b0); (try clear c9b1); (try clear hx140_0); (try clear hx140_1); (try clear hx141_0); (try clear hx141_1); (try clear p140); (try clear p141); (try clear q140); (try clear q141); obtain ⟨kq, x39_3, rfl, HA, HJ3, BK139, HB⟩ := hcut
    cases kq with
    | zero => exact absurd HA.out (by simp [spec_l4Put.j1])
    | succ kj3 =>
     have H := HA.out; clear HA
     simp only [spec_l4Put.j1] at H
     by_cases c13 : x39_3 = true
     ·subst c13
      have H1 : (spec_l4Put.l0 kj3 l0 (wrap64 (x5_1 + 1)) a1_0 a1_1) = some r := b19_
      replace H := H1; clear H1
      have H' := am H
      clear H; go_wp2
      go_roundg kj3
      case measure => have := HK1.out; have := HJ3.out; omega
      case rel => exact ⟨(wrap64 (x5_1 + 1)), sq, H', ⟨by have := HK1.out; have := HJ3.out; omega⟩, ⟨bq BK139.out⟩, ⟨bel1 GE139.out⟩⟩
     replace c13 := Bool.eq_false_iff.mpr c13; subst c13
     have H1 : ((some (([] : List (S36)) : List (S36))).bind fun y143 => (if 0 ≤ x5_1 then (if x5_1 ≤ (l0.length : Int) then ((some (l0.take (x5_1 : Int).toNat : List (S36))).bind fun y146 => (if y143.length + y146.length < 5864062014805 then ((some (y143 ++ y146 : List (S36))).bind fun y150 => ((some (([(⟨a1_0, a1_1⟩ : S36)] : List (S36)) : List (S36))).bind fun y153 => (if y150.length + y153.length < 5864062014805 then ((some (y150 ++ y153 : List (S36))).bind fun y156 => ((some (l0.drop (x5_1 : Int).toNat : List (S36))).bind fun y159 => (if y156.length + y159.length < 5864062014805 then (some (y156 ++ y159)) else (none)))) else (none)))) else (none))) else (none)) else (none))) = some r := b7_
     replace H := H1; clear H1
     obtain ⟨y143, hy143⟩ : ∃ y_ : List (S36), y_ = (([] : List (S36))) := ⟨_, rfl⟩
     replace H : (if 0 ≤ x5_1 then (if x5_1 ≤ (l0.length : Int) then ((some (l0.take (x5_1 : Int).toNat : List (S36))).bind fun y146 => (if y143.length + y146.length < 5864062014805 then ((some (y143 ++ y146 : List (S36))).bind fun y150 => ((some (([(⟨a1_0, a1_1⟩ : S36)] : List (S36)) : List (S36))).bind fun y153 => (if y150.length + y153.length < 5864062014805 then ((some (y150 ++ y153 : List (S36))).bind fun y156 => ((some (l0.drop (x5_1 : Int).toNat : List (S36))).bind fun y159 => (if y156.length + y159.length < 5864062014805 then (some (y156 ++ y159)) else (none)))) else (none)))) else (none))) else (none)) else (none)) = some r := by first | (rw [hy143]; with_reducible exact H) | (have H2_ := bm H; rw [hy143]; with_reducible exact H2_) | (with_reducible exact bm H) | with_reducible exact H | (rw [hy143]; exact H) | exact H
     have Ny143 := am hy143; clear hy143
     replace H := ip H; obtain ⟨c14, H⟩ := H; have c14b0 := eq_true c14
     have c14b1 : decide (0 ≤ x5_1) = true := decide_eq_true c14
     clear c14
     replace H := ip H; obtain ⟨c15, H⟩ := H; have c15b0 := eq_true c15
     have c15b1 : decide (x5_1 ≤ (l0.length : Int)) = true := decide_eq_true c15
     clear c15; obtain ⟨y146, hy146⟩ : ∃ y_ : List (S36), y_ = (l0.take (x5_1 : Int).toNat) := ⟨_, rfl⟩
     replace H : (if y143.length + y146.length < 5864062014805 then ((some (y143 ++ y146 : List (S36))).bind fun y150 => ((some (([(⟨a1_0, a1_1⟩ : S36)] : List (S36)) : List (S36))).bind fun y153 => (if y150.length + y153.length < 5864062014805 then ((some (y150 ++ y153 : List (S36))).bind fun y156 => ((some (l0.drop (x5_1 : Int).toNat : List (S36))).bind fun y159 => (if y156.length + y159.length < 5864062014805 then (some (y156 ++ y159)) else (none)))) else (none)))) else (none)) = some r := by first | (rw [hy146]; with_reducible exact H) | (have H2_ := bm H; rw [hy146]; with_reducible exact H2_) | (with_reducible exact bm H) | with_reducible exact H | (rw [hy146]; exact H) | exact H
     have Ny146 := am hy146; clear hy146
     replace H := ip H; obtain ⟨c16, H⟩ := H; have LMc16 := Aside0.mk c16; clear c16; obtain ⟨y150, hy150⟩ : ∃ y_ : List (S36), y_ = (y143 ++ y146) := ⟨_, rfl⟩
     replace H : ((some (([(⟨a1_0, a1_1⟩ : S36)] : List (S36)) : List (S36))).bind fun y153 => (if y150.length + y153.length < 5864062014805 then ((some (y150 ++ y153 : List (S36))).bind fun y156 => ((some (l0.drop (x5_1 : Int).toNat : List (S36))).bind fun y159 => (if y156.length + y159.length < 5864062014805 then (some (y156 ++ y159)) else (none)))) else (none))) = some r := by first | (rw [hy150]; with_reducible exact H) | (have H2_ := bm H; rw [hy150]; with_reducible exact H2_) | (with_reducible exact bm H) | with_reducible exact H | (rw [hy150]; exact H) | exact H
     have Ny150 := am hy150; clear hy150; obtain ⟨y153, hy153⟩ : ∃ y_ : List (S36), y_ = (([(⟨a1_0, a1_1⟩ : S36)] : List (S36))) := ⟨_, rfl⟩
     replace H : (if y150.length + y153.length < 5864062014805 then ((some (y150 ++ y153 : List (S36))).bind fun y156 => ((some (l0.drop (x5_1 : Int).toNat : List (S36))).bind fun y159 => (if y156.length + y159.length < 5864062014805 then (some (y156 ++ y159)) else (none)))) else (none)) = some r := by first | (rw [hy153]; with_reducible exact H) | (have H2_ := bm H; rw [hy153]; with_reducible exact H2_) | (with_reducible exact bm H) | with_reducible exact H | (rw [hy153]; exact H) | exact H
     have Ny153 := am hy153; clear hy153
     replace H := ip H; obtain ⟨c17, H⟩ := H; have LMc17 := Aside0.mk c17; clear c17; obtain ⟨y156, hy156⟩ : ∃ y_ : List (S36), y_ = (y150 ++ y153) := ⟨_, rfl⟩
     replace H : ((some (l0.drop (x5_1 : Int).toNat : List (S36))).bind fun y159 => (if y156.length + y159.length < 5864062014805 then (some (y156 ++ y159)) else (none))) = some r := by first | (rw [hy156]; with_reducible exact H) | (have H2_ := bm H; rw [hy156]; with_reducible exact H2_) | (with_reducible exact bm H) | with_reducible exact H | (rw [hy156]; exact H) | exact H
     have Ny156 := am hy156; clear hy156; have c18b0 := eq_true (of_decide_eq_true ad : 0 ≤ x5_1); have c19b0 := eq_true (of_decide_eq_true ad : x5_1 ≤ (l0.length : Int)); obtain ⟨y159, hy159⟩ : ∃ y_ : List (S36), y_ = (l0.drop (x5_1 : Int).toNat) := ⟨_, rfl⟩
     replace H : (if y156.length + y159.length < 5864062014805 then (some (y156 ++ y159)) else (none)) = some r := b42_
     have Ny159 := am hy159; clear hy159
     replace H := ip H; obtain ⟨c20, H⟩ := H; have LMc20 := Aside0.mk c20; clear c20; obtain ⟨y163, hy163⟩ : ∃ y_ : List (S36), y_ = (y156 ++ y159) := ⟨_, rfl⟩
     replace H : (some y163) = some r := by first | (rw [hy163]; with_reducible exact H) | (have H2_ := bm H; rw [hy163]; with_reducible exact H2_) | (with_reducible exact bm H) | with_reducible exact H | (rw [hy163]; exact H) | exact H
     have Ny163 := am hy163; clear hy163; obtain rfl := Option.some.inj H
     try go_wp2
     replace BK139 := am (blk_drew BK139.out); replace HB := am (below_drew1 HB.out)
     have q22 : (x5_1 : Int) ≤ ((l0.length : Int) : Int) := of_decide_eq_true ad
     obtain ⟨i022, hi022, _, hsz22, _⟩ := info_parts info36
     have hroom22 : l0.length ≤ c0 := HC0.out
     have hC22 : Kd.C k36 _ A0 l0.length l0 := HR0.out
     have hcut22 := cut_to (P := Try.prog) 24 36 .i64 Try.underlying24 hi022 A0 l0.length c0 x5_1 (of_decide_eq_true ad) q22 hroom22
     have hr22 := Kd.C_take (m := (x5_1 : Int).toNat) hC22 (by omega)
     have hy22 : y146.length = (x5_1 : Int).toNat := (by rw [Ny146.out, List.length_take]; omega)
     rw [← Ny146.out] at hr22; rw [← hy22] at hcut22; have HR149 := am hr22
     have HC149 := am (show y146.length ≤ c0 from by omega)
     clear hr22 hC22 hroom22 hi022 hsz22; have KY22 := am hy22; clear hy22; replace q22 := eq_true q22
     have q23 : (x5_1 : Int) ≤ ((l0.length : Int) : Int) := of_decide_eq_true ad
     obtain ⟨i023, hi023, _, hsz23, _⟩ := info_parts info36
     have hroom23 : l0.length ≤ c0 := HC0.out
     have hC23 : Kd.C k36 _ A0 l0.length l0 := HR0.out
     have q023 : (0 : Int) ≤ (x5_1 : Int) := of_decide_eq_true ad
     have hcut23 := cut_from (P := Try.prog) 24 36 .i64 Try.underlying24 hi023 2 hsz23 A0 l0.length c0 x5_1 q023 q23
     have hr23 := Kd.C_drop (m := (x5_1 : Int).toNat) (c := c0) hC23 (by omega) hroom23
     obtain ⟨A23, hA23⟩ : ∃ A1, A1 = (if c0 = (x5_1 : Int).toNat then A0 else (A0 : Option Addr).map (·.add ((x5_1 : Int).toNat * 2))) := ⟨_, rfl⟩; obtain ⟨c23, hc23⟩ : ∃ c1, c1 = c0 - (x5_1 : Int).toNat := ⟨_, rfl⟩
     have hy23 : y159.length = l0.length - (x5_1 : Int).toNat := (by rw [Ny159.out, List.length_drop] <;> omega)
     rw [show (l0).drop (x5_1 : Int).toNat = y159 from Ny159.out.symm] at hr23
     replace hr23 : Kd.C k36 _ A23 y159.length y159 := (by rw [hA23]; exact hr23)
     rw [← hy23, ← hA23, ← hc23] at hcut23; have HR162 := am hr23
     have HC162 := am (show y159.length ≤ c23 from by rw [hy23, hc23]; exact Nat.sub_le_sub_right hroom23 _)
     clear hr23 hC23 hroom23 hi023 hsz23 hc23; have KY23 := am hy23; have KA23 := am hA23; clear hy23 hA23; replace q23 := eq_true q23
     refine st (n := 13) (S := fun w' => w'.cell? ⟨gb139, 0, none⟩ = some (.string a1_0) ∧ w'.cell? ⟨gb139, 1, none⟩ = some (.int .i64 a1_1)) (ds := []) ⟨(blk_cell BK139.out 0).trans rfl, (blk_cell BK139.out 1).trans rfl⟩ (fun hHeld => ?_); refine with_tabW spec_l4Put.tab4 spec_l4Put.bits4 (fun HT_ HW_ => ?_)
     generalize wc.drew = w21 at BK139 HB HR149 HR162 hHeld ⊢
     refine pu 1 43 ?_
     refine pu 2 44 ?_
     refine pu 3 45 ?_
     refine pu 8 50 ?_
     refine pu 9 51 ?_
     refine pu 10 52 ?_
     refine tk2 5 47 hHeld ?_
     refine join_ (σ := Value × Value × Value) 3 #[true, true, true, true, true, true, true, false, true, true, true, false, false] (fun s_ => [(42, s_.1), (46, s_.2.1), (48, s_.2.2)]) (fun s_ w' => (w'.cell? ⟨gb139, 0, none⟩ = some (.string a1_0) ∧ w'.cell? ⟨gb139, 1, none⟩ = some (.int .i64 a1_1)) ∧ (Kd.R k36 36 w' w.heap.size (fun k_ => some k_ ≠ (s_.2.2 : Value).ownBlock ∧ k_ ≠ gb139) s_.2.1 y150) ∧ (Kd.R k36 36 w' w.heap.size (fun k_ => some k_ ≠ (s_.2.1 : Value).ownBlock ∧ k_ ≠ gb139) s_.2.2 y153) ∧ (w'.heap[gb139]? = some (.cells #[.string a1_0, .int .i64 a1_1] 36 (0, 0))) ∧ (Below w.heap.size w w')) ?_ ?_
     rotate_left
     ·intro hCont
      refine two_ (i := 0) (j := 6) (Ni := some 42) (Nj := some 48) #[true, true, true, true, false, true, false, false, true, true, true, false, false] #[false, true, true, true, false, true, true, false, true, true, true, false, false] rfl rfl rfl rfl (two_of HT_.out (by kernel_rfl)) (by decide) (by decide) (fun K hK => ?_) (fun K hK => ?_)
      ·skip
       refine Kd.R_lit_step k36 _ 36 ?hg (N := 42) ?hd (xs := ([] : List (S36))) (inner := []) (ok := fun _ => True) (okp := fun _ => True) ?hr ?hp (fun _ hk => hk) trivial (Below.refl _ _) (Nat.le_refl _) (by simp) ?_; (case hd => rfl); (case hg => rfl); (case hr => first | (go_simp; done) | (go_simp; rfl)); (case hp => exact (Reps.none _ _))
       intro v144 w24 ho25 hb hg_ hnew_; clear hg_ hnew_
       (first | rw [← Ny143.out] at ho25 | (simp only [Int.reduceToNat] at ho25; rw [← Ny143.out] at ho25) | (simp only [Int.toNat_natCast] at ho25; rw [← Ny143.out] at ho25))
       have HO145 := am (Kd.R_lower (Kd.R_newB ho25 (g := gb139) (o := .cells #[.string a1_0, .int .i64 a1_1] 36 (0, 0)) (bq BK139.out)) (below_size (bel1 GE139.out))); replace BK139 := am (blk_below (g := gb139) (o := .cells #[.string a1_0, .int .i64 a1_1] 36 (0, 0)) (bq BK139.out) hb); replace HB := am (below_step (bel1 GE139.out) hb); clear hb ho25
       refine hK.out _ _ ⟨(blk_cell BK139.out 0).trans rfl, (blk_cell BK139.out 1).trans rfl⟩ (fun hHeld => ?_)
       clear hK K
       refine norm_ (a' := ?_) ?_ ?_
       rotate_left
       ·show Act.put _ (some 42) _ = _
        simp only [Act.put, List.setIfInBounds_toArray, List.set_cons_zero, List.set_cons_succ, i64_w, i32_w]
        rfl
       refine two_ (i := 4) (j := 6) (Ni := some 46) (Nj := some 48) #[true, true, true, true, true, true, false, false, true, true, true, false, false] #[true, true, true, true, false, true, true, false, true, true, true, false, false] rfl rfl rfl rfl (two_of HT_.out (by kernel_rfl)) (by decide) (by decide) (fun K hK => ?_) (fun K hK => ?_)
       ·skip
        refine Kd.R_append_rows_step k36 (w0 := w) w.heap.size (by rfl) (.tmp 42) (.tmp 45) 24 36 (.agg #[(.string ⟨#[]⟩), (.int .i64 0)]) 24 rfl Try.underlying24 info36 rfl (by decide) (by omega) v144 y143 y146 _ _ _ (fun k_ => k_ ≠ gb139) (fun _ => False) rfl rfl ?aO ?aR (fun _ _ h => h) (fun _ h => h.elim) ?aF ?aB ?aS ?aL ?_
        (case aR => exact cq (Kd.C_below HR149.out HB.out)); (case aB => exact (bel1 GE139.out)); (case aF => exact (fun k_ hk => Kd.freshB (g := gb139) (o := .cells #[.string a1_0, .int .i64 a1_1] 36 (0, 0)) (bq BK139.out) k_ hk)); (case aO => exact (rq (Kd.R_mono HO145.out (fun _ hk => hk.2)))); (case aS => exact (below_size (bel1 GE139.out))); (case aL => have := LMc16.out; omega); intro v151 w26 ho hb hg hat; rw [← Ny150.out] at ho; replace BK139 := am (blk_grown (g := gb139) (o := .cells #[.string a1_0, .int .i64 a1_1] 36 (0, 0)) (bq BK139.out) hg (Kd.R_away HO145.out (fun _ hk => hk.2))); replace HB := am (hb); have HO152 := am (ho); clear HO145; clear ho hb hg hat
        refine hK.out _ _ ⟨(blk_cell BK139.out 0).trans rfl, (blk_cell BK139.out 1).trans rfl⟩ (fun hHeld => ?_)
        clear hK K
        refine norm_ (a' := ?_) ?_ ?_
        rotate_left
        ·show Act.put _ (some 46) _ = _
         simp only [Act.put, List.setIfInBounds_toArray, List.set_cons_zero, List.set_cons_succ, i64_w, i32_w]
         rfl
        refine on1 6 48 (fun K hK => ?_)
        refine Kd.R_lit_step k36 _ 36 ?hg (N := 48) ?hd (xs := ([(⟨a1_0, a1_1⟩ : S36)] : List (S36))) (inner := [.string a1_0, .int .i64 a1_1]) (ok := fun _ => True) (okp := fun _ => True) ?hr ?hp (fun _ hk => hk) trivial (Below.refl _ _) (Nat.le_refl _) (by simp) ?_; (case hd => rfl); (case hg => rfl); (case hr => first | (go_simp; done) | (go_simp; rfl)); (case hp => exact (Reps.c2 (show Kd.M k36 _ _ _ (⟨a1_0, a1_1⟩ : S36) [.string a1_0, .int .i64 a1_1] from (k36_mkM _ _ _ (⟨a1_0, a1_1⟩ : S36) )) (Reps.none _ _)))
        intro v154 w27 ho28 hb hg_ hnew_; clear hg_ hnew_
        (first | rw [← Ny153.out] at ho28 | (simp only [Int.reduceToNat] at ho28; rw [← Ny153.out] at ho28) | (simp only [Int.toNat_natCast] at ho28; rw [← Ny153.out] at ho28))
        have HO155 := am (Kd.R_lower (Kd.R_newB (Kd.R_new' ho28 (Kd.R_lt (rq HO152.out))) (g := gb139) (o := .cells #[.string a1_0, .int .i64 a1_1] 36 (0, 0)) (bq BK139.out)) (below_size (bel1 GE139.out))); replace HO152 := am (Kd.R_elder' (rq HO152.out) (Kd.R_base ho28) hb); replace BK139 := am (blk_below (g := gb139) (o := .cells #[.string a1_0, .int .i64 a1_1] 36 (0, 0)) (bq BK139.out) hb); replace HB := am (below_step (bel1 GE139.out) hb); clear hb ho28
        refine hK.out _ _ ⟨(blk_cell BK139.out 0).trans rfl, (blk_cell BK139.out 1).trans rfl⟩ (fun hHeld => ?_)
        clear hK K
        refine norm_ (a' := ?_) ?_ ?_
        rotate_left
        ·show Act.put _ (some 48) _ = _
         simp only [Act.put, List.setIfInBounds_toArray, List.set_cons_zero, List.set_cons_succ, i64_w, i32_w]
         rfl
        exact norm_ b39_ (hCont (v144, v151, v154) _ ⟨hHeld, (rq (Kd.R_mono HO152.out (fun _ hk => ⟨hk.2, hk.1⟩))), (rq (Kd.R_mono HO155.out (fun _ hk => ⟨hk.1.2, hk.2⟩))), (bq BK139.out), (bel1 GE139.out)⟩)
       ·skip
        refine Kd.R_lit_step k36 _ 36 ?hg (N := 48) ?hd (xs := ([(⟨a1_0, a1_1⟩ : S36)] : List (S36))) (inner := [.string a1_0, .int .i64 a1_1]) (ok := fun _ => True) (okp := fun _ => True) ?hr ?hp (fun _ hk => hk) trivial (Below.refl _ _) (Nat.le_refl _) (by simp) ?_; (case hd => rfl); (case hg => rfl); (case hr => first | (go_simp; done) | (go_simp; rfl)); (case hp => exact (Reps.c2 (show Kd.M k36 _ _ _ (⟨a1_0, a1_1⟩ : S36) [.string a1_0, .int .i64 a1_1] from (k36_mkM _ _ _ (⟨a1_0, a1_1⟩ : S36) )) (Reps.none _ _)))
        intro v154 w26 ho27 hb hg_ hnew_; clear hg_ hnew_
        (first | rw [← Ny153.out] at ho27 | (simp only [Int.reduceToNat] at ho27; rw [← Ny153.out] at ho27) | (simp only [Int.toNat_natCast] at ho27; rw [← Ny153.out] at ho27))
        have HO155 := am (Kd.R_lower (Kd.R_newB (Kd.R_new' ho27 (Kd.R_lt (rq HO145.out))) (g := gb139) (o := .cells #[.string a1_0, .int .i64 a1_1] 36 (0, 0)) (bq BK139.out)) (below_size (bel1 GE139.out))); replace HO145 := am (Kd.R_elder' (rq HO145.out) (Kd.R_base ho27) hb); replace BK139 := am (blk_below (g := gb139) (o := .cells #[.string a1_0, .int .i64 a1_1] 36 (0, 0)) (bq BK139.out) hb); replace HB := am (below_step (bel1 GE139.out) hb); clear hb ho27
        refine hK.out _ _ ⟨(blk_cell BK139.out 0).trans rfl, (blk_cell BK139.out 1).trans rfl⟩ (fun hHeld => ?_)
        clear hK K
        refine norm_ (a' := ?_) ?_ ?_
        rotate_left
        ·show Act.put _ (some 48) _ = _
         simp only [Act.put, List.setIfInBounds_toArray, List.set_cons_zero, List.set_cons_succ, i64_w, i32_w]
         rfl
        refine on1 4 46 (fun K hK => ?_)
        refine Kd.R_append_rows_step k36 (w0 := w) w.heap.size (by rfl) (.tmp 42) (.tmp 45) 24 36 (.agg #[(.string ⟨#[]⟩), (.int .i64 0)]) 24 rfl Try.underlying24 info36 rfl (by decide) (by omega) v144 y143 y146 _ _ _ (fun k_ => some k_ ≠ (v154 : Value).ownBlock ∧ k_ ≠ gb139) (fun _ => False) rfl rfl ?aO ?aR (fun _ _ h => h) (fun _ h => h.elim) ?aF ?aB ?aS ?aL ?_
        (case aR => exact cq (Kd.C_below HR149.out HB.out)); (case aB => exact (bel1 GE139.out)); (case aF => exact (fun k_ hk => ⟨Kd.fresh' (Kd.R_lt (rq HO155.out)) k_ hk, Kd.freshB (g := gb139) (o := .cells #[.string a1_0, .int .i64 a1_1] 36 (0, 0)) (bq BK139.out) k_ hk⟩)); (case aO => exact (rq (Kd.R_mono HO145.out (fun _ hk => ⟨hk.2, hk.1.2⟩)))); (case aS => exact (below_size (bel1 GE139.out))); (case aL => have := LMc16.out; omega); intro v151 w28 ho hb hg hat; rw [← Ny150.out] at ho; replace BK139 := am (blk_grown (g := gb139) (o := .cells #[.string a1_0, .int .i64 a1_1] 36 (0, 0)) (bq BK139.out) hg (Kd.R_away HO145.out (fun _ hk => hk.1.2))); replace HO155 := am (Kd.R_after (ok := (fun k_ => k_ ≠ gb139)) (rq (Kd.R_mono HO155.out (fun _ hk => ⟨hk.2, hk.1.2⟩))) hg hat); replace HB := am (hb); have HO152 := am (ho); clear HO145; clear ho hb hg hat
        refine hK.out _ _ ⟨(blk_cell BK139.out 0).trans rfl, (blk_cell BK139.out 1).trans rfl⟩ (fun hHeld => ?_)
        clear hK K
        refine norm_ (a' := ?_) ?_ ?_
        rotate_left
        ·show Act.put _ (some 46) _ = _
         simp only [Act.put, List.setIfInBounds_toArray, List.set_cons_zero, List.set_cons_succ, i64_w, i32_w]
         rfl
        exact norm_ b39_ (hCont (v144, v151, v154) _ ⟨hHeld, (rq HO152.out), (rq (Kd.R_mono HO155.out (fun _ hk => ⟨hk.2, hk.1⟩))), (bq BK139.out), (bel1 GE139.out)⟩)
      ·skip
       refine Kd.R_lit_step k36 _ 36 ?hg (N := 48) ?hd (xs := ([(⟨a1_0, a1_1⟩ : S36)] : List (S36))) (inner := [.string a1_0, .int .i64 a1_1]) (ok := fun _ => True) (okp := fun _ => True) ?hr ?hp (fun _ hk => hk) trivial (Below.refl _ _) (Nat.le_refl _) (by simp) ?_; (case hd => rfl); (case hg => rfl); (case hr => first | (go_simp; done) | (go_simp; rfl)); (case hp => exact (Reps.c2 (show Kd.M k36 _ _ _ (⟨a1_0, a1_1⟩ : S36) [.string a1_0, .int .i64 a1_1] from (k36_mkM _ _ _ (⟨a1_0, a1_1⟩ : S36) )) (Reps.none _ _)))
       intro v154 w24 ho25 hb hg_ hnew_; clear hg_ hnew_
       (first | rw [← Ny153.out] at ho25 | (simp only [Int.reduceToNat] at ho25; rw [← Ny153.out] at ho25) | (simp only [Int.toNat_natCast] at ho25; rw [← Ny153.out] at ho25))
       have HO155 := am (Kd.R_lower (Kd.R_newB ho25 (g := gb139) (o := .cells #[.string a1_0, .int .i64 a1_1] 36 (0, 0)) (bq BK139.out)) (below_size (bel1 GE139.out))); replace BK139 := am (blk_below (g := gb139) (o := .cells #[.string a1_0, .int .i64 a1_1] 36 (0, 0)) (bq BK139.out) hb); replace HB := am (below_step (bel1 GE139.out) hb); clear hb ho25
       refine hK.out _ _ ⟨(blk_cell BK139.out 0).trans rfl, (blk_cell BK139.out 1).trans rfl⟩ (fun hHeld => ?_)
       clear hK K
       refine norm_ (a' := ?_) ?_ ?_
       rotate_left
       ·show Act.put _ (some 48) _ = _
        simp only [Act.put, List.setIfInBounds_toArray, List.set_cons_zero, List.set_cons_succ, i64_w, i32_w]
        rfl
       refine on1 0 42 (fun K hK => ?_)
       refine Kd.R_lit_step k36 _ 36 ?hg (N := 42) ?hd (xs := ([] : List (S36))) (inner := []) (ok := fun _ => True) (okp := fun _ => True) ?hr ?hp (fun _ hk => hk) trivial (Below.refl _ _) (Nat.le_refl _) (by simp) ?_; (case hd => rfl); (case hg => rfl); (case hr => first | (go_simp; done) | (go_simp; rfl)); (case hp => exact (Reps.none _ _))
       intro v144 w26 ho27 hb hg_ hnew_; clear hg_ hnew_
       (first | rw [← Ny143.out] at ho27 | (simp only [Int.reduceToNat] at ho27; rw [← Ny143.out] at ho27) | (simp only [Int.toNat_natCast] at ho27; rw [← Ny143.out] at ho27))
       have HO145 := am (Kd.R_lower (Kd.R_newB (Kd.R_new' ho27 (Kd.R_lt (rq HO155.out))) (g := gb139) (o := .cells #[.string a1_0, .int .i64 a1_1] 36 (0, 0)) (bq BK139.out)) (below_size (bel1 GE139.out))); replace HO155 := am (Kd.R_elder' (rq HO155.out) (Kd.R_base ho27) hb); replace BK139 := am (blk_below (g := gb139) (o := .cells #[.string a1_0, .int .i64 a1_1] 36 (0, 0)) (bq BK139.out) hb); replace HB := am (below_step (bel1 GE139.out) hb); clear hb ho27
       refine hK.out _ _ ⟨(blk_cell BK139.out 0).trans rfl, (blk_cell BK139.out 1).trans rfl⟩ (fun hHeld => ?_)
       clear hK K
       refine norm_ (a' := ?_) ?_ ?_
       rotate_left
       ·show Act.put _ (some 42) _ = _
        simp only [Act.put, List.setIfInBounds_toArray, List.set_cons_zero, List.set_cons_succ, i64_w, i32_w]
        rfl
       refine on1 4 46 (fun K hK => ?_)
       refine Kd.R_append_rows_step k36 (w0 := w) w.heap.size (by rfl) (.tmp 42) (.tmp 45) 24 36 (.agg #[(.string ⟨#[]⟩), (.int .i64 0)]) 24 rfl Try.underlying24 info36 rfl (by decide) (by omega) v144 y143 y146 _ _ _ (fun k_ => some k_ ≠ (v154 : Value).ownBlock ∧ k_ ≠ gb139) (fun _ => False) rfl rfl ?aO ?aR (fun _ _ h => h) (fun _ h => h.elim) ?aF ?aB ?aS ?aL ?_
       (case aR => exact cq (Kd.C_below HR149.out HB.out)); (case aB => exact (bel1 GE139.out)); (case aF => exact (fun k_ hk => ⟨Kd.fresh' (Kd.R_lt (rq HO155.out)) k_ hk, Kd.freshB (g := gb139) (o := .cells #[.string a1_0, .int .i64 a1_1] 36 (0, 0)) (bq BK139.out) k_ hk⟩)); (case aO => exact (rq (Kd.R_mono HO145.out (fun _ hk => ⟨hk.1.2, hk.2⟩)))); (case aS => exact (below_size (bel1 GE139.out))); (case aL => have := LMc16.out; omega); intro v151 w28 ho hb hg hat; rw [← Ny150.out] at ho; replace BK139 := am (blk_grown (g := gb139) (o := .cells #[.string a1_0, .int .i64 a1_1] 36 (0, 0)) (bq BK139.out) hg (Kd.R_away HO145.out (fun _ hk => hk.2))); replace HO155 := am (Kd.R_after (ok := (fun k_ => k_ ≠ gb139)) (rq (Kd.R_mono HO155.out (fun _ hk => ⟨hk.1.2, hk.2⟩))) hg hat); replace HB := am (hb); have HO152 := am (ho); clear HO145; clear ho hb hg hat
       refine hK.out _ _ ⟨(blk_cell BK139.out 0).trans rfl, (blk_cell BK139.out 1).trans rfl⟩ (fun hHeld => ?_)
       clear hK K
       refine norm_ (a' := ?_) ?_ ?_
       rotate_left
       ·show Act.put _ (some 46) _ = _
        simp only [Act.put, List.setIfInBounds_toArray, List.set_cons_zero, List.set_cons_succ, i64_w, i32_w]
        rfl
       exact norm_ b39_ (hCont (v144, v151, v154) _ ⟨hHeld, (rq HO152.out), (rq (Kd.R_mono HO155.out (fun _ hk => ⟨hk.2, hk.1⟩))), (bq BK139.out), (bel1 GE139.out)⟩)
     rintro ⟨v144, v151, v154⟩ w29 ⟨hS_, h0_, h1_, h2_, h3_⟩
     have n0_ : Aside0 (Kd.R k36 36 w29 w.heap.size (fun k_ => some k_ ≠ (v154 : Value).ownBlock ∧ k_ ≠ gb139) v151 y150) := ⟨h0_⟩
     have n1_ : Aside0 (Kd.R k36 36 w29 w.heap.size (fun k_ => some k_ ≠ (v151 : Value).ownBlock ∧ k_ ≠ gb139) v154 y153) := ⟨h1_⟩
     have n2_ : Aside0 (w29.heap[gb139]? = some (.cells #[.string a1_0, .int .i64 a1_1] 36 (0, 0))) := ⟨h2_⟩
     have n3_ : Aside0 (Below w.heap.size w w29) := ⟨h3_⟩
     clear BK139; clear HB; clear h0_ h1_ h2_ h3_; have HO152 := n0_; have HO155 := n1_; have BK139 := n2_; have HB := n3_; clear n0_ n1_ n2_ n3_
     have hHeld : w29.cell? ⟨gb139, 0, none⟩ = some (.string a1_0) ∧ w29.cell? ⟨gb139, 1, none⟩ = some (.int .i64 a1_1) := hS_
     obtain ⟨Ao31, co31, eo31⟩ := Kd.R_slice HO155.out
     (first | subst eo31 | (injection eo31 with f1_ f2_ f3_; have f4_ := f1_.symm; have f5_ := f3_.symm; clear f1_ f2_ f3_; subst f4_; subst f5_))
     refine norm_ (a' := ?_) ?_ ?_
     rotate_left
     ·simp only [putAll, Act.put, List.setIfInBounds_toArray, List.set_cons_zero, List.set_cons_succ]
      rfl
     refine on1 7 49 (fun K hK => ?_)
     refine Kd.R_append_rows_step k36 (w0 := w) w.heap.size (by rfl) (.tmp 46) (.tmp 48) 24 36 (.agg #[(.string ⟨#[]⟩), (.int .i64 0)]) 24 rfl Try.underlying24 info36 rfl (by decide) (by omega) v151 y150 y153 _ _ _ (fun k_ => some k_ ≠ (.slice Ao31 y153.length co31 : Value).ownBlock ∧ k_ ≠ gb139) (fun _ => False) rfl rfl ?aO ?aR (fun _ _ h => h) (fun _ h => h.elim) ?aF ?aB ?aS ?aL ?_
     (case aR => exact cq (Kd.R_reads' HO155.out).2.2); (case aB => exact (bel1 GE139.out)); (case aF => exact (fun k_ hk => ⟨Kd.fresh' (Kd.R_lt (rq HO155.out)) k_ hk, Kd.freshB (g := gb139) (o := .cells #[.string a1_0, .int .i64 a1_1] 36 (0, 0)) (bq BK139.out) k_ hk⟩)); (case aO => exact (rq HO152.out)); (case aS => exact (below_size (bel1 GE139.out))); (case aL => have := LMc17.out; omega); intro v157 w30 ho hb hg hat; rw [← Ny156.out] at ho; replace BK139 := am (blk_grown (g := gb139) (o := .cells #[.string a1_0, .int .i64 a1_1] 36 (0, 0)) (bq BK139.out) hg (Kd.R_away HO152.out (fun _ hk => hk.2))); replace HO155 := am (Kd.R_after (ok := (fun k_ => k_ ≠ gb139)) (rq (Kd.R_mono HO155.out (fun _ hk => ⟨hk.2, hk.1⟩))) hg hat); replace HB := am (hb); have HO158 := am (ho); clear HO152; clear ho hb hg hat
     refine hK.out _ _ ⟨(blk_cell BK139.out 0).trans rfl, (blk_cell BK139.out 1).trans rfl⟩ (fun hHeld => ?_)
     clear hK K
     refine norm_ (a' := ?_) ?_ ?_
     rotate_left
     ·show Act.put _ (some 49) _ = _
      simp only [Act.put, List.setIfInBounds_toArray, List.set_cons_zero, List.set_cons_succ, i64_w, i32_w]
      rfl
     refine on1 11 53 (fun K hK => ?_)
     refine Kd.R_append_rows_step k36 (w0 := w) w.heap.size (by rfl) (.tmp 49) (.tmp 52) 24 36 (.agg #[(.string ⟨#[]⟩), (.int .i64 0)]) 24 rfl Try.underlying24 info36 rfl (by decide) (by omega) v157 y156 y159 _ _ _ (fun k_ => some k_ ≠ (.slice Ao31 y153.length co31 : Value).ownBlock ∧ k_ ≠ gb139) (fun _ => False) rfl rfl ?aO ?aR (fun _ _ h => h) (fun _ h => h.elim) ?aF ?aB ?aS ?aL ?_
     (case aR => exact cq (Kd.C_below HR162.out HB.out)); (case aB => exact (bel1 GE139.out)); (case aF => exact (fun k_ hk => ⟨Kd.fresh' (Kd.R_lt (rq HO155.out)) k_ hk, Kd.freshB (g := gb139) (o := .cells #[.string a1_0, .int .i64 a1_1] 36 (0, 0)) (bq BK139.out) k_ hk⟩)); (case aO => exact (rq HO158.out)); (case aS => exact (below_size (bel1 GE139.out))); (case aL => have := LMc20.out; omega); intro v164 w32 ho hb hg hat; rw [← Ny163.out] at ho; replace BK139 := am (blk_grown (g := gb139) (o := .cells #[.string a1_0, .int .i64 a1_1] 36 (0, 0)) (bq BK139.out) hg (Kd.R_away HO158.out (fun _ hk => hk.2))); replace HO155 := am (Kd.R_after (ok := (fun k_ => k_ ≠ gb139)) (rq HO155.out) hg hat); replace HB := am (hb); have HO165 := am (ho); clear HO158; clear ho hb hg hat
     refine hK.out _ _ ⟨(blk_cell BK139.out 0).trans rfl, (blk_cell BK139.out 1).trans rfl⟩ (fun hHeld => ?_)
     clear hK K
     refine norm_ (a' := ?_) ?_ ?_
     rotate_left
     ·show Act.put _ (some 53) _ = _
      simp only [Act.put, List.setIfInBounds_toArray, List.set_cons_zero, List.set_cons_succ, i64_w, i32_w]
      rfl
     refine pu 12 4 ?_
     refine done_ (done_of HT_.out (by kernel_rfl)) ?_
     try go_wp2
     go_ret
     exact ⟨_, eq_, by (with_reducible repeat (first | apply Kd.R_alloc | apply Kd.R_drewN | apply Kd.R_drew)); exact Kd.R_mono HO165.out (fun _ hk => trivial), bel1 GE139.out⟩
end Go.Proofs.Ytfpmfaelodfecaa.QFnGuesses
