import Derived.Test.YtfpmfaelodfecaaProg
import Derived.Laws.Cover1
import Derived.Below
import Derived.Deep.Draws
import Derived.Deep.AppendLies
import Derived.Maps.AppendAt
import Derived.OwnWalk
import Derived.Laws.BytesArg
import Derived.Laws.MakeOwn
import Derived.Laws.OwnMore
import Derived.Deep.OwnRows
import Derived.Tactics
import Derived.Lib.ConvBytes
import Derived.Laws.Slices
import Derived.WalkKit
import Derived.KernelRfl
import Derived.RowKit3
import Derived.Deep.LoopGhost
import Derived.Deep.QuietTactic
import Derived.BigQuiet
import Derived.WideLaws
import Derived.Deep.DeepCutAuto
import Derived.Deep.CutBlock
import Derived.Deep.RegionHeld3
import Derived.Laws.Rows
import Derived.Lib.AppendStr
import Derived.ArgAppend
import Derived.Laws.IdiomCopy
import Derived.OrdersHeld
import Derived.Laws.BitsLemmas
import Derived.RowKit
import Derived.Test.YtfpmfaelodfecaaVMNer
import Derived.Test.YtfpmfaelodfecaaVMSrt
import Derived.Test.YtfpmfaelodfecaaVMLaySort
import Derived.Test.YtfpmfaelodfecaaVWords
import Derived.Test.YtfpmfaelodfecaaVLast
import Derived.Test.YtfpmfaelodfecaaVTab
import Derived.Test.YtfpmfaelodfecaaVApart
import Derived.Test.YtfpmfaelodfecaaVFoot
import Derived.Test.YtfpmfaelodfecaaVKept
import Derived.Test.YtfpmfaelodfecaaVShare
import Derived.Test.YtfpmfaelodfecaaVN
import Derived.Laws.StructEq
import Derived.Test.YtfpmfaelodfecaaVRepsOne
import Derived.Test.YtfpmfaelodfecaaVGuard
import Derived.Test.YtfpmfaelodfecaaVMore
import Derived.Test.YtfpmfaelodfecaaVMSh2
namespace Go.Proofs.Ytfpmfaelodfecaa.QFnExactMachineGuesses
open Go.RowKit Go.Proofs.YtfpmfaelodfecaaW.PrintWords Go.Proofs.YtfpmfaelodfecaaW.PrintLast Go.Proofs.YtfpmfaelodfecaaW.PrintMore Go.Proofs.Ytfpmfaelodfecaa.Sh
attribute [local go_sem] max2_int min2_int max_two min_two max_three min_three max_four min_four
set_option linter.unusedVariables false
set_option linter.unusedSimpArgs false
set_option maxHeartbeats 8000000
set_option maxRecDepth 100000
-- shrunk



def errW : Option Int → Value
 | none => .nilIface
 | some c => .iface 0 (.int .i64 c)
theorem errW_none : errW none = .nilIface := rfl
theorem errW_some (c : Int) : errW (some c) = .iface 0 (.int .i64 c) := rfl

theorem info3 : (Try.prog.info? 3).map (fun i => (i.zero, i.size, i.bytes)) = some (some (.int .i64 0), 1, 8) := by kernel_rfl
theorem info5 : (Try.prog.info? 5).map (fun i => (i.zero, i.size, i.bytes)) = some (some (.int .u8 0), 1, 1) := by kernel_rfl
theorem info9 : (Try.prog.info? 9).map (fun i => (i.zero, i.size, i.bytes)) = some (some (.string ⟨#[]⟩), 1, 16) := by kernel_rfl
theorem info94 : (Try.prog.info? 94).map (fun i => (i.zero, i.size, i.bytes)) = some (some (.agg #[(.bool false), (.slice none 0 0)]), 2, 32) := by kernel_rfl
theorem info100 : (Try.prog.info? 100).map (fun i => (i.zero, i.size, i.bytes)) = some (some (.agg #[(.int .i64 0), (.int .i64 0)]), 2, 16) := by kernel_rfl
-- the values' own types
/-! #### struct type 156 -/
structure S156 where
 f0 : Int
 f1 : Int
def z156 : S156 := ⟨(0 : Int), (0 : Int)⟩
def k156 : Kd S156 := Kd.iso (Kd.pair (Kd.int .i64) (Kd.int .i64)) (fun x : S156 => (x.f0, x.f1))
theorem k156_open {w : World} {x : S156} {cs : List Value} (h : k156.K w x cs) : cs = [.int .i64 x.f0, .int .i64 x.f1] := by
 obtain ⟨_, _, rfl, rfl, rfl⟩ := h
 exact rfl
theorem k156_openM {w : World} {base : Nat} {ok : Nat → Prop} {x : S156} {cs : List Value} (h : k156.M w base ok x cs) : cs = [.int .i64 x.f0, .int .i64 x.f1] := by
 obtain ⟨_, _, rfl, rfl, rfl⟩ := h
 exact rfl
theorem k156_mk (w : World) (x : S156)  : k156.K w x [.int .i64 x.f0, .int .i64 x.f1] := ⟨[.int .i64 x.f0], [.int .i64 x.f1], rfl, rfl, rfl⟩
theorem k156_mkM (w : World) (base : Nat) (ok : Nat → Prop) (x : S156)  : k156.M w base ok x [.int .i64 x.f0, .int .i64 x.f1] := ⟨[.int .i64 x.f0], [.int .i64 x.f1], rfl, rfl, rfl⟩
theorem k156_mkF (W : World) (ok : Nat → Prop) (x : S156) : Kd.FK k156 W ok x [.int .i64 x.f0, .int .i64 x.f1] := fun W2 _ => k156_mk W2 x
def rd_T156 (xs : List S156) (i : Int) : S156 := xs.getD i.toNat z156
theorem at_T156 {w : World} {A : Option Addr} {n : Nat} {xs : List S156} (h : Kd.C k156 w A n xs) (i : Int) (h0 : 0 ≤ i) (h1 : i < n) : ∃ ad , A = some ad ∧ w.cell? (ad.add (i.toNat * 2)) = some (.int .i64 (rd_T156 xs i).f0) ∧ w.cell? ⟨(ad.add (i.toNat * 2)).block, (ad.add (i.toNat * 2)).off + 1, none⟩ = some (.int .i64 (rd_T156 xs i).f1) := by
 obtain ⟨ad, c, e, _, hK, hc0⟩ := Kd.C_get h z156 i h0 h1
 have hc : ∀ j u, c[j]? = some u → w.cell? (ad.add (i.toNat * 2 + j)) = some u := hc0
 obtain rfl := k156_open hK
 exact ⟨ad, e, hc 0 _ rfl, by rw [← add_field _ _ 1 (by omega)]; exact hc 1 _ rfl⟩

def rd_L5 (xs : List (List S156)) (i : Int) : (List S156) := xs.getD i.toNat ([] : List S156)
theorem at_L5 {w : World} {A : Option Addr} {n : Nat} {xs : List (List S156)} (h : Kd.C (Kd.slice 156 k156) w A n xs) (i : Int) (h0 : 0 ≤ i) (h1 : i < n) : ∃ ad A0 c0, A = some ad ∧ w.cell? (ad.add i.toNat) = some (.slice A0 (rd_L5 xs i).length c0) ∧ (rd_L5 xs i).length ≤ c0 ∧ k156.C w A0 (rd_L5 xs i).length (rd_L5 xs i) := by
 obtain ⟨ad, c, e, _, hK, hc0⟩ := Kd.C_get h ([] : List S156) i h0 h1
 have hc : ∀ j u, c[j]? = some u → w.cell? (ad.add (i.toNat * 1 + j)) = some u := hc0
 obtain ⟨A0, c0, rfl, l0, g0⟩ := hK
 exact ⟨ad, A0, c0, e, by have hq := hc 0 _ rfl; rwa [Nat.mul_one, Nat.add_zero] at hq, l0, g0⟩

/-! #### struct type 90 -/
structure S90 where
 f0 : Bool
 f1 : (List S156)
def z90 : S90 := ⟨false, ([] : List S156)⟩
def k90 : Kd S90 := Kd.iso (Kd.pair Kd.bool (Kd.slice 156 k156)) (fun x : S90 => (x.f0, x.f1))
theorem k90_open {w : World} {x : S90} {cs : List Value} (h : k90.K w x cs) : ∃ A1 c1, cs = [.bool x.f0, .slice A1 x.f1.length c1] ∧ x.f1.length ≤ c1 ∧ k156.C w A1 x.f1.length x.f1 := by
 obtain ⟨_, _, rfl, rfl, ⟨A1, c1, rfl, l1, g1⟩⟩ := h
 exact ⟨A1, c1, rfl, l1, g1⟩
theorem k90_openM {w : World} {base : Nat} {ok : Nat → Prop} {x : S90} {cs : List Value} (h : k90.M w base ok x cs) : ∃ v1, cs = [.bool x.f0, v1] ∧ k156.R 156 w base ok v1 x.f1 := by
 obtain ⟨_, _, rfl, rfl, ⟨v1, rfl, g1⟩⟩ := h
 exact ⟨v1, rfl, g1⟩
theorem k90_mk (w : World) (x : S90) {A1 : Option Addr} {c1 : Nat} (l1 : x.f1.length ≤ c1) (g1 : k156.C w A1 x.f1.length x.f1) : k90.K w x [.bool x.f0, .slice A1 x.f1.length c1] := ⟨[.bool x.f0], [.slice A1 x.f1.length c1], rfl, rfl, ⟨A1, c1, rfl, l1, g1⟩⟩
theorem k90_mkM (w : World) (base : Nat) (ok : Nat → Prop) (x : S90) {v1 : Value} (g1 : k156.R 156 w base ok v1 x.f1) : k90.M w base ok x [.bool x.f0, v1] := ⟨[.bool x.f0], [v1], rfl, rfl, ⟨v1, rfl, g1⟩⟩
theorem k90_openF {W : World} {ok : Nat → Prop} {x : S90} {cs : List Value} (h : Kd.FK k90 W ok x cs) : ∃ A1 c1, cs = [.bool x.f0, .slice A1 x.f1.length c1] ∧ x.f1.length ≤ c1 ∧ Kd.F k156 W ok A1 x.f1.length x.f1 := by
 obtain ⟨A1, c1, rfl, l1, _⟩ := k90_open (Kd.FK_now h)
 exact ⟨A1, c1, rfl, l1, (fun W' hW => by obtain ⟨A1_, c1_, he, l1_, g1_⟩ := k90_open (h W' hW); injection (Option.some.inj (show some (Value.slice A1 x.f1.length c1) = some (Value.slice A1_ x.f1.length c1_) from congrArg (fun l => l[1]?) he)) with ha_ _ _; rw [ha_]; exact g1_)⟩
theorem k90_mkF (W : World) (ok : Nat → Prop) (x : S90) {A1 : Option Addr} {c1 : Nat} (l1 : x.f1.length ≤ c1) (g1 : Kd.F k156 W ok A1 x.f1.length x.f1) : Kd.FK k90 W ok x [.bool x.f0, .slice A1 x.f1.length c1] := fun W2 hW => k90_mk W2 x l1 (g1 W2 hW)
def rd_T90 (xs : List S90) (i : Int) : S90 := xs.getD i.toNat z90
theorem at_T90 {w : World} {A : Option Addr} {n : Nat} {xs : List S90} (h : Kd.C k90 w A n xs) (i : Int) (h0 : 0 ≤ i) (h1 : i < n) : ∃ ad A1 c1, A = some ad ∧ w.cell? (ad.add (i.toNat * 2)) = some (.bool (rd_T90 xs i).f0) ∧ w.cell? ⟨(ad.add (i.toNat * 2)).block, (ad.add (i.toNat * 2)).off + 1, none⟩ = some (.slice A1 (rd_T90 xs i).f1.length c1) ∧ (rd_T90 xs i).f1.length ≤ c1 ∧ k156.C w A1 (rd_T90 xs i).f1.length (rd_T90 xs i).f1 := by
 obtain ⟨ad, c, e, _, hK, hc0⟩ := Kd.C_get h z90 i h0 h1
 have hc : ∀ j u, c[j]? = some u → w.cell? (ad.add (i.toNat * 2 + j)) = some u := hc0
 obtain ⟨A1, c1, rfl, l1, g1⟩ := k90_open hK
 exact ⟨ad, A1, c1, e, hc 0 _ rfl, by rw [← add_field _ _ 1 (by omega)]; exact hc 1 _ rfl, l1, g1⟩

/-! #### struct type 100 -/
structure S100 where
 f0 : Int
 f1 : Int
def z100 : S100 := ⟨(0 : Int), (0 : Int)⟩
def k100 : Kd S100 := Kd.iso (Kd.pair (Kd.int .i64) (Kd.int .i64)) (fun x : S100 => (x.f0, x.f1))
theorem k100_open {w : World} {x : S100} {cs : List Value} (h : k100.K w x cs) : cs = [.int .i64 x.f0, .int .i64 x.f1] := by
 obtain ⟨_, _, rfl, rfl, rfl⟩ := h
 exact rfl
theorem k100_openM {w : World} {base : Nat} {ok : Nat → Prop} {x : S100} {cs : List Value} (h : k100.M w base ok x cs) : cs = [.int .i64 x.f0, .int .i64 x.f1] := by
 obtain ⟨_, _, rfl, rfl, rfl⟩ := h
 exact rfl
theorem k100_mk (w : World) (x : S100)  : k100.K w x [.int .i64 x.f0, .int .i64 x.f1] := ⟨[.int .i64 x.f0], [.int .i64 x.f1], rfl, rfl, rfl⟩
theorem k100_mkM (w : World) (base : Nat) (ok : Nat → Prop) (x : S100)  : k100.M w base ok x [.int .i64 x.f0, .int .i64 x.f1] := ⟨[.int .i64 x.f0], [.int .i64 x.f1], rfl, rfl, rfl⟩
theorem k100_mkF (W : World) (ok : Nat → Prop) (x : S100) : Kd.FK k100 W ok x [.int .i64 x.f0, .int .i64 x.f1] := fun W2 _ => k100_mk W2 x
def rd_T100 (xs : List S100) (i : Int) : S100 := xs.getD i.toNat z100
theorem at_T100 {w : World} {A : Option Addr} {n : Nat} {xs : List S100} (h : Kd.C k100 w A n xs) (i : Int) (h0 : 0 ≤ i) (h1 : i < n) : ∃ ad , A = some ad ∧ w.cell? (ad.add (i.toNat * 2)) = some (.int .i64 (rd_T100 xs i).f0) ∧ w.cell? ⟨(ad.add (i.toNat * 2)).block, (ad.add (i.toNat * 2)).off + 1, none⟩ = some (.int .i64 (rd_T100 xs i).f1) := by
 obtain ⟨ad, c, e, _, hK, hc0⟩ := Kd.C_get h z100 i h0 h1
 have hc : ∀ j u, c[j]? = some u → w.cell? (ad.add (i.toNat * 2 + j)) = some u := hc0
 obtain rfl := k100_open hK
 exact ⟨ad, e, hc 0 _ rfl, by rw [← add_field _ _ 1 (by omega)]; exact hc 1 _ rfl⟩

def rd_L8 (xs : List (List S100)) (i : Int) : (List S100) := xs.getD i.toNat ([] : List S100)
theorem at_L8 {w : World} {A : Option Addr} {n : Nat} {xs : List (List S100)} (h : Kd.C (Kd.slice 100 k100) w A n xs) (i : Int) (h0 : 0 ≤ i) (h1 : i < n) : ∃ ad A0 c0, A = some ad ∧ w.cell? (ad.add i.toNat) = some (.slice A0 (rd_L8 xs i).length c0) ∧ (rd_L8 xs i).length ≤ c0 ∧ k100.C w A0 (rd_L8 xs i).length (rd_L8 xs i) := by
 obtain ⟨ad, c, e, _, hK, hc0⟩ := Kd.C_get h ([] : List S100) i h0 h1
 have hc : ∀ j u, c[j]? = some u → w.cell? (ad.add (i.toNat * 1 + j)) = some u := hc0
 obtain ⟨A0, c0, rfl, l0, g0⟩ := hK
 exact ⟨ad, A0, c0, e, by have hq := hc 0 _ rfl; rwa [Nat.mul_one, Nat.add_zero] at hq, l0, g0⟩

/-! #### struct type 94 -/
structure S94 where
 f0 : Bool
 f1 : (List S100)
def z94 : S94 := ⟨false, ([] : List S100)⟩
def k94 : Kd S94 := Kd.iso (Kd.pair Kd.bool (Kd.slice 100 k100)) (fun x : S94 => (x.f0, x.f1))
theorem k94_open {w : World} {x : S94} {cs : List Value} (h : k94.K w x cs) : ∃ A1 c1, cs = [.bool x.f0, .slice A1 x.f1.length c1] ∧ x.f1.length ≤ c1 ∧ k100.C w A1 x.f1.length x.f1 := by
 obtain ⟨_, _, rfl, rfl, ⟨A1, c1, rfl, l1, g1⟩⟩ := h
 exact ⟨A1, c1, rfl, l1, g1⟩
theorem k94_openM {w : World} {base : Nat} {ok : Nat → Prop} {x : S94} {cs : List Value} (h : k94.M w base ok x cs) : ∃ v1, cs = [.bool x.f0, v1] ∧ k100.R 100 w base ok v1 x.f1 := by
 obtain ⟨_, _, rfl, rfl, ⟨v1, rfl, g1⟩⟩ := h
 exact ⟨v1, rfl, g1⟩
theorem k94_mk (w : World) (x : S94) {A1 : Option Addr} {c1 : Nat} (l1 : x.f1.length ≤ c1) (g1 : k100.C w A1 x.f1.length x.f1) : k94.K w x [.bool x.f0, .slice A1 x.f1.length c1] := ⟨[.bool x.f0], [.slice A1 x.f1.length c1], rfl, rfl, ⟨A1, c1, rfl, l1, g1⟩⟩
theorem k94_mkM (w : World) (base : Nat) (ok : Nat → Prop) (x : S94) {v1 : Value} (g1 : k100.R 100 w base ok v1 x.f1) : k94.M w base ok x [.bool x.f0, v1] := ⟨[.bool x.f0], [v1], rfl, rfl, ⟨v1, rfl, g1⟩⟩
theorem k94_openF {W : World} {ok : Nat → Prop} {x : S94} {cs : List Value} (h : Kd.FK k94 W ok x cs) : ∃ A1 c1, cs = [.bool x.f0, .slice A1 x.f1.length c1] ∧ x.f1.length ≤ c1 ∧ Kd.F k100 W ok A1 x.f1.length x.f1 := by
 obtain ⟨A1, c1, rfl, l1, _⟩ := k94_open (Kd.FK_now h)
 exact ⟨A1, c1, rfl, l1, (fun W' hW => by obtain ⟨A1_, c1_, he, l1_, g1_⟩ := k94_open (h W' hW); injection (Option.some.inj (show some (Value.slice A1 x.f1.length c1) = some (Value.slice A1_ x.f1.length c1_) from congrArg (fun l => l[1]?) he)) with ha_ _ _; rw [ha_]; exact g1_)⟩
theorem k94_mkF (W : World) (ok : Nat → Prop) (x : S94) {A1 : Option Addr} {c1 : Nat} (l1 : x.f1.length ≤ c1) (g1 : Kd.F k100 W ok A1 x.f1.length x.f1) : Kd.FK k94 W ok x [.bool x.f0, .slice A1 x.f1.length c1] := fun W2 hW => k94_mk W2 x l1 (g1 W2 hW)
def rd_T94 (xs : List S94) (i : Int) : S94 := xs.getD i.toNat z94
theorem at_T94 {w : World} {A : Option Addr} {n : Nat} {xs : List S94} (h : Kd.C k94 w A n xs) (i : Int) (h0 : 0 ≤ i) (h1 : i < n) : ∃ ad A1 c1, A = some ad ∧ w.cell? (ad.add (i.toNat * 2)) = some (.bool (rd_T94 xs i).f0) ∧ w.cell? ⟨(ad.add (i.toNat * 2)).block, (ad.add (i.toNat * 2)).off + 1, none⟩ = some (.slice A1 (rd_T94 xs i).f1.length c1) ∧ (rd_T94 xs i).f1.length ≤ c1 ∧ k100.C w A1 (rd_T94 xs i).f1.length (rd_T94 xs i).f1 := by
 obtain ⟨ad, c, e, _, hK, hc0⟩ := Kd.C_get h z94 i h0 h1
 have hc : ∀ j u, c[j]? = some u → w.cell? (ad.add (i.toNat * 2 + j)) = some u := hc0
 obtain ⟨A1, c1, rfl, l1, g1⟩ := k94_open hK
 exact ⟨ad, A1, c1, e, hc 0 _ rfl, by rw [← add_field _ _ 1 (by omega)]; exact hc 1 _ rfl, l1, g1⟩

theorem b0_ {p : Prop} (h : p := by (with_reducible repeat (first | refine blk_drewN ?_ _ | refine blk_drew ?_ | refine blk_alloc ?_ _)); refine blk_put (cs := #[.int .i64 ((rd_T100 ((rd_T94 l0 x3_1).f1) x4_2).f0), .int .i64 0]) ?_ 1 _ rfl; (with_reducible repeat (first | refine blk_drewN ?_ _ | refine blk_drew ?_ | refine blk_alloc ?_ _)); refine blk_put (cs := #[.int .i64 0, .int .i64 0]) ?_ 0 _ rfl; (with_reducible repeat (first | refine blk_drewN ?_ _ | refine blk_drew ?_ | refine blk_alloc ?_ _)); exact BK129.out) : p := h
theorem b1_ {p : Prop} (h : p := by (try simp only [List.map_toArray, List.map_cons, List.map_nil]); first | done | (rw [show t309.length = t298.length from (Kd.R_reads' HO_8.out).1.symm] <;> rfl) | rfl | (simp only [List.length_drop, List.length_take]; rfl)) : p := h
theorem b2_ {p : Prop} (h : p := by (with_reducible repeat (first | refine blk_drewN ?_ _ | refine blk_drew ?_ | refine blk_alloc ?_ _)); refine blk_put (cs := #[.int .i64 ((rd_T100 ((rd_T94 l0 x4_1).f1) x50_4).f0), .int .i64 0]) ?_ 1 _ rfl; (with_reducible repeat (first | refine blk_drewN ?_ _ | refine blk_drew ?_ | refine blk_alloc ?_ _)); refine blk_put (cs := #[.int .i64 0, .int .i64 0]) ?_ 0 _ rfl; (with_reducible repeat (first | refine blk_drewN ?_ _ | refine blk_drew ?_ | refine blk_alloc ?_ _)); exact BK242.out) : p := h
theorem b3_ {p : Prop} (h : p := by (with_reducible repeat (first | apply Kd.S_alloc | apply Kd.S_drewN | apply Kd.S_drew)); exact HO291.out) : p := h
theorem b4_ {p : Prop} (h : p := by (with_reducible repeat (first | refine blk_drewN ?_ _ | refine blk_drew ?_ | refine blk_alloc ?_ _)); refine blk_far ?_ NB238_242.out _; (with_reducible repeat (first | refine blk_drewN ?_ _ | refine blk_drew ?_ | refine blk_alloc ?_ _)); refine blk_far ?_ NB238_242.out _; (with_reducible repeat (first | refine blk_drewN ?_ _ | refine blk_drew ?_ | refine blk_alloc ?_ _)); exact BK238.out) : p := h
theorem b5_ {p : Prop} (h : p := by rw [if_neg (show ¬ (false = true) by decide)] at H; exact H) : p := h
theorem b6_ {p : Prop} (h : p := by repeat (first | (with_reducible first | exact HK.out | apply Kept.alloc | apply Kept.drewN | apply Kept.drew) | exact HK.out)) : p := h
theorem b7_ {p : Prop} (h : p := by rw [hg]; exact (below_size bel)) : p := h
theorem b8_ {p : Prop} (h : p := by (with_reducible repeat (first | apply Kd.S_alloc | apply Kd.S_drewN | apply Kd.S_drew)); exact HO297.out) : p := h
theorem b9_ {p : Prop} (h : p := by (try simp only [hl3_22]); (try simp only [hl3_4]); (with_reducible repeat (first | apply Kd.R_alloc | apply Kd.R_drewN | apply Kd.R_drew)); exact HO_3.out) : p := h
theorem b10_ {p : Prop} (h : p := by (try simp only [hl3_22]); (try simp only [hl3_4]); (with_reducible repeat (first | refine blk_drewN ?_ _ | refine blk_drew ?_ | refine blk_alloc ?_ _)); exact BK238.out) : p := h
theorem b11_ {p : Prop} (h : p := by rw [if_pos rfl] at H; exact H) : p := h
theorem b12_ {p : Prop} (h : p := by (with_reducible repeat (first | apply Kd.S_alloc | apply Kd.S_drewN | apply Kd.S_drew)); exact HO313.out) : p := h
theorem b13_ {p : Prop} (h : p := by (try simp only [hl3_22]); (try simp only [hl3_4]); (with_reducible repeat (first | refine blk_drewN ?_ _ | refine blk_drew ?_ | refine blk_alloc ?_ _)); exact BK242.out) : p := h
theorem b14_ {p : Prop} (h : p := by have h_ : (x5_1 : Int) < ((x0_1.length : Int) : Int) := of_decide_eq_true ad; first | exact h_ | (have e_ := (Kd.R_reads' HO_0.out).1; omega) | simpa using h_) : p := h
theorem b15_ {p : Prop} (h : p := by have := HK1.out; have := HK2.out; omega) : p := h
theorem b16_ {p : Prop} (h : p := by have := HK1.out; have := HJ10.out; have := HJ22.out; have := HK4.out; first | omega | exact Nat.le_refl _) : p := h
theorem b17_ {p : Prop} (h : p := by rw [hg]; exact Nat.ne_of_lt (blk_lt (g := gb278) (o := .cells #[.bool a0_0, .slice A0_1 l0_1.length c0_1] 94 (0, 0)) (bq BK278.out))) : p := h
theorem b18_ {p : Prop} (h : p := by rw [hg]; exact Nat.ne_of_gt (blk_lt (g := gb278) (o := .cells #[.bool a0_0, .slice A0_1 l0_1.length c0_1] 94 (0, 0)) (bq BK278.out))) : p := h
theorem b19_ {p : Prop} (h : p := by rw [hg]; exact Nat.ne_of_lt (blk_lt (g := gb273) (o := .cells #[.int .i64 a0_0, .int .i64 a0_1] 100 (0, 0)) (bq BK273.out))) : p := h
theorem b20_ {p : Prop} (h : p := by rw [hg]; exact Nat.ne_of_gt (blk_lt (g := gb273) (o := .cells #[.int .i64 a0_0, .int .i64 a0_1] 100 (0, 0)) (bq BK273.out))) : p := h
theorem b21_ {p : Prop} (h : p := by have := HK1.out; omega) : p := h
theorem b22_ {p : Prop} (h : p := by have h_ : (x4_1 : Int) < ((x3_1.length : Int) : Int) := of_decide_eq_true ad; first | exact h_ | (have e_ := (Kd.R_reads' HO_3.out).1; omega) | simpa using h_) : p := h
theorem b23_ {p : Prop} (h : p := by have h_ : (x4_1 : Int) < ((x3_1.length : Int) : Int) := of_decide_eq_true ad; first | exact h_ | (have e_ := (Kd.S_reads' HO_3.out).1; omega) | simpa using h_) : p := h
theorem b24_ {p : Prop} (h : p := by (with_reducible repeat (first | apply Kd.S_alloc | apply Kd.S_drewN | apply Kd.S_drew)); exact HO_3.out) : p := h
theorem b25_ {p : Prop} (h : p := by simp only [putAll, Act.put, List.setIfInBounds_toArray, List.set_cons_zero, List.set_cons_succ]) : p := h
theorem b26_ {p : Prop} (h : p := by rw [hg]; exact Nat.ne_of_lt (blk_lt (g := gb251) (o := .cells #[.bool a0_0, .slice (some ad252) l0_1.length c0_1] 94 (0, 0)) (bq BK251.out))) : p := h
theorem b27_ {p : Prop} (h : p := by rw [hg]; exact Nat.ne_of_gt (blk_lt (g := gb251) (o := .cells #[.bool a0_0, .slice (some ad252) l0_1.length c0_1] 94 (0, 0)) (bq BK251.out))) : p := h
theorem b28_ {p : Prop} (h : p := by first | simpa using c3 | (simp at c3 ⊢; omega)) : p := h
theorem b29_ {p : Prop} (h : p := by rw [hg]; exact (below_size (bel1 GE273.out))) : p := h
theorem b30_ {p : Prop} (h : p := by rw [hg]; exact (below_size (bel1 GE278.out))) : p := h
theorem b31_ {p : Prop} (h : p := by rw [hg]; exact Nat.ne_of_lt (blk_lt (g := gb217) (o := .cells #[.bool a0_0, .slice A0_1 l0_1.length c0_1] 90 (0, 0)) (bq BK217.out))) : p := h
theorem b32_ {p : Prop} (h : p := by rw [hg]; exact Nat.ne_of_gt (blk_lt (g := gb217) (o := .cells #[.bool a0_0, .slice A0_1 l0_1.length c0_1] 90 (0, 0)) (bq BK217.out))) : p := h
theorem b33_ {p : Prop} (h : p := by have := HK1.out; first | omega | exact Nat.le_refl _) : p := h
theorem b34_ {p : Prop} (h : p := by rw [hg]; exact Nat.ne_of_lt (blk_lt (g := gb207) (o := .cells #[.int .i64 a0_0, .int .i64 a0_1] 156 (0, 0)) (bq BK207.out))) : p := h
theorem b35_ {p : Prop} (h : p := by rw [hg]; exact Nat.ne_of_gt (blk_lt (g := gb207) (o := .cells #[.int .i64 a0_0, .int .i64 a0_1] 156 (0, 0)) (bq BK207.out))) : p := h
theorem b36_ {p : Prop} (h : p := by first | omega | exact Nat.le_refl _) : p := h
theorem b37_ {p : Prop} (h : p := by rw [hg]; exact (below_size (bel1 GE251.out))) : p := h
theorem b38_ {p : Prop} (h : p := by go_simp; first | done | rfl) : p := h
-- shrunk

/-! ### laws_eqStringS: function 16 -/
def laws_eqStringS.l0 : Nat → List ByteArray → List ByteArray → Int → Option (Bool)
 | 0, _, _, _ => none
 | k + 1, x0, x1, x5 => if x5 < (x0.length : Int) then (if 0 ≤ x5 then (if x5 < (x1.length : Int) then (if (rdOf ByteArray.empty x0 x5).toList = (rdOf ByteArray.empty x1 x5).toList then (laws_eqStringS.l0 k x0 x1 (wrap64 (x5 + 1))) else (some false)) else (none)) else (none)) else (some true)
def laws_eqStringS.f (k : Nat) (l0 : List ByteArray) (l1 : List ByteArray) : Option (Bool) := if (l0.length : Int) = (l1.length : Int) then (laws_eqStringS.l0 k l0 l1 0) else (some false)
theorem laws_eqStringS.calls (k : Nat) (A0 : Option Addr) (c0 : Nat) (l0 : List ByteArray) (A1 : Option Addr) (c1 : Nat) (l1 : List ByteArray) (r : Bool) (w : World) (hr0 : Kd.C Kd.string w A0 l0.length l0) (hc0 : l0.length ≤ c0) (hr1 : Kd.C Kd.string w A1 l1.length l1) (hc1 : l1.length ≤ c1) (h : laws_eqStringS.f k l0 l1 = some r) :
  Calls Try.prog 16 #[.slice A0 l0.length c0, .slice A1 l1.length c1] w fun e w' => e = .returned (.bool r) ∧ Drawn0 w w' := by
 have HR0 := am hr0; have HC0 := am hc0; clear hr0 hc0; have HR1 := am hr1; have HC1 := am hc1; clear hr1 hc1
 have H : (if (l0.length : Int) = (l1.length : Int) then (laws_eqStringS.l0 k l0 l1 0) else (some false)) = some r := h
 clear h
 by_cases c3 : (l0.length : Int) = (l1.length : Int)
 ·rw [if_pos c3] at H
  have c3b0 : ((l0.length : Int) == (l1.length : Int)) = true := beq_iff_eq.mpr c3
  have c3b1 : ((l0.length : Int) != (l1.length : Int)) = false := bne_eq_false_iff_eq.mpr c3
  have c3b2 : (l0.length == l1.length) = true := b28_
  clear c3
  have H' := am H
  clear H; go_enter Try.func16, Try.ntmps16; go_wp2
  repeat (go_quiet (fail); try go_wp2)
  go_loopg [5] k (fun kq v5 w' => ∃ (x5_1 : Int), v5 = .int .i64 x5_1 ∧ Aside0 (laws_eqStringS.l0 kq l0 l1 x5_1 = some r) ∧ Aside0 (kq ≤ k) ∧ Drawn0 w w')
  case atStart => exact ⟨(0), sq, H', ⟨Nat.le_refl _⟩, dr⟩
  case round =>
   clear H'; (try clear c1); (try clear p2); (try clear c3); (try clear c3b0); (try clear c3b1); (try clear c3b2); obtain ⟨x5_1, rfl, HA, HK1, ⟨m1, rfl⟩⟩ := hrel
   cases gk with
   | zero => exact absurd HA.out (by simp [laws_eqStringS.l0])
   | succ k1 =>
    have H := HA.out; clear HA
    simp only [laws_eqStringS.l0] at H
    by_cases c4 : x5_1 < (l0.length : Int)
    ·rw [if_pos c4] at H; have c4b0 := decide_eq_true c4; clear c4
     replace H := it H; obtain ⟨c5b0, H⟩ := H
     replace H := it H; obtain ⟨c6b0, H⟩ := H
     by_cases c7 : (rdOf ByteArray.empty l0 x5_1).toList = (rdOf ByteArray.empty l1 x5_1).toList
     ·rw [if_pos c7] at H
      have c7b0 : ((rdOf ByteArray.empty l0 x5_1).toList == (rdOf ByteArray.empty l1 x5_1).toList) = true := beq_iff_eq.mpr c7
      have c7b1 : ((rdOf ByteArray.empty l0 x5_1).toList != (rdOf ByteArray.empty l1 x5_1).toList) = false := bne_eq_false_iff_eq.mpr c7
      clear c7
      have H' := am H
      clear H
      have p101 : 0 ≤ (x5_1 : Int) := of_decide_eq_true ad
      have q101 : x5_1 < (l0.length : Int) := of_decide_eq_true ad
      obtain ⟨ad101, e101, hx101_0⟩ := Kd.at_string HR0.out x5_1 p101 q101
      cases e101
      replace p101 := eq_true p101; replace q101 := eq_true q101
      have p102 : 0 ≤ (x5_1 : Int) := of_decide_eq_true ad
      have q102 : x5_1 < (l1.length : Int) := of_decide_eq_true ad
      obtain ⟨ad102, e102, hx102_0⟩ := Kd.at_string HR1.out x5_1 p102 q102
      cases e102
      replace p102 := eq_true p102; replace q102 := eq_true q102; go_wp2
      repeat (go_quiet (fail); try go_wp2)
      go_roundg k1
      case measure => have := HK1.out; omega
      case rel => exact ⟨(wrap64 (x5_1 + 1)), sq, H', ⟨b21_⟩, dr⟩
     rw [if_neg c7] at H
     have c7b0 : ((rdOf ByteArray.empty l0 x5_1).toList == (rdOf ByteArray.empty l1 x5_1).toList) = false := beq_eq_false_iff_ne.mpr c7
     have c7b1 : ((rdOf ByteArray.empty l0 x5_1).toList != (rdOf ByteArray.empty l1 x5_1).toList) = true := bne_iff_ne.mpr c7
     obtain rfl := Option.some.inj H
     have p101 : 0 ≤ (x5_1 : Int) := of_decide_eq_true ad
     have q101 : x5_1 < (l0.length : Int) := of_decide_eq_true ad
     obtain ⟨ad101, e101, hx101_0⟩ := Kd.at_string HR0.out x5_1 p101 q101
     cases e101
     replace p101 := eq_true p101; replace q101 := eq_true q101
     have p102 : 0 ≤ (x5_1 : Int) := of_decide_eq_true ad
     have q102 : x5_1 < (l1.length : Int) := of_decide_eq_true ad
     obtain ⟨ad102, e102, hx102_0⟩ := Kd.at_string HR1.out x5_1 p102 q102
     cases e102
     replace p102 := eq_true p102; replace q102 := eq_true q102; go_wp2
     repeat (go_quiet (fail); try go_wp2)
     go_ret
     exact ⟨sq, dr⟩
    rw [if_neg c4] at H; have c4b0 := decide_eq_false c4; clear c4; obtain rfl := Option.some.inj H; go_wp2
    repeat (go_quiet (fail); try go_wp2)
    go_ret
    exact ⟨sq, dr⟩
 rw [if_neg c3] at H
 have c3b0 : ((l0.length : Int) == (l1.length : Int)) = false := beq_eq_false_iff_ne.mpr c3
 have c3b1 : ((l0.length : Int) != (l1.length : Int)) = true := bne_iff_ne.mpr c3
 have c3b2 : (l0.length == l1.length) = false := b28_
 obtain rfl := Option.some.inj H; go_enter Try.func16, Try.ntmps16; go_wp2
 repeat (go_quiet (fail); try go_wp2)
 go_ret
 exact ⟨sq, dr⟩

/-! ### laws_markText: function 63 -/
def laws_markText.l0 : Nat → Int → ByteArray → Option (ByteArray)
 | 0, _, _ => none
 | k + 1, x0, x3 => if x0 > 0 then ((some (([(wrap64 (48 + (Int.tmod x0 10))) % 256] : List Int) : List Int)).bind fun y103 => (if (strOfNums y103).size + x3.size ≤ 9223372036854775807 then (laws_markText.l0 k (wrap64 (Int.tdiv x0 10)) ((strOfNums y103) ++ x3)) else (none))) else (if 1 + x3.size ≤ 9223372036854775807 then (some ((⟨#[109]⟩ : ByteArray) ++ x3)) else (none))
def laws_markText.f (k : Nat) (a0 : Int) : Option (ByteArray) := if a0 ≤ 0 then (some (⟨#[109, 48]⟩ : ByteArray)) else (laws_markText.l0 k a0 (⟨#[]⟩ : ByteArray))
theorem laws_markText.calls (k : Nat) (a0 : Int) (r : ByteArray) (w : World) (h : laws_markText.f k a0 = some r) :
  Calls Try.prog 63 #[.int .i64 a0] w fun e w' => e = .returned (.string r) ∧ Below w.heap.size w w' := by
 have HB := am (Below.refl w.heap.size w)
 have H : (if a0 ≤ 0 then (some (⟨#[109, 48]⟩ : ByteArray)) else (laws_markText.l0 k a0 (⟨#[]⟩ : ByteArray))) = some r := h
 clear h
 by_cases c2 : a0 ≤ 0
 ·rw [if_pos c2] at H; have c2b0 := decide_eq_true c2; clear c2; obtain rfl := Option.some.inj H; go_enter Try.func63, Try.ntmps63; go_wp2; go_ret
  exact ⟨eq_, bel⟩
 rw [if_neg c2] at H; have c2b0 := decide_eq_false c2; clear c2
 have H' := am H
 clear H; go_enter Try.func63, Try.ntmps63; go_wp2
 go_loopg [0, 3] k (fun kq v0 v3 w' => ∃ (x0_1 : Int) (x3_1 : ByteArray), v0 = .int .i64 x0_1 ∧ v3 = .string x3_1 ∧ Aside0 (laws_markText.l0 kq x0_1 x3_1 = some r) ∧ Aside0 (kq ≤ k) ∧ Aside0 (Below w.heap.size w w'))
 case atStart => exact ⟨(a0), ((⟨#[]⟩ : ByteArray)), sq, sq, H', ⟨Nat.le_refl _⟩, ⟨bel⟩⟩
 case round =>
  clear H'; (try clear c2); (try clear c2b0); (try clear p2); obtain ⟨x0_1, x3_1, rfl, rfl, HA, HK1, HB⟩ := hrel
  cases gk with
  | zero => exact absurd HA.out (by simp [laws_markText.l0])
  | succ k1 =>
   have H := HA.out; clear HA
   simp only [laws_markText.l0] at H
   by_cases c3 : x0_1 > 0
   ·rw [if_pos c3] at H; have c3b0 := decide_eq_true c3; clear c3; obtain ⟨y103, hy103⟩ : ∃ y_ : List Int, y_ = (([(wrap64 (48 + (Int.tmod x0_1 10))) % 256] : List Int)) := ⟨_, rfl⟩
    replace H : (if (strOfNums y103).size + x3_1.size ≤ 9223372036854775807 then (laws_markText.l0 k1 (wrap64 (Int.tdiv x0_1 10)) ((strOfNums y103) ++ x3_1)) else (none)) = some r := by first | (rw [hy103]; with_reducible exact H) | (have H2_ := bm H; rw [hy103]; with_reducible exact H2_) | (with_reducible exact bm H) | with_reducible exact H | (rw [hy103]; exact H) | exact H
    have Ny103 := am hy103; clear hy103
    replace H := ip H; obtain ⟨c4, H⟩ := H; have c4b0 := eq_true c4
    have c4b1 : decide ((strOfNums y103).size + x3_1.size ≤ 9223372036854775807) = true := decide_eq_true c4
    try have c4b2 : (9223372036854775807 < (strOfNums y103).size + x3_1.size) = False := eq_false (Nat.not_lt.2 c4)
    have H' := am H
    clear H
    go_wp2_with (first | ((with_reducible refine gate_dst (N := 12) rfl ?_); refine Kd.R_lit (Kd.int .u8) _ 5 ?hg (N := 12) ?hd (xs := ([(wrap64 (48 + (Int.tmod x0_1 10))) % 256] : List Int)) (inner := [.int .u8 ((wrap64 (48 + (Int.tmod x0_1 10))) % 256)]) (ok := fun _ => True) (okp := fun _ => True) ?hr ?hp (fun _ hk => hk) trivial (Below.refl _ _) (Nat.le_refl _) (by simp) ?_; (case hd => rfl); (case hg => rfl); (case hr => first | (go_simp; done) | (go_simp; rfl)); (case hp => exact (Reps.one (show Kd.M (Kd.int .u8) _ _ _ ((wrap64 (48 + (Int.tmod x0_1 10))) % 256) [.int .u8 ((wrap64 (48 + (Int.tmod x0_1 10))) % 256)] from rfl) (Reps.none _ _))); intro v104 w5 ho6 hb hg_ hnew_; clear hg_ hnew_; (first | rw [← Ny103.out] at ho6 | (simp only [Int.reduceToNat] at ho6; rw [← Ny103.out] at ho6) | (simp only [Int.toNat_natCast] at ho6; rw [← Ny103.out] at ho6)); have HO105 := am (Kd.R_lower ho6 (below_size bel)); replace HB := am (below_step bel hb); clear hb ho6; have hcv7 := own_string (P := Try.prog) Try.underlying31 Try.underlying5 Try.underlying9 (Kd.own_of_R HO105.out)))
    go_roundg k1
    case measure => have := HK1.out; omega
    case rel => exact ⟨(wrap64 (Int.tdiv x0_1 10)), ((strOfNums y103) ++ x3_1), sq, sq, H', ⟨b21_⟩, ⟨bel⟩⟩
   rw [if_neg c3] at H; have c3b0 := decide_eq_false c3; clear c3
   replace H := ip H; obtain ⟨c8, H⟩ := H; have c8b0 := eq_true c8
   have c8b1 : decide (1 + x3_1.size ≤ 9223372036854775807) = true := decide_eq_true c8
   try have c8b2 : (9223372036854775807 < 1 + x3_1.size) = False := eq_false (Nat.not_lt.2 c8)
   obtain rfl := Option.some.inj H; go_wp2; go_ret
   exact ⟨eq_, bel⟩

/-! ### laws_markStringS: function 17 -/
def laws_markStringS.l0 : Nat → List ByteArray → Int → Int → Option (Int × List ByteArray)
 | 0, _, _, _ => none
 | k + 1, x0, x1, x5 => if x5 < (x0.length : Int) then ((laws_markText.f k x1).bind fun t106 => (if 0 ≤ x5 then (laws_markStringS.l0 k (x0.set (x5 : Int).toNat t106) (wrap64 (x1 + 1)) (wrap64 (x5 + 1))) else (none))) else (some (x1, x0))
def laws_markStringS.f (k : Nat) (l0 : List ByteArray) (a1 : Int) : Option (Int × List ByteArray) := laws_markStringS.l0 k l0 a1 0
theorem laws_markStringS.calls (k : Nat) (P0_ : Nat → Prop) (u9000_ : Value) (l0 : List ByteArray) (a1 : Int) (r1 : Int) (r2 : List ByteArray) (w0 w : World) (hB : Below w0.heap.size w0 w) (ho0 : Kd.R Kd.string 9 w w0.heap.size P0_ u9000_ l0) (h : laws_markStringS.f k l0 a1 = some (r1, r2)) :
  Calls Try.prog 17 #[u9000_, .int .i64 a1] w fun e w' => e = .returned (.int .i64 r1) ∧ Kd.R Kd.string 9 w' w0.heap.size (fun k_ => (P0_ k_ ∨ w.heap.size ≤ k_)) u9000_ r2 ∧ Below w0.heap.size w0 w' ∧ Kept w w' (fun k_ => P0_ k_) := by
 have HO0 := am (show Kd.R Kd.string 9 w w0.heap.size (fun k_ => (P0_ k_ ∨ w.heap.size ≤ k_)) u9000_ l0 from Kd.R_mono ho0 (fun k_ hk => (.inl hk))); have HK := am (Kept.refl w (fun k_ => P0_ k_)); have HW0 := am hB.size; have HB := am hB; clear hB
 have H : (laws_markStringS.l0 k l0 a1 0) = some (r1, r2) := h
 clear h
 have H' := am H
 clear H; go_enter Try.func17, Try.ntmps17; go_wp2
 go_loopg [1, 5] k (fun kq v1 v5 w' => ∃ (x0_1 : List ByteArray) (x1_1 : Int) (x5_1 : Int), v1 = .int .i64 x1_1 ∧ v5 = .int .i64 x5_1 ∧ Aside0 (laws_markStringS.l0 kq x0_1 x1_1 x5_1 = some (r1, r2)) ∧ Aside0 (kq ≤ k) ∧ Aside0 (Kd.R Kd.string 9 w' w0.heap.size (fun k_ => (P0_ k_ ∨ w.heap.size ≤ k_)) u9000_ x0_1) ∧ Aside0 (Kept w w' (fun k_ => P0_ k_)) ∧ Aside0 (Below w0.heap.size w0 w'))
 case atStart => exact ⟨(l0), (a1), (0), sq, sq, H', ⟨Nat.le_refl _⟩, ⟨rq HO0.out⟩, ⟨b6_⟩, ⟨bel⟩⟩
 case round =>
  clear H'; (try clear c1); (try clear p2); obtain ⟨x0_1, x1_1, x5_1, rfl, rfl, HA, HK1, HO_0, HK, HB⟩ := hrel
  cases gk with
  | zero => exact absurd HA.out (by simp [laws_markStringS.l0])
  | succ k1 =>
   have H := HA.out; clear HA
   simp only [laws_markStringS.l0] at H
   by_cases c3 : x5_1 < (x0_1.length : Int)
   ·rw [if_pos c3] at H; have c3b0 := decide_eq_true c3; clear c3; replace H := bs H; obtain ⟨t106, A40, H⟩ := H; replace H : (if 0 ≤ x5_1 then (laws_markStringS.l0 k1 (x0_1.set (x5_1 : Int).toNat t106) (wrap64 (x1_1 + 1)) (wrap64 (x5_1 + 1))) else (none)) = some (r1, r2) := H; have A4 := Aside0.mk A40; clear A40
    replace H := it H; obtain ⟨c5b0, H⟩ := H; obtain ⟨y107, hy107⟩ : ∃ y_ : List ByteArray, y_ = (x0_1.set (x5_1 : Int).toNat t106) := ⟨_, rfl⟩
    replace H : (laws_markStringS.l0 k1 y107 (wrap64 (x1_1 + 1)) (wrap64 (x5_1 + 1))) = some (r1, r2) := by first | (rw [hy107]; with_reducible exact H) | (have H2_ := bm H; rw [hy107]; with_reducible exact H2_) | (with_reducible exact bm H) | with_reducible exact H | (rw [hy107]; exact H) | exact H
    have Ny107 := am hy107; clear hy107
    have H' := am H
    clear H; obtain ⟨Ao7, co7, eo7⟩ := Kd.R_slice HO_0.out; subst eo7
    go_wp2_with (first | ((with_reducible refine gate_callee (f := 63) rfl ?_); refine goesL_ (some 15) rfl rfl Try.func63 (by kernel_rfl) rfl #[.int .i64 x1_1] rfl mq ?_; (with_reducible refine (laws_markText.calls k1 x1_1 t106 _ A4.out).mono ?_); rintro e w8 ⟨rfl, hb⟩; refine ⟨_, rfl, ?_⟩; replace HO_0 := am (Kd.R_below (rq HO_0.out) hb); replace HK := am (Kept.below (S := (fun k_ => P0_ k_)) b6_ hb); replace HB := am (below_step bel hb); (try clear hb); (try clear hb2); (try clear hk); (try clear hi); have p6 : 0 ≤ (x5_1 : Int) := of_decide_eq_true ad; have q6 : (x5_1 : Int) < ((x0_1.length : Int) : Int) := of_decide_eq_true ad; obtain ⟨go6, co6, eo6, gb6, gl6, cl6, HG6⟩ := Kd.R_form HO_0.out (by omega); (first | cases eo6 | (injection eo6 with ea_ en_ ec_; (first | subst ea_ | (injection ea_ with ea_; subst ea_)); subst ec_; clear en_)); have GB6 := Aside0.mk gb6; have GG6 := am HG6; clear gb6 gl6 HG6; have HMgo6 := am (show (P0_ go6 ∨ w.heap.size ≤ go6) from (HO_0.out.1 _ rfl)); obtain ⟨hx6_0, hf6_0⟩ := Kd.R_celln (⟨#[]⟩ : ByteArray) HO_0.out (x5_1 : Int) p6 q6; replace p6 := eq_true p6; replace q6 := eq_true q6; obtain ⟨hy9_, hz9_⟩ := Kd.R_celln (⟨#[]⟩ : ByteArray) HO_0.out (x5_1 : Int) (of_decide_eq_true ad) (of_decide_eq_true ad); have HP9 := Kd.R_putg HO_0.out (x5_1 : Int) t106) | ((with_reducible refine gate_store (t := 9) (p := 16) rfl ?_); refine store_event (t := 9) (p := 16) (v := ?vo_w10) (w1 := (w8.setCell ⟨go6, (x5_1 : Int).toNat, none⟩ (.string t106))) ?hg ?ho ?hn ?hr ?_; (case ho => rfl); (case hg => rfl); (case hn => rfl); (case hr => first | (go_simp; done) | (go_simp; rfl)); intro w10 hw; have hg : w8.grownBy w10 (some go6) := (by rw [hw]; exact HP9.2); have hp_ : Kd.R Kd.string 9 w10 w0.heap.size (fun k_ => (P0_ k_ ∨ w.heap.size ≤ k_)) (.slice (some ⟨go6, 0, none⟩) x0_1.length co7) y107 := (by rw [hw, Ny107.out]; exact HP9.1); clear HP9; replace HB := am ((by rw [hw]; exact below_set (HB.out) GB6.out : Below w0.heap.size w0 w10)); replace HK := am (Kept.of_grown (S := (fun k_ => P0_ k_)) hg b6_ (fun k_ e_ => (HO_0.out.1 k_ e_))); replace HO_0 := am (hp_); clear hg hw hp_))
    go_roundg k1
    case measure => have := HK1.out; omega
    case rel => exact ⟨(y107), (wrap64 (x1_1 + 1)), (wrap64 (x5_1 + 1)), sq, sq, H', ⟨b21_⟩, ⟨rq HO_0.out⟩, ⟨b6_⟩, ⟨bel⟩⟩
   rw [if_neg c3] at H; have c3b0 := decide_eq_false c3; clear c3
   simp only [Option.some.injEq, Prod.mk.injEq] at H
   obtain ⟨rfl, rfl⟩ := H; obtain ⟨Ao11, co11, eo11⟩ := Kd.R_slice HO_0.out; subst eo11; go_wp2; go_ret
   exact ⟨eq_, by (with_reducible repeat (first | apply Kd.R_alloc | apply Kd.R_drewN | apply Kd.R_drew)); exact HO_0.out, bel, b6_⟩

/-! ### laws_szEdgeS: function 112 -/
def laws_szEdgeS.f (l0 : List (S156)) (a1 : Int) : Option (Int) := if (wrap64 (a1 - (l0.length : Int))) < 0 then (some (-1)) else (some (wrap64 (a1 - (l0.length : Int))))
theorem laws_szEdgeS.calls (A0 : Option Addr) (c0 : Nat) (l0 : List (S156)) (a1 : Int) (r : Int) (w : World) (hr0 : Kd.C k156 w A0 l0.length l0) (hc0 : l0.length ≤ c0) (h : laws_szEdgeS.f l0 a1 = some r) :
  Calls Try.prog 112 #[.slice A0 l0.length c0, .int .i64 a1] w fun e w' => e = .returned (.int .i64 r) ∧ Drawn0 w w' := by
 have HR0 := am hr0; have HC0 := am hc0; clear hr0 hc0
 have H : (if (wrap64 (a1 - (l0.length : Int))) < 0 then (some (-1)) else (some (wrap64 (a1 - (l0.length : Int))))) = some r := h
 clear h
 by_cases c3 : (wrap64 (a1 - (l0.length : Int))) < 0
 ·rw [if_pos c3] at H; have c3b0 := decide_eq_true c3; clear c3; obtain rfl := Option.some.inj H; go_enter Try.func112, Try.ntmps112; go_wp2; go_ret
  exact ⟨sq, dr⟩
 rw [if_neg c3] at H; have c3b0 := decide_eq_false c3; clear c3; obtain rfl := Option.some.inj H; go_enter Try.func112, Try.ntmps112; go_wp2; go_ret
 exact ⟨sq, dr⟩

/-! ### laws_szState: function 69 -/
def laws_szState.f (a0_0 : Bool) (l0_1 : List (S156)) (a1 : Int) : Option (Int) := (laws_szEdgeS.f l0_1 a1).bind fun t109 => (if t109 < 0 then (some (-1)) else (some t109))
theorem laws_szState.calls (a0_0 : Bool) (A0_1 : Option Addr) (c0_1 : Nat) (l0_1 : List (S156)) (a1 : Int) (r : Int) (w : World) (hr0_1 : Kd.C k156 w A0_1 l0_1.length l0_1) (hc0_1 : l0_1.length ≤ c0_1) (h : laws_szState.f a0_0 l0_1 a1 = some r) :
  Calls Try.prog 69 #[.agg #[.bool a0_0, .slice A0_1 l0_1.length c0_1], .int .i64 a1] w fun e w' => e = .returned (.int .i64 r) ∧ Below w.heap.size w w' := by
 have hu90 := Try.underlying90; have HR0_1 := am hr0_1; have HC0_1 := am hc0_1; clear hr0_1 hc0_1; have HB := am (Below.refl w.heap.size w)
 have H : ((laws_szEdgeS.f l0_1 a1).bind fun t109 => (if t109 < 0 then (some (-1)) else (some t109))) = some r := h
 clear h; replace H := bs H; obtain ⟨t109, A30, H⟩ := H; replace H : (if t109 < 0 then (some (-1)) else (some t109)) = some r := H; have A3 := Aside0.mk A30; clear A30
 by_cases c4 : t109 < 0
 ·rw [if_pos c4] at H; have c4b0 := decide_eq_true c4; clear c4; obtain rfl := Option.some.inj H; go_enter Try.func69, Try.ntmps69
  go_wp2_with (first | ((with_reducible refine gate_dst (N := 2) rfl ?_); refine bx 2 (cs := #[.bool a0_0, .slice A0_1 l0_1.length c0_1]) (t := 90) ?_; intro gb108 hg w5 hbox hb; have BK108 := am (hbox); have GW108 := am ((b7_ : w.heap.size ≤ gb108)); have GE108 := am ((b7_ : w.heap.size ≤ gb108)); replace HB := am (below_step bel hb); clear hb hbox hg; have hcz6_0 := bc BK108.out 0; have hcz6_1 := bc BK108.out 1; have hfz6_0 := bf BK108.out 0; have hfz6_1 := bf BK108.out 1) | ((with_reducible refine gate_callee (f := 112) rfl ?_); refine goesL_ (some 8) rfl rfl Try.func112 (by kernel_rfl) rfl #[.slice A0_1 l0_1.length c0_1, .int .i64 a1] rfl mq ?_; (with_reducible refine (laws_szEdgeS.calls _ _ l0_1 a1 t109 _ ?side1 ?side2 A3.out).mono ?_); (case side1 => exact cq (Kd.C_below HR0_1.out HB.out)); (case side2 => exact HC0_1.out); rintro e w' ⟨rfl, ⟨nd, rfl⟩⟩; refine ⟨_, rfl, ?_⟩))
  go_ret
  exact ⟨eq_, bel1 GE108.out⟩
 rw [if_neg c4] at H; have c4b0 := decide_eq_false c4; clear c4; obtain rfl := Option.some.inj H; go_enter Try.func69, Try.ntmps69
 go_wp2_with (first | ((with_reducible refine gate_dst (N := 2) rfl ?_); refine bx 2 (cs := #[.bool a0_0, .slice A0_1 l0_1.length c0_1]) (t := 90) ?_; intro gb108 hg w7 hbox hb; have BK108 := am (hbox); have GW108 := am ((b7_ : w.heap.size ≤ gb108)); have GE108 := am ((b7_ : w.heap.size ≤ gb108)); replace HB := am (below_step bel hb); clear hb hbox hg; have hcz8_0 := bc BK108.out 0; have hcz8_1 := bc BK108.out 1; have hfz8_0 := bf BK108.out 0; have hfz8_1 := bf BK108.out 1) | ((with_reducible refine gate_callee (f := 112) rfl ?_); refine goesL_ (some 8) rfl rfl Try.func112 (by kernel_rfl) rfl #[.slice A0_1 l0_1.length c0_1, .int .i64 a1] rfl mq ?_; (with_reducible refine (laws_szEdgeS.calls _ _ l0_1 a1 t109 _ ?side1 ?side2 A3.out).mono ?_); (case side1 => exact cq (Kd.C_below HR0_1.out HB.out)); (case side2 => exact HC0_1.out); rintro e w' ⟨rfl, ⟨nd, rfl⟩⟩; refine ⟨_, rfl, ?_⟩))
 go_ret
 exact ⟨eq_, bel1 GE108.out⟩

/-! ### laws_szStateS: function 25 -/
def laws_szStateS.l0 : Nat → List (S90) → Int → Int → Option (Int)
 | 0, _, _, _ => none
 | k + 1, x0, x1, x5 => if x5 < (x0.length : Int) then (if 0 ≤ x5 then ((laws_szState.f ((rd_T90 x0 x5).f0) ((rd_T90 x0 x5).f1) x1).bind fun t111 => (if t111 < 0 then (some (-1)) else (laws_szStateS.l0 k x0 t111 (wrap64 (x5 + 1))))) else (none)) else (some x1)
def laws_szStateS.f (k : Nat) (l0 : List (S90)) (a1 : Int) : Option (Int) := if (wrap64 (a1 - (l0.length : Int))) < 0 then (some (-1)) else (laws_szStateS.l0 k l0 (wrap64 (a1 - (l0.length : Int))) 0)
theorem laws_szStateS.calls (k : Nat) (A0 : Option Addr) (c0 : Nat) (l0 : List (S90)) (a1 : Int) (r : Int) (w : World) (hr0 : Kd.C k90 w A0 l0.length l0) (hc0 : l0.length ≤ c0) (h : laws_szStateS.f k l0 a1 = some r) :
  Calls Try.prog 25 #[.slice A0 l0.length c0, .int .i64 a1] w fun e w' => e = .returned (.int .i64 r) ∧ Below w.heap.size w w' := by
 have hu90 := Try.underlying90; have HR0 := am hr0; have HC0 := am hc0; clear hr0 hc0; have HB := am (Below.refl w.heap.size w)
 have H : (if (wrap64 (a1 - (l0.length : Int))) < 0 then (some (-1)) else (laws_szStateS.l0 k l0 (wrap64 (a1 - (l0.length : Int))) 0)) = some r := h
 clear h
 by_cases c3 : (wrap64 (a1 - (l0.length : Int))) < 0
 ·rw [if_pos c3] at H; have c3b0 := decide_eq_true c3; clear c3; obtain rfl := Option.some.inj H; go_enter Try.func25, Try.ntmps25; go_wp2; go_ret
  exact ⟨eq_, bel⟩
 rw [if_neg c3] at H; have c3b0 := decide_eq_false c3; clear c3
 have H' := am H
 clear H; go_enter Try.func25, Try.ntmps25; go_wp2
 go_loopg [1, 5] k (fun kq v1 v5 w' => ∃ (x1_1 : Int) (x5_1 : Int), v1 = .int .i64 x1_1 ∧ v5 = .int .i64 x5_1 ∧ Aside0 (laws_szStateS.l0 kq l0 x1_1 x5_1 = some r) ∧ Aside0 (kq ≤ k) ∧ Aside0 (Below w.heap.size w w'))
 case atStart => exact ⟨(wrap64 (a1 - (l0.length : Int))), (0), sq, sq, H', ⟨Nat.le_refl _⟩, ⟨bel⟩⟩
 case round =>
  clear H'; (try clear c2); (try clear p2); (try clear c3); (try clear c3b0); obtain ⟨x1_1, x5_1, rfl, rfl, HA, HK1, HB⟩ := hrel
  cases gk with
  | zero => exact absurd HA.out (by simp [laws_szStateS.l0])
  | succ k1 =>
   have H := HA.out; clear HA
   simp only [laws_szStateS.l0] at H
   by_cases c4 : x5_1 < (l0.length : Int)
   ·rw [if_pos c4] at H; have c4b0 := decide_eq_true c4; clear c4
    replace H := it H; obtain ⟨c5b0, H⟩ := H; replace H := bs H; obtain ⟨t111, A60, H⟩ := H; replace H : (if t111 < 0 then (some (-1)) else (laws_szStateS.l0 k1 l0 t111 (wrap64 (x5_1 + 1)))) = some r := H; have A6 := Aside0.mk A60; clear A60
    by_cases c7 : t111 < 0
    ·rw [if_pos c7] at H; have c7b0 := decide_eq_true c7; clear c7; obtain rfl := Option.some.inj H
     have p110 : 0 ≤ (x5_1 : Int) := of_decide_eq_true ad
     have q110 : x5_1 < (l0.length : Int) := of_decide_eq_true ad
     obtain ⟨ad110, A110_1, c110_1, e110, hx110_0, hx110_1, hl110_1, hi110_1⟩ := at_T90 HR0.out x5_1 p110 q110
     cases e110
     replace hx110_0 := kp HB.out hx110_0; replace hx110_1 := kp HB.out hx110_1; have HR110_1 := am hi110_1; have HC110_1 := am hl110_1; clear hi110_1 hl110_1; replace p110 := eq_true p110; replace q110 := eq_true q110
     go_wp2_with (first | ((with_reducible refine gate_callee (f := 69) rfl ?_); refine goesL_ (some 23) rfl rfl Try.func69 (by kernel_rfl) rfl #[.agg #[.bool ((rd_T90 l0 x5_1).f0), .slice A110_1 ((rd_T90 l0 x5_1).f1).length c110_1], .int .i64 x1_1] rfl mq ?_; (with_reducible refine (laws_szState.calls ((rd_T90 l0 x5_1).f0) _ _ ((rd_T90 l0 x5_1).f1) x1_1 t111 _ ?side1 ?side2 A6.out).mono ?_); (case side1 => exact cq (Kd.C_below HR110_1.out HB.out)); (case side2 => exact HC110_1.out); rintro e w8 ⟨rfl, hb⟩; refine ⟨_, rfl, ?_⟩; replace HB := am (below_step bel hb); (try clear hb); (try clear hb2); (try clear hk); (try clear hi)))
     go_ret
     exact ⟨eq_, bel⟩
    rw [if_neg c7] at H; have c7b0 := decide_eq_false c7; clear c7
    have H' := am H
    clear H
    have p110 : 0 ≤ (x5_1 : Int) := of_decide_eq_true ad
    have q110 : x5_1 < (l0.length : Int) := of_decide_eq_true ad
    obtain ⟨ad110, A110_1, c110_1, e110, hx110_0, hx110_1, hl110_1, hi110_1⟩ := at_T90 HR0.out x5_1 p110 q110
    cases e110
    replace hx110_0 := kp HB.out hx110_0; replace hx110_1 := kp HB.out hx110_1; have HR110_1 := am hi110_1; have HC110_1 := am hl110_1; clear hi110_1 hl110_1; replace p110 := eq_true p110; replace q110 := eq_true q110
    go_wp2_with (first | ((with_reducible refine gate_callee (f := 69) rfl ?_); refine goesL_ (some 23) rfl rfl Try.func69 (by kernel_rfl) rfl #[.agg #[.bool ((rd_T90 l0 x5_1).f0), .slice A110_1 ((rd_T90 l0 x5_1).f1).length c110_1], .int .i64 x1_1] rfl mq ?_; (with_reducible refine (laws_szState.calls ((rd_T90 l0 x5_1).f0) _ _ ((rd_T90 l0 x5_1).f1) x1_1 t111 _ ?side1 ?side2 A6.out).mono ?_); (case side1 => exact cq (Kd.C_below HR110_1.out HB.out)); (case side2 => exact HC110_1.out); rintro e w9 ⟨rfl, hb⟩; refine ⟨_, rfl, ?_⟩; replace HB := am (below_step bel hb); (try clear hb); (try clear hb2); (try clear hk); (try clear hi)))
    go_roundg k1
    case measure => have := HK1.out; omega
    case rel => exact ⟨(t111), (wrap64 (x5_1 + 1)), sq, sq, H', ⟨b21_⟩, ⟨bel⟩⟩
   rw [if_neg c4] at H; have c4b0 := decide_eq_false c4; clear c4; obtain rfl := Option.some.inj H; go_wp2; go_ret
   exact ⟨eq_, bel⟩

/-! ### spec_l1In: function 78 -/
def spec_l1In.f (a0 : Int) (a1 : Int) (a2 : Int) : Option (Bool) := if a0 ≥ a1 then (some (decide (a0 ≤ a2))) else (some false)
theorem spec_l1In.calls (a0 : Int) (a1 : Int) (a2 : Int) (r : Bool) (w : World) (h : spec_l1In.f a0 a1 a2 = some r) :
  Calls Try.prog 78 #[.int .i64 a0, .int .i64 a1, .int .i64 a2] w fun e w' => e = .returned (.bool r) ∧ Drawn0 w w' := by
 have H : (if a0 ≥ a1 then (some (decide (a0 ≤ a2))) else (some false)) = some r := h
 clear h
 by_cases c4 : a0 ≥ a1
 ·rw [if_pos c4] at H; have c4b0 := decide_eq_true c4; clear c4; obtain rfl := Option.some.inj H; go_enter Try.func78, Try.ntmps78; go_wp2; go_ret
  exact ⟨sq, dr⟩
 rw [if_neg c4] at H; have c4b0 := decide_eq_false c4; clear c4; obtain rfl := Option.some.inj H; go_enter Try.func78, Try.ntmps78; go_wp2; go_ret
 exact ⟨sq, dr⟩
-- shrunk

/-! ### spec_l3Deep: function 79 -/
mutual
def spec_l3Deep.l0 : Nat → List (S94) → List Int → Int → Option (Int)
 | 0, _, _, _ => none
 | k + 1, x0, x3, x4 => if x4 ≥ 0 then (spec_l3Deep.l1 k x0 x3 x4 0) else (if 0 < (x3.length : Int) then (some (rd x3 0)) else (none))
def spec_l3Deep.l1 : Nat → List (S94) → List Int → Int → Int → Option (Int)
 | 0, _, _, _, _ => none
 | k + 1, x0, x3, x4, x5 => if 0 ≤ x4 then (if x4 < (x0.length : Int) then (if x5 < (((rd_T94 x0 x4).f1).length : Int) then (if 0 ≤ x5 then (if 0 ≤ ((rd_T100 ((rd_T94 x0 x4).f1) x5).f1) then (if ((rd_T100 ((rd_T94 x0 x4).f1) x5).f1) < (x3.length : Int) then (if x4 < (x3.length : Int) then (if (wrap64 ((rd x3 ((rd_T100 ((rd_T94 x0 x4).f1) x5).f1)) + 1)) > (rd x3 x4) then (spec_l3Deep.l1 k x0 (x3.set (x4 : Int).toNat (wrap64 ((rd x3 ((rd_T100 ((rd_T94 x0 x4).f1) x5).f1)) + 1))) x4 (wrap64 (x5 + 1))) else (spec_l3Deep.l1 k x0 x3 x4 (wrap64 (x5 + 1)))) else (none)) else (none)) else (none)) else (none)) else (spec_l3Deep.l0 k x0 x3 (wrap64 (x4 - 1)))) else (none)) else (none)
end
def spec_l3Deep.f (k : Nat) (l0 : List (S94)) : Option (Int) := if 0 ≤ (l0.length : Int) then (if l0.length ≤ 35184372088832 then (spec_l3Deep.l0 k l0 (List.replicate l0.length 0) (wrap64 ((l0.length : Int) - 1))) else (none)) else (none)
theorem spec_l3Deep.calls (k : Nat) (A0 : Option Addr) (c0 : Nat) (l0 : List (S94)) (r : Int) (w : World) (hr0 : Kd.C k94 w A0 l0.length l0) (hc0 : l0.length ≤ c0) (h : spec_l3Deep.f k l0 = some r) :
  Calls Try.prog 79 #[.slice A0 l0.length c0] w fun e w' => e = .returned (.int .i64 r) ∧ Below w.heap.size w w' := by
 have HR0 := am hr0; have HC0 := am hc0; clear hr0 hc0; have HB := am (Below.refl w.heap.size w)
 have H : (if 0 ≤ (l0.length : Int) then (if l0.length ≤ 35184372088832 then (spec_l3Deep.l0 k l0 (List.replicate l0.length 0) (wrap64 ((l0.length : Int) - 1))) else (none)) else (none)) = some r := h
 clear h
 replace H := ip H; obtain ⟨c2, H⟩ := H; have c2b0 := eq_true c2
 have c2b1 : decide (0 ≤ (l0.length : Int)) = true := decide_eq_true c2
 clear c2
 replace H := ip H; obtain ⟨c3, H⟩ := H; have c3b0 := eq_true c3
 have c3b1 : decide (l0.length ≤ 35184372088832) = true := decide_eq_true c3
 clear c3; obtain ⟨y112, hy112⟩ : ∃ y_ : List Int, y_ = (List.replicate l0.length 0) := ⟨_, rfl⟩
 replace H : (spec_l3Deep.l0 k l0 y112 (wrap64 ((l0.length : Int) - 1))) = some r := by first | (rw [hy112]; with_reducible exact H) | (have H2_ := bm H; rw [hy112]; with_reducible exact H2_) | (with_reducible exact bm H) | with_reducible exact H | (rw [hy112]; exact H) | exact H
 have Ny112 := am hy112; clear hy112
 have H' := am H
 clear H; go_enter Try.func79, Try.ntmps79
 go_wp2_with (first | ((with_reducible refine gate_dst (N := 9) rfl ?_); refine Kd.R_make (Kd.int .i64) _ 3 rfl (N := 9) rfl 86 _ _ rfl (l0.length : Int) rfl rfl Try.underlying86 (.int .i64 0) 8 info3 rfl (by decide) (by omega) 0 (ok := fun _ => True) (okp := fun _ => True) rfl (fun _ hk => hk) trivial (of_decide_eq_true ad) (Nat.le_trans (Nat.mul_le_mul_right _ (of_decide_eq_true ad : (l0.length : Int).toNat ≤ 35184372088832)) (by omega)) (Below.refl _ _) (Nat.le_refl _) ?_; intro v113 w4 ho5 hb hg_ hnew_; clear hg_ hnew_; (first | rw [← Ny112.out] at ho5 | (simp only [Int.reduceToNat] at ho5; rw [← Ny112.out] at ho5) | (simp only [Int.toNat_natCast] at ho5; rw [← Ny112.out] at ho5)); have HO114 := am (Kd.R_lower ho5 (below_size bel)); replace HB := am (below_step bel hb); clear hb ho5))
 go_loopg [4] k (fun kq v4 w' => ∃ (x3_1 : List Int) (x4_1 : Int), v4 = .int .i64 x4_1 ∧ Aside0 (spec_l3Deep.l0 kq l0 x3_1 x4_1 = some r) ∧ Aside0 (kq ≤ k) ∧ Aside0 (Kd.R (Kd.int .i64) 3 w' w.heap.size (fun _ => True) v113 x3_1) ∧ Aside0 (Below w.heap.size w w'))
 case atStart => exact ⟨(y112), (wrap64 ((l0.length : Int) - 1)), sq, H', ⟨Nat.le_refl _⟩, ⟨rq HO114.out⟩, ⟨bel⟩⟩
 case round =>
  clear H'; (try clear c2); (try clear c2b0); (try clear c2b1); (try clear p2); (try clear c3); (try clear c3b0); (try clear c3b1); obtain ⟨x3_1, x4_1, rfl, HA, HK1, HO_3, HB⟩ := hrel
  cases gk with
  | zero => exact absurd HA.out (by simp [spec_l3Deep.l0])
  | succ k1 =>
   have H := HA.out; clear HA
   simp only [spec_l3Deep.l0] at H
   by_cases c6 : x4_1 ≥ 0
   ·rw [if_pos c6] at H; have c6b0 := decide_eq_true c6; clear c6
    have H' := am H
    clear H; go_wp2
    go_loopg [5] k1 (fun kq v5 w' => ∃ (x3_2 : List Int) (x5_2 : Int), v5 = .int .i64 x5_2 ∧ Aside0 (spec_l3Deep.l1 kq l0 x3_2 x4_1 x5_2 = some r) ∧ Aside0 (kq ≤ k1) ∧ Aside0 (Kd.R (Kd.int .i64) 3 w' w.heap.size (fun _ => True) v113 x3_2) ∧ Aside0 (Below w.heap.size w w'))
    case atStart => exact ⟨(x3_1), (0), sq, H', ⟨Nat.le_refl _⟩, ⟨rq HO_3.out⟩, ⟨bel⟩⟩
    case round =>
     clear H'; (try clear c2); (try clear c2b0); (try clear c2b1); (try clear p2); (try clear c3); (try clear c3b0); (try clear c3b1); (try clear c6); (try clear c6b0); (try clear p6); (try clear p2); obtain ⟨x3_2, x5_2, rfl, HA, HK2, HO_3, HB⟩ := hrel
     cases gk with
     | zero => exact absurd HA.out (by simp [spec_l3Deep.l1])
     | succ k2 =>
      have H := HA.out; clear HA
      simp only [spec_l3Deep.l1] at H
      replace H := it H; obtain ⟨c7b0, H⟩ := H
      replace H := it H; obtain ⟨c8b0, H⟩ := H
      by_cases c9 : x5_2 < (((rd_T94 l0 x4_1).f1).length : Int)
      ·rw [if_pos c9] at H; have c9b0 := decide_eq_true c9; clear c9
       replace H := it H; obtain ⟨c10b0, H⟩ := H
       replace H := it H; obtain ⟨c11b0, H⟩ := H
       replace H := it H; obtain ⟨c12b0, H⟩ := H
       replace H := it H; obtain ⟨c13b0, H⟩ := H
       by_cases c14 : (wrap64 ((rd x3_2 ((rd_T100 ((rd_T94 l0 x4_1).f1) x5_2).f1)) + 1)) > (rd x3_2 x4_1)
       ·rw [if_pos c14] at H; have c14b0 := decide_eq_true c14; clear c14; obtain ⟨y121, hy121⟩ : ∃ y_ : List Int, y_ = (x3_2.set (x4_1 : Int).toNat (wrap64 ((rd x3_2 ((rd_T100 ((rd_T94 l0 x4_1).f1) x5_2).f1)) + 1))) := ⟨_, rfl⟩
        replace H : (spec_l3Deep.l1 k2 l0 y121 x4_1 (wrap64 (x5_2 + 1))) = some r := by first | (rw [hy121]; with_reducible exact H) | (have H2_ := bm H; rw [hy121]; with_reducible exact H2_) | (with_reducible exact bm H) | with_reducible exact H | (rw [hy121]; exact H) | exact H
        have Ny121 := am hy121; clear hy121
        have H' := am H
        clear H
        have p116 : 0 ≤ (x4_1 : Int) := of_decide_eq_true ad
        have q116 : x4_1 < (l0.length : Int) := of_decide_eq_true ad
        obtain ⟨ad116, A116_1, c116_1, e116, hx116_0, hx116_1, hl116_1, hi116_1⟩ := at_T94 HR0.out x4_1 p116 q116
        cases e116
        replace hx116_0 := kp HB.out hx116_0; replace hx116_1 := kp HB.out hx116_1; have HR116_1 := am hi116_1; have HC116_1 := am hl116_1; clear hi116_1 hl116_1; replace p116 := eq_true p116; replace q116 := eq_true q116
        have p117 : 0 ≤ (x4_1 : Int) := of_decide_eq_true ad
        have q117 : x4_1 < (l0.length : Int) := of_decide_eq_true ad
        obtain ⟨ad117, A117_1, c117_1, e117, hx117_0, hx117_1, hl117_1, hi117_1⟩ := at_T94 HR0.out x4_1 p117 q117
        obtain rfl : ad116 = ad117 := (by injection e117)
        replace hx117_0 := kp HB.out hx117_0; replace hx117_1 := kp HB.out hx117_1; have HR117_1 := am hi117_1; have HC117_1 := am hl117_1; clear hi117_1 hl117_1; replace p117 := eq_true p117; replace q117 := eq_true q117; have ea_ := Option.some.inj (hx116_1.symm.trans hx117_1)
        injection ea_ with ea_ en_ ec_
        subst ea_; subst ec_; clear en_
        have p118 : 0 ≤ (x5_2 : Int) := of_decide_eq_true ad
        have q118 : x5_2 < (((rd_T94 l0 x4_1).f1).length : Int) := of_decide_eq_true ad
        obtain ⟨ad118, e118, hx118_0, hx118_1⟩ := at_T100 HR117_1.out x5_2 p118 q118
        cases e118
        replace hx118_0 := kp HB.out hx118_0; replace hx118_1 := kp HB.out hx118_1; replace p118 := eq_true p118; replace q118 := eq_true q118; obtain ⟨Ao16, co16, eo16⟩ := Kd.R_slice HO_3.out; subst eo16
        have p119 : 0 ≤ (((rd_T100 ((rd_T94 l0 x4_1).f1) x5_2).f1) : Int) := of_decide_eq_true ad
        have q119 : ((rd_T100 ((rd_T94 l0 x4_1).f1) x5_2).f1) < (x3_2.length : Int) := of_decide_eq_true ad
        obtain ⟨ad119, e119, hx119_0⟩ := Kd.at_int (Kd.R_reads' HO_3.out).2.2 ((rd_T100 ((rd_T94 l0 x4_1).f1) x5_2).f1) p119 q119
        cases e119
        replace p119 := eq_true p119; replace q119 := eq_true q119
        have p120 : 0 ≤ (x4_1 : Int) := of_decide_eq_true ad
        have q120 : x4_1 < (x3_2.length : Int) := of_decide_eq_true ad
        obtain ⟨ad120, e120, hx120_0⟩ := Kd.at_int (Kd.R_reads' HO_3.out).2.2 x4_1 p120 q120
        obtain rfl : ad119 = ad120 := (by injection e120)
        replace p120 := eq_true p120; replace q120 := eq_true q120
        have p15 : 0 ≤ (x4_1 : Int) := of_decide_eq_true ad
        have q15 : (x4_1 : Int) < ((x3_2.length : Int) : Int) := of_decide_eq_true ad
        obtain ⟨go15, co15, eo15, gb15, gl15, cl15, HG15⟩ := Kd.R_form HO_3.out (by omega)
        (first | cases eo15 | (injection eo15 with ea_ en_ ec_; (first | subst ea_ | (injection ea_ with ea_; subst ea_)); subst ec_; clear en_))
        have GB15 := Aside0.mk gb15; have GG15 := am HG15; clear gb15 gl15 HG15
        (first | simp only [add_plain] at hx119_0 | skip)
        (first | simp only [add_plain] at hx120_0 | skip)
        obtain ⟨hx15_0, hf15_0⟩ := Kd.R_celln 0 HO_3.out (x4_1 : Int) p15 q15; replace p15 := eq_true p15; replace q15 := eq_true q15; have HP17 := Kd.R_putg HO_3.out (x4_1 : Int) (wrap64 ((rd x3_2 ((rd_T100 ((rd_T94 l0 x4_1).f1) x5_2).f1)) + 1))
        go_wp2_with (first | ((with_reducible refine gate_store (t := 3) (p := 49) rfl ?_); refine store_event (t := 3) (p := 49) (v := ?vo_w18) (w1 := (wr.setCell ⟨go15, (x4_1 : Int).toNat, none⟩ (.int .i64 (wrap64 ((rd x3_2 ((rd_T100 ((rd_T94 l0 x4_1).f1) x5_2).f1)) + 1))))) ?hg ?ho ?hn ?hr ?_; (case ho => rfl); (case hg => rfl); (case hn => rfl); (case hr => first | (go_simp; done) | (go_simp; rfl)); intro w18 hw; have hg : wr.grownBy w18 (some go15) := (by rw [hw]; exact HP17.2); have hp_ : Kd.R (Kd.int .i64) 3 w18 w.heap.size (fun _ => True) (.slice (some ⟨go15, 0, none⟩) x3_2.length co16) y121 := (by rw [hw, Ny121.out]; exact HP17.1); clear HP17; replace HO_3 := am (hp_); replace HB := am ((by rw [hw]; exact below_set (HB.out) GB15.out : Below w.heap.size w w18)); clear hg hw hp_))
        go_roundg k2
        case measure => have := HK1.out; have := HK2.out; omega
        case rel => exact ⟨(y121), (wrap64 (x5_2 + 1)), sq, H', ⟨b15_⟩, ⟨rq HO_3.out⟩, ⟨bel⟩⟩
       rw [if_neg c14] at H; have c14b0 := decide_eq_false c14; clear c14
       have H' := am H
       clear H
       have p116 : 0 ≤ (x4_1 : Int) := of_decide_eq_true ad
       have q116 : x4_1 < (l0.length : Int) := of_decide_eq_true ad
       obtain ⟨ad116, A116_1, c116_1, e116, hx116_0, hx116_1, hl116_1, hi116_1⟩ := at_T94 HR0.out x4_1 p116 q116
       cases e116
       replace hx116_0 := kp HB.out hx116_0; replace hx116_1 := kp HB.out hx116_1; have HR116_1 := am hi116_1; have HC116_1 := am hl116_1; clear hi116_1 hl116_1; replace p116 := eq_true p116; replace q116 := eq_true q116
       have p117 : 0 ≤ (x4_1 : Int) := of_decide_eq_true ad
       have q117 : x4_1 < (l0.length : Int) := of_decide_eq_true ad
       obtain ⟨ad117, A117_1, c117_1, e117, hx117_0, hx117_1, hl117_1, hi117_1⟩ := at_T94 HR0.out x4_1 p117 q117
       obtain rfl : ad116 = ad117 := (by injection e117)
       replace hx117_0 := kp HB.out hx117_0; replace hx117_1 := kp HB.out hx117_1; have HR117_1 := am hi117_1; have HC117_1 := am hl117_1; clear hi117_1 hl117_1; replace p117 := eq_true p117; replace q117 := eq_true q117; have ea_ := Option.some.inj (hx116_1.symm.trans hx117_1)
       injection ea_ with ea_ en_ ec_
       subst ea_; subst ec_; clear en_
       have p118 : 0 ≤ (x5_2 : Int) := of_decide_eq_true ad
       have q118 : x5_2 < (((rd_T94 l0 x4_1).f1).length : Int) := of_decide_eq_true ad
       obtain ⟨ad118, e118, hx118_0, hx118_1⟩ := at_T100 HR117_1.out x5_2 p118 q118
       cases e118
       replace hx118_0 := kp HB.out hx118_0; replace hx118_1 := kp HB.out hx118_1; replace p118 := eq_true p118; replace q118 := eq_true q118; obtain ⟨Ao19, co19, eo19⟩ := Kd.R_slice HO_3.out; subst eo19
       have p119 : 0 ≤ (((rd_T100 ((rd_T94 l0 x4_1).f1) x5_2).f1) : Int) := of_decide_eq_true ad
       have q119 : ((rd_T100 ((rd_T94 l0 x4_1).f1) x5_2).f1) < (x3_2.length : Int) := of_decide_eq_true ad
       obtain ⟨ad119, e119, hx119_0⟩ := Kd.at_int (Kd.R_reads' HO_3.out).2.2 ((rd_T100 ((rd_T94 l0 x4_1).f1) x5_2).f1) p119 q119
       cases e119
       replace p119 := eq_true p119; replace q119 := eq_true q119
       have p120 : 0 ≤ (x4_1 : Int) := of_decide_eq_true ad
       have q120 : x4_1 < (x3_2.length : Int) := of_decide_eq_true ad
       obtain ⟨ad120, e120, hx120_0⟩ := Kd.at_int (Kd.R_reads' HO_3.out).2.2 x4_1 p120 q120
       obtain rfl : ad119 = ad120 := (by injection e120)
       replace p120 := eq_true p120; replace q120 := eq_true q120; go_wp2
       go_roundg k2
       case measure => have := HK1.out; have := HK2.out; omega
       case rel => exact ⟨(x3_2), (wrap64 (x5_2 + 1)), sq, H', ⟨b15_⟩, ⟨rq HO_3.out⟩, ⟨bel⟩⟩
      rw [if_neg c9] at H; have c9b0 := decide_eq_false c9; clear c9
      have H' := am H
      clear H
      have p116 : 0 ≤ (x4_1 : Int) := of_decide_eq_true ad
      have q116 : x4_1 < (l0.length : Int) := of_decide_eq_true ad
      obtain ⟨ad116, A116_1, c116_1, e116, hx116_0, hx116_1, hl116_1, hi116_1⟩ := at_T94 HR0.out x4_1 p116 q116
      cases e116
      replace hx116_0 := kp HB.out hx116_0; replace hx116_1 := kp HB.out hx116_1; have HR116_1 := am hi116_1; have HC116_1 := am hl116_1; clear hi116_1 hl116_1; replace p116 := eq_true p116; replace q116 := eq_true q116; go_wp2
      go_roundg k2
      case measure => have := HK1.out; have := HK2.out; omega
      case rel => exact ⟨(x3_2), (wrap64 (x4_1 - 1)), sq, H', ⟨b15_⟩, ⟨rq HO_3.out⟩, ⟨bel⟩⟩
   rw [if_neg c6] at H; have c6b0 := decide_eq_false c6; clear c6
   replace H := ip H; obtain ⟨c20, H⟩ := H; have c20b0 := decide_eq_true c20
   have c20b1 : decide (0 < x3_1.length) = true := decide_eq_true (by omega)
   clear c20; obtain rfl := Option.some.inj H; obtain ⟨Ao21, co21, eo21⟩ := Kd.R_slice HO_3.out; subst eo21
   have p115 : 0 ≤ (0 : Int) := (by omega)
   have q115 : 0 < (x3_1.length : Int) := of_decide_eq_true ad
   obtain ⟨ad115, e115, hx115_0⟩ := Kd.at_int (Kd.R_reads' HO_3.out).2.2 0 p115 q115
   cases e115
   have qi115 : (0 < x3_1.length) = True := eq_true (by omega)
   (try rw [show ((0 : Int)).toNat = 0 from rfl] at hx115_0)
   (try rw [Addr.add_zero'] at hx115_0)
   replace p115 := eq_true p115; replace q115 := eq_true q115; go_wp2; go_ret
   exact ⟨eq_, bel⟩
-- shrunk

/-! ### spec_MachineOk: function 34 -/
mutual
def spec_MachineOk.l0 : Nat → List (S94) → Int → Option (Bool)
 | 0, _, _ => none
 | k + 1, x0, x3 => if x3 < (x0.length : Int) then (spec_MachineOk.l1 k x0 x3 0) else ((spec_l1In.f (x0.length : Int) 1 400).bind fun t122 => (if t122 = true then ((spec_l3Deep.f k x0).bind fun t123 => (some (decide (t123 ≤ 12)))) else (some false)))
def spec_MachineOk.l1 : Nat → List (S94) → Int → Int → Option (Bool)
 | 0, _, _, _ => none
 | k + 1, x0, x3, x4 => if 0 ≤ x3 then (if x3 < (x0.length : Int) then (if x4 < (((rd_T94 x0 x3).f1).length : Int) then (if 0 ≤ x4 then ((spec_l1In.f ((rd_T100 ((rd_T94 x0 x3).f1) x4).f0) 97 122).bind fun t130 => (if t130 = true then ((spec_l1In.f ((rd_T100 ((rd_T94 x0 x3).f1) x4).f1) (wrap64 (x3 + 1)) (wrap64 ((x0.length : Int) - 1))).bind fun t131 => (if t131 = true then (if x4 > 0 then (if 0 ≤ (wrap64 (x4 - 1)) then (if (wrap64 (x4 - 1)) < (((rd_T94 x0 x3).f1).length : Int) then (if ((rd_T100 ((rd_T94 x0 x3).f1) (wrap64 (x4 - 1))).f0) ≥ ((rd_T100 ((rd_T94 x0 x3).f1) x4).f0) then (some false) else (spec_MachineOk.l1 k x0 x3 (wrap64 (x4 + 1)))) else (none)) else (none)) else (spec_MachineOk.l1 k x0 x3 (wrap64 (x4 + 1)))) else (some false))) else (some false))) else (none)) else (if x3 > 0 then (if ((rd_T94 x0 x3).f0 = true) then (spec_MachineOk.l0 k x0 (wrap64 (x3 + 1))) else (if (((rd_T94 x0 x3).f1).length : Int) = 0 then (some false) else (spec_MachineOk.l0 k x0 (wrap64 (x3 + 1))))) else (spec_MachineOk.l0 k x0 (wrap64 (x3 + 1))))) else (none)) else (none)
end
def spec_MachineOk.f (k : Nat) (l0 : List (S94)) : Option (Bool) := spec_MachineOk.l0 k l0 0
def spec_MachineOk.T8 : Bool × List (List Nat × List Nat) := (true, [([], []), ([0], [0]), ([1], [1]), ([2], [2]), ([3, 2], [3]), ([4], [4]), ([5, 4], [4, 5]), ([4], [4]), ([7, 4], [4, 7]), ([4], [4]), ([9, 4], [4, 9]), ([10, 4], [4, 10]), ([6, 8, 11, 4, 4], [4, 6, 8, 11]), ([12, 4], [4, 12]), ([4, 13], [4, 13]), ([14, 12], [14]), ([15], [15]), ([16, 15], [15, 16]), ([17, 15, 15], [15, 17]), ([18], [18]), ([18], [18]), ([19, 20, 18], [18, 19, 20]), ([21, 18], [18, 21]), ([22, 18], [18, 22]), ([18], [18]), ([24, 18], [18, 24]), ([23, 25, 18], [18, 23, 25]), ([26, 18], [18, 26]), ([27, 18], [18, 27]), ([18], [18]), ([29, 18], [18, 29]), ([28, 30, 18], [18, 28, 30]), ([18, 31, 15], [15, 18, 31]), ([15, 32], [15, 32])])
def spec_MachineOk.B8 : List Nat := [0, 1, 3, 7, 15, 31, 63, 31, 159, 31, 543, 1567, 4095, 8191, 16383, 32767, 65535, 131071, 262143, 524287, 524287, 2097151, 4194303, 8388607, 524287, 17301503, 67108863, 134217727, 268435455, 524287, 537395199, 2147483647, 4294967295, 8589934591]
theorem spec_MachineOk.tab8 : rtab .any (opsOf Try.f34 8) = spec_MachineOk.T8 := by kernel_rfl
theorem spec_MachineOk.bits8 : waitsOk spec_MachineOk.T8.2 spec_MachineOk.B8 = true := by kernel_rfl
theorem spec_MachineOk.calls (k : Nat) (A0 : Option Addr) (c0 : Nat) (l0 : List (S94)) (r : Bool) (w : World) (hr0 : Kd.C k94 w A0 l0.length l0) (hc0 : l0.length ≤ c0) (h : spec_MachineOk.f k l0 = some r) :
  Calls Try.prog 34 #[.slice A0 l0.length c0] w fun e w' => e = .returned (.bool r) ∧ Below w.heap.size w w' := by
 have hu100 := Try.underlying100; have HR0 := am hr0; have HC0 := am hc0; clear hr0 hc0; have HB := am (Below.refl w.heap.size w)
 have H : (spec_MachineOk.l0 k l0 0) = some r := h
 clear h
 have H' := am H
 clear H; go_enter Try.func34, Try.ntmps34; go_wp2
 go_loopg [3] k (fun kq v3 w' => ∃ (x3_1 : Int), v3 = .int .i64 x3_1 ∧ Aside0 (spec_MachineOk.l0 kq l0 x3_1 = some r) ∧ Aside0 (kq ≤ k) ∧ Aside0 (Below w.heap.size w w'))
 case atStart => exact ⟨(0), sq, H', ⟨Nat.le_refl _⟩, ⟨bel⟩⟩
 case round =>
  clear H'; obtain ⟨x3_1, rfl, HA, HK1, HB⟩ := hrel
  cases gk with
  | zero => exact absurd HA.out (by simp [spec_MachineOk.l0])
  | succ k1 =>
   have H := HA.out; clear HA
   simp only [spec_MachineOk.l0] at H
   by_cases c2 : x3_1 < (l0.length : Int)
   ·rw [if_pos c2] at H; have c2b0 := decide_eq_true c2; clear c2
    have H' := am H
    clear H; go_wp2
    go_loopg [4] k1 (fun kq v4 w' => ∃ (x4_2 : Int), v4 = .int .i64 x4_2 ∧ Aside0 (spec_MachineOk.l1 kq l0 x3_1 x4_2 = some r) ∧ Aside0 (kq ≤ k1) ∧ Aside0 (Below w.heap.size w w'))
    case atStart => exact ⟨(0), sq, H', ⟨Nat.le_refl _⟩, ⟨bel⟩⟩
    case round =>
     clear H'; (try clear c2); (try clear c2b0); (try clear p2); obtain ⟨x4_2, rfl, HA, HK2, HB⟩ := hrel
     cases gk with
     | zero => exact absurd HA.out (by simp [spec_MachineOk.l1])
     | succ k2 =>
      have H := HA.out; clear HA
      simp only [spec_MachineOk.l1] at H
      replace H := it H; obtain ⟨c3b0, H⟩ := H
      replace H := it H; obtain ⟨c4b0, H⟩ := H
      by_cases c5 : x4_2 < (((rd_T94 l0 x3_1).f1).length : Int)
      ·rw [if_pos c5] at H; have c5b0 := decide_eq_true c5; clear c5
       replace H := it H; obtain ⟨c6b0, H⟩ := H; replace H := bs H; obtain ⟨t130, A70, H⟩ := H; replace H : (if t130 = true then ((spec_l1In.f ((rd_T100 ((rd_T94 l0 x3_1).f1) x4_2).f1) (wrap64 (x3_1 + 1)) (wrap64 ((l0.length : Int) - 1))).bind fun t131 => (if t131 = true then (if x4_2 > 0 then (if 0 ≤ (wrap64 (x4_2 - 1)) then (if (wrap64 (x4_2 - 1)) < (((rd_T94 l0 x3_1).f1).length : Int) then (if ((rd_T100 ((rd_T94 l0 x3_1).f1) (wrap64 (x4_2 - 1))).f0) ≥ ((rd_T100 ((rd_T94 l0 x3_1).f1) x4_2).f0) then (some false) else (spec_MachineOk.l1 k2 l0 x3_1 (wrap64 (x4_2 + 1)))) else (none)) else (none)) else (spec_MachineOk.l1 k2 l0 x3_1 (wrap64 (x4_2 + 1)))) else (some false))) else (some false)) = some r := H; have A7 := Aside0.mk A70; clear A70
       by_cases c8 : t130 = true
       ·subst c8
        have H1 : ((spec_l1In.f ((rd_T100 ((rd_T94 l0 x3_1).f1) x4_2).f1) (wrap64 (x3_1 + 1)) (wrap64 ((l0.length : Int) - 1))).bind fun t131 => (if t131 = true then (if x4_2 > 0 then (if 0 ≤ (wrap64 (x4_2 - 1)) then (if (wrap64 (x4_2 - 1)) < (((rd_T94 l0 x3_1).f1).length : Int) then (if ((rd_T100 ((rd_T94 l0 x3_1).f1) (wrap64 (x4_2 - 1))).f0) ≥ ((rd_T100 ((rd_T94 l0 x3_1).f1) x4_2).f0) then (some false) else (spec_MachineOk.l1 k2 l0 x3_1 (wrap64 (x4_2 + 1)))) else (none)) else (none)) else (spec_MachineOk.l1 k2 l0 x3_1 (wrap64 (x4_2 + 1)))) else (some false))) = some r := b11_
        replace H := H1; clear H1
        replace H := bs H; obtain ⟨t131, A90, H⟩ := H; replace H : (if t131 = true then (if x4_2 > 0 then (if 0 ≤ (wrap64 (x4_2 - 1)) then (if (wrap64 (x4_2 - 1)) < (((rd_T94 l0 x3_1).f1).length : Int) then (if ((rd_T100 ((rd_T94 l0 x3_1).f1) (wrap64 (x4_2 - 1))).f0) ≥ ((rd_T100 ((rd_T94 l0 x3_1).f1) x4_2).f0) then (some false) else (spec_MachineOk.l1 k2 l0 x3_1 (wrap64 (x4_2 + 1)))) else (none)) else (none)) else (spec_MachineOk.l1 k2 l0 x3_1 (wrap64 (x4_2 + 1)))) else (some false)) = some r := H; have A9 := Aside0.mk A90; clear A90
        by_cases c10 : t131 = true
        ·subst c10
         have H1 : (if x4_2 > 0 then (if 0 ≤ (wrap64 (x4_2 - 1)) then (if (wrap64 (x4_2 - 1)) < (((rd_T94 l0 x3_1).f1).length : Int) then (if ((rd_T100 ((rd_T94 l0 x3_1).f1) (wrap64 (x4_2 - 1))).f0) ≥ ((rd_T100 ((rd_T94 l0 x3_1).f1) x4_2).f0) then (some false) else (spec_MachineOk.l1 k2 l0 x3_1 (wrap64 (x4_2 + 1)))) else (none)) else (none)) else (spec_MachineOk.l1 k2 l0 x3_1 (wrap64 (x4_2 + 1)))) = some r := b11_
         replace H := H1; clear H1
         by_cases c11 : x4_2 > 0
         ·rw [if_pos c11] at H; have c11b0 := decide_eq_true c11; clear c11; obtain ⟨ji12, hji12⟩ : ∃ j_ : Int, (wrap64 (x4_2 - 1)) = j_ := ⟨_, rfl⟩
          replace H : (if 0 ≤ (ji12) then (if (ji12) < (((rd_T94 l0 x3_1).f1).length : Int) then (if ((rd_T100 ((rd_T94 l0 x3_1).f1) (ji12)).f0) ≥ ((rd_T100 ((rd_T94 l0 x3_1).f1) x4_2).f0) then (some false) else (spec_MachineOk.l1 k2 l0 x3_1 (wrap64 (x4_2 + 1)))) else (none)) else (none)) = some r := by first | (rw [hji12] at H; exact H) | (simp only [hji12] at H ⊢; exact H)
          (try rw [hji12] at A7)
          (try rw [hji12] at A9)
          have hji12w : (IntKind.i64.wrap (x4_2 - 1)) = ji12 := (i64_w _).trans hji12
          replace H := it H; obtain ⟨c13b0, H⟩ := H
          replace H := it H; obtain ⟨c14b0, H⟩ := H
          by_cases c15 : ((rd_T100 ((rd_T94 l0 x3_1).f1) (ji12)).f0) ≥ ((rd_T100 ((rd_T94 l0 x3_1).f1) x4_2).f0)
          ·rw [if_pos c15] at H; have c15b0 := decide_eq_true c15; clear c15; obtain rfl := Option.some.inj H
           have p124 : 0 ≤ (x3_1 : Int) := of_decide_eq_true ad
           have q124 : x3_1 < (l0.length : Int) := of_decide_eq_true ad
           obtain ⟨ad124, A124_1, c124_1, e124, hx124_0, hx124_1, hl124_1, hi124_1⟩ := at_T94 HR0.out x3_1 p124 q124
           cases e124
           replace hx124_0 := kp HB.out hx124_0; replace hx124_1 := kp HB.out hx124_1; have HR124_1 := am hi124_1; have HC124_1 := am hl124_1; clear hi124_1 hl124_1; replace p124 := eq_true p124; replace q124 := eq_true q124
           have p127 : 0 ≤ (x3_1 : Int) := of_decide_eq_true ad
           have q127 : x3_1 < (l0.length : Int) := of_decide_eq_true ad
           obtain ⟨ad127, A127_1, c127_1, e127, hx127_0, hx127_1, hl127_1, hi127_1⟩ := at_T94 HR0.out x3_1 p127 q127
           obtain rfl : ad124 = ad127 := (by injection e127)
           replace hx127_0 := kp HB.out hx127_0; replace hx127_1 := kp HB.out hx127_1; have HR127_1 := am hi127_1; have HC127_1 := am hl127_1; clear hi127_1 hl127_1; replace p127 := eq_true p127; replace q127 := eq_true q127; have ea_ := Option.some.inj (hx124_1.symm.trans hx127_1)
           injection ea_ with ea_ en_ ec_
           subst ea_; subst ec_; clear en_
           have p128 : 0 ≤ (x4_2 : Int) := of_decide_eq_true ad
           have q128 : x4_2 < (((rd_T94 l0 x3_1).f1).length : Int) := of_decide_eq_true ad
           obtain ⟨ad128, e128, hx128_0, hx128_1⟩ := at_T100 HR127_1.out x4_2 p128 q128
           cases e128
           replace hx128_0 := kp HB.out hx128_0; replace hx128_1 := kp HB.out hx128_1; replace p128 := eq_true p128; replace q128 := eq_true q128
           try go_wp2_with (first | ((with_reducible refine gate_dst (N := 5) rfl ?_); (try (refine gate_guard (by rfl) ?_; dsimp only)); refine bx 5 (cs := #[.int .i64 0, .int .i64 0]) (t := 100) ?_; intro gb129 hg w16 hbox hb; have BK129 := am (hbox); have GW129 := am ((b7_ : w.heap.size ≤ gb129)); have GE129 := am ((b7_ : w.heap.size ≤ gb129)); replace HB := am (below_step bel hb); clear hb hbox hg; have hcz17_0 := bc BK129.out 0; have hcz17_1 := bc BK129.out 1; have hfz17_0 := bf BK129.out 0; have hfz17_1 := bf BK129.out 1))
           have n0_ : Aside0 (((w16.setCell ⟨gb129, 0, none⟩ (.int .i64 ((rd_T100 ((rd_T94 l0 x3_1).f1) x4_2).f0))).setCell ⟨gb129, 1, none⟩ (.int .i64 ((rd_T100 ((rd_T94 l0 x3_1).f1) x4_2).f1))).heap[gb129]? = some (.cells #[.int .i64 ((rd_T100 ((rd_T94 l0 x3_1).f1) x4_2).f0), .int .i64 ((rd_T100 ((rd_T94 l0 x3_1).f1) x4_2).f1)] 100 (0, 0))) := ⟨b0_⟩
           have n1_ : Aside0 (Below w.heap.size w ((w16.setCell ⟨gb129, 0, none⟩ (.int .i64 ((rd_T100 ((rd_T94 l0 x3_1).f1) x4_2).f0))).setCell ⟨gb129, 1, none⟩ (.int .i64 ((rd_T100 ((rd_T94 l0 x3_1).f1) x4_2).f1)))) := ⟨bel1 GE129.out⟩
           (try clear BK129)
           (try clear HB)
           generalize ((w16.setCell ⟨gb129, 0, none⟩ (.int .i64 ((rd_T100 ((rd_T94 l0 x3_1).f1) x4_2).f0))).setCell ⟨gb129, 1, none⟩ (.int .i64 ((rd_T100 ((rd_T94 l0 x3_1).f1) x4_2).f1))) = w18 at n0_ n1_ ⊢
           have BK129 := n0_; have HB := n1_; clear n0_ n1_; replace BK129 := am (blk_drew BK129.out); replace HB := am (below_drew1 HB.out)
           have p132 : 0 ≤ (x3_1 : Int) := of_decide_eq_true ad
           have q132 : x3_1 < (l0.length : Int) := of_decide_eq_true ad
           obtain ⟨ad132, A132_1, c132_1, e132, hx132_0, hx132_1, hl132_1, hi132_1⟩ := at_T94 HR0.out x3_1 p132 q132; have hw132_1 := hx132_1; have hw132_0 := hx132_0
           obtain rfl : ad124 = ad132 := (by injection e132)
           replace hx132_0 := kp HB.out hx132_0; replace hx132_1 := kp HB.out hx132_1; have HR132_1 := am hi132_1; have HC132_1 := am hl132_1; clear hi132_1 hl132_1; replace p132 := eq_true p132; replace q132 := eq_true q132
           have p133 : 0 ≤ ((ji12) : Int) := of_decide_eq_true ad
           have q133 : (ji12) < (((rd_T94 l0 x3_1).f1).length : Int) := of_decide_eq_true ad
           obtain ⟨ad133, e133, hx133_0, hx133_1⟩ := at_T100 HR132_1.out (ji12) p133 q133; have hw133_1 := hx133_1; have hw133_0 := hx133_0
           cases e133
           replace hx133_0 := kp HB.out hx133_0; replace hx133_1 := kp HB.out hx133_1; replace p133 := eq_true p133; replace q133 := eq_true q133
           refine st (n := 34) (S := fun w' => w'.cell? ⟨gb129, 0, none⟩ = some (.int .i64 ((rd_T100 ((rd_T94 l0 x3_1).f1) x4_2).f0)) ∧ w'.cell? ⟨gb129, 1, none⟩ = some (.int .i64 ((rd_T100 ((rd_T94 l0 x3_1).f1) x4_2).f1)) ∧ w'.cell? (ad124.add ((x3_1).toNat * 2)) = some (.bool ((rd_T94 l0 x3_1).f0)) ∧ w'.cell? ⟨(ad124.add ((x3_1).toNat * 2)).block, (ad124.add ((x3_1).toNat * 2)).off + 1, none⟩ = some (.slice (some ad133) ((rd_T94 l0 x3_1).f1).length c132_1) ∧ w'.cell? (ad133.add (((ji12)).toNat * 2)) = some (.int .i64 ((rd_T100 ((rd_T94 l0 x3_1).f1) (ji12)).f0)) ∧ w'.cell? ⟨(ad133.add (((ji12)).toNat * 2)).block, (ad133.add (((ji12)).toNat * 2)).off + 1, none⟩ = some (.int .i64 ((rd_T100 ((rd_T94 l0 x3_1).f1) (ji12)).f1))) (ds := []) ⟨(blk_cell BK129.out 0).trans rfl, (blk_cell BK129.out 1).trans rfl, (kp HB.out hw132_0), (kp HB.out hw132_1), (kp HB.out hw133_0), (kp HB.out hw133_1)⟩ (fun hHeld => ?_); refine with_tabW spec_MachineOk.tab8 spec_MachineOk.bits8 (fun HT_ HW_ => ?_)
           generalize w18.drew = w19 at BK129 HB HR132_1 hx132_0 hx132_1 hx133_0 hx133_1 hHeld ⊢
           refine pu 0 30 ?_
           refine tk6 1 31 hHeld ?_
           refine on1 2 32 (fun K hK => ?_)
           refine goes_ Try.func78 (by kernel_rfl) rfl #[.int .i64 ((rd_T100 ((rd_T94 l0 x3_1).f1) x4_2).f0), .int .i64 97, .int .i64 122] (by rfl) rfl rfl mq ?_
           with_reducible refine (spec_l1In.calls ((rd_T100 ((rd_T94 l0 x3_1).f1) x4_2).f0) 97 122 true _ A7.out).mono ?_
           rintro e w' ⟨rfl, ⟨nd, rfl⟩⟩
           refine ⟨_, rfl, ?_⟩
           refine hK.out _ _ ⟨(blk_cell BK129.out 0).trans rfl, (blk_cell BK129.out 1).trans rfl, (kp HB.out hw132_0), (kp HB.out hw132_1), (kp HB.out hw133_0), (kp HB.out hw133_1)⟩ (fun hHeld => ?_)
           clear hK K
           refine norm_ (a' := ?_) ?_ ?_
           rotate_left
           ·show Act.put _ (some 32) _ = _
            simp only [Act.put, List.setIfInBounds_toArray, List.set_cons_zero, List.set_cons_succ, i64_w, i32_w]
            rfl
           refine pu 3 33 ?_
           refine pu 4 34 ?_
           refine pu 5 35 ?_
           refine pu 7 37 ?_
           refine pu 8 38 ?_
           refine pu 9 39 ?_
           refine pu 10 40 ?_
           refine pu 11 41 ?_
           refine tk6 6 36 hHeld ?_
           refine on1 12 42 (fun K hK => ?_)
           refine goes_ Try.func78 (by kernel_rfl) rfl #[.int .i64 ((rd_T100 ((rd_T94 l0 x3_1).f1) x4_2).f1), .int .i64 (wrap64 (x3_1 + 1)), .int .i64 (wrap64 ((l0.length : Int) - 1))] (by rfl) rfl rfl mq ?_
           with_reducible refine (spec_l1In.calls ((rd_T100 ((rd_T94 l0 x3_1).f1) x4_2).f1) (wrap64 (x3_1 + 1)) (wrap64 ((l0.length : Int) - 1)) true _ A9.out).mono ?_
           rintro e w' ⟨rfl, ⟨nd, rfl⟩⟩
           refine ⟨_, rfl, ?_⟩
           refine hK.out _ _ ⟨(blk_cell BK129.out 0).trans rfl, (blk_cell BK129.out 1).trans rfl, (kp HB.out hw132_0), (kp HB.out hw132_1), (kp HB.out hw133_0), (kp HB.out hw133_1)⟩ (fun hHeld => ?_)
           clear hK K
           refine norm_ (a' := ?_) ?_ ?_
           rotate_left
           ·show Act.put _ (some 42) _ = _
            simp only [Act.put, List.setIfInBounds_toArray, List.set_cons_zero, List.set_cons_succ, i64_w, i32_w]
            rfl
           refine pu 13 43 ?_
           refine pu 14 44 ?_
           refine pu 15 45 ?_
           refine pu 16 46 ?_
           refine pu 17 47 ?_
           refine pu 18 48 ?_
           refine pu 19 49 ?_
           refine pu 20 50 ?_
           refine pu 21 51 ?_
           refine pu 22 52 ?_
           refine pu 24 54 ?_
           refine pu 25 55 ?_
           refine pu 29 59 ?_
           refine tk6 23 53 hHeld ?_
           refine pu 26 56 ?_
           refine pu 27 57 ?_
           refine tk6 28 58 hHeld ?_
           refine tk6 30 60 hHeld ?_
           refine pu 31 61 ?_
           refine pu 32 62 ?_
           refine pu 33 63 ?_
           refine done_ (done_of HT_.out (by kernel_rfl)) ?_
           try go_wp2
           go_ret
           exact ⟨by first | rfl | (simp [errW_none, errW_some] <;> rfl) | (simp only [← hji12]; first | rfl | (simp [errW_none, errW_some] <;> rfl)) | (simp [*, errW_none, errW_some] <;> rfl), bel1 GE129.out⟩
          rw [if_neg c15] at H; have c15b0 := decide_eq_false c15; clear c15
          have H' := am H
          clear H
          have p124 : 0 ≤ (x3_1 : Int) := of_decide_eq_true ad
          have q124 : x3_1 < (l0.length : Int) := of_decide_eq_true ad
          obtain ⟨ad124, A124_1, c124_1, e124, hx124_0, hx124_1, hl124_1, hi124_1⟩ := at_T94 HR0.out x3_1 p124 q124
          cases e124
          replace hx124_0 := kp HB.out hx124_0; replace hx124_1 := kp HB.out hx124_1; have HR124_1 := am hi124_1; have HC124_1 := am hl124_1; clear hi124_1 hl124_1; replace p124 := eq_true p124; replace q124 := eq_true q124
          have p127 : 0 ≤ (x3_1 : Int) := of_decide_eq_true ad
          have q127 : x3_1 < (l0.length : Int) := of_decide_eq_true ad
          obtain ⟨ad127, A127_1, c127_1, e127, hx127_0, hx127_1, hl127_1, hi127_1⟩ := at_T94 HR0.out x3_1 p127 q127
          obtain rfl : ad124 = ad127 := (by injection e127)
          replace hx127_0 := kp HB.out hx127_0; replace hx127_1 := kp HB.out hx127_1; have HR127_1 := am hi127_1; have HC127_1 := am hl127_1; clear hi127_1 hl127_1; replace p127 := eq_true p127; replace q127 := eq_true q127; have ea_ := Option.some.inj (hx124_1.symm.trans hx127_1)
          injection ea_ with ea_ en_ ec_
          subst ea_; subst ec_; clear en_
          have p128 : 0 ≤ (x4_2 : Int) := of_decide_eq_true ad
          have q128 : x4_2 < (((rd_T94 l0 x3_1).f1).length : Int) := of_decide_eq_true ad
          obtain ⟨ad128, e128, hx128_0, hx128_1⟩ := at_T100 HR127_1.out x4_2 p128 q128
          cases e128
          replace hx128_0 := kp HB.out hx128_0; replace hx128_1 := kp HB.out hx128_1; replace p128 := eq_true p128; replace q128 := eq_true q128
          try go_wp2_with (first | ((with_reducible refine gate_dst (N := 5) rfl ?_); (try (refine gate_guard (by rfl) ?_; dsimp only)); refine bx 5 (cs := #[.int .i64 0, .int .i64 0]) (t := 100) ?_; intro gb129 hg w20 hbox hb; have BK129 := am (hbox); have GW129 := am ((b7_ : w.heap.size ≤ gb129)); have GE129 := am ((b7_ : w.heap.size ≤ gb129)); replace HB := am (below_step bel hb); clear hb hbox hg; have hcz21_0 := bc BK129.out 0; have hcz21_1 := bc BK129.out 1; have hfz21_0 := bf BK129.out 0; have hfz21_1 := bf BK129.out 1))
          have n0_ : Aside0 (((w20.setCell ⟨gb129, 0, none⟩ (.int .i64 ((rd_T100 ((rd_T94 l0 x3_1).f1) x4_2).f0))).setCell ⟨gb129, 1, none⟩ (.int .i64 ((rd_T100 ((rd_T94 l0 x3_1).f1) x4_2).f1))).heap[gb129]? = some (.cells #[.int .i64 ((rd_T100 ((rd_T94 l0 x3_1).f1) x4_2).f0), .int .i64 ((rd_T100 ((rd_T94 l0 x3_1).f1) x4_2).f1)] 100 (0, 0))) := ⟨b0_⟩
          have n1_ : Aside0 (Below w.heap.size w ((w20.setCell ⟨gb129, 0, none⟩ (.int .i64 ((rd_T100 ((rd_T94 l0 x3_1).f1) x4_2).f0))).setCell ⟨gb129, 1, none⟩ (.int .i64 ((rd_T100 ((rd_T94 l0 x3_1).f1) x4_2).f1)))) := ⟨bel1 GE129.out⟩
          (try clear BK129)
          (try clear HB)
          generalize ((w20.setCell ⟨gb129, 0, none⟩ (.int .i64 ((rd_T100 ((rd_T94 l0 x3_1).f1) x4_2).f0))).setCell ⟨gb129, 1, none⟩ (.int .i64 ((rd_T100 ((rd_T94 l0 x3_1).f1) x4_2).f1))) = w22 at n0_ n1_ ⊢
          have BK129 := n0_; have HB := n1_; clear n0_ n1_; replace BK129 := am (blk_drew BK129.out); replace HB := am (below_drew1 HB.out)
          have p132 : 0 ≤ (x3_1 : Int) := of_decide_eq_true ad
          have q132 : x3_1 < (l0.length : Int) := of_decide_eq_true ad
          obtain ⟨ad132, A132_1, c132_1, e132, hx132_0, hx132_1, hl132_1, hi132_1⟩ := at_T94 HR0.out x3_1 p132 q132; have hw132_1 := hx132_1; have hw132_0 := hx132_0
          obtain rfl : ad124 = ad132 := (by injection e132)
          replace hx132_0 := kp HB.out hx132_0; replace hx132_1 := kp HB.out hx132_1; have HR132_1 := am hi132_1; have HC132_1 := am hl132_1; clear hi132_1 hl132_1; replace p132 := eq_true p132; replace q132 := eq_true q132
          have p133 : 0 ≤ ((ji12) : Int) := of_decide_eq_true ad
          have q133 : (ji12) < (((rd_T94 l0 x3_1).f1).length : Int) := of_decide_eq_true ad
          obtain ⟨ad133, e133, hx133_0, hx133_1⟩ := at_T100 HR132_1.out (ji12) p133 q133; have hw133_1 := hx133_1; have hw133_0 := hx133_0
          cases e133
          replace hx133_0 := kp HB.out hx133_0; replace hx133_1 := kp HB.out hx133_1; replace p133 := eq_true p133; replace q133 := eq_true q133
          refine st (n := 34) (S := fun w' => w'.cell? ⟨gb129, 0, none⟩ = some (.int .i64 ((rd_T100 ((rd_T94 l0 x3_1).f1) x4_2).f0)) ∧ w'.cell? ⟨gb129, 1, none⟩ = some (.int .i64 ((rd_T100 ((rd_T94 l0 x3_1).f1) x4_2).f1)) ∧ w'.cell? (ad124.add ((x3_1).toNat * 2)) = some (.bool ((rd_T94 l0 x3_1).f0)) ∧ w'.cell? ⟨(ad124.add ((x3_1).toNat * 2)).block, (ad124.add ((x3_1).toNat * 2)).off + 1, none⟩ = some (.slice (some ad133) ((rd_T94 l0 x3_1).f1).length c132_1) ∧ w'.cell? (ad133.add (((ji12)).toNat * 2)) = some (.int .i64 ((rd_T100 ((rd_T94 l0 x3_1).f1) (ji12)).f0)) ∧ w'.cell? ⟨(ad133.add (((ji12)).toNat * 2)).block, (ad133.add (((ji12)).toNat * 2)).off + 1, none⟩ = some (.int .i64 ((rd_T100 ((rd_T94 l0 x3_1).f1) (ji12)).f1))) (ds := []) ⟨(blk_cell BK129.out 0).trans rfl, (blk_cell BK129.out 1).trans rfl, (kp HB.out hw132_0), (kp HB.out hw132_1), (kp HB.out hw133_0), (kp HB.out hw133_1)⟩ (fun hHeld => ?_); refine with_tabW spec_MachineOk.tab8 spec_MachineOk.bits8 (fun HT_ HW_ => ?_)
          generalize w22.drew = w23 at BK129 HB HR132_1 hx132_0 hx132_1 hx133_0 hx133_1 hHeld ⊢
          refine pu 0 30 ?_
          refine tk6 1 31 hHeld ?_
          refine on1 2 32 (fun K hK => ?_)
          refine goes_ Try.func78 (by kernel_rfl) rfl #[.int .i64 ((rd_T100 ((rd_T94 l0 x3_1).f1) x4_2).f0), .int .i64 97, .int .i64 122] (by rfl) rfl rfl mq ?_
          with_reducible refine (spec_l1In.calls ((rd_T100 ((rd_T94 l0 x3_1).f1) x4_2).f0) 97 122 true _ A7.out).mono ?_
          rintro e w' ⟨rfl, ⟨nd, rfl⟩⟩
          refine ⟨_, rfl, ?_⟩
          refine hK.out _ _ ⟨(blk_cell BK129.out 0).trans rfl, (blk_cell BK129.out 1).trans rfl, (kp HB.out hw132_0), (kp HB.out hw132_1), (kp HB.out hw133_0), (kp HB.out hw133_1)⟩ (fun hHeld => ?_)
          clear hK K
          refine norm_ (a' := ?_) ?_ ?_
          rotate_left
          ·show Act.put _ (some 32) _ = _
           simp only [Act.put, List.setIfInBounds_toArray, List.set_cons_zero, List.set_cons_succ, i64_w, i32_w]
           rfl
          refine pu 3 33 ?_
          refine pu 4 34 ?_
          refine pu 5 35 ?_
          refine pu 7 37 ?_
          refine pu 8 38 ?_
          refine pu 9 39 ?_
          refine pu 10 40 ?_
          refine pu 11 41 ?_
          refine tk6 6 36 hHeld ?_
          refine on1 12 42 (fun K hK => ?_)
          refine goes_ Try.func78 (by kernel_rfl) rfl #[.int .i64 ((rd_T100 ((rd_T94 l0 x3_1).f1) x4_2).f1), .int .i64 (wrap64 (x3_1 + 1)), .int .i64 (wrap64 ((l0.length : Int) - 1))] (by rfl) rfl rfl mq ?_
          with_reducible refine (spec_l1In.calls ((rd_T100 ((rd_T94 l0 x3_1).f1) x4_2).f1) (wrap64 (x3_1 + 1)) (wrap64 ((l0.length : Int) - 1)) true _ A9.out).mono ?_
          rintro e w' ⟨rfl, ⟨nd, rfl⟩⟩
          refine ⟨_, rfl, ?_⟩
          refine hK.out _ _ ⟨(blk_cell BK129.out 0).trans rfl, (blk_cell BK129.out 1).trans rfl, (kp HB.out hw132_0), (kp HB.out hw132_1), (kp HB.out hw133_0), (kp HB.out hw133_1)⟩ (fun hHeld => ?_)
          clear hK K
          refine norm_ (a' := ?_) ?_ ?_
          rotate_left
          ·show Act.put _ (some 42) _ = _
           simp only [Act.put, List.setIfInBounds_toArray, List.set_cons_zero, List.set_cons_succ, i64_w, i32_w]
           rfl
          refine pu 13 43 ?_
          refine pu 14 44 ?_
          refine pu 15 45 ?_
          refine pu 16 46 ?_
          refine pu 17 47 ?_
          refine pu 18 48 ?_
          refine pu 19 49 ?_
          refine pu 20 50 ?_
          refine pu 21 51 ?_
          refine pu 22 52 ?_
          refine pu 24 54 ?_
          refine pu 25 55 ?_
          refine pu 29 59 ?_
          refine tk6 23 53 hHeld ?_
          refine pu 26 56 ?_
          refine pu 27 57 ?_
          refine tk6 28 58 hHeld ?_
          refine tk6 30 60 hHeld ?_
          refine pu 31 61 ?_
          refine pu 32 62 ?_
          refine pu 33 63 ?_
          refine done_ (done_of HT_.out (by kernel_rfl)) ?_
          try go_wp2
          go_roundg k2
          case measure => have := HK1.out; have := HK2.out; omega
          case rel => exact ⟨(wrap64 (x4_2 + 1)), sq, H', ⟨b15_⟩, ⟨bel1 GE129.out⟩⟩
         rw [if_neg c11] at H; have c11b0 := decide_eq_false c11; clear c11
         have H' := am H
         clear H
         have p124 : 0 ≤ (x3_1 : Int) := of_decide_eq_true ad
         have q124 : x3_1 < (l0.length : Int) := of_decide_eq_true ad
         obtain ⟨ad124, A124_1, c124_1, e124, hx124_0, hx124_1, hl124_1, hi124_1⟩ := at_T94 HR0.out x3_1 p124 q124
         cases e124
         replace hx124_0 := kp HB.out hx124_0; replace hx124_1 := kp HB.out hx124_1; have HR124_1 := am hi124_1; have HC124_1 := am hl124_1; clear hi124_1 hl124_1; replace p124 := eq_true p124; replace q124 := eq_true q124
         have p127 : 0 ≤ (x3_1 : Int) := of_decide_eq_true ad
         have q127 : x3_1 < (l0.length : Int) := of_decide_eq_true ad
         obtain ⟨ad127, A127_1, c127_1, e127, hx127_0, hx127_1, hl127_1, hi127_1⟩ := at_T94 HR0.out x3_1 p127 q127
         obtain rfl : ad124 = ad127 := (by injection e127)
         replace hx127_0 := kp HB.out hx127_0; replace hx127_1 := kp HB.out hx127_1; have HR127_1 := am hi127_1; have HC127_1 := am hl127_1; clear hi127_1 hl127_1; replace p127 := eq_true p127; replace q127 := eq_true q127; have ea_ := Option.some.inj (hx124_1.symm.trans hx127_1)
         injection ea_ with ea_ en_ ec_
         subst ea_; subst ec_; clear en_
         have p128 : 0 ≤ (x4_2 : Int) := of_decide_eq_true ad
         have q128 : x4_2 < (((rd_T94 l0 x3_1).f1).length : Int) := of_decide_eq_true ad
         obtain ⟨ad128, e128, hx128_0, hx128_1⟩ := at_T100 HR127_1.out x4_2 p128 q128
         cases e128
         replace hx128_0 := kp HB.out hx128_0; replace hx128_1 := kp HB.out hx128_1; replace p128 := eq_true p128; replace q128 := eq_true q128
         try go_wp2_with (first | ((with_reducible refine gate_dst (N := 5) rfl ?_); (try (refine gate_guard (by rfl) ?_; dsimp only)); refine bx 5 (cs := #[.int .i64 0, .int .i64 0]) (t := 100) ?_; intro gb129 hg w24 hbox hb; have BK129 := am (hbox); have GW129 := am ((b7_ : w.heap.size ≤ gb129)); have GE129 := am ((b7_ : w.heap.size ≤ gb129)); replace HB := am (below_step bel hb); clear hb hbox hg; have hcz25_0 := bc BK129.out 0; have hcz25_1 := bc BK129.out 1; have hfz25_0 := bf BK129.out 0; have hfz25_1 := bf BK129.out 1))
         have n0_ : Aside0 (((w24.setCell ⟨gb129, 0, none⟩ (.int .i64 ((rd_T100 ((rd_T94 l0 x3_1).f1) x4_2).f0))).setCell ⟨gb129, 1, none⟩ (.int .i64 ((rd_T100 ((rd_T94 l0 x3_1).f1) x4_2).f1))).heap[gb129]? = some (.cells #[.int .i64 ((rd_T100 ((rd_T94 l0 x3_1).f1) x4_2).f0), .int .i64 ((rd_T100 ((rd_T94 l0 x3_1).f1) x4_2).f1)] 100 (0, 0))) := ⟨b0_⟩
         have n1_ : Aside0 (Below w.heap.size w ((w24.setCell ⟨gb129, 0, none⟩ (.int .i64 ((rd_T100 ((rd_T94 l0 x3_1).f1) x4_2).f0))).setCell ⟨gb129, 1, none⟩ (.int .i64 ((rd_T100 ((rd_T94 l0 x3_1).f1) x4_2).f1)))) := ⟨bel1 GE129.out⟩
         (try clear BK129)
         (try clear HB)
         generalize ((w24.setCell ⟨gb129, 0, none⟩ (.int .i64 ((rd_T100 ((rd_T94 l0 x3_1).f1) x4_2).f0))).setCell ⟨gb129, 1, none⟩ (.int .i64 ((rd_T100 ((rd_T94 l0 x3_1).f1) x4_2).f1))) = w26 at n0_ n1_ ⊢
         have BK129 := n0_; have HB := n1_; clear n0_ n1_; replace BK129 := am (blk_drew BK129.out); replace HB := am (below_drew1 HB.out)
         refine st (n := 34) (S := fun w' => w'.cell? ⟨gb129, 0, none⟩ = some (.int .i64 ((rd_T100 ((rd_T94 l0 x3_1).f1) x4_2).f0)) ∧ w'.cell? ⟨gb129, 1, none⟩ = some (.int .i64 ((rd_T100 ((rd_T94 l0 x3_1).f1) x4_2).f1))) (ds := []) ⟨(blk_cell BK129.out 0).trans rfl, (blk_cell BK129.out 1).trans rfl⟩ (fun hHeld => ?_); refine with_tabW spec_MachineOk.tab8 spec_MachineOk.bits8 (fun HT_ HW_ => ?_)
         generalize w26.drew = w27 at BK129 HB hHeld ⊢
         refine pu 0 30 ?_
         refine tk2 1 31 hHeld ?_
         refine on1 2 32 (fun K hK => ?_)
         refine goes_ Try.func78 (by kernel_rfl) rfl #[.int .i64 ((rd_T100 ((rd_T94 l0 x3_1).f1) x4_2).f0), .int .i64 97, .int .i64 122] (by rfl) rfl rfl mq ?_
         with_reducible refine (spec_l1In.calls ((rd_T100 ((rd_T94 l0 x3_1).f1) x4_2).f0) 97 122 true _ A7.out).mono ?_
         rintro e w' ⟨rfl, ⟨nd, rfl⟩⟩
         refine ⟨_, rfl, ?_⟩
         refine hK.out _ _ ⟨(blk_cell BK129.out 0).trans rfl, (blk_cell BK129.out 1).trans rfl⟩ (fun hHeld => ?_)
         clear hK K
         refine norm_ (a' := ?_) ?_ ?_
         rotate_left
         ·show Act.put _ (some 32) _ = _
          simp only [Act.put, List.setIfInBounds_toArray, List.set_cons_zero, List.set_cons_succ, i64_w, i32_w]
          rfl
         refine pu 3 33 ?_
         refine pu 4 34 ?_
         refine pu 5 35 ?_
         refine pu 7 37 ?_
         refine pu 8 38 ?_
         refine pu 9 39 ?_
         refine pu 10 40 ?_
         refine pu 11 41 ?_
         refine tk2 6 36 hHeld ?_
         refine on1 12 42 (fun K hK => ?_)
         refine goes_ Try.func78 (by kernel_rfl) rfl #[.int .i64 ((rd_T100 ((rd_T94 l0 x3_1).f1) x4_2).f1), .int .i64 (wrap64 (x3_1 + 1)), .int .i64 (wrap64 ((l0.length : Int) - 1))] (by rfl) rfl rfl mq ?_
         with_reducible refine (spec_l1In.calls ((rd_T100 ((rd_T94 l0 x3_1).f1) x4_2).f1) (wrap64 (x3_1 + 1)) (wrap64 ((l0.length : Int) - 1)) true _ A9.out).mono ?_
         rintro e w' ⟨rfl, ⟨nd, rfl⟩⟩
         refine ⟨_, rfl, ?_⟩
         refine hK.out _ _ ⟨(blk_cell BK129.out 0).trans rfl, (blk_cell BK129.out 1).trans rfl⟩ (fun hHeld => ?_)
         clear hK K
         refine norm_ (a' := ?_) ?_ ?_
         rotate_left
         ·show Act.put _ (some 42) _ = _
          simp only [Act.put, List.setIfInBounds_toArray, List.set_cons_zero, List.set_cons_succ, i64_w, i32_w]
          rfl
         refine pu 13 43 ?_
         refine pu 14 44 ?_
         refine pu 15 45 ?_
         refine pu 16 46 ?_
         refine pu 17 47 ?_
         refine pu 18 48 ?_
         refine puu 19 49 ?_
         refine puu 20 50 ?_
         refine puu 21 51 ?_
         refine puu 22 52 ?_
         refine puu 23 53 ?_
         refine puu 24 54 ?_
         refine puu 25 55 ?_
         refine puu 26 56 ?_
         refine puu 27 57 ?_
         refine puu 28 58 ?_
         refine puu 29 59 ?_
         refine puu 30 60 ?_
         refine puu 31 61 ?_
         refine pu 32 62 ?_
         refine pu 33 63 ?_
         refine done_ (done_of HT_.out (by kernel_rfl)) ?_
         try go_wp2
         go_roundg k2
         case measure => have := HK1.out; have := HK2.out; omega
         case rel => exact ⟨(wrap64 (x4_2 + 1)), sq, H', ⟨b15_⟩, ⟨bel1 GE129.out⟩⟩
        replace c10 := Bool.eq_false_iff.mpr c10; subst c10
        have H1 : (some false) = some r := b5_
        replace H := H1; clear H1
        obtain rfl := Option.some.inj H
        have p124 : 0 ≤ (x3_1 : Int) := of_decide_eq_true ad
        have q124 : x3_1 < (l0.length : Int) := of_decide_eq_true ad
        obtain ⟨ad124, A124_1, c124_1, e124, hx124_0, hx124_1, hl124_1, hi124_1⟩ := at_T94 HR0.out x3_1 p124 q124
        cases e124
        replace hx124_0 := kp HB.out hx124_0; replace hx124_1 := kp HB.out hx124_1; have HR124_1 := am hi124_1; have HC124_1 := am hl124_1; clear hi124_1 hl124_1; replace p124 := eq_true p124; replace q124 := eq_true q124
        have p127 : 0 ≤ (x3_1 : Int) := of_decide_eq_true ad
        have q127 : x3_1 < (l0.length : Int) := of_decide_eq_true ad
        obtain ⟨ad127, A127_1, c127_1, e127, hx127_0, hx127_1, hl127_1, hi127_1⟩ := at_T94 HR0.out x3_1 p127 q127
        obtain rfl : ad124 = ad127 := (by injection e127)
        replace hx127_0 := kp HB.out hx127_0; replace hx127_1 := kp HB.out hx127_1; have HR127_1 := am hi127_1; have HC127_1 := am hl127_1; clear hi127_1 hl127_1; replace p127 := eq_true p127; replace q127 := eq_true q127; have ea_ := Option.some.inj (hx124_1.symm.trans hx127_1)
        injection ea_ with ea_ en_ ec_
        subst ea_; subst ec_; clear en_
        have p128 : 0 ≤ (x4_2 : Int) := of_decide_eq_true ad
        have q128 : x4_2 < (((rd_T94 l0 x3_1).f1).length : Int) := of_decide_eq_true ad
        obtain ⟨ad128, e128, hx128_0, hx128_1⟩ := at_T100 HR127_1.out x4_2 p128 q128
        cases e128
        replace hx128_0 := kp HB.out hx128_0; replace hx128_1 := kp HB.out hx128_1; replace p128 := eq_true p128; replace q128 := eq_true q128
        try go_wp2_with (first | ((with_reducible refine gate_dst (N := 5) rfl ?_); (try (refine gate_guard (by rfl) ?_; dsimp only)); refine bx 5 (cs := #[.int .i64 0, .int .i64 0]) (t := 100) ?_; intro gb129 hg w28 hbox hb; have BK129 := am (hbox); have GW129 := am ((b7_ : w.heap.size ≤ gb129)); have GE129 := am ((b7_ : w.heap.size ≤ gb129)); replace HB := am (below_step bel hb); clear hb hbox hg; have hcz29_0 := bc BK129.out 0; have hcz29_1 := bc BK129.out 1; have hfz29_0 := bf BK129.out 0; have hfz29_1 := bf BK129.out 1))
        have n0_ : Aside0 (((w28.setCell ⟨gb129, 0, none⟩ (.int .i64 ((rd_T100 ((rd_T94 l0 x3_1).f1) x4_2).f0))).setCell ⟨gb129, 1, none⟩ (.int .i64 ((rd_T100 ((rd_T94 l0 x3_1).f1) x4_2).f1))).heap[gb129]? = some (.cells #[.int .i64 ((rd_T100 ((rd_T94 l0 x3_1).f1) x4_2).f0), .int .i64 ((rd_T100 ((rd_T94 l0 x3_1).f1) x4_2).f1)] 100 (0, 0))) := ⟨b0_⟩
        have n1_ : Aside0 (Below w.heap.size w ((w28.setCell ⟨gb129, 0, none⟩ (.int .i64 ((rd_T100 ((rd_T94 l0 x3_1).f1) x4_2).f0))).setCell ⟨gb129, 1, none⟩ (.int .i64 ((rd_T100 ((rd_T94 l0 x3_1).f1) x4_2).f1)))) := ⟨bel1 GE129.out⟩
        (try clear BK129)
        (try clear HB)
        generalize ((w28.setCell ⟨gb129, 0, none⟩ (.int .i64 ((rd_T100 ((rd_T94 l0 x3_1).f1) x4_2).f0))).setCell ⟨gb129, 1, none⟩ (.int .i64 ((rd_T100 ((rd_T94 l0 x3_1).f1) x4_2).f1))) = w30 at n0_ n1_ ⊢
        have BK129 := n0_; have HB := n1_; clear n0_ n1_; replace BK129 := am (blk_drew BK129.out); replace HB := am (below_drew1 HB.out)
        refine st (n := 34) (S := fun w' => w'.cell? ⟨gb129, 0, none⟩ = some (.int .i64 ((rd_T100 ((rd_T94 l0 x3_1).f1) x4_2).f0)) ∧ w'.cell? ⟨gb129, 1, none⟩ = some (.int .i64 ((rd_T100 ((rd_T94 l0 x3_1).f1) x4_2).f1))) (ds := []) ⟨(blk_cell BK129.out 0).trans rfl, (blk_cell BK129.out 1).trans rfl⟩ (fun hHeld => ?_); refine with_tabW spec_MachineOk.tab8 spec_MachineOk.bits8 (fun HT_ HW_ => ?_)
        generalize w30.drew = w31 at BK129 HB hHeld ⊢
        refine pu 0 30 ?_
        refine tk2 1 31 hHeld ?_
        refine on1 2 32 (fun K hK => ?_)
        refine goes_ Try.func78 (by kernel_rfl) rfl #[.int .i64 ((rd_T100 ((rd_T94 l0 x3_1).f1) x4_2).f0), .int .i64 97, .int .i64 122] (by rfl) rfl rfl mq ?_
        with_reducible refine (spec_l1In.calls ((rd_T100 ((rd_T94 l0 x3_1).f1) x4_2).f0) 97 122 true _ A7.out).mono ?_
        rintro e w' ⟨rfl, ⟨nd, rfl⟩⟩
        refine ⟨_, rfl, ?_⟩
        refine hK.out _ _ ⟨(blk_cell BK129.out 0).trans rfl, (blk_cell BK129.out 1).trans rfl⟩ (fun hHeld => ?_)
        clear hK K
        refine norm_ (a' := ?_) ?_ ?_
        rotate_left
        ·show Act.put _ (some 32) _ = _
         simp only [Act.put, List.setIfInBounds_toArray, List.set_cons_zero, List.set_cons_succ, i64_w, i32_w]
         rfl
        refine pu 3 33 ?_
        refine pu 4 34 ?_
        refine pu 5 35 ?_
        refine pu 7 37 ?_
        refine pu 8 38 ?_
        refine pu 9 39 ?_
        refine pu 10 40 ?_
        refine pu 11 41 ?_
        refine tk2 6 36 hHeld ?_
        refine on1 12 42 (fun K hK => ?_)
        refine goes_ Try.func78 (by kernel_rfl) rfl #[.int .i64 ((rd_T100 ((rd_T94 l0 x3_1).f1) x4_2).f1), .int .i64 (wrap64 (x3_1 + 1)), .int .i64 (wrap64 ((l0.length : Int) - 1))] (by rfl) rfl rfl mq ?_
        with_reducible refine (spec_l1In.calls ((rd_T100 ((rd_T94 l0 x3_1).f1) x4_2).f1) (wrap64 (x3_1 + 1)) (wrap64 ((l0.length : Int) - 1)) false _ A9.out).mono ?_
        rintro e w' ⟨rfl, ⟨nd, rfl⟩⟩
        refine ⟨_, rfl, ?_⟩
        refine hK.out _ _ ⟨(blk_cell BK129.out 0).trans rfl, (blk_cell BK129.out 1).trans rfl⟩ (fun hHeld => ?_)
        clear hK K
        refine norm_ (a' := ?_) ?_ ?_
        rotate_left
        ·show Act.put _ (some 42) _ = _
         simp only [Act.put, List.setIfInBounds_toArray, List.set_cons_zero, List.set_cons_succ, i64_w, i32_w]
         rfl
        refine pu 13 43 ?_
        refine pu 14 44 ?_
        refine pu 15 45 ?_
        refine puu 16 46 ?_
        refine puu 17 47 ?_
        refine puu 18 48 ?_
        refine puu 19 49 ?_
        refine puu 20 50 ?_
        refine puu 21 51 ?_
        refine puu 22 52 ?_
        refine puu 23 53 ?_
        refine puu 24 54 ?_
        refine puu 25 55 ?_
        refine puu 26 56 ?_
        refine puu 27 57 ?_
        refine puu 28 58 ?_
        refine puu 29 59 ?_
        refine puu 30 60 ?_
        refine puu 31 61 ?_
        refine puu 32 62 ?_
        refine pu 33 63 ?_
        refine done_ (done_of HT_.out (by kernel_rfl)) ?_
        try go_wp2
        go_ret
        exact ⟨eq_, bel1 GE129.out⟩
       replace c8 := Bool.eq_false_iff.mpr c8; subst c8
       have H1 : (some false) = some r := b5_
       replace H := H1; clear H1
       obtain rfl := Option.some.inj H
       have p124 : 0 ≤ (x3_1 : Int) := of_decide_eq_true ad
       have q124 : x3_1 < (l0.length : Int) := of_decide_eq_true ad
       obtain ⟨ad124, A124_1, c124_1, e124, hx124_0, hx124_1, hl124_1, hi124_1⟩ := at_T94 HR0.out x3_1 p124 q124
       cases e124
       replace hx124_0 := kp HB.out hx124_0; replace hx124_1 := kp HB.out hx124_1; have HR124_1 := am hi124_1; have HC124_1 := am hl124_1; clear hi124_1 hl124_1; replace p124 := eq_true p124; replace q124 := eq_true q124
       have p127 : 0 ≤ (x3_1 : Int) := of_decide_eq_true ad
       have q127 : x3_1 < (l0.length : Int) := of_decide_eq_true ad
       obtain ⟨ad127, A127_1, c127_1, e127, hx127_0, hx127_1, hl127_1, hi127_1⟩ := at_T94 HR0.out x3_1 p127 q127
       obtain rfl : ad124 = ad127 := (by injection e127)
       replace hx127_0 := kp HB.out hx127_0; replace hx127_1 := kp HB.out hx127_1; have HR127_1 := am hi127_1; have HC127_1 := am hl127_1; clear hi127_1 hl127_1; replace p127 := eq_true p127; replace q127 := eq_true q127; have ea_ := Option.some.inj (hx124_1.symm.trans hx127_1)
       injection ea_ with ea_ en_ ec_
       subst ea_; subst ec_; clear en_
       have p128 : 0 ≤ (x4_2 : Int) := of_decide_eq_true ad
       have q128 : x4_2 < (((rd_T94 l0 x3_1).f1).length : Int) := of_decide_eq_true ad
       obtain ⟨ad128, e128, hx128_0, hx128_1⟩ := at_T100 HR127_1.out x4_2 p128 q128
       cases e128
       replace hx128_0 := kp HB.out hx128_0; replace hx128_1 := kp HB.out hx128_1; replace p128 := eq_true p128; replace q128 := eq_true q128
       try go_wp2_with (first | ((with_reducible refine gate_dst (N := 5) rfl ?_); (try (refine gate_guard (by rfl) ?_; dsimp only)); refine bx 5 (cs := #[.int .i64 0, .int .i64 0]) (t := 100) ?_; intro gb129 hg w32 hbox hb; have BK129 := am (hbox); have GW129 := am ((b7_ : w.heap.size ≤ gb129)); have GE129 := am ((b7_ : w.heap.size ≤ gb129)); replace HB := am (below_step bel hb); clear hb hbox hg; have hcz33_0 := bc BK129.out 0; have hcz33_1 := bc BK129.out 1; have hfz33_0 := bf BK129.out 0; have hfz33_1 := bf BK129.out 1))
       have n0_ : Aside0 (((w32.setCell ⟨gb129, 0, none⟩ (.int .i64 ((rd_T100 ((rd_T94 l0 x3_1).f1) x4_2).f0))).setCell ⟨gb129, 1, none⟩ (.int .i64 ((rd_T100 ((rd_T94 l0 x3_1).f1) x4_2).f1))).heap[gb129]? = some (.cells #[.int .i64 ((rd_T100 ((rd_T94 l0 x3_1).f1) x4_2).f0), .int .i64 ((rd_T100 ((rd_T94 l0 x3_1).f1) x4_2).f1)] 100 (0, 0))) := ⟨b0_⟩
       have n1_ : Aside0 (Below w.heap.size w ((w32.setCell ⟨gb129, 0, none⟩ (.int .i64 ((rd_T100 ((rd_T94 l0 x3_1).f1) x4_2).f0))).setCell ⟨gb129, 1, none⟩ (.int .i64 ((rd_T100 ((rd_T94 l0 x3_1).f1) x4_2).f1)))) := ⟨bel1 GE129.out⟩
       (try clear BK129)
       (try clear HB)
       generalize ((w32.setCell ⟨gb129, 0, none⟩ (.int .i64 ((rd_T100 ((rd_T94 l0 x3_1).f1) x4_2).f0))).setCell ⟨gb129, 1, none⟩ (.int .i64 ((rd_T100 ((rd_T94 l0 x3_1).f1) x4_2).f1))) = w34 at n0_ n1_ ⊢
       have BK129 := n0_; have HB := n1_; clear n0_ n1_; replace BK129 := am (blk_drew BK129.out); replace HB := am (below_drew1 HB.out)
       refine st (n := 34) (S := fun w' => w'.cell? ⟨gb129, 0, none⟩ = some (.int .i64 ((rd_T100 ((rd_T94 l0 x3_1).f1) x4_2).f0)) ∧ w'.cell? ⟨gb129, 1, none⟩ = some (.int .i64 ((rd_T100 ((rd_T94 l0 x3_1).f1) x4_2).f1))) (ds := []) ⟨(blk_cell BK129.out 0).trans rfl, (blk_cell BK129.out 1).trans rfl⟩ (fun hHeld => ?_); refine with_tabW spec_MachineOk.tab8 spec_MachineOk.bits8 (fun HT_ HW_ => ?_)
       generalize w34.drew = w35 at BK129 HB hHeld ⊢
       refine pu 0 30 ?_
       refine tk2 1 31 hHeld ?_
       refine on1 2 32 (fun K hK => ?_)
       refine goes_ Try.func78 (by kernel_rfl) rfl #[.int .i64 ((rd_T100 ((rd_T94 l0 x3_1).f1) x4_2).f0), .int .i64 97, .int .i64 122] (by rfl) rfl rfl mq ?_
       with_reducible refine (spec_l1In.calls ((rd_T100 ((rd_T94 l0 x3_1).f1) x4_2).f0) 97 122 false _ A7.out).mono ?_
       rintro e w' ⟨rfl, ⟨nd, rfl⟩⟩
       refine ⟨_, rfl, ?_⟩
       refine hK.out _ _ ⟨(blk_cell BK129.out 0).trans rfl, (blk_cell BK129.out 1).trans rfl⟩ (fun hHeld => ?_)
       clear hK K
       refine norm_ (a' := ?_) ?_ ?_
       rotate_left
       ·show Act.put _ (some 32) _ = _
        simp only [Act.put, List.setIfInBounds_toArray, List.set_cons_zero, List.set_cons_succ, i64_w, i32_w]
        rfl
       refine pu 3 33 ?_
       refine pu 4 34 ?_
       refine puu 5 35 ?_
       refine puu 6 36 ?_
       refine puu 7 37 ?_
       refine puu 8 38 ?_
       refine puu 9 39 ?_
       refine puu 10 40 ?_
       refine puu 11 41 ?_
       refine puu 12 42 ?_
       refine puu 13 43 ?_
       refine pu 14 44 ?_
       refine pu 15 45 ?_
       refine puu 16 46 ?_
       refine puu 17 47 ?_
       refine puu 18 48 ?_
       refine puu 19 49 ?_
       refine puu 20 50 ?_
       refine puu 21 51 ?_
       refine puu 22 52 ?_
       refine puu 23 53 ?_
       refine puu 24 54 ?_
       refine puu 25 55 ?_
       refine puu 26 56 ?_
       refine puu 27 57 ?_
       refine puu 28 58 ?_
       refine puu 29 59 ?_
       refine puu 30 60 ?_
       refine puu 31 61 ?_
       refine puu 32 62 ?_
       refine pu 33 63 ?_
       refine done_ (done_of HT_.out (by kernel_rfl)) ?_
       try go_wp2
       go_ret
       exact ⟨eq_, bel1 GE129.out⟩
      rw [if_neg c5] at H; have c5b0 := decide_eq_false c5; clear c5
      by_cases c36 : x3_1 > 0
      ·rw [if_pos c36] at H; have c36b0 := decide_eq_true c36; clear c36; obtain ⟨bq37, hbq37⟩ : ∃ b_ : Bool, b_ = ((rd_T94 l0 x3_1).f0) := ⟨_, rfl⟩
       replace H : (if (bq37 = true) then (spec_MachineOk.l0 k2 l0 (wrap64 (x3_1 + 1))) else (if (((rd_T94 l0 x3_1).f1).length : Int) = 0 then (some false) else (spec_MachineOk.l0 k2 l0 (wrap64 (x3_1 + 1))))) = some r := by rw [← hbq37] at H; exact H
       have Nbq37 := am hbq37; clear hbq37
       by_cases c38 : (bq37 = true)
       ·subst c38
        (try rw [← Nbq37.out] at hx127_0)
        (try rw [← Nbq37.out])
        have H1 : (spec_MachineOk.l0 k2 l0 (wrap64 (x3_1 + 1))) = some r := b11_
        replace H := H1; clear H1
        have H' := am H
        clear H
        have p124 : 0 ≤ (x3_1 : Int) := of_decide_eq_true ad
        have q124 : x3_1 < (l0.length : Int) := of_decide_eq_true ad
        obtain ⟨ad124, A124_1, c124_1, e124, hx124_0, hx124_1, hl124_1, hi124_1⟩ := at_T94 HR0.out x3_1 p124 q124
        (try rw [← Nbq37.out] at hx124_0)
        cases e124
        replace hx124_0 := kp HB.out hx124_0; replace hx124_1 := kp HB.out hx124_1; have HR124_1 := am hi124_1; have HC124_1 := am hl124_1; clear hi124_1 hl124_1; replace p124 := eq_true p124; replace q124 := eq_true q124
        have p125 : 0 ≤ (x3_1 : Int) := of_decide_eq_true ad
        have q125 : x3_1 < (l0.length : Int) := of_decide_eq_true ad
        obtain ⟨ad125, A125_1, c125_1, e125, hx125_0, hx125_1, hl125_1, hi125_1⟩ := at_T94 HR0.out x3_1 p125 q125
        (try rw [← Nbq37.out] at hx125_0)
        obtain rfl : ad124 = ad125 := (by injection e125)
        replace hx125_0 := kp HB.out hx125_0; replace hx125_1 := kp HB.out hx125_1; have HR125_1 := am hi125_1; have HC125_1 := am hl125_1; clear hi125_1 hl125_1; replace p125 := eq_true p125; replace q125 := eq_true q125; have ea_ := Option.some.inj (hx124_1.symm.trans hx125_1)
        injection ea_ with ea_ en_ ec_
        subst ea_; subst ec_; clear en_; go_wp2
        go_roundg k2
        case measure => have := HK1.out; have := HK2.out; omega
        case rel => (try rw [← Nbq37.out]); exact ⟨(wrap64 (x3_1 + 1)), sq, H', ⟨b15_⟩, ⟨bel⟩⟩
       replace c38 := Bool.eq_false_iff.mpr c38; subst c38
       (try rw [← Nbq37.out] at hx127_0)
       (try rw [← Nbq37.out])
       have H1 : (if (((rd_T94 l0 x3_1).f1).length : Int) = 0 then (some false) else (spec_MachineOk.l0 k2 l0 (wrap64 (x3_1 + 1)))) = some r := b5_
       replace H := H1; clear H1
       by_cases c39 : (((rd_T94 l0 x3_1).f1).length : Int) = 0
       ·rw [if_pos c39] at H
        have c39b0 : ((((rd_T94 l0 x3_1).f1).length : Int) == 0) = true := beq_iff_eq.mpr c39
        have c39b1 : ((((rd_T94 l0 x3_1).f1).length : Int) != 0) = false := bne_eq_false_iff_eq.mpr c39
        clear c39; obtain rfl := Option.some.inj H
        have p124 : 0 ≤ (x3_1 : Int) := of_decide_eq_true ad
        have q124 : x3_1 < (l0.length : Int) := of_decide_eq_true ad
        obtain ⟨ad124, A124_1, c124_1, e124, hx124_0, hx124_1, hl124_1, hi124_1⟩ := at_T94 HR0.out x3_1 p124 q124
        (try rw [← Nbq37.out] at hx124_0)
        cases e124
        replace hx124_0 := kp HB.out hx124_0; replace hx124_1 := kp HB.out hx124_1; have HR124_1 := am hi124_1; have HC124_1 := am hl124_1; clear hi124_1 hl124_1; replace p124 := eq_true p124; replace q124 := eq_true q124
        have p125 : 0 ≤ (x3_1 : Int) := of_decide_eq_true ad
        have q125 : x3_1 < (l0.length : Int) := of_decide_eq_true ad
        obtain ⟨ad125, A125_1, c125_1, e125, hx125_0, hx125_1, hl125_1, hi125_1⟩ := at_T94 HR0.out x3_1 p125 q125
        (try rw [← Nbq37.out] at hx125_0)
        obtain rfl : ad124 = ad125 := (by injection e125)
        replace hx125_0 := kp HB.out hx125_0; replace hx125_1 := kp HB.out hx125_1; have HR125_1 := am hi125_1; have HC125_1 := am hl125_1; clear hi125_1 hl125_1; replace p125 := eq_true p125; replace q125 := eq_true q125; have ea_ := Option.some.inj (hx124_1.symm.trans hx125_1)
        injection ea_ with ea_ en_ ec_
        subst ea_; subst ec_; clear en_
        have p126 : 0 ≤ (x3_1 : Int) := of_decide_eq_true ad
        have q126 : x3_1 < (l0.length : Int) := of_decide_eq_true ad
        obtain ⟨ad126, A126_1, c126_1, e126, hx126_0, hx126_1, hl126_1, hi126_1⟩ := at_T94 HR0.out x3_1 p126 q126
        (try rw [← Nbq37.out] at hx126_0)
        obtain rfl : ad124 = ad126 := (by injection e126)
        replace hx126_0 := kp HB.out hx126_0; replace hx126_1 := kp HB.out hx126_1; have HR126_1 := am hi126_1; have HC126_1 := am hl126_1; clear hi126_1 hl126_1; replace p126 := eq_true p126; replace q126 := eq_true q126; have ea_ := Option.some.inj (hx124_1.symm.trans hx126_1)
        injection ea_ with ea_ en_ ec_
        subst ea_; subst ec_; clear en_; go_wp2; go_ret
        exact ⟨eq_, bel⟩
       rw [if_neg c39] at H
       have c39b0 : ((((rd_T94 l0 x3_1).f1).length : Int) == 0) = false := beq_eq_false_iff_ne.mpr c39
       have c39b1 : ((((rd_T94 l0 x3_1).f1).length : Int) != 0) = true := bne_iff_ne.mpr c39
       have c39b2 : ¬ (((rd_T94 l0 x3_1).f1) = []) := fun h_ => c39 (by rw [h_]; rfl)
       have H' := am H
       clear H
       have p124 : 0 ≤ (x3_1 : Int) := of_decide_eq_true ad
       have q124 : x3_1 < (l0.length : Int) := of_decide_eq_true ad
       obtain ⟨ad124, A124_1, c124_1, e124, hx124_0, hx124_1, hl124_1, hi124_1⟩ := at_T94 HR0.out x3_1 p124 q124
       (try rw [← Nbq37.out] at hx124_0)
       cases e124
       replace hx124_0 := kp HB.out hx124_0; replace hx124_1 := kp HB.out hx124_1; have HR124_1 := am hi124_1; have HC124_1 := am hl124_1; clear hi124_1 hl124_1; replace p124 := eq_true p124; replace q124 := eq_true q124
       have p125 : 0 ≤ (x3_1 : Int) := of_decide_eq_true ad
       have q125 : x3_1 < (l0.length : Int) := of_decide_eq_true ad
       obtain ⟨ad125, A125_1, c125_1, e125, hx125_0, hx125_1, hl125_1, hi125_1⟩ := at_T94 HR0.out x3_1 p125 q125
       (try rw [← Nbq37.out] at hx125_0)
       obtain rfl : ad124 = ad125 := (by injection e125)
       replace hx125_0 := kp HB.out hx125_0; replace hx125_1 := kp HB.out hx125_1; have HR125_1 := am hi125_1; have HC125_1 := am hl125_1; clear hi125_1 hl125_1; replace p125 := eq_true p125; replace q125 := eq_true q125; have ea_ := Option.some.inj (hx124_1.symm.trans hx125_1)
       injection ea_ with ea_ en_ ec_
       subst ea_; subst ec_; clear en_
       have p126 : 0 ≤ (x3_1 : Int) := of_decide_eq_true ad
       have q126 : x3_1 < (l0.length : Int) := of_decide_eq_true ad
       obtain ⟨ad126, A126_1, c126_1, e126, hx126_0, hx126_1, hl126_1, hi126_1⟩ := at_T94 HR0.out x3_1 p126 q126
       (try rw [← Nbq37.out] at hx126_0)
       obtain rfl : ad124 = ad126 := (by injection e126)
       replace hx126_0 := kp HB.out hx126_0; replace hx126_1 := kp HB.out hx126_1; have HR126_1 := am hi126_1; have HC126_1 := am hl126_1; clear hi126_1 hl126_1; replace p126 := eq_true p126; replace q126 := eq_true q126; have ea_ := Option.some.inj (hx124_1.symm.trans hx126_1)
       injection ea_ with ea_ en_ ec_
       subst ea_; subst ec_; clear en_; go_wp2
       go_roundg k2
       case measure => have := HK1.out; have := HK2.out; omega
       case rel => (try rw [← Nbq37.out]); exact ⟨(wrap64 (x3_1 + 1)), sq, H', ⟨b15_⟩, ⟨bel⟩⟩
      rw [if_neg c36] at H; have c36b0 := decide_eq_false c36; clear c36
      have H' := am H
      clear H
      have p124 : 0 ≤ (x3_1 : Int) := of_decide_eq_true ad
      have q124 : x3_1 < (l0.length : Int) := of_decide_eq_true ad
      obtain ⟨ad124, A124_1, c124_1, e124, hx124_0, hx124_1, hl124_1, hi124_1⟩ := at_T94 HR0.out x3_1 p124 q124
      cases e124
      replace hx124_0 := kp HB.out hx124_0; replace hx124_1 := kp HB.out hx124_1; have HR124_1 := am hi124_1; have HC124_1 := am hl124_1; clear hi124_1 hl124_1; replace p124 := eq_true p124; replace q124 := eq_true q124; go_wp2
      go_roundg k2
      case measure => have := HK1.out; have := HK2.out; omega
      case rel => exact ⟨(wrap64 (x3_1 + 1)), sq, H', ⟨b15_⟩, ⟨bel⟩⟩
   rw [if_neg c2] at H; have c2b0 := decide_eq_false c2; clear c2; replace H := bs H; obtain ⟨t122, A400, H⟩ := H; replace H : (if t122 = true then ((spec_l3Deep.f k1 l0).bind fun t123 => (some (decide (t123 ≤ 12)))) else (some false)) = some r := H; have A40 := Aside0.mk A400; clear A400
   by_cases c41 : t122 = true
   ·subst c41
    have H1 : ((spec_l3Deep.f k1 l0).bind fun t123 => (some (decide (t123 ≤ 12)))) = some r := b11_
    replace H := H1; clear H1
    replace H := bs H; obtain ⟨t123, A420, H⟩ := H; replace H : (some (decide (t123 ≤ 12))) = some r := H; have A42 := Aside0.mk A420; clear A420; obtain rfl := Option.some.inj H
    go_wp2_with (first | ((with_reducible refine gate_callee (f := 78) rfl ?_); refine goesL_ (some 85) rfl rfl Try.func78 (by kernel_rfl) rfl #[.int .i64 (l0.length : Int), .int .i64 1, .int .i64 400] rfl mq ?_; (with_reducible refine (spec_l1In.calls (l0.length : Int) 1 400 true _ A40.out).mono ?_); rintro e w' ⟨rfl, ⟨nd, rfl⟩⟩; refine ⟨_, rfl, ?_⟩) | (go_at_call 79; (with_reducible refine (spec_l3Deep.calls k1 _ _ l0 t123 _ ?side1 ?side2 A42.out).mono ?_); (case side1 => exact cq (Kd.C_below HR0.out bel)); (case side2 => exact HC0.out); rintro e w43 ⟨rfl, hb⟩; replace HB := am (below_step bel hb); (try clear hb); (try clear hb2); (try clear hk); (try clear hi)))
    go_ret
    exact ⟨eq_, bel⟩
   replace c41 := Bool.eq_false_iff.mpr c41; subst c41
   have H1 : (some false) = some r := b5_
   replace H := H1; clear H1
   obtain rfl := Option.some.inj H
   go_wp2_with (first | ((with_reducible refine gate_callee (f := 78) rfl ?_); refine goesL_ (some 85) rfl rfl Try.func78 (by kernel_rfl) rfl #[.int .i64 (l0.length : Int), .int .i64 1, .int .i64 400] rfl mq ?_; (with_reducible refine (spec_l1In.calls (l0.length : Int) 1 400 false _ A40.out).mono ?_); rintro e w' ⟨rfl, ⟨nd, rfl⟩⟩; refine ⟨_, rfl, ?_⟩))
   go_ret
   exact ⟨eq_, bel⟩
-- shrunk

/-! ### spec_l1Letters: function 102 -/
def spec_l1Letters.l0 : Nat → ByteArray → Int → Int → Option (Bool)
 | 0, _, _, _ => none
 | k + 1, x0, x1, x5 => if x5 < (x0.size : Int) then (if 0 ≤ x5 then (if (bt x0 x5) < 97 then (some false) else (if (bt x0 x5) > 122 then (some false) else (spec_l1Letters.l0 k x0 x1 (wrap64 (x5 + 1))))) else (none)) else (some (decide ((x0.size : Int) ≤ x1)))
def spec_l1Letters.f (k : Nat) (a0 : ByteArray) (a1 : Int) : Option (Bool) := spec_l1Letters.l0 k a0 a1 0
theorem spec_l1Letters.calls (k : Nat) (a0 : ByteArray) (a1 : Int) (r : Bool) (w : World) (h : spec_l1Letters.f k a0 a1 = some r) :
  Calls Try.prog 102 #[.string a0, .int .i64 a1] w fun e w' => e = .returned (.bool r) ∧ Drawn0 w w' := by
 have H : (spec_l1Letters.l0 k a0 a1 0) = some r := h
 clear h
 have H' := am H
 clear H; go_enter Try.func102, Try.ntmps102; go_wp2
 go_loopg [5] k (fun kq v5 w' => ∃ (x5_1 : Int), v5 = .int .i64 x5_1 ∧ Aside0 (spec_l1Letters.l0 kq a0 a1 x5_1 = some r) ∧ Aside0 (kq ≤ k) ∧ Drawn0 w w')
 case atStart => exact ⟨(0), sq, H', ⟨Nat.le_refl _⟩, dr⟩
 case round =>
  clear H'; (try clear c1); (try clear p2); obtain ⟨x5_1, rfl, HA, HK1, ⟨m1, rfl⟩⟩ := hrel
  cases gk with
  | zero => exact absurd HA.out (by simp [spec_l1Letters.l0])
  | succ k1 =>
   have H := HA.out; clear HA
   simp only [spec_l1Letters.l0] at H
   by_cases c3 : x5_1 < (a0.size : Int)
   ·rw [if_pos c3] at H; have c3b0 := decide_eq_true c3; clear c3
    replace H := it H; obtain ⟨c4b0, H⟩ := H
    by_cases c6 : (bt a0 x5_1) < 97
    ·rw [if_pos c6] at H; have c6b0 := decide_eq_true c6; clear c6; obtain rfl := Option.some.inj H
     have p5 : 0 ≤ (x5_1 : Int) := of_decide_eq_true ad
     have q5 : x5_1 < (a0.size : Int) := of_decide_eq_true ad
     have hx5 := bt_at a0 x5_1; replace p5 := eq_true p5; replace q5 := eq_true q5; go_wp2; go_ret
     exact ⟨sq, dr⟩
    rw [if_neg c6] at H; have c6b0 := decide_eq_false c6; clear c6
    by_cases c8 : (bt a0 x5_1) > 122
    ·rw [if_pos c8] at H; have c8b0 := decide_eq_true c8; clear c8; obtain rfl := Option.some.inj H
     have p5 : 0 ≤ (x5_1 : Int) := of_decide_eq_true ad
     have q5 : x5_1 < (a0.size : Int) := of_decide_eq_true ad
     have hx5 := bt_at a0 x5_1; replace p5 := eq_true p5; replace q5 := eq_true q5
     have p7 : 0 ≤ (x5_1 : Int) := of_decide_eq_true ad
     have q7 : x5_1 < (a0.size : Int) := of_decide_eq_true ad
     have hx7 := bt_at a0 x5_1; replace p7 := eq_true p7; replace q7 := eq_true q7; go_wp2; go_ret
     exact ⟨sq, dr⟩
    rw [if_neg c8] at H; have c8b0 := decide_eq_false c8; clear c8
    have H' := am H
    clear H
    have p5 : 0 ≤ (x5_1 : Int) := of_decide_eq_true ad
    have q5 : x5_1 < (a0.size : Int) := of_decide_eq_true ad
    have hx5 := bt_at a0 x5_1; replace p5 := eq_true p5; replace q5 := eq_true q5
    have p7 : 0 ≤ (x5_1 : Int) := of_decide_eq_true ad
    have q7 : x5_1 < (a0.size : Int) := of_decide_eq_true ad
    have hx7 := bt_at a0 x5_1; replace p7 := eq_true p7; replace q7 := eq_true q7; go_wp2
    go_roundg k1
    case measure => have := HK1.out; omega
    case rel => exact ⟨(wrap64 (x5_1 + 1)), sq, H', ⟨b21_⟩, dr⟩
   rw [if_neg c3] at H; have c3b0 := decide_eq_false c3; clear c3; obtain rfl := Option.some.inj H; go_wp2; go_ret
   exact ⟨sq, dr⟩

/-! ### spec_l1Word: function 57 -/
def spec_l1Word.f (k : Nat) (a0 : ByteArray) : Option (Bool) := if (a0.size : Int) > 0 then ((spec_l1Letters.f k a0 12).bind fun t134 => (some t134)) else (some false)
theorem spec_l1Word.calls (k : Nat) (a0 : ByteArray) (r : Bool) (w : World) (h : spec_l1Word.f k a0 = some r) :
  Calls Try.prog 57 #[.string a0] w fun e w' => e = .returned (.bool r) ∧ Drawn0 w w' := by
 have H : (if (a0.size : Int) > 0 then ((spec_l1Letters.f k a0 12).bind fun t134 => (some t134)) else (some false)) = some r := h
 clear h
 by_cases c2 : (a0.size : Int) > 0
 ·rw [if_pos c2] at H; have c2b0 := decide_eq_true c2
  have c2b1 : decide (0 < a0.size) = true := decide_eq_true (by omega)
  clear c2; replace H := bs H; obtain ⟨t134, A30, H⟩ := H; replace H : (some t134) = some r := H; have A3 := Aside0.mk A30; clear A30; obtain rfl := Option.some.inj H; go_enter Try.func57, Try.ntmps57
  go_wp2_with (first | (go_at_call 102; (with_reducible refine (spec_l1Letters.calls k a0 12 t134 _ A3.out).mono ?_); rintro e w' ⟨rfl, ⟨nd, rfl⟩⟩))
  go_ret
  exact ⟨sq, dr⟩
 rw [if_neg c2] at H; have c2b0 := decide_eq_false c2
 have c2b1 : decide (0 < a0.size) = false := decide_eq_false (by omega)
 clear c2; obtain rfl := Option.some.inj H; go_enter Try.func57, Try.ntmps57; go_wp2; go_ret
 exact ⟨sq, dr⟩
-- shrunk

/-! ### spec_l1Put: function 138 -/
mutual
def spec_l1Put.l0 : Nat → List ByteArray → ByteArray → Int → Option (List ByteArray)
 | 0, _, _, _ => none
 | k + 1, x0, x1, x5 => if x5 < (x0.length : Int) then (if 0 ≤ x5 then (spec_l1Put.j1 k x0 x1 x5 (Op.bytesLess ((rdOf ByteArray.empty x0 x5).toList) x1.toList)) else (none)) else (spec_l1Put.j1 k x0 x1 x5 false)
def spec_l1Put.j1 : Nat → List ByteArray → ByteArray → Int → Bool → Option (List ByteArray)
 | 0, _, _, _, _ => none
 | k + 1, x0, x1, x5, x17 => if x17 = true then (spec_l1Put.l0 k x0 x1 (wrap64 (x5 + 1))) else (if x5 < (x0.length : Int) then (if 0 ≤ x5 then (spec_l1Put.j2 k x0 x1 x5 ((rdOf ByteArray.empty x0 x5).toList == x1.toList)) else (none)) else (spec_l1Put.j2 k x0 x1 x5 false))
def spec_l1Put.j2 : Nat → List ByteArray → ByteArray → Int → Bool → Option (List ByteArray)
 | 0, _, _, _, _ => none
 | k + 1, x0, x1, x5, x31 => if x31 = true then (some x0) else ((some (([] : List ByteArray) : List ByteArray)).bind fun y137 => (if 0 ≤ x5 then (if x5 ≤ (x0.length : Int) then ((some (x0.take (x5 : Int).toNat : List ByteArray)).bind fun y140 => (if y137.length + y140.length < 8796093022208 then ((some (y137 ++ y140 : List ByteArray)).bind fun y145 => ((some (([x1] : List ByteArray) : List ByteArray)).bind fun y148 => (if y145.length + y148.length < 8796093022208 then ((some (y145 ++ y148 : List ByteArray)).bind fun y151 => ((some (x0.drop (x5 : Int).toNat : List ByteArray)).bind fun y154 => (if y151.length + y154.length < 8796093022208 then (some (y151 ++ y154)) else (none)))) else (none)))) else (none))) else (none)) else (none)))
end
def spec_l1Put.f (k : Nat) (l0 : List ByteArray) (a1 : ByteArray) : Option (List ByteArray) := spec_l1Put.l0 k l0 a1 0
def spec_l1Put.T6 : Bool × List (List Nat × List Nat) := (true, [([], []), ([], []), ([], []), ([1, 2], [1, 2]), ([0, 3], [0, 3]), ([], []), ([5], [5]), ([4, 6, 4], [4, 6]), ([], []), ([], []), ([8, 9], [8, 9]), ([7, 10, 7], [7, 10]), ([11, 11, 0, 1, 2, 3, 4, 5, 6, 7, 8, 9, 10, 11], [11])])
def spec_l1Put.B6 : List Nat := [0, 0, 0, 6, 15, 0, 32, 127, 0, 0, 768, 2047, 4095]
theorem spec_l1Put.tab6 : rtab .any (opsOf Try.f138 6) = spec_l1Put.T6 := by kernel_rfl
theorem spec_l1Put.bits6 : waitsOk spec_l1Put.T6.2 spec_l1Put.B6 = true := by kernel_rfl
theorem spec_l1Put.calls (k : Nat) (P0_ : Nat → Prop) (A0 : Option Addr) (c0 : Nat) (l0 : List ByteArray) (a1 : ByteArray) (r : List ByteArray) (w : World) (hs0 : Kd.V Kd.string 9 w w.heap.size (fun k_ => P0_ k_) (.slice A0 l0.length c0) l0) (h : spec_l1Put.f k l0 a1 = some r) :
  Calls Try.prog 138 #[.slice A0 l0.length c0, .string a1] w fun e w' => ∃ v0_ : Value, e = .returned (v0_) ∧ Kd.V Kd.string 9 w' w.heap.size (fun k_ => (P0_ k_ ∨ w.heap.size ≤ k_)) v0_ r ∧ Below w.heap.size w w' := by
 have HO0 := am (show Kd.V Kd.string 9 w w.heap.size (fun k_ => (P0_ k_ ∨ w.heap.size ≤ k_)) (.slice A0 l0.length c0) l0 from Kd.V_mono hs0 (fun k_ hk => .inl hk)); have HB := am (Below.refl w.heap.size w)
 have H : (spec_l1Put.l0 k l0 a1 0) = some r := h
 clear h
 have H' := am H
 clear H; go_enter Try.func138, Try.ntmps138; go_wp2
 go_loopg [5] k (fun kq v5 w' => ∃ (x5_1 : Int), v5 = .int .i64 x5_1 ∧ Aside0 (spec_l1Put.l0 kq l0 a1 x5_1 = some r) ∧ Aside0 (kq ≤ k) ∧ Aside0 (Kd.V Kd.string 9 w' w.heap.size (fun k_ => (P0_ k_ ∨ w.heap.size ≤ k_)) (.slice A0 l0.length c0) l0) ∧ Aside0 (Below w.heap.size w w'))
 case atStart => exact ⟨(0), sq, H', ⟨Nat.le_refl _⟩, ⟨vq HO0.out⟩, ⟨bel⟩⟩
 case round =>
  clear H'; (try clear c1); (try clear p2); obtain ⟨x5_1, rfl, HA, HK1, HO_0, HB⟩ := hrel
  cases gk with
  | zero => exact absurd HA.out (by simp [spec_l1Put.l0])
  | succ k1 =>
   have H := HA.out; clear HA
   simp only [spec_l1Put.l0] at H
   have HC3 := am H; clear H
   go_upto_region 2 with (fail)
   go_cut [17] (fun v17 wc => ∃ (kq : Nat) (x17_2 : Bool), v17 = .bool x17_2 ∧ Aside0 (spec_l1Put.j1 kq l0 a1 x5_1 x17_2 = some r) ∧ Aside0 (kq ≤ k1) ∧ Aside0 (Kd.V Kd.string 9 wc w.heap.size (fun k_ => (P0_ k_ ∨ w.heap.size ≤ k_)) (.slice A0 l0.length c0) l0) ∧ Aside0 (Below w.heap.size w wc))
   case first =>
    have H := HC3.out; clear HC3
    by_cases c4 : x5_1 < (l0.length : Int)
    ·rw [if_pos c4] at H; have c4b0 := decide_eq_true c4; clear c4
     (first | rw [c4b0] | (simp only [i64_w, i32_w]; rw [c4b0]) | skip)
     replace H := it H; obtain ⟨c5b0, H⟩ := H
     have H' := am H
     clear H
     have p135 : 0 ≤ (x5_1 : Int) := of_decide_eq_true ad
     have q135 : x5_1 < (l0.length : Int) := of_decide_eq_true ad
     obtain ⟨ad135, e135, hx135_0⟩ := Kd.at_string (Kd.V_reads' HO_0.out).2.2 x5_1 p135 q135
     cases e135
     replace p135 := eq_true p135; replace q135 := eq_true q135; go_wp2
     go_meet
     case rel => exact ⟨_, ((Op.bytesLess ((rdOf ByteArray.empty l0 x5_1).toList) a1.toList)), sq, H', ⟨b33_⟩, ⟨vq HO_0.out⟩, ⟨bel⟩⟩
    rw [if_neg c4] at H; have c4b0 := decide_eq_false c4; clear c4
    (first | rw [c4b0] | (simp only [i64_w, i32_w]; rw [c4b0]) | skip)
    have H' := am H
    clear H; go_wp2
    go_meet
    case rel => exact ⟨_, (false), sq, H', ⟨b33_⟩, ⟨vq HO_0.out⟩, ⟨bel⟩⟩
   case rest =>
    clear HC3; (try clear c1); (try clear p1); (try clear q1); (try clear hx1); (try clear p2); (try clear c4); (try clear c4b0); (try clear c5); (try clear c5b0); (try clear hx135_0); (try clear p135); (try clear p2); (try clear q135); obtain ⟨kq, x17_2, rfl, HA, HJ2, HO_0, HB⟩ := hcut
    cases kq with
    | zero => exact absurd HA.out (by simp [spec_l1Put.j1])
    | succ kj2 =>
     have H := HA.out; clear HA
     simp only [spec_l1Put.j1] at H
     by_cases c6 : x17_2 = true
     ·subst c6
      have H1 : (spec_l1Put.l0 kj2 l0 a1 (wrap64 (x5_1 + 1))) = some r := b11_
      replace H := H1; clear H1
      have H' := am H
      clear H; go_wp2
      go_roundg kj2
      case measure => have := HK1.out; have := HJ2.out; omega
      case rel => exact ⟨(wrap64 (x5_1 + 1)), sq, H', ⟨by have := HK1.out; have := HJ2.out; omega⟩, ⟨vq HO_0.out⟩, ⟨bel⟩⟩
     replace c6 := Bool.eq_false_iff.mpr c6; subst c6
     have H1 : (if x5_1 < (l0.length : Int) then (if 0 ≤ x5_1 then (spec_l1Put.j2 kj2 l0 a1 x5_1 ((rdOf ByteArray.empty l0 x5_1).toList == a1.toList)) else (none)) else (spec_l1Put.j2 kj2 l0 a1 x5_1 false)) = some r := b5_
     replace H := H1; clear H1
     have HC7 := am H; clear H
     go_upto_region 4 with (fail)
     go_cut [31] (fun v31 wc => ∃ (kq : Nat) (x31_6 : Bool), v31 = .bool x31_6 ∧ Aside0 (spec_l1Put.j2 kq l0 a1 x5_1 x31_6 = some r) ∧ Aside0 (kq ≤ kj2) ∧ Aside0 (Kd.V Kd.string 9 wc w.heap.size (fun k_ => (P0_ k_ ∨ w.heap.size ≤ k_)) (.slice A0 l0.length c0) l0) ∧ Aside0 (Below w.heap.size w wc))
     case first =>
      have H := HC7.out; clear HC7
      by_cases c8 : x5_1 < (l0.length : Int)
      ·rw [if_pos c8] at H; have c8b0 := decide_eq_true c8; clear c8
       (first | rw [c8b0] | (simp only [i64_w, i32_w]; rw [c8b0]) | skip)
       replace H := it H; obtain ⟨c9b0, H⟩ := H
       have H' := am H
       clear H
       have p136 : 0 ≤ (x5_1 : Int) := of_decide_eq_true ad
       have q136 : x5_1 < (l0.length : Int) := of_decide_eq_true ad
       obtain ⟨ad136, e136, hx136_0⟩ := Kd.at_string (Kd.V_reads' HO_0.out).2.2 x5_1 p136 q136
       cases e136
       replace p136 := eq_true p136; replace q136 := eq_true q136; go_wp2
       go_meet
       case rel => exact ⟨_, (((rdOf ByteArray.empty l0 x5_1).toList == a1.toList)), sq, H', ⟨by have := HK1.out; have := HJ2.out; first | omega | exact Nat.le_refl _⟩, ⟨vq HO_0.out⟩, ⟨bel⟩⟩
      rw [if_neg c8] at H; have c8b0 := decide_eq_false c8; clear c8
      (first | rw [c8b0] | (simp only [i64_w, i32_w]; rw [c8b0]) | skip)
      have H' := am H
      clear H; go_wp2
      go_meet
      case rel => exact ⟨_, (false), sq, H', ⟨by have := HK1.out; have := HJ2.out; first | omega | exact Nat.le_refl _⟩, ⟨vq HO_0.out⟩, ⟨bel⟩⟩
     case rest =>
      clear HC7; (try clear c1); (try clear p1); (try clear q1); (try clear hx1); (try clear p2); (try clear c4); (try clear c4b0); (try clear c5); (try clear c5b0); (try clear c6); (try clear p6); (try clear c8); (try clear c8b0); (try clear c9); (try clear c9b0); (try clear hx135_0); (try clear hx136_0); (try clear p1); (try clear p135); (try clear p136); (try clear p2); (try clear q1); (try clear q135); (try clear q136); obtain ⟨kq, x31_6, rfl, HA, HJ6, HO_0, HB⟩ := hcut
      cases kq with
      | zero => exact absurd HA.out (by simp [spec_l1Put.j2])
      | succ kj6 =>
       have H := HA.out; clear HA
       simp only [spec_l1Put.j2] at H
       by_cases c10 : x31_6 = true
       ·subst c10
        have H1 : (some l0) = some r := b11_
        replace H := H1; clear H1
        obtain rfl := Option.some.inj H; go_wp2; go_ret
        exact ⟨_, eq_, by (with_reducible repeat (first | apply Kd.V_alloc | apply Kd.V_drewN | apply Kd.V_drew)); exact HO_0.out, bel⟩
       replace c10 := Bool.eq_false_iff.mpr c10; subst c10
       have H1 : ((some (([] : List ByteArray) : List ByteArray)).bind fun y137 => (if 0 ≤ x5_1 then (if x5_1 ≤ (l0.length : Int) then ((some (l0.take (x5_1 : Int).toNat : List ByteArray)).bind fun y140 => (if y137.length + y140.length < 8796093022208 then ((some (y137 ++ y140 : List ByteArray)).bind fun y145 => ((some (([a1] : List ByteArray) : List ByteArray)).bind fun y148 => (if y145.length + y148.length < 8796093022208 then ((some (y145 ++ y148 : List ByteArray)).bind fun y151 => ((some (l0.drop (x5_1 : Int).toNat : List ByteArray)).bind fun y154 => (if y151.length + y154.length < 8796093022208 then (some (y151 ++ y154)) else (none)))) else (none)))) else (none))) else (none)) else (none))) = some r := b5_
       replace H := H1; clear H1
       obtain ⟨y137, hy137⟩ : ∃ y_ : List ByteArray, y_ = (([] : List ByteArray)) := ⟨_, rfl⟩
       replace H : (if 0 ≤ x5_1 then (if x5_1 ≤ (l0.length : Int) then ((some (l0.take (x5_1 : Int).toNat : List ByteArray)).bind fun y140 => (if y137.length + y140.length < 8796093022208 then ((some (y137 ++ y140 : List ByteArray)).bind fun y145 => ((some (([a1] : List ByteArray) : List ByteArray)).bind fun y148 => (if y145.length + y148.length < 8796093022208 then ((some (y145 ++ y148 : List ByteArray)).bind fun y151 => ((some (l0.drop (x5_1 : Int).toNat : List ByteArray)).bind fun y154 => (if y151.length + y154.length < 8796093022208 then (some (y151 ++ y154)) else (none)))) else (none)))) else (none))) else (none)) else (none)) = some r := by first | (rw [hy137]; with_reducible exact H) | (have H2_ := bm H; rw [hy137]; with_reducible exact H2_) | (with_reducible exact bm H) | with_reducible exact H | (rw [hy137]; exact H) | exact H
       have Ny137 := am hy137; clear hy137
       replace H := ip H; obtain ⟨c11, H⟩ := H; have c11b0 := eq_true c11
       have c11b1 : decide (0 ≤ x5_1) = true := decide_eq_true c11
       clear c11
       replace H := ip H; obtain ⟨c12, H⟩ := H; have c12b0 := eq_true c12
       have c12b1 : decide (x5_1 ≤ (l0.length : Int)) = true := decide_eq_true c12
       clear c12; obtain ⟨y140, hy140⟩ : ∃ y_ : List ByteArray, y_ = (l0.take (x5_1 : Int).toNat) := ⟨_, rfl⟩
       replace H : (if y137.length + y140.length < 8796093022208 then ((some (y137 ++ y140 : List ByteArray)).bind fun y145 => ((some (([a1] : List ByteArray) : List ByteArray)).bind fun y148 => (if y145.length + y148.length < 8796093022208 then ((some (y145 ++ y148 : List ByteArray)).bind fun y151 => ((some (l0.drop (x5_1 : Int).toNat : List ByteArray)).bind fun y154 => (if y151.length + y154.length < 8796093022208 then (some (y151 ++ y154)) else (none)))) else (none)))) else (none)) = some r := by first | (rw [hy140]; with_reducible exact H) | (have H2_ := bm H; rw [hy140]; with_reducible exact H2_) | (with_reducible exact bm H) | with_reducible exact H | (rw [hy140]; exact H) | exact H
       have Ny140 := am hy140; clear hy140
       replace H := ip H; obtain ⟨c13, H⟩ := H; have LMc13 := Aside0.mk c13; clear c13; obtain ⟨y145, hy145⟩ : ∃ y_ : List ByteArray, y_ = (y137 ++ y140) := ⟨_, rfl⟩
       replace H : ((some (([a1] : List ByteArray) : List ByteArray)).bind fun y148 => (if y145.length + y148.length < 8796093022208 then ((some (y145 ++ y148 : List ByteArray)).bind fun y151 => ((some (l0.drop (x5_1 : Int).toNat : List ByteArray)).bind fun y154 => (if y151.length + y154.length < 8796093022208 then (some (y151 ++ y154)) else (none)))) else (none))) = some r := by first | (rw [hy145]; with_reducible exact H) | (have H2_ := bm H; rw [hy145]; with_reducible exact H2_) | (with_reducible exact bm H) | with_reducible exact H | (rw [hy145]; exact H) | exact H
       have Ny145 := am hy145; clear hy145; obtain ⟨y148, hy148⟩ : ∃ y_ : List ByteArray, y_ = (([a1] : List ByteArray)) := ⟨_, rfl⟩
       replace H : (if y145.length + y148.length < 8796093022208 then ((some (y145 ++ y148 : List ByteArray)).bind fun y151 => ((some (l0.drop (x5_1 : Int).toNat : List ByteArray)).bind fun y154 => (if y151.length + y154.length < 8796093022208 then (some (y151 ++ y154)) else (none)))) else (none)) = some r := by first | (rw [hy148]; with_reducible exact H) | (have H2_ := bm H; rw [hy148]; with_reducible exact H2_) | (with_reducible exact bm H) | with_reducible exact H | (rw [hy148]; exact H) | exact H
       have Ny148 := am hy148; clear hy148
       replace H := ip H; obtain ⟨c14, H⟩ := H; have LMc14 := Aside0.mk c14; clear c14; obtain ⟨y151, hy151⟩ : ∃ y_ : List ByteArray, y_ = (y145 ++ y148) := ⟨_, rfl⟩
       replace H : ((some (l0.drop (x5_1 : Int).toNat : List ByteArray)).bind fun y154 => (if y151.length + y154.length < 8796093022208 then (some (y151 ++ y154)) else (none))) = some r := by first | (rw [hy151]; with_reducible exact H) | (have H2_ := bm H; rw [hy151]; with_reducible exact H2_) | (with_reducible exact bm H) | with_reducible exact H | (rw [hy151]; exact H) | exact H
       have Ny151 := am hy151; clear hy151; have c15b0 := eq_true (of_decide_eq_true ad : 0 ≤ x5_1); have c16b0 := eq_true (of_decide_eq_true ad : x5_1 ≤ (l0.length : Int)); obtain ⟨y154, hy154⟩ : ∃ y_ : List ByteArray, y_ = (l0.drop (x5_1 : Int).toNat) := ⟨_, rfl⟩
       replace H : (if y151.length + y154.length < 8796093022208 then (some (y151 ++ y154)) else (none)) = some r := by first | (rw [hy154]; with_reducible exact H) | (have H2_ := bm H; rw [hy154]; with_reducible exact H2_) | (with_reducible exact bm H) | with_reducible exact H | (rw [hy154]; exact H) | exact H
       have Ny154 := am hy154; clear hy154
       replace H := ip H; obtain ⟨c17, H⟩ := H; have LMc17 := Aside0.mk c17; clear c17; obtain ⟨y159, hy159⟩ : ∃ y_ : List ByteArray, y_ = (y151 ++ y154) := ⟨_, rfl⟩
       replace H : (some y159) = some r := by first | (rw [hy159]; with_reducible exact H) | (have H2_ := bm H; rw [hy159]; with_reducible exact H2_) | (with_reducible exact bm H) | with_reducible exact H | (rw [hy159]; exact H) | exact H
       have Ny159 := am hy159; clear hy159; obtain rfl := Option.some.inj H
       try go_wp2
       replace HO_0 := am (Kd.V_drew HO_0.out); replace HB := am (below_drew1 HB.out)
       have q19 : (x5_1 : Int) ≤ ((l0.length : Int) : Int) := of_decide_eq_true ad
       obtain ⟨i019, hi019, _, hsz19, _⟩ := info_parts info9
       have hroom19 : l0.length ≤ c0 := (Kd.V_reads' HO_0.out).2.1
       have hC19 : Kd.F Kd.string _ _ A0 l0.length l0 := (Kd.V_at (base := w.heap.size) HO_0.out).2.2
       have hcut19 := cut_to (P := Try.prog) 22 9 .i64 Try.underlying22 hi019 A0 l0.length c0 x5_1 (of_decide_eq_true ad) q19 hroom19
       have hr19 := Kd.F_take (m := (x5_1 : Int).toNat) hC19 (by omega)
       have hy19 : y140.length = (x5_1 : Int).toNat := (by rw [Ny140.out, List.length_take]; omega)
       rw [← Ny140.out] at hr19; rw [← hy19] at hcut19
       have HO144 := am (show Kd.V Kd.string 9 _ w.heap.size _ (.slice A0 y140.length c0) y140 from Kd.V_mk (by omega) hr19)
       have HC144 := am (show y140.length ≤ c0 from by omega)
       clear hr19 hC19 hroom19 hi019 hsz19; have KY19 := am hy19; clear hy19; replace q19 := eq_true q19
       have q20 : (x5_1 : Int) ≤ ((l0.length : Int) : Int) := of_decide_eq_true ad
       obtain ⟨i020, hi020, _, hsz20, _⟩ := info_parts info9
       have hroom20 : l0.length ≤ c0 := (Kd.V_reads' HO_0.out).2.1
       have hC20 : Kd.F Kd.string _ _ A0 l0.length l0 := (Kd.V_at (base := w.heap.size) HO_0.out).2.2
       have q020 : (0 : Int) ≤ (x5_1 : Int) := of_decide_eq_true ad
       have hcut20 := cut_from (P := Try.prog) 22 9 .i64 Try.underlying22 hi020 1 hsz20 A0 l0.length c0 x5_1 q020 q20
       have hr20 := Kd.F_cut (m := (x5_1 : Int).toNat) (c := c0) hC20 (by omega) hroom20
       obtain ⟨A20, hA20⟩ : ∃ A1, A1 = (if c0 = (x5_1 : Int).toNat then A0 else (A0 : Option Addr).map (·.add ((x5_1 : Int).toNat * 1))) := ⟨_, rfl⟩; obtain ⟨c20, hc20⟩ : ∃ c1, c1 = c0 - (x5_1 : Int).toNat := ⟨_, rfl⟩
       have hy20 : y154.length = l0.length - (x5_1 : Int).toNat := (by rw [Ny154.out, List.length_drop] <;> omega)
       rw [show (l0).drop (x5_1 : Int).toNat = y154 from Ny154.out.symm] at hr20
       replace hr20 : Kd.F Kd.string _ _ A20 y154.length y154 := (by rw [hA20]; exact hr20)
       rw [← hy20, ← hA20, ← hc20] at hcut20
       have HO158 := am (show Kd.V Kd.string 9 _ w.heap.size _ (.slice A20 y154.length c20) y154 from Kd.V_mk (by rw [hy20, hc20]; exact Nat.sub_le_sub_right hroom20 _) hr20)
       have HC158 := am (show y154.length ≤ c20 from by rw [hy20, hc20]; exact Nat.sub_le_sub_right hroom20 _)
       clear hr20 hC20 hroom20 hi020 hsz20 hc20; have KY20 := am hy20; have KA20 := am hA20; clear hy20 hA20; replace q20 := eq_true q20
       refine st (n := 13) (S := fun w' => True) (ds := []) trivial (fun hHeld => ?_); refine with_tabW spec_l1Put.tab6 spec_l1Put.bits6 (fun HT_ HW_ => ?_)
       generalize wc.drew = w18 at HO_0 HB HO144 HO158 hHeld ⊢
       refine pu 1 34 ?_
       refine pu 2 35 ?_
       refine pu 3 36 ?_
       refine pu 5 38 ?_
       refine pu 8 41 ?_
       refine pu 9 42 ?_
       refine pu 10 43 ?_
       refine join_ (σ := Value × Value × Value) 3 #[true, true, true, true, true, true, true, false, true, true, true, false, false] (fun s_ => [(33, s_.1), (37, s_.2.1), (39, s_.2.2)]) (fun s_ w' => (Kd.V Kd.string 9 w' w.heap.size (fun k_ => (P0_ k_ ∨ w.heap.size ≤ k_) ∧ some k_ ≠ (s_.2.1 : Value).ownBlock ∧ some k_ ≠ (s_.2.2 : Value).ownBlock) (.slice A0 y140.length c0) y140) ∧ (Kd.R Kd.string 9 w' w.heap.size (fun k_ => (w.heap.size ≤ k_) ∧ some k_ ≠ (s_.2.2 : Value).ownBlock) s_.2.1 y145) ∧ (Kd.R Kd.string 9 w' w.heap.size (fun k_ => (w.heap.size ≤ k_) ∧ some k_ ≠ (s_.2.1 : Value).ownBlock) s_.2.2 y148) ∧ (Kd.V Kd.string 9 w' w.heap.size (fun k_ => (P0_ k_ ∨ w.heap.size ≤ k_) ∧ some k_ ≠ (s_.2.1 : Value).ownBlock ∧ some k_ ≠ (s_.2.2 : Value).ownBlock) (.slice A20 y154.length c20) y154) ∧ (Kd.V Kd.string 9 w' w.heap.size (fun k_ => (P0_ k_ ∨ w.heap.size ≤ k_) ∧ some k_ ≠ (s_.2.1 : Value).ownBlock ∧ some k_ ≠ (s_.2.2 : Value).ownBlock) (.slice A0 l0.length c0) l0) ∧ (Below w.heap.size w w')) ?_ ?_
       rotate_left
       ·intro hCont
        refine two_ (i := 0) (j := 6) (Ni := some 33) (Nj := some 39) #[true, true, true, true, false, true, false, false, true, true, true, false, false] #[false, true, true, true, false, true, true, false, true, true, true, false, false] rfl rfl rfl rfl (two_of HT_.out (by kernel_rfl)) (by decide) (by decide) (fun K hK => ?_) (fun K hK => ?_)
        ·skip
         refine Kd.R_lit_step Kd.string _ 9 ?hg (N := 33) ?hd (xs := ([] : List ByteArray)) (inner := []) (ok := fun _ => True) (okp := fun _ => True) ?hr ?hp (fun _ hk => hk) trivial (Below.refl _ _) (Nat.le_refl _) (by simp) ?_; (case hd => rfl); (case hg => rfl); (case hr => first | (go_simp; done) | (go_simp; rfl)); (case hp => exact (Reps.none _ _))
         intro v138 w21 ho22 hb hg_ hnew_; clear hg_ hnew_
         (first | rw [← Ny137.out] at ho22 | (simp only [Int.reduceToNat] at ho22; rw [← Ny137.out] at ho22) | (simp only [Int.toNat_natCast] at ho22; rw [← Ny137.out] at ho22))
         replace HO_0 := am (Kd.V_elder' (vq HO_0.out) (Kd.R_base ho22) hb); replace HO144 := am (Kd.V_elder' (vq HO144.out) (Kd.R_base ho22) hb); replace HO158 := am (Kd.V_elder' (vq HO158.out) (Kd.R_base ho22) hb); have HO139 := am (Kd.R_lower (Kd.R_newM (M := fun k_ => (w.heap.size ≤ k_)) ho22 (below_size bel) (fun k_ h_ => h_)) (below_size bel)); replace HB := am (below_step bel hb); clear hb ho22
         refine hK.out _ _ trivial (fun hHeld => ?_)
         clear hK K
         refine norm_ (a' := ?_) ?_ ?_
         rotate_left
         ·show Act.put _ (some 33) _ = _
          simp only [Act.put, List.setIfInBounds_toArray, List.set_cons_zero, List.set_cons_succ, i64_w, i32_w]
          rfl
         refine two_ (i := 4) (j := 6) (Ni := some 37) (Nj := some 39) #[true, true, true, true, true, true, false, false, true, true, true, false, false] #[true, true, true, true, false, true, true, false, true, true, true, false, false] rfl rfl rfl rfl (two_of HT_.out (by kernel_rfl)) (by decide) (by decide) (fun K hK => ?_) (fun K hK => ?_)
         ·skip
          refine Kd.R_append_rows_step Kd.string (w0 := w) w.heap.size (by rfl) (.tmp 33) (.tmp 36) 22 9 (.string ⟨#[]⟩) 16 rfl Try.underlying22 info9 rfl (by decide) (by omega) v138 y137 y140 _ _ _ (fun k_ => (w.heap.size ≤ k_)) (fun _ => False) rfl rfl ?aO ?aR (fun _ _ h => h) (fun _ h => h.elim) ?aF ?aB ?aS ?aL ?_
          (case aR => exact cq (Kd.V_reads' HO144.out).2.2); (case aB => exact bel); (case aF => exact (fun k_ hk => (Nat.le_trans (below_size bel) hk))); (case aO => exact (rq (Kd.R_mono HO139.out (fun _ hk => hk.1)))); (case aS => exact (below_size bel)); (case aL => have := LMc13.out; omega); intro v146 w23 ho hb hg hat; rw [← Ny145.out] at ho; replace HO_0 := am (Kd.V_afterv (ok := (fun k_ => (P0_ k_ ∨ w.heap.size ≤ k_))) (vq HO_0.out) hg hat); replace HO144 := am (Kd.V_afterv (ok := (fun k_ => (P0_ k_ ∨ w.heap.size ≤ k_))) (vq HO144.out) hg hat); replace HO158 := am (Kd.V_afterv (ok := (fun k_ => (P0_ k_ ∨ w.heap.size ≤ k_))) (vq HO158.out) hg hat); replace HB := am (hb); have HO147 := am (ho); clear HO139; clear ho hb hg hat
          refine hK.out _ _ trivial (fun hHeld => ?_)
          clear hK K
          refine norm_ (a' := ?_) ?_ ?_
          rotate_left
          ·show Act.put _ (some 37) _ = _
           simp only [Act.put, List.setIfInBounds_toArray, List.set_cons_zero, List.set_cons_succ, i64_w, i32_w]
           rfl
          refine on1 6 39 (fun K hK => ?_)
          refine Kd.R_lit_step Kd.string _ 9 ?hg (N := 39) ?hd (xs := ([a1] : List ByteArray)) (inner := [.string a1]) (ok := fun _ => True) (okp := fun _ => True) ?hr ?hp (fun _ hk => hk) trivial (Below.refl _ _) (Nat.le_refl _) (by simp) ?_; (case hd => rfl); (case hg => rfl); (case hr => first | (go_simp; done) | (go_simp; rfl)); (case hp => exact (Reps.one (show Kd.M Kd.string _ _ _ a1 [.string a1] from rfl) (Reps.none _ _)))
          intro v149 w24 ho25 hb hg_ hnew_; clear hg_ hnew_
          (first | rw [← Ny148.out] at ho25 | (simp only [Int.reduceToNat] at ho25; rw [← Ny148.out] at ho25) | (simp only [Int.toNat_natCast] at ho25; rw [← Ny148.out] at ho25))
          replace HO_0 := am (Kd.V_elder' (vq HO_0.out) (Kd.R_base ho25) hb); replace HO144 := am (Kd.V_elder' (vq HO144.out) (Kd.R_base ho25) hb); replace HO158 := am (Kd.V_elder' (vq HO158.out) (Kd.R_base ho25) hb); have HO150 := am (Kd.R_lower (Kd.R_new' (Kd.R_newM (M := fun k_ => (w.heap.size ≤ k_)) ho25 (below_size bel) (fun k_ h_ => h_)) (Kd.R_lt (rq HO147.out))) (below_size bel)); replace HO147 := am (Kd.R_elder' (rq HO147.out) (Kd.R_base ho25) hb); replace HB := am (below_step bel hb); clear hb ho25
          refine hK.out _ _ trivial (fun hHeld => ?_)
          clear hK K
          refine norm_ (a' := ?_) ?_ ?_
          rotate_left
          ·show Act.put _ (some 39) _ = _
           simp only [Act.put, List.setIfInBounds_toArray, List.set_cons_zero, List.set_cons_succ, i64_w, i32_w]
           rfl
          exact norm_ b25_ (hCont (v138, v146, v149) _ ⟨(vq (Kd.V_mono HO144.out (fun _ hk => ⟨hk.1.1, ⟨hk.1.2, hk.2⟩⟩))), (rq HO147.out), (rq (Kd.R_mono HO150.out (fun _ hk => ⟨hk.1.1, hk.2⟩))), (vq (Kd.V_mono HO158.out (fun _ hk => ⟨hk.1.1, ⟨hk.1.2, hk.2⟩⟩))), (vq (Kd.V_mono HO_0.out (fun _ hk => ⟨hk.1.1, ⟨hk.1.2, hk.2⟩⟩))), bel⟩)
         ·skip
          refine Kd.R_lit_step Kd.string _ 9 ?hg (N := 39) ?hd (xs := ([a1] : List ByteArray)) (inner := [.string a1]) (ok := fun _ => True) (okp := fun _ => True) ?hr ?hp (fun _ hk => hk) trivial (Below.refl _ _) (Nat.le_refl _) (by simp) ?_; (case hd => rfl); (case hg => rfl); (case hr => first | (go_simp; done) | (go_simp; rfl)); (case hp => exact (Reps.one (show Kd.M Kd.string _ _ _ a1 [.string a1] from rfl) (Reps.none _ _)))
          intro v149 w23 ho24 hb hg_ hnew_; clear hg_ hnew_
          (first | rw [← Ny148.out] at ho24 | (simp only [Int.reduceToNat] at ho24; rw [← Ny148.out] at ho24) | (simp only [Int.toNat_natCast] at ho24; rw [← Ny148.out] at ho24))
          replace HO_0 := am (Kd.V_elder' (vq HO_0.out) (Kd.R_base ho24) hb); replace HO144 := am (Kd.V_elder' (vq HO144.out) (Kd.R_base ho24) hb); replace HO158 := am (Kd.V_elder' (vq HO158.out) (Kd.R_base ho24) hb); have HO150 := am (Kd.R_lower (Kd.R_new' (Kd.R_newM (M := fun k_ => (w.heap.size ≤ k_)) ho24 (below_size bel) (fun k_ h_ => h_)) (Kd.R_lt (rq HO139.out))) (below_size bel)); replace HO139 := am (Kd.R_elder' (rq HO139.out) (Kd.R_base ho24) hb); replace HB := am (below_step bel hb); clear hb ho24
          refine hK.out _ _ trivial (fun hHeld => ?_)
          clear hK K
          refine norm_ (a' := ?_) ?_ ?_
          rotate_left
          ·show Act.put _ (some 39) _ = _
           simp only [Act.put, List.setIfInBounds_toArray, List.set_cons_zero, List.set_cons_succ, i64_w, i32_w]
           rfl
          refine on1 4 37 (fun K hK => ?_)
          refine Kd.R_append_rows_step Kd.string (w0 := w) w.heap.size (by rfl) (.tmp 33) (.tmp 36) 22 9 (.string ⟨#[]⟩) 16 rfl Try.underlying22 info9 rfl (by decide) (by omega) v138 y137 y140 _ _ _ (fun k_ => (w.heap.size ≤ k_) ∧ some k_ ≠ (v149 : Value).ownBlock) (fun _ => False) rfl rfl ?aO ?aR (fun _ _ h => h) (fun _ h => h.elim) ?aF ?aB ?aS ?aL ?_
          (case aR => exact cq (Kd.V_reads' HO144.out).2.2); (case aB => exact bel); (case aF => exact (fun k_ hk => ⟨(Nat.le_trans (below_size bel) hk), Kd.fresh' (Kd.R_lt (rq HO150.out)) k_ hk⟩)); (case aO => exact (rq (Kd.R_mono HO139.out (fun _ hk => ⟨hk.1.1, hk.2⟩)))); (case aS => exact (below_size bel)); (case aL => have := LMc13.out; omega); intro v146 w25 ho hb hg hat; rw [← Ny145.out] at ho; replace HO_0 := am (Kd.V_afterv (ok := (fun k_ => (P0_ k_ ∨ w.heap.size ≤ k_) ∧ some k_ ≠ (v149 : Value).ownBlock)) (vq (Kd.V_mono HO_0.out (fun _ hk => ⟨⟨hk.1.1, hk.2⟩, hk.1.2⟩))) hg hat); replace HO144 := am (Kd.V_afterv (ok := (fun k_ => (P0_ k_ ∨ w.heap.size ≤ k_) ∧ some k_ ≠ (v149 : Value).ownBlock)) (vq (Kd.V_mono HO144.out (fun _ hk => ⟨⟨hk.1.1, hk.2⟩, hk.1.2⟩))) hg hat); replace HO158 := am (Kd.V_afterv (ok := (fun k_ => (P0_ k_ ∨ w.heap.size ≤ k_) ∧ some k_ ≠ (v149 : Value).ownBlock)) (vq (Kd.V_mono HO158.out (fun _ hk => ⟨⟨hk.1.1, hk.2⟩, hk.1.2⟩))) hg hat); replace HO150 := am (Kd.R_after (ok := (fun k_ => (w.heap.size ≤ k_))) (rq (Kd.R_mono HO150.out (fun _ hk => ⟨hk.1.1, hk.2⟩))) hg hat); replace HB := am (hb); have HO147 := am (ho); clear HO139; clear ho hb hg hat
          refine hK.out _ _ trivial (fun hHeld => ?_)
          clear hK K
          refine norm_ (a' := ?_) ?_ ?_
          rotate_left
          ·show Act.put _ (some 37) _ = _
           simp only [Act.put, List.setIfInBounds_toArray, List.set_cons_zero, List.set_cons_succ, i64_w, i32_w]
           rfl
          exact norm_ b25_ (hCont (v138, v146, v149) _ ⟨(vq (Kd.V_mono HO144.out (fun _ hk => ⟨hk.1.1, ⟨hk.2, hk.1.2⟩⟩))), (rq HO147.out), (rq HO150.out), (vq (Kd.V_mono HO158.out (fun _ hk => ⟨hk.1.1, ⟨hk.2, hk.1.2⟩⟩))), (vq (Kd.V_mono HO_0.out (fun _ hk => ⟨hk.1.1, ⟨hk.2, hk.1.2⟩⟩))), bel⟩)
        ·skip
         refine Kd.R_lit_step Kd.string _ 9 ?hg (N := 39) ?hd (xs := ([a1] : List ByteArray)) (inner := [.string a1]) (ok := fun _ => True) (okp := fun _ => True) ?hr ?hp (fun _ hk => hk) trivial (Below.refl _ _) (Nat.le_refl _) (by simp) ?_; (case hd => rfl); (case hg => rfl); (case hr => first | (go_simp; done) | (go_simp; rfl)); (case hp => exact (Reps.one (show Kd.M Kd.string _ _ _ a1 [.string a1] from rfl) (Reps.none _ _)))
         intro v149 w21 ho22 hb hg_ hnew_; clear hg_ hnew_
         (first | rw [← Ny148.out] at ho22 | (simp only [Int.reduceToNat] at ho22; rw [← Ny148.out] at ho22) | (simp only [Int.toNat_natCast] at ho22; rw [← Ny148.out] at ho22))
         replace HO_0 := am (Kd.V_elder' (vq HO_0.out) (Kd.R_base ho22) hb); replace HO144 := am (Kd.V_elder' (vq HO144.out) (Kd.R_base ho22) hb); replace HO158 := am (Kd.V_elder' (vq HO158.out) (Kd.R_base ho22) hb); have HO150 := am (Kd.R_lower (Kd.R_newM (M := fun k_ => (w.heap.size ≤ k_)) ho22 (below_size bel) (fun k_ h_ => h_)) (below_size bel)); replace HB := am (below_step bel hb); clear hb ho22
         refine hK.out _ _ trivial (fun hHeld => ?_)
         clear hK K
         refine norm_ (a' := ?_) ?_ ?_
         rotate_left
         ·show Act.put _ (some 39) _ = _
          simp only [Act.put, List.setIfInBounds_toArray, List.set_cons_zero, List.set_cons_succ, i64_w, i32_w]
          rfl
         refine on1 0 33 (fun K hK => ?_)
         refine Kd.R_lit_step Kd.string _ 9 ?hg (N := 33) ?hd (xs := ([] : List ByteArray)) (inner := []) (ok := fun _ => True) (okp := fun _ => True) ?hr ?hp (fun _ hk => hk) trivial (Below.refl _ _) (Nat.le_refl _) (by simp) ?_; (case hd => rfl); (case hg => rfl); (case hr => first | (go_simp; done) | (go_simp; rfl)); (case hp => exact (Reps.none _ _))
         intro v138 w23 ho24 hb hg_ hnew_; clear hg_ hnew_
         (first | rw [← Ny137.out] at ho24 | (simp only [Int.reduceToNat] at ho24; rw [← Ny137.out] at ho24) | (simp only [Int.toNat_natCast] at ho24; rw [← Ny137.out] at ho24))
         replace HO_0 := am (Kd.V_elder' (vq HO_0.out) (Kd.R_base ho24) hb); replace HO144 := am (Kd.V_elder' (vq HO144.out) (Kd.R_base ho24) hb); replace HO158 := am (Kd.V_elder' (vq HO158.out) (Kd.R_base ho24) hb); have HO139 := am (Kd.R_lower (Kd.R_new' (Kd.R_newM (M := fun k_ => (w.heap.size ≤ k_)) ho24 (below_size bel) (fun k_ h_ => h_)) (Kd.R_lt (rq HO150.out))) (below_size bel)); replace HO150 := am (Kd.R_elder' (rq HO150.out) (Kd.R_base ho24) hb); replace HB := am (below_step bel hb); clear hb ho24
         refine hK.out _ _ trivial (fun hHeld => ?_)
         clear hK K
         refine norm_ (a' := ?_) ?_ ?_
         rotate_left
         ·show Act.put _ (some 33) _ = _
          simp only [Act.put, List.setIfInBounds_toArray, List.set_cons_zero, List.set_cons_succ, i64_w, i32_w]
          rfl
         refine on1 4 37 (fun K hK => ?_)
         refine Kd.R_append_rows_step Kd.string (w0 := w) w.heap.size (by rfl) (.tmp 33) (.tmp 36) 22 9 (.string ⟨#[]⟩) 16 rfl Try.underlying22 info9 rfl (by decide) (by omega) v138 y137 y140 _ _ _ (fun k_ => (w.heap.size ≤ k_) ∧ some k_ ≠ (v149 : Value).ownBlock) (fun _ => False) rfl rfl ?aO ?aR (fun _ _ h => h) (fun _ h => h.elim) ?aF ?aB ?aS ?aL ?_
         (case aR => exact cq (Kd.V_reads' HO144.out).2.2); (case aB => exact bel); (case aF => exact (fun k_ hk => ⟨(Nat.le_trans (below_size bel) hk), Kd.fresh' (Kd.R_lt (rq HO150.out)) k_ hk⟩)); (case aO => exact (rq (Kd.R_mono HO139.out (fun _ hk => ⟨hk.1.1, hk.2⟩)))); (case aS => exact (below_size bel)); (case aL => have := LMc13.out; omega); intro v146 w25 ho hb hg hat; rw [← Ny145.out] at ho; replace HO_0 := am (Kd.V_afterv (ok := (fun k_ => (P0_ k_ ∨ w.heap.size ≤ k_) ∧ some k_ ≠ (v149 : Value).ownBlock)) (vq HO_0.out) hg hat); replace HO144 := am (Kd.V_afterv (ok := (fun k_ => (P0_ k_ ∨ w.heap.size ≤ k_) ∧ some k_ ≠ (v149 : Value).ownBlock)) (vq HO144.out) hg hat); replace HO158 := am (Kd.V_afterv (ok := (fun k_ => (P0_ k_ ∨ w.heap.size ≤ k_) ∧ some k_ ≠ (v149 : Value).ownBlock)) (vq HO158.out) hg hat); replace HO150 := am (Kd.R_after (ok := (fun k_ => (w.heap.size ≤ k_))) (rq (Kd.R_mono HO150.out (fun _ hk => ⟨hk.1.1, hk.2⟩))) hg hat); replace HB := am (hb); have HO147 := am (ho); clear HO139; clear ho hb hg hat
         refine hK.out _ _ trivial (fun hHeld => ?_)
         clear hK K
         refine norm_ (a' := ?_) ?_ ?_
         rotate_left
         ·show Act.put _ (some 37) _ = _
          simp only [Act.put, List.setIfInBounds_toArray, List.set_cons_zero, List.set_cons_succ, i64_w, i32_w]
          rfl
         exact norm_ b25_ (hCont (v138, v146, v149) _ ⟨(vq (Kd.V_mono HO144.out (fun _ hk => ⟨hk.1.1, ⟨hk.2, hk.1.2⟩⟩))), (rq HO147.out), (rq HO150.out), (vq (Kd.V_mono HO158.out (fun _ hk => ⟨hk.1.1, ⟨hk.2, hk.1.2⟩⟩))), (vq (Kd.V_mono HO_0.out (fun _ hk => ⟨hk.1.1, ⟨hk.2, hk.1.2⟩⟩))), bel⟩)
       rintro ⟨v138, v146, v149⟩ w26 ⟨h0_, h1_, h2_, h3_, h4_, h5_⟩
       have n0_ : Aside0 (Kd.V Kd.string 9 w26 w.heap.size (fun k_ => (P0_ k_ ∨ w.heap.size ≤ k_) ∧ some k_ ≠ (v146 : Value).ownBlock ∧ some k_ ≠ (v149 : Value).ownBlock) (.slice A0 y140.length c0) y140) := ⟨h0_⟩
       have n1_ : Aside0 (Kd.R Kd.string 9 w26 w.heap.size (fun k_ => (w.heap.size ≤ k_) ∧ some k_ ≠ (v149 : Value).ownBlock) v146 y145) := ⟨h1_⟩
       have n2_ : Aside0 (Kd.R Kd.string 9 w26 w.heap.size (fun k_ => (w.heap.size ≤ k_) ∧ some k_ ≠ (v146 : Value).ownBlock) v149 y148) := ⟨h2_⟩
       have n3_ : Aside0 (Kd.V Kd.string 9 w26 w.heap.size (fun k_ => (P0_ k_ ∨ w.heap.size ≤ k_) ∧ some k_ ≠ (v146 : Value).ownBlock ∧ some k_ ≠ (v149 : Value).ownBlock) (.slice A20 y154.length c20) y154) := ⟨h3_⟩
       have n4_ : Aside0 (Kd.V Kd.string 9 w26 w.heap.size (fun k_ => (P0_ k_ ∨ w.heap.size ≤ k_) ∧ some k_ ≠ (v146 : Value).ownBlock ∧ some k_ ≠ (v149 : Value).ownBlock) (.slice A0 l0.length c0) l0) := ⟨h4_⟩
       have n5_ : Aside0 (Below w.heap.size w w26) := ⟨h5_⟩
       clear HO_0; clear HB; clear h0_ h1_ h2_ h3_ h4_ h5_; have HO144 := n0_; have HO147 := n1_; have HO150 := n2_; have HO158 := n3_; have HO_0 := n4_; have HB := n5_; clear n0_ n1_ n2_ n3_ n4_ n5_; have hHeld := trivial; obtain ⟨Ao28, co28, eo28⟩ := Kd.R_slice HO150.out
       (first | subst eo28 | (injection eo28 with f1_ f2_ f3_; have f4_ := f1_.symm; have f5_ := f3_.symm; clear f1_ f2_ f3_; subst f4_; subst f5_))
       refine norm_ (a' := ?_) ?_ ?_
       rotate_left
       ·simp only [putAll, Act.put, List.setIfInBounds_toArray, List.set_cons_zero, List.set_cons_succ]
        rfl
       refine on1 7 40 (fun K hK => ?_)
       refine Kd.R_append_rows_step Kd.string (w0 := w) w.heap.size (by rfl) (.tmp 37) (.tmp 39) 22 9 (.string ⟨#[]⟩) 16 rfl Try.underlying22 info9 rfl (by decide) (by omega) v146 y145 y148 _ _ _ (fun k_ => (w.heap.size ≤ k_) ∧ some k_ ≠ (.slice Ao28 y148.length co28 : Value).ownBlock) (fun _ => False) rfl rfl ?aO ?aR (fun _ _ h => h) (fun _ h => h.elim) ?aF ?aB ?aS ?aL ?_
       (case aR => exact cq (Kd.R_reads' HO150.out).2.2); (case aB => exact bel); (case aF => exact (fun k_ hk => ⟨(Nat.le_trans (below_size bel) hk), Kd.fresh' (Kd.R_lt (rq HO150.out)) k_ hk⟩)); (case aO => exact (rq HO147.out)); (case aS => exact (below_size bel)); (case aL => have := LMc14.out; omega); intro v152 w27 ho hb hg hat; rw [← Ny151.out] at ho; replace HO_0 := am (Kd.V_afterv (ok := (fun k_ => (P0_ k_ ∨ w.heap.size ≤ k_) ∧ some k_ ≠ (.slice Ao28 y148.length co28 : Value).ownBlock)) (vq (Kd.V_mono HO_0.out (fun _ hk => ⟨⟨hk.1, hk.2.2⟩, hk.2.1⟩))) hg hat); replace HO144 := am (Kd.V_afterv (ok := (fun k_ => (P0_ k_ ∨ w.heap.size ≤ k_) ∧ some k_ ≠ (.slice Ao28 y148.length co28 : Value).ownBlock)) (vq (Kd.V_mono HO144.out (fun _ hk => ⟨⟨hk.1, hk.2.2⟩, hk.2.1⟩))) hg hat); replace HO158 := am (Kd.V_afterv (ok := (fun k_ => (P0_ k_ ∨ w.heap.size ≤ k_) ∧ some k_ ≠ (.slice Ao28 y148.length co28 : Value).ownBlock)) (vq (Kd.V_mono HO158.out (fun _ hk => ⟨⟨hk.1, hk.2.2⟩, hk.2.1⟩))) hg hat); replace HO150 := am (Kd.R_after (ok := (fun k_ => (w.heap.size ≤ k_))) (rq HO150.out) hg hat); replace HB := am (hb); have HO153 := am (ho); clear HO147; clear ho hb hg hat
       refine hK.out _ _ trivial (fun hHeld => ?_)
       clear hK K
       refine norm_ (a' := ?_) ?_ ?_
       rotate_left
       ·show Act.put _ (some 40) _ = _
        simp only [Act.put, List.setIfInBounds_toArray, List.set_cons_zero, List.set_cons_succ, i64_w, i32_w]
        rfl
       refine on1 11 44 (fun K hK => ?_)
       refine Kd.R_append_rows_step Kd.string (w0 := w) w.heap.size (by rfl) (.tmp 40) (.tmp 43) 22 9 (.string ⟨#[]⟩) 16 rfl Try.underlying22 info9 rfl (by decide) (by omega) v152 y151 y154 _ _ _ (fun k_ => (w.heap.size ≤ k_) ∧ some k_ ≠ (.slice Ao28 y148.length co28 : Value).ownBlock) (fun _ => False) rfl rfl ?aO ?aR (fun _ _ h => h) (fun _ h => h.elim) ?aF ?aB ?aS ?aL ?_
       (case aR => exact cq (Kd.V_reads' HO158.out).2.2); (case aB => exact bel); (case aF => exact (fun k_ hk => ⟨(Nat.le_trans (below_size bel) hk), Kd.fresh' (Kd.R_lt (rq HO150.out)) k_ hk⟩)); (case aO => exact (rq HO153.out)); (case aS => exact (below_size bel)); (case aL => have := LMc17.out; omega); intro v160 w29 ho hb hg hat; rw [← Ny159.out] at ho; replace HO_0 := am (Kd.V_afterv (ok := (fun k_ => (P0_ k_ ∨ w.heap.size ≤ k_) ∧ some k_ ≠ (.slice Ao28 y148.length co28 : Value).ownBlock)) (vq HO_0.out) hg hat); replace HO144 := am (Kd.V_afterv (ok := (fun k_ => (P0_ k_ ∨ w.heap.size ≤ k_) ∧ some k_ ≠ (.slice Ao28 y148.length co28 : Value).ownBlock)) (vq HO144.out) hg hat); replace HO158 := am (Kd.V_afterv (ok := (fun k_ => (P0_ k_ ∨ w.heap.size ≤ k_) ∧ some k_ ≠ (.slice Ao28 y148.length co28 : Value).ownBlock)) (vq HO158.out) hg hat); replace HO150 := am (Kd.R_after (ok := (fun k_ => (w.heap.size ≤ k_))) (rq HO150.out) hg hat); replace HB := am (hb); have HO161 := am (ho); clear HO153; clear ho hb hg hat
       refine hK.out _ _ trivial (fun hHeld => ?_)
       clear hK K
       refine norm_ (a' := ?_) ?_ ?_
       rotate_left
       ·show Act.put _ (some 44) _ = _
        simp only [Act.put, List.setIfInBounds_toArray, List.set_cons_zero, List.set_cons_succ, i64_w, i32_w]
        rfl
       refine pu 12 4 ?_
       refine done_ (done_of HT_.out (by kernel_rfl)) ?_
       try go_wp2
       go_ret
       exact ⟨_, eq_, Kd.V_mono (Kd.R_V (rq (Kd.R_mono HO161.out (fun _ hk => hk.1)))) (fun k_ hk => by first | exact ⟨(.inr (hk.1)), hk.2⟩ | exact (.inr (hk))), bel⟩
end Go.Proofs.Ytfpmfaelodfecaa.QFnExactMachineGuesses
