import Derived.Test.YtfpmfaelodfecaaProg
import Derived.Laws.Cover1
import Derived.Below
import Derived.Deep.Draws
import Derived.Deep.AppendLies
import Derived.Maps.AppendAt
import Derived.OwnWalk
import Derived.Laws.BytesArg
import Derived.Laws.MakeOwn
import Derived.Laws.OwnMore
import Derived.Deep.OwnRows
import Derived.Tactics
import Derived.Lib.ConvBytes
import Derived.Laws.Slices
import Derived.WalkKit
import Derived.KernelRfl
import Derived.RowKit3
import Derived.Deep.LoopGhost
import Derived.Deep.QuietTactic
import Derived.BigQuiet
import Derived.WideLaws
import Derived.Deep.DeepCutAuto
import Derived.Deep.CutBlock
import Derived.Deep.RegionHeld3
import Derived.Laws.Rows
import Derived.Lib.AppendStr
import Derived.ArgAppend
import Derived.Laws.IdiomCopy
import Derived.OrdersHeld
import Derived.Laws.BitsLemmas
import Derived.RowKit
import Derived.Test.YtfpmfaelodfecaaVMLaySortG
import Derived.Test.YtfpmfaelodfecaaVMLaySortG
import Derived.Test.YtfpmfaelodfecaaVWords
import Derived.Test.YtfpmfaelodfecaaVLast
import Derived.Test.YtfpmfaelodfecaaVTab
import Derived.Test.YtfpmfaelodfecaaVFour
import Derived.Test.YtfpmfaelodfecaaVQPut
import Derived.Test.YtfpmfaelodfecaaVApart
import Derived.Test.YtfpmfaelodfecaaVArr
import Derived.Test.YtfpmfaelodfecaaVZeros
import Derived.Test.YtfpmfaelodfecaaVFoot
import Derived.Test.YtfpmfaelodfecaaVKept
import Derived.Test.YtfpmfaelodfecaaVShare
import Derived.Test.YtfpmfaelodfecaaVN
import Derived.Test.YtfpmfaelodfecaaVFootNe
import Derived.Test.YtfpmfaelodfecaaVAt
import Derived.Test.YtfpmfaelodfecaaVEqStruct
import Derived.Test.YtfpmfaelodfecaaVRepsOne
import Derived.Test.YtfpmfaelodfecaaVInv
import Derived.Test.YtfpmfaelodfecaaVInvWords
import Derived.Test.YtfpmfaelodfecaaVGuard
import Derived.Test.YtfpmfaelodfecaaVNEv
import Derived.Test.YtfpmfaelodfecaaVMore
import Derived.Test.YtfpmfaelodfecaaVMSh2
namespace Go.Proofs.Ytfpmfaelodfecaa.QFnExactGuesses
open Go.RowKit Go.Proofs.YtfpmfaelodfecaaW.PrintWords Go.Proofs.YtfpmfaelodfecaaW.PrintLast Go.Proofs.YtfpmfaelodfecaaW.PrintMore Go.Proofs.Ytfpmfaelodfecaa.Sh
attribute [local go_sem] max2_int min2_int max_two min_two max_three min_three max_four min_four   -- for this text's walks alone
set_option linter.unusedVariables false
set_option linter.unusedSimpArgs false
-- shrunk



def errW : Option Int → Value
 | none => .nilIface
 | some c => .iface 0 (.int .i64 c)
theorem errW_none : errW none = .nilIface := rfl
theorem errW_some (c : Int) : errW (some c) = .iface 0 (.int .i64 c) := rfl

theorem info3 : (Try.prog.info? 3).map (fun i => (i.zero, i.size, i.bytes)) = some (some (.int .i64 0), 1, 8) := by kernel_rfl
theorem info5 : (Try.prog.info? 5).map (fun i => (i.zero, i.size, i.bytes)) = some (some (.int .u8 0), 1, 1) := by kernel_rfl
theorem info9 : (Try.prog.info? 9).map (fun i => (i.zero, i.size, i.bytes)) = some (some (.string ⟨#[]⟩), 1, 16) := by kernel_rfl
theorem info36 : (Try.prog.info? 36).map (fun i => (i.zero, i.size, i.bytes)) = some (some (.agg #[(.string ⟨#[]⟩), (.int .i64 0)]), 2, 24) := by kernel_rfl
theorem info86 : (Try.prog.info? 86).map (fun i => (i.zero, i.size, i.bytes)) = some (some (.slice none 0 0), 1, 24) := by kernel_rfl
-- the values' own types
def rd_L2 (xs : List (List Int)) (i : Int) : (List Int) := xs.getD i.toNat ([] : List Int)
theorem at_L2 {w : World} {A : Option Addr} {n : Nat} {xs : List (List Int)} (h : Kd.C (Kd.slice 3 (Kd.int .i64)) w A n xs) (i : Int) (h0 : 0 ≤ i) (h1 : i < n) : ∃ ad A0 c0, A = some ad ∧ w.cell? (ad.add i.toNat) = some (.slice A0 (rd_L2 xs i).length c0) ∧ (rd_L2 xs i).length ≤ c0 ∧ (Kd.int .i64).C w A0 (rd_L2 xs i).length (rd_L2 xs i) := by
 obtain ⟨ad, c, e, _, hK, hc0⟩ := Kd.C_get h ([] : List Int) i h0 h1
 have hc : ∀ j u, c[j]? = some u → w.cell? (ad.add (i.toNat * 1 + j)) = some u := hc0
 obtain ⟨A0, c0, rfl, l0, g0⟩ := hK
 exact ⟨ad, A0, c0, e, by have hq := hc 0 _ rfl; rwa [Nat.mul_one, Nat.add_zero] at hq, l0, g0⟩

/-! #### struct type 36 -/
structure S36 where
 f0 : ByteArray
 f1 : Int
def z36 : S36 := ⟨(⟨#[]⟩ : ByteArray), (0 : Int)⟩
def k36 : Kd S36 := Kd.iso (Kd.pair Kd.string (Kd.int .i64)) (fun x : S36 => (x.f0, x.f1))
theorem k36_open {w : World} {x : S36} {cs : List Value} (h : k36.K w x cs) : cs = [.string x.f0, .int .i64 x.f1] := by
 obtain ⟨_, _, rfl, rfl, rfl⟩ := h
 exact rfl
theorem k36_openM {w : World} {base : Nat} {ok : Nat → Prop} {x : S36} {cs : List Value} (h : k36.M w base ok x cs) : cs = [.string x.f0, .int .i64 x.f1] := by
 obtain ⟨_, _, rfl, rfl, rfl⟩ := h
 exact rfl
theorem k36_mk (w : World) (x : S36)  : k36.K w x [.string x.f0, .int .i64 x.f1] := ⟨[.string x.f0], [.int .i64 x.f1], rfl, rfl, rfl⟩
theorem k36_mkM (w : World) (base : Nat) (ok : Nat → Prop) (x : S36)  : k36.M w base ok x [.string x.f0, .int .i64 x.f1] := ⟨[.string x.f0], [.int .i64 x.f1], rfl, rfl, rfl⟩
def rd_T36 (xs : List S36) (i : Int) : S36 := xs.getD i.toNat z36
theorem at_T36 {w : World} {A : Option Addr} {n : Nat} {xs : List S36} (h : Kd.C k36 w A n xs) (i : Int) (h0 : 0 ≤ i) (h1 : i < n) : ∃ ad , A = some ad ∧ w.cell? (ad.add (i.toNat * 2)) = some (.string (rd_T36 xs i).f0) ∧ w.cell? ⟨(ad.add (i.toNat * 2)).block, (ad.add (i.toNat * 2)).off + 1, none⟩ = some (.int .i64 (rd_T36 xs i).f1) := by
 obtain ⟨ad, c, e, _, hK, hc0⟩ := Kd.C_get h z36 i h0 h1
 have hc : ∀ j u, c[j]? = some u → w.cell? (ad.add (i.toNat * 2 + j)) = some u := hc0
 obtain rfl := k36_open hK
 exact ⟨ad, e, hc 0 _ rfl, by rw [← add_field _ _ 1 (by omega)]; exact hc 1 _ rfl⟩

theorem b0_ {p : Prop} (h : p := by (try simp only [List.map_toArray, List.map_cons, List.map_nil]); first | done | (rw [show t317.length = t305.length from (Kd.R_reads' HO_10.out).1.symm] <;> rfl) | rfl | (simp only [List.length_drop, List.length_take]; rfl)) : p := h
theorem b1_ {p : Prop} (h : p := by have h_ : (x25_2 : Int) < ((x5_2.length : Int) : Int) := of_decide_eq_true ad; first | exact h_ | (have e_ := (Kd.S_reads' HO_5.out).1; omega) | simpa using h_) : p := h
theorem b2_ {p : Prop} (h : p := by (try simp only [hl5_2]); (try simp only [hl5_3]); (try simp only [hl5_4]); (try simp only [hl5_5]); (with_reducible repeat (first | apply Kd.S_alloc | apply Kd.S_drewN | apply Kd.S_drew)); exact HO_5.out) : p := h
theorem b3_ {p : Prop} (h : p := by (with_reducible repeat (first | apply Kd.S_alloc | apply Kd.S_drewN | apply Kd.S_drew)); exact Kd.S_mono HO_5.out (fun _ hk => ⟨trivial, hk⟩)) : p := h
theorem b4_ {p : Prop} (h : p := by have h_ : (x8_4 : Int) < ((x5_5.length : Int) : Int) := of_decide_eq_true ad; first | exact h_ | (have e_ := (Kd.S_reads' HO_5.out).1; omega) | simpa only [List.length_set, List.length_set] using h_) : p := h
theorem b5_ {p : Prop} (h : p := by rw [if_neg (show ¬ (false = true) by decide)] at H; exact H) : p := h
theorem b6_ {p : Prop} (h : p := by (with_reducible repeat (first | apply Kd.S_alloc | apply Kd.S_drewN | apply Kd.S_drew)); exact Kd.S_mono HO_5.out (fun k_ hk => ⟨trivial, fun e_ => hk e_⟩)) : p := h
theorem b7_ {p : Prop} (h : p := by repeat (first | (with_reducible first | exact HK.out | apply Kept.alloc | apply Kept.drewN | apply Kept.drew) | exact HK.out)) : p := h
theorem b8_ {p : Prop} (h : p := by repeat (first | (with_reducible exact HR124_0.out) | (with_reducible refine Kd.C_alloc ?_ _) | (with_reducible refine Kd.C_drewN ?_ _) | (with_reducible refine Kd.C_drew ?_) | exact HR124_0.out)) : p := h
theorem b9_ {p : Prop} (h : p := by repeat (first | (with_reducible exact HR220_0.out) | (with_reducible refine Kd.C_alloc ?_ _) | (with_reducible refine Kd.C_drewN ?_ _) | (with_reducible refine Kd.C_drew ?_) | exact HR220_0.out)) : p := h
theorem b10_ {p : Prop} (h : p := by (with_reducible repeat (first | apply Kd.S_alloc | apply Kd.S_drewN | apply Kd.S_drew)); exact HO_5.out) : p := h
theorem b11_ {p : Prop} (h : p := by have h_ : (x25_2 : Int) < ((x5_2.length : Int) : Int) := of_decide_eq_true ad; first | exact h_ | (have e_ := (Kd.S_reads' HO_5.out).1; omega) | simpa only [Ny208.out, List.length_set] using h_) : p := h
theorem b12_ {p : Prop} (h : p := by repeat (first | (with_reducible exact HR126_0.out) | (with_reducible refine Kd.C_alloc ?_ _) | (with_reducible refine Kd.C_drewN ?_ _) | (with_reducible refine Kd.C_drew ?_) | exact HR126_0.out)) : p := h
theorem b13_ {p : Prop} (h : p := by repeat (first | (with_reducible exact HR222_0.out) | (with_reducible refine Kd.C_alloc ?_ _) | (with_reducible refine Kd.C_drewN ?_ _) | (with_reducible refine Kd.C_drew ?_) | exact HR222_0.out)) : p := h
theorem b14_ {p : Prop} (h : p := by repeat (first | (with_reducible exact HR224_0.out) | (with_reducible refine Kd.C_alloc ?_ _) | (with_reducible refine Kd.C_drewN ?_ _) | (with_reducible refine Kd.C_drew ?_) | exact HR224_0.out)) : p := h
theorem b15_ {p : Prop} (h : p := by have h_ : (0 : Int) < ((x5_3.length : Int) : Int) := of_decide_eq_true ad; first | exact h_ | (have e_ := (Kd.S_reads' HO_5.out).1; omega) | simpa only [List.length_set, List.length_set] using h_) : p := h
theorem b16_ {p : Prop} (h : p := by rw [if_pos rfl] at H; exact H) : p := h
theorem b17_ {p : Prop} (h : p := by (with_reducible repeat (first | apply Kd.S_alloc | apply Kd.S_drewN | apply Kd.S_drew)); exact Kd.S_mono HO_5.out (fun _ hk => hk.2)) : p := h
theorem b18_ {p : Prop} (h : p := by have h_ : (x5_1 : Int) < ((x0_1.length : Int) : Int) := of_decide_eq_true ad; first | exact h_ | (have e_ := (Kd.R_reads' HO_0.out).1; omega) | simpa using h_) : p := h
theorem b19_ {p : Prop} (h : p := by have := HJ2.out; have := HK2.out; have := HK3.out; have := HK4.out; have := HK5.out; have := HJ48.out; first | omega | exact Nat.le_refl _) : p := h
theorem b20_ {p : Prop} (h : p := by have h_ : (x25_2 : Int) < ((x5_2.length : Int) : Int) := of_decide_eq_true ad; first | (have e_ := (Kd.S_reads' HO_5.out).1; omega) | simpa only [Ny208.out, List.length_set] using h_) : p := h
theorem b21_ {p : Prop} (h : p := by first | (rw [hy250]; with_reducible exact H) | (have H2_ := (Option.bind_some _ _).symm.trans H; rw [hy250]; with_reducible exact H2_) | (have H2_ := (Option.bind_some _ _).symm.trans H; with_reducible exact H2_) | with_reducible exact H | (rw [hy250]; exact H) | exact H) : p := h
theorem b22_ {p : Prop} (h : p := by have := HK1.out; omega) : p := h
theorem b23_ {p : Prop} (h : p := by rw [hg]; exact Nat.ne_of_lt (blk_lt (g := gb277) (o := .cells #[.string a0_0, .int .i64 a0_1] 36 (0, 0)) (bq BK277.out))) : p := h
theorem b24_ {p : Prop} (h : p := by rw [hg]; exact Nat.ne_of_gt (blk_lt (g := gb277) (o := .cells #[.string a0_0, .int .i64 a0_1] 36 (0, 0)) (bq BK277.out))) : p := h
theorem b25_ {p : Prop} (h : p := by have := HK1.out; have := HK2.out; have := HJ24.out; first | omega | exact Nat.le_refl _) : p := h
theorem b26_ {p : Prop} (h : p := by rw [Ny212.out]; exact hbk27 hg (fun k_ e_ => by injection e_ with e_; subst e_; exact ge27_0.1 _ rfl) (Kd.M_row hz_)) : p := h
theorem b27_ {p : Prop} (h : p := by rw [Ny217.out]; exact hbk35 hg (fun k_ e_ => by injection e_ with e_; subst e_; exact ge35_0.1 _ rfl) (Kd.M_row hz_)) : p := h
theorem b28_ {p : Prop} (h : p := by rw [Ny231.out]; exact hbk92 hg (fun k_ e_ => by injection e_ with e_; subst e_; exact ge92_0.1 _ rfl) (Kd.M_row hz_)) : p := h
theorem b29_ {p : Prop} (h : p := by rw [Ny235.out]; exact hbk99 hg (fun k_ e_ => by injection e_ with e_; subst e_; exact ge99_0.1 _ rfl) (Kd.M_row hz_)) : p := h
theorem b30_ {p : Prop} (h : p := by rw [hg]; exact (below_size bel)) : p := h
theorem b31_ {p : Prop} (h : p := by (try simp only [hl5_2]); (try simp only [hl5_3]); (with_reducible repeat (first | apply Kd.S_alloc | apply Kd.S_drewN | apply Kd.S_drew)); exact HO_5.out) : p := h
theorem b32_ {p : Prop} (h : p := by simp only [putAll, Act.put, List.setIfInBounds_toArray, List.set_cons_zero, List.set_cons_succ]) : p := h
theorem b33_ {p : Prop} (h : p := by first | exact q209 | exact of_decide_eq_true ad | (have e_ := (Kd.S_reads' HO_5.out).1; omega)) : p := h
theorem b34_ {p : Prop} (h : p := by first | exact hq27 | exact of_decide_eq_true ad | (have e_ := (Kd.S_reads' HO_5.out).1; omega)) : p := h
theorem b35_ {p : Prop} (h : p := by rw [hg]; exact (below_size (bel1 GE277.out))) : p := h
theorem b36_ {p : Prop} (h : p := by (try simp only [hl5_2]); (with_reducible repeat (first | apply Kd.S_alloc | apply Kd.S_drewN | apply Kd.S_drew)); exact HO_5.out) : p := h
theorem b37_ {p : Prop} (h : p := by have := HJ2.out; have := HK2.out; have := HK3.out; have := HK4.out; have := HK5.out; have := HJ48.out; have := HJ62.out; omega) : p := h
theorem b38_ {p : Prop} (h : p := by have := HK1.out; first | omega | exact Nat.le_refl _) : p := h
theorem b39_ {p : Prop} (h : p := by first | simpa using c3 | (simp at c3 ⊢; omega)) : p := h
end Go.Proofs.Ytfpmfaelodfecaa.QFnExactGuesses
