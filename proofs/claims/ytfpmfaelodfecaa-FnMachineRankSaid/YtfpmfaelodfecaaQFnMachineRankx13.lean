import Derived.Test.YtfpmfaelodfecaaQFnMachineRankx0
import Derived.Test.YtfpmfaelodfecaaVMSh2
namespace Go.Proofs.Ytfpmfaelodfecaa.QFnMachineRank
open Go.RowKit Go.Proofs.YtfpmfaelodfecaaW.PrintWords Go.Proofs.YtfpmfaelodfecaaW.PrintLast Go.Proofs.YtfpmfaelodfecaaW.PrintMore Go.Proofs.Ytfpmfaelodfecaa.Sh
attribute [local go_sem] max2_int min2_int max_two min_two max_three min_three max_four min_four
set_option linter.unusedVariables false
set_option linter.unusedSimpArgs false
set_option maxHeartbeats 8000000
set_option maxRecDepth 100000
-- shrunk

/-! ### spec_l1Put: function 138 -/
mutual
def spec_l1Put.l0 : Nat → List ByteArray → ByteArray → Int → Option (List ByteArray)
 | 0, _, _, _ => none
 | k + 1, x0, x1, x5 => if x5 < (x0.length : Int) then (if 0 ≤ x5 then (spec_l1Put.j1 k x0 x1 x5 (Op.bytesLess ((rdOf ByteArray.empty x0 x5).toList) x1.toList)) else (none)) else (spec_l1Put.j1 k x0 x1 x5 false)
def spec_l1Put.j1 : Nat → List ByteArray → ByteArray → Int → Bool → Option (List ByteArray)
 | 0, _, _, _, _ => none
 | k + 1, x0, x1, x5, x17 => if x17 = true then (spec_l1Put.l0 k x0 x1 (wrap64 (x5 + 1))) else (if x5 < (x0.length : Int) then (if 0 ≤ x5 then (spec_l1Put.j2 k x0 x1 x5 ((rdOf ByteArray.empty x0 x5).toList == x1.toList)) else (none)) else (spec_l1Put.j2 k x0 x1 x5 false))
def spec_l1Put.j2 : Nat → List ByteArray → ByteArray → Int → Bool → Option (List ByteArray)
 | 0, _, _, _, _ => none
 | k + 1, x0, x1, x5, x31 => if x31 = true then (some x0) else ((some (([] : List ByteArray) : List ByteArray)).bind fun y276 => (if 0 ≤ x5 then (if x5 ≤ (x0.length : Int) then ((some (x0.take (x5 : Int).toNat : List ByteArray)).bind fun y279 => (if y276.length + y279.length < 8796093022208 then ((some (y276 ++ y279 : List ByteArray)).bind fun y284 => ((some (([x1] : List ByteArray) : List ByteArray)).bind fun y287 => (if y284.length + y287.length < 8796093022208 then ((some (y284 ++ y287 : List ByteArray)).bind fun y290 => ((some (x0.drop (x5 : Int).toNat : List ByteArray)).bind fun y293 => (if y290.length + y293.length < 8796093022208 then (some (y290 ++ y293)) else (none)))) else (none)))) else (none))) else (none)) else (none)))
end
def spec_l1Put.f (k : Nat) (l0 : List ByteArray) (a1 : ByteArray) : Option (List ByteArray) := spec_l1Put.l0 k l0 a1 0
def spec_l1Put.T6 : Bool × List (List Nat × List Nat) := (true, [([], []), ([], []), ([], []), ([1, 2], [1, 2]), ([0, 3], [0, 3]), ([], []), ([5], [5]), ([4, 6, 4], [4, 6]), ([], []), ([], []), ([8, 9], [8, 9]), ([7, 10, 7], [7, 10]), ([11, 11, 0, 1, 2, 3, 4, 5, 6, 7, 8, 9, 10, 11], [11])])
def spec_l1Put.B6 : List Nat := [0, 0, 0, 6, 15, 0, 32, 127, 0, 0, 768, 2047, 4095]
theorem spec_l1Put.tab6 : rtab .any (opsOf Try.f138 6) = spec_l1Put.T6 := by kernel_rfl
theorem spec_l1Put.bits6 : waitsOk spec_l1Put.T6.2 spec_l1Put.B6 = true := by kernel_rfl
theorem spec_l1Put.calls (k : Nat) (P0_ : Nat → Prop) (A0 : Option Addr) (c0 : Nat) (l0 : List ByteArray) (a1 : ByteArray) (r : List ByteArray) (w : World) (hs0 : Kd.V Kd.string 9 w w.heap.size (fun k_ => P0_ k_) (.slice A0 l0.length c0) l0) (h : spec_l1Put.f k l0 a1 = some r) :
  Calls Try.prog 138 #[.slice A0 l0.length c0, .string a1] w fun e w' => ∃ v0_ : Value, e = .returned (v0_) ∧ Kd.V Kd.string 9 w' w.heap.size (fun k_ => (P0_ k_ ∨ w.heap.size ≤ k_)) v0_ r ∧ Below w.heap.size w w' := by
 have HO0 := am (show Kd.V Kd.string 9 w w.heap.size (fun k_ => (P0_ k_ ∨ w.heap.size ≤ k_)) (.slice A0 l0.length c0) l0 from Kd.V_mono hs0 (fun k_ hk => .inl hk)); have HB := am (Below.refl w.heap.size w)
 have H : (spec_l1Put.l0 k l0 a1 0) = some r := h
 clear h
 have H' := am H
 clear H; go_enter Try.func138, Try.ntmps138; go_wp2
 go_loopg [5] k (fun kq v5 w' => ∃ (x5_1 : Int), v5 = .int .i64 x5_1 ∧ Aside0 (spec_l1Put.l0 kq l0 a1 x5_1 = some r) ∧ Aside0 (kq ≤ k) ∧ Aside0 (Kd.V Kd.string 9 w' w.heap.size (fun k_ => (P0_ k_ ∨ w.heap.size ≤ k_)) (.slice A0 l0.length c0) l0) ∧ Aside0 (Below w.heap.size w w'))
 case atStart => exact ⟨(0), sq, H', ⟨Nat.le_refl _⟩, ⟨vq HO0.out⟩, ⟨bel⟩⟩
 case round =>
  clear H'; (try clear c1); (try clear p2); obtain ⟨x5_1, rfl, HA, HK1, HO_0, HB⟩ := hrel
  cases gk with
  | zero => exact absurd HA.out (by simp [spec_l1Put.l0])
  | succ k1 =>
   have H := HA.out; clear HA
   simp only [spec_l1Put.l0] at H
   have HC3 := am H; clear H
   go_upto_region 2 with (fail)
   go_cut [17] (fun v17 wc => ∃ (kq : Nat) (x17_2 : Bool), v17 = .bool x17_2 ∧ Aside0 (spec_l1Put.j1 kq l0 a1 x5_1 x17_2 = some r) ∧ Aside0 (kq ≤ k1) ∧ Aside0 (Kd.V Kd.string 9 wc w.heap.size (fun k_ => (P0_ k_ ∨ w.heap.size ≤ k_)) (.slice A0 l0.length c0) l0) ∧ Aside0 (Below w.heap.size w wc))
   case first =>
    have H := HC3.out; clear HC3
    by_cases c4 : x5_1 < (l0.length : Int)
    ·rw [if_pos c4] at H; have c4b0 := decide_eq_true c4; clear c4
     (first | rw [c4b0] | (simp only [i64_w, i32_w]; rw [c4b0]) | skip)
     replace H := it H; obtain ⟨c5b0, H⟩ := H
     have H' := am H
     clear H
     have p274 : 0 ≤ (x5_1 : Int) := of_decide_eq_true ad
     have q274 : x5_1 < (l0.length : Int) := of_decide_eq_true ad
     obtain ⟨ad274, e274, hx274_0⟩ := Kd.at_string (Kd.V_reads' HO_0.out).2.2 x5_1 p274 q274
     cases e274
     replace p274 := eq_true p274; replace q274 := eq_true q274; go_wp2
     go_meet
     case rel => exact ⟨_, ((Op.bytesLess ((rdOf ByteArray.empty l0 x5_1).toList) a1.toList)), sq, H', ⟨b27_⟩, ⟨vq HO_0.out⟩, ⟨bel⟩⟩
    rw [if_neg c4] at H; have c4b0 := decide_eq_false c4; clear c4
    (first | rw [c4b0] | (simp only [i64_w, i32_w]; rw [c4b0]) | skip)
    have H' := am H
    clear H; go_wp2
    go_meet
    case rel => exact ⟨_, (false), sq, H', ⟨b27_⟩, ⟨vq HO_0.out⟩, ⟨bel⟩⟩
   case rest =>
    clear HC3; (try clear c1); (try clear p2); (try clear q2); (try clear hx2); (try clear c4); (try clear c4b0); (try clear c5); (try clear c5b0); (try clear hx274_0); (try clear p2); (try clear p274); (try clear q274); obtain ⟨kq, x17_2, rfl, HA, HJ2, HO_0, HB⟩ := hcut
    cases kq with
    | zero => exact absurd HA.out (by simp [spec_l1Put.j1])
    | succ kj2 =>
     have H := HA.out; clear HA
     simp only [spec_l1Put.j1] at H
     by_cases c6 : x17_2 = true
     ·subst c6
      have H1 : (spec_l1Put.l0 kj2 l0 a1 (wrap64 (x5_1 + 1))) = some r := b21_
      replace H := H1; clear H1
      have H' := am H
      clear H; go_wp2
      go_roundg kj2
      case measure => have := HK1.out; have := HJ2.out; omega
      case rel => exact ⟨(wrap64 (x5_1 + 1)), sq, H', ⟨by have := HK1.out; have := HJ2.out; omega⟩, ⟨vq HO_0.out⟩, ⟨bel⟩⟩
     replace c6 := Bool.eq_false_iff.mpr c6; subst c6
     have H1 : (if x5_1 < (l0.length : Int) then (if 0 ≤ x5_1 then (spec_l1Put.j2 kj2 l0 a1 x5_1 ((rdOf ByteArray.empty l0 x5_1).toList == a1.toList)) else (none)) else (spec_l1Put.j2 kj2 l0 a1 x5_1 false)) = some r := b6_
     replace H := H1; clear H1
     have HC7 := am H; clear H
     go_upto_region 4 with (fail)
     go_cut [31] (fun v31 wc => ∃ (kq : Nat) (x31_6 : Bool), v31 = .bool x31_6 ∧ Aside0 (spec_l1Put.j2 kq l0 a1 x5_1 x31_6 = some r) ∧ Aside0 (kq ≤ kj2) ∧ Aside0 (Kd.V Kd.string 9 wc w.heap.size (fun k_ => (P0_ k_ ∨ w.heap.size ≤ k_)) (.slice A0 l0.length c0) l0) ∧ Aside0 (Below w.heap.size w wc))
     case first =>
      have H := HC7.out; clear HC7
      by_cases c8 : x5_1 < (l0.length : Int)
      ·rw [if_pos c8] at H; have c8b0 := decide_eq_true c8; clear c8
       (first | rw [c8b0] | (simp only [i64_w, i32_w]; rw [c8b0]) | skip)
       replace H := it H; obtain ⟨c9b0, H⟩ := H
       have H' := am H
       clear H
       have p275 : 0 ≤ (x5_1 : Int) := of_decide_eq_true ad
       have q275 : x5_1 < (l0.length : Int) := of_decide_eq_true ad
       obtain ⟨ad275, e275, hx275_0⟩ := Kd.at_string (Kd.V_reads' HO_0.out).2.2 x5_1 p275 q275
       cases e275
       replace p275 := eq_true p275; replace q275 := eq_true q275; go_wp2
       go_meet
       case rel => exact ⟨_, (((rdOf ByteArray.empty l0 x5_1).toList == a1.toList)), sq, H', ⟨by have := HK1.out; have := HJ2.out; first | omega | exact Nat.le_refl _⟩, ⟨vq HO_0.out⟩, ⟨bel⟩⟩
      rw [if_neg c8] at H; have c8b0 := decide_eq_false c8; clear c8
      (first | rw [c8b0] | (simp only [i64_w, i32_w]; rw [c8b0]) | skip)
      have H' := am H
      clear H; go_wp2
      go_meet
      case rel => exact ⟨_, (false), sq, H', ⟨by have := HK1.out; have := HJ2.out; first | omega | exact Nat.le_refl _⟩, ⟨vq HO_0.out⟩, ⟨bel⟩⟩
     case rest =>
      clear HC7; (try clear c1); (try clear p2); (try clear q2); (try clear hx2); (try clear c4); (try clear c4b0); (try clear c5); (try clear c5b0); (try clear c6); (try clear p6); (try clear c8); (try clear c8b0); (try clear c9); (try clear c9b0); (try clear hx274_0); (try clear hx275_0); (try clear p2); (try clear p274); (try clear p275); (try clear q2); (try clear q274); (try clear q275); obtain ⟨kq, x31_6, rfl, HA, HJ6, HO_0, HB⟩ := hcut
      cases kq with
      | zero => exact absurd HA.out (by simp [spec_l1Put.j2])
      | succ kj6 =>
       have H := HA.out; clear HA
       simp only [spec_l1Put.j2] at H
       by_cases c10 : x31_6 = true
       ·subst c10
        have H1 : (some l0) = some r := b21_
        replace H := H1; clear H1
        obtain rfl := Option.some.inj H; go_wp2; go_ret
        exact ⟨_, eq_, by (with_reducible repeat (first | apply Kd.V_alloc | apply Kd.V_drewN | apply Kd.V_drew)); exact HO_0.out, bel⟩
       replace c10 := Bool.eq_false_iff.mpr c10; subst c10
       have H1 : ((some (([] : List ByteArray) : List ByteArray)).bind fun y276 => (if 0 ≤ x5_1 then (if x5_1 ≤ (l0.length : Int) then ((some (l0.take (x5_1 : Int).toNat : List ByteArray)).bind fun y279 => (if y276.length + y279.length < 8796093022208 then ((some (y276 ++ y279 : List ByteArray)).bind fun y284 => ((some (([a1] : List ByteArray) : List ByteArray)).bind fun y287 => (if y284.length + y287.length < 8796093022208 then ((some (y284 ++ y287 : List ByteArray)).bind fun y290 => ((some (l0.drop (x5_1 : Int).toNat : List ByteArray)).bind fun y293 => (if y290.length + y293.length < 8796093022208 then (some (y290 ++ y293)) else (none)))) else (none)))) else (none))) else (none)) else (none))) = some r := b6_
       replace H := H1; clear H1
       obtain ⟨y276, hy276⟩ : ∃ y_ : List ByteArray, y_ = (([] : List ByteArray)) := ⟨_, rfl⟩
       replace H : (if 0 ≤ x5_1 then (if x5_1 ≤ (l0.length : Int) then ((some (l0.take (x5_1 : Int).toNat : List ByteArray)).bind fun y279 => (if y276.length + y279.length < 8796093022208 then ((some (y276 ++ y279 : List ByteArray)).bind fun y284 => ((some (([a1] : List ByteArray) : List ByteArray)).bind fun y287 => (if y284.length + y287.length < 8796093022208 then ((some (y284 ++ y287 : List ByteArray)).bind fun y290 => ((some (l0.drop (x5_1 : Int).toNat : List ByteArray)).bind fun y293 => (if y290.length + y293.length < 8796093022208 then (some (y290 ++ y293)) else (none)))) else (none)))) else (none))) else (none)) else (none)) = some r := by first | (rw [hy276]; with_reducible exact H) | (have H2_ := bm H; rw [hy276]; with_reducible exact H2_) | (with_reducible exact bm H) | with_reducible exact H | (rw [hy276]; exact H) | exact H
       have Ny276 := am hy276; clear hy276
       replace H := ip H; obtain ⟨c11, H⟩ := H; have c11b0 := eq_true c11
       have c11b1 : decide (0 ≤ x5_1) = true := decide_eq_true c11
       clear c11
       replace H := ip H; obtain ⟨c12, H⟩ := H; have c12b0 := eq_true c12
       have c12b1 : decide (x5_1 ≤ (l0.length : Int)) = true := decide_eq_true c12
       clear c12; obtain ⟨y279, hy279⟩ : ∃ y_ : List ByteArray, y_ = (l0.take (x5_1 : Int).toNat) := ⟨_, rfl⟩
       replace H : (if y276.length + y279.length < 8796093022208 then ((some (y276 ++ y279 : List ByteArray)).bind fun y284 => ((some (([a1] : List ByteArray) : List ByteArray)).bind fun y287 => (if y284.length + y287.length < 8796093022208 then ((some (y284 ++ y287 : List ByteArray)).bind fun y290 => ((some (l0.drop (x5_1 : Int).toNat : List ByteArray)).bind fun y293 => (if y290.length + y293.length < 8796093022208 then (some (y290 ++ y293)) else (none)))) else (none)))) else (none)) = some r := by first | (rw [hy279]; with_reducible exact H) | (have H2_ := bm H; rw [hy279]; with_reducible exact H2_) | (with_reducible exact bm H) | with_reducible exact H | (rw [hy279]; exact H) | exact H
       have Ny279 := am hy279; clear hy279
       replace H := ip H; obtain ⟨c13, H⟩ := H; have LMc13 := Aside0.mk c13; clear c13; obtain ⟨y284, hy284⟩ : ∃ y_ : List ByteArray, y_ = (y276 ++ y279) := ⟨_, rfl⟩
       replace H : ((some (([a1] : List ByteArray) : List ByteArray)).bind fun y287 => (if y284.length + y287.length < 8796093022208 then ((some (y284 ++ y287 : List ByteArray)).bind fun y290 => ((some (l0.drop (x5_1 : Int).toNat : List ByteArray)).bind fun y293 => (if y290.length + y293.length < 8796093022208 then (some (y290 ++ y293)) else (none)))) else (none))) = some r := by first | (rw [hy284]; with_reducible exact H) | (have H2_ := bm H; rw [hy284]; with_reducible exact H2_) | (with_reducible exact bm H) | with_reducible exact H | (rw [hy284]; exact H) | exact H
       have Ny284 := am hy284; clear hy284; obtain ⟨y287, hy287⟩ : ∃ y_ : List ByteArray, y_ = (([a1] : List ByteArray)) := ⟨_, rfl⟩
       replace H : (if y284.length + y287.length < 8796093022208 then ((some (y284 ++ y287 : List ByteArray)).bind fun y290 => ((some (l0.drop (x5_1 : Int).toNat : List ByteArray)).bind fun y293 => (if y290.length + y293.length < 8796093022208 then (some (y290 ++ y293)) else (none)))) else (none)) = some r := by first | (rw [hy287]; with_reducible exact H) | (have H2_ := bm H; rw [hy287]; with_reducible exact H2_) | (with_reducible exact bm H) | with_reducible exact H | (rw [hy287]; exact H) | exact H
       have Ny287 := am hy287; clear hy287
       replace H := ip H; obtain ⟨c14, H⟩ := H; have LMc14 := Aside0.mk c14; clear c14; obtain ⟨y290, hy290⟩ : ∃ y_ : List ByteArray, y_ = (y284 ++ y287) := ⟨_, rfl⟩
       replace H : ((some (l0.drop (x5_1 : Int).toNat : List ByteArray)).bind fun y293 => (if y290.length + y293.length < 8796093022208 then (some (y290 ++ y293)) else (none))) = some r := by first | (rw [hy290]; with_reducible exact H) | (have H2_ := bm H; rw [hy290]; with_reducible exact H2_) | (with_reducible exact bm H) | with_reducible exact H | (rw [hy290]; exact H) | exact H
       have Ny290 := am hy290; clear hy290; have c15b0 := eq_true (of_decide_eq_true ad : 0 ≤ x5_1); have c16b0 := eq_true (of_decide_eq_true ad : x5_1 ≤ (l0.length : Int)); obtain ⟨y293, hy293⟩ : ∃ y_ : List ByteArray, y_ = (l0.drop (x5_1 : Int).toNat) := ⟨_, rfl⟩
       replace H : (if y290.length + y293.length < 8796093022208 then (some (y290 ++ y293)) else (none)) = some r := by first | (rw [hy293]; with_reducible exact H) | (have H2_ := bm H; rw [hy293]; with_reducible exact H2_) | (with_reducible exact bm H) | with_reducible exact H | (rw [hy293]; exact H) | exact H
       have Ny293 := am hy293; clear hy293
       replace H := ip H; obtain ⟨c17, H⟩ := H; have LMc17 := Aside0.mk c17; clear c17; obtain ⟨y298, hy298⟩ : ∃ y_ : List ByteArray, y_ = (y290 ++ y293) := ⟨_, rfl⟩
       replace H : (some y298) = some r := by first | (rw [hy298]; with_reducible exact H) | (have H2_ := bm H; rw [hy298]; with_reducible exact H2_) | (with_reducible exact bm H) | with_reducible exact H | (rw [hy298]; exact H) | exact H
       have Ny298 := am hy298; clear hy298; obtain rfl := Option.some.inj H
       try go_wp2
       replace HO_0 := am (Kd.V_drew HO_0.out); replace HB := am (below_drew1 HB.out)
       have q19 : (x5_1 : Int) ≤ ((l0.length : Int) : Int) := of_decide_eq_true ad
       obtain ⟨i019, hi019, _, hsz19, _⟩ := info_parts info9
       have hroom19 : l0.length ≤ c0 := (Kd.V_reads' HO_0.out).2.1
       have hC19 : Kd.F Kd.string _ _ A0 l0.length l0 := (Kd.V_at (base := w.heap.size) HO_0.out).2.2
       have hcut19 := cut_to (P := Try.prog) 22 9 .i64 Try.underlying22 hi019 A0 l0.length c0 x5_1 (of_decide_eq_true ad) q19 hroom19
       have hr19 := Kd.F_take (m := (x5_1 : Int).toNat) hC19 (by omega)
       have hy19 : y279.length = (x5_1 : Int).toNat := (by rw [Ny279.out, List.length_take]; omega)
       rw [← Ny279.out] at hr19; rw [← hy19] at hcut19
       have HO283 := am (show Kd.V Kd.string 9 _ w.heap.size _ (.slice A0 y279.length c0) y279 from Kd.V_mk (by omega) hr19)
       have HC283 := am (show y279.length ≤ c0 from by omega)
       clear hr19 hC19 hroom19 hi019 hsz19; have KY19 := am hy19; clear hy19; replace q19 := eq_true q19
       have q20 : (x5_1 : Int) ≤ ((l0.length : Int) : Int) := of_decide_eq_true ad
       obtain ⟨i020, hi020, _, hsz20, _⟩ := info_parts info9
       have hroom20 : l0.length ≤ c0 := (Kd.V_reads' HO_0.out).2.1
       have hC20 : Kd.F Kd.string _ _ A0 l0.length l0 := (Kd.V_at (base := w.heap.size) HO_0.out).2.2
       have q020 : (0 : Int) ≤ (x5_1 : Int) := of_decide_eq_true ad
       have hcut20 := cut_from (P := Try.prog) 22 9 .i64 Try.underlying22 hi020 1 hsz20 A0 l0.length c0 x5_1 q020 q20
       have hr20 := Kd.F_cut (m := (x5_1 : Int).toNat) (c := c0) hC20 (by omega) hroom20
       obtain ⟨A20, hA20⟩ : ∃ A1, A1 = (if c0 = (x5_1 : Int).toNat then A0 else (A0 : Option Addr).map (·.add ((x5_1 : Int).toNat * 1))) := ⟨_, rfl⟩; obtain ⟨c20, hc20⟩ : ∃ c1, c1 = c0 - (x5_1 : Int).toNat := ⟨_, rfl⟩
       have hy20 : y293.length = l0.length - (x5_1 : Int).toNat := (by rw [Ny293.out, List.length_drop] <;> omega)
       rw [show (l0).drop (x5_1 : Int).toNat = y293 from Ny293.out.symm] at hr20
       replace hr20 : Kd.F Kd.string _ _ A20 y293.length y293 := (by rw [hA20]; exact hr20)
       rw [← hy20, ← hA20, ← hc20] at hcut20
       have HO297 := am (show Kd.V Kd.string 9 _ w.heap.size _ (.slice A20 y293.length c20) y293 from Kd.V_mk (by rw [hy20, hc20]; exact Nat.sub_le_sub_right hroom20 _) hr20)
       have HC297 := am (show y293.length ≤ c20 from by rw [hy20, hc20]; exact Nat.sub_le_sub_right hroom20 _)
       clear hr20 hC20 hroom20 hi020 hsz20 hc20; have KY20 := am hy20; have KA20 := am hA20; clear hy20 hA20; replace q20 := eq_true q20
       refine st (n := 13) (S := fun w' => True) (ds := []) trivial (fun hHeld => ?_); refine with_tabW spec_l1Put.tab6 spec_l1Put.bits6 (fun HT_ HW_ => ?_)
       generalize wc.drew = w18 at HO_0 HB HO283 HO297 hHeld ⊢
       refine pu 1 34 ?_
       refine pu 2 35 ?_
       refine pu 3 36 ?_
       refine pu 5 38 ?_
       refine pu 8 41 ?_
       refine pu 9 42 ?_
       refine pu 10 43 ?_
       refine join_ (σ := Value × Value × Value) 3 #[true, true, true, true, true, true, true, false, true, true, true, false, false] (fun s_ => [(33, s_.1), (37, s_.2.1), (39, s_.2.2)]) (fun s_ w' => (Kd.V Kd.string 9 w' w.heap.size (fun k_ => (P0_ k_ ∨ w.heap.size ≤ k_) ∧ some k_ ≠ (s_.2.1 : Value).ownBlock ∧ some k_ ≠ (s_.2.2 : Value).ownBlock) (.slice A0 y279.length c0) y279) ∧ (Kd.R Kd.string 9 w' w.heap.size (fun k_ => (w.heap.size ≤ k_) ∧ some k_ ≠ (s_.2.2 : Value).ownBlock) s_.2.1 y284) ∧ (Kd.R Kd.string 9 w' w.heap.size (fun k_ => (w.heap.size ≤ k_) ∧ some k_ ≠ (s_.2.1 : Value).ownBlock) s_.2.2 y287) ∧ (Kd.V Kd.string 9 w' w.heap.size (fun k_ => (P0_ k_ ∨ w.heap.size ≤ k_) ∧ some k_ ≠ (s_.2.1 : Value).ownBlock ∧ some k_ ≠ (s_.2.2 : Value).ownBlock) (.slice A20 y293.length c20) y293) ∧ (Kd.V Kd.string 9 w' w.heap.size (fun k_ => (P0_ k_ ∨ w.heap.size ≤ k_) ∧ some k_ ≠ (s_.2.1 : Value).ownBlock ∧ some k_ ≠ (s_.2.2 : Value).ownBlock) (.slice A0 l0.length c0) l0) ∧ (Below w.heap.size w w')) ?_ ?_
       rotate_left
       ·intro hCont
        refine two_ (i := 0) (j := 6) (Ni := some 33) (Nj := some 39) #[true, true, true, true, false, true, false, false, true, true, true, false, false] #[false, true, true, true, false, true, true, false, true, true, true, false, false] rfl rfl rfl rfl (two_of HT_.out (by kernel_rfl)) (by decide) (by decide) (fun K hK => ?_) (fun K hK => ?_)
        ·skip
         refine Kd.R_lit_step Kd.string _ 9 ?hg (N := 33) ?hd (xs := ([] : List ByteArray)) (inner := []) (ok := fun _ => True) (okp := fun _ => True) ?hr ?hp (fun _ hk => hk) trivial (Below.refl _ _) (Nat.le_refl _) (by simp) ?_; (case hd => rfl); (case hg => rfl); (case hr => first | (go_simp; done) | (go_simp; rfl)); (case hp => exact (Reps.none _ _))
         intro v277 w21 ho22 hb hg_ hnew_; clear hg_ hnew_
         (first | rw [← Ny276.out] at ho22 | (simp only [Int.reduceToNat] at ho22; rw [← Ny276.out] at ho22) | (simp only [Int.toNat_natCast] at ho22; rw [← Ny276.out] at ho22))
         replace HO_0 := am (Kd.V_elder' (vq HO_0.out) (Kd.R_base ho22) hb); replace HO283 := am (Kd.V_elder' (vq HO283.out) (Kd.R_base ho22) hb); replace HO297 := am (Kd.V_elder' (vq HO297.out) (Kd.R_base ho22) hb); have HO278 := am (Kd.R_lower (Kd.R_newM (M := fun k_ => (w.heap.size ≤ k_)) ho22 (below_size bel) (fun k_ h_ => h_)) (below_size bel)); replace HB := am (below_step bel hb); clear hb ho22
         refine hK.out _ _ trivial (fun hHeld => ?_)
         clear hK K
         refine norm_ (a' := ?_) ?_ ?_
         rotate_left
         ·show Act.put _ (some 33) _ = _
          simp only [Act.put, List.setIfInBounds_toArray, List.set_cons_zero, List.set_cons_succ, i64_w, i32_w]
          rfl
         refine two_ (i := 4) (j := 6) (Ni := some 37) (Nj := some 39) #[true, true, true, true, true, true, false, false, true, true, true, false, false] #[true, true, true, true, false, true, true, false, true, true, true, false, false] rfl rfl rfl rfl (two_of HT_.out (by kernel_rfl)) (by decide) (by decide) (fun K hK => ?_) (fun K hK => ?_)
         ·skip
          refine Kd.R_append_rows_step Kd.string (w0 := w) w.heap.size (by rfl) (.tmp 33) (.tmp 36) 22 9 (.string ⟨#[]⟩) 16 rfl Try.underlying22 info9 rfl (by decide) (by omega) v277 y276 y279 _ _ _ (fun k_ => (w.heap.size ≤ k_)) (fun _ => False) rfl rfl ?aO ?aR (fun _ _ h => h) (fun _ h => h.elim) ?aF ?aB ?aS ?aL ?_
          (case aR => exact cq (Kd.V_reads' HO283.out).2.2); (case aB => exact bel); (case aF => exact (fun k_ hk => (Nat.le_trans (below_size bel) hk))); (case aO => exact (rq (Kd.R_mono HO278.out (fun _ hk => hk.1)))); (case aS => exact (below_size bel)); (case aL => have := LMc13.out; omega); intro v285 w23 ho hb hg hat; rw [← Ny284.out] at ho; replace HO_0 := am (Kd.V_afterv (ok := (fun k_ => (P0_ k_ ∨ w.heap.size ≤ k_))) (vq HO_0.out) hg hat); replace HO283 := am (Kd.V_afterv (ok := (fun k_ => (P0_ k_ ∨ w.heap.size ≤ k_))) (vq HO283.out) hg hat); replace HO297 := am (Kd.V_afterv (ok := (fun k_ => (P0_ k_ ∨ w.heap.size ≤ k_))) (vq HO297.out) hg hat); replace HB := am (hb); have HO286 := am (ho); clear HO278; clear ho hb hg hat
          refine hK.out _ _ trivial (fun hHeld => ?_)
          clear hK K
          refine norm_ (a' := ?_) ?_ ?_
          rotate_left
          ·show Act.put _ (some 37) _ = _
           simp only [Act.put, List.setIfInBounds_toArray, List.set_cons_zero, List.set_cons_succ, i64_w, i32_w]
           rfl
          refine on1 6 39 (fun K hK => ?_)
          refine Kd.R_lit_step Kd.string _ 9 ?hg (N := 39) ?hd (xs := ([a1] : List ByteArray)) (inner := [.string a1]) (ok := fun _ => True) (okp := fun _ => True) ?hr ?hp (fun _ hk => hk) trivial (Below.refl _ _) (Nat.le_refl _) (by simp) ?_; (case hd => rfl); (case hg => rfl); (case hr => first | (go_simp; done) | (go_simp; rfl)); (case hp => exact (Reps.one (show Kd.M Kd.string _ _ _ a1 [.string a1] from rfl) (Reps.none _ _)))
          intro v288 w24 ho25 hb hg_ hnew_; clear hg_ hnew_
          (first | rw [← Ny287.out] at ho25 | (simp only [Int.reduceToNat] at ho25; rw [← Ny287.out] at ho25) | (simp only [Int.toNat_natCast] at ho25; rw [← Ny287.out] at ho25))
          replace HO_0 := am (Kd.V_elder' (vq HO_0.out) (Kd.R_base ho25) hb); replace HO283 := am (Kd.V_elder' (vq HO283.out) (Kd.R_base ho25) hb); replace HO297 := am (Kd.V_elder' (vq HO297.out) (Kd.R_base ho25) hb); have HO289 := am (Kd.R_lower (Kd.R_new' (Kd.R_newM (M := fun k_ => (w.heap.size ≤ k_)) ho25 (below_size bel) (fun k_ h_ => h_)) (Kd.R_lt (rq HO286.out))) (below_size bel)); replace HO286 := am (Kd.R_elder' (rq HO286.out) (Kd.R_base ho25) hb); replace HB := am (below_step bel hb); clear hb ho25
          refine hK.out _ _ trivial (fun hHeld => ?_)
          clear hK K
          refine norm_ (a' := ?_) ?_ ?_
          rotate_left
          ·show Act.put _ (some 39) _ = _
           simp only [Act.put, List.setIfInBounds_toArray, List.set_cons_zero, List.set_cons_succ, i64_w, i32_w]
           rfl
          exact norm_ b49_ (hCont (v277, v285, v288) _ ⟨(vq (Kd.V_mono HO283.out (fun _ hk => ⟨hk.1.1, ⟨hk.1.2, hk.2⟩⟩))), (rq HO286.out), (rq (Kd.R_mono HO289.out (fun _ hk => ⟨hk.1.1, hk.2⟩))), (vq (Kd.V_mono HO297.out (fun _ hk => ⟨hk.1.1, ⟨hk.1.2, hk.2⟩⟩))), (vq (Kd.V_mono HO_0.out (fun _ hk => ⟨hk.1.1, ⟨hk.1.2, hk.2⟩⟩))), bel⟩)
         ·skip
          refine Kd.R_lit_step Kd.string _ 9 ?hg (N := 39) ?hd (xs := ([a1] : List ByteArray)) (inner := [.string a1]) (ok := fun _ => True) (okp := fun _ => True) ?hr ?hp (fun _ hk => hk) trivial (Below.refl _ _) (Nat.le_refl _) (by simp) ?_; (case hd => rfl); (case hg => rfl); (case hr => first | (go_simp; done) | (go_simp; rfl)); (case hp => exact (Reps.one (show Kd.M Kd.string _ _ _ a1 [.string a1] from rfl) (Reps.none _ _)))
          intro v288 w23 ho24 hb hg_ hnew_; clear hg_ hnew_
          (first | rw [← Ny287.out] at ho24 | (simp only [Int.reduceToNat] at ho24; rw [← Ny287.out] at ho24) | (simp only [Int.toNat_natCast] at ho24; rw [← Ny287.out] at ho24))
          replace HO_0 := am (Kd.V_elder' (vq HO_0.out) (Kd.R_base ho24) hb); replace HO283 := am (Kd.V_elder' (vq HO283.out) (Kd.R_base ho24) hb); replace HO297 := am (Kd.V_elder' (vq HO297.out) (Kd.R_base ho24) hb); have HO289 := am (Kd.R_lower (Kd.R_new' (Kd.R_newM (M := fun k_ => (w.heap.size ≤ k_)) ho24 (below_size bel) (fun k_ h_ => h_)) (Kd.R_lt (rq HO278.out))) (below_size bel)); replace HO278 := am (Kd.R_elder' (rq HO278.out) (Kd.R_base ho24) hb); replace HB := am (below_step bel hb); clear hb ho24
          refine hK.out _ _ trivial (fun hHeld => ?_)
          clear hK K
          refine norm_ (a' := ?_) ?_ ?_
          rotate_left
          ·show Act.put _ (some 39) _ = _
           simp only [Act.put, List.setIfInBounds_toArray, List.set_cons_zero, List.set_cons_succ, i64_w, i32_w]
           rfl
          refine on1 4 37 (fun K hK => ?_)
          refine Kd.R_append_rows_step Kd.string (w0 := w) w.heap.size (by rfl) (.tmp 33) (.tmp 36) 22 9 (.string ⟨#[]⟩) 16 rfl Try.underlying22 info9 rfl (by decide) (by omega) v277 y276 y279 _ _ _ (fun k_ => (w.heap.size ≤ k_) ∧ some k_ ≠ (v288 : Value).ownBlock) (fun _ => False) rfl rfl ?aO ?aR (fun _ _ h => h) (fun _ h => h.elim) ?aF ?aB ?aS ?aL ?_
          (case aR => exact cq (Kd.V_reads' HO283.out).2.2); (case aB => exact bel); (case aF => exact (fun k_ hk => ⟨(Nat.le_trans (below_size bel) hk), Kd.fresh' (Kd.R_lt (rq HO289.out)) k_ hk⟩)); (case aO => exact (rq (Kd.R_mono HO278.out (fun _ hk => ⟨hk.1.1, hk.2⟩)))); (case aS => exact (below_size bel)); (case aL => have := LMc13.out; omega); intro v285 w25 ho hb hg hat; rw [← Ny284.out] at ho; replace HO_0 := am (Kd.V_afterv (ok := (fun k_ => (P0_ k_ ∨ w.heap.size ≤ k_) ∧ some k_ ≠ (v288 : Value).ownBlock)) (vq (Kd.V_mono HO_0.out (fun _ hk => ⟨⟨hk.1.1, hk.2⟩, hk.1.2⟩))) hg hat); replace HO283 := am (Kd.V_afterv (ok := (fun k_ => (P0_ k_ ∨ w.heap.size ≤ k_) ∧ some k_ ≠ (v288 : Value).ownBlock)) (vq (Kd.V_mono HO283.out (fun _ hk => ⟨⟨hk.1.1, hk.2⟩, hk.1.2⟩))) hg hat); replace HO297 := am (Kd.V_afterv (ok := (fun k_ => (P0_ k_ ∨ w.heap.size ≤ k_) ∧ some k_ ≠ (v288 : Value).ownBlock)) (vq (Kd.V_mono HO297.out (fun _ hk => ⟨⟨hk.1.1, hk.2⟩, hk.1.2⟩))) hg hat); replace HO289 := am (Kd.R_after (ok := (fun k_ => (w.heap.size ≤ k_))) (rq (Kd.R_mono HO289.out (fun _ hk => ⟨hk.1.1, hk.2⟩))) hg hat); replace HB := am (hb); have HO286 := am (ho); clear HO278; clear ho hb hg hat
          refine hK.out _ _ trivial (fun hHeld => ?_)
          clear hK K
          refine norm_ (a' := ?_) ?_ ?_
          rotate_left
          ·show Act.put _ (some 37) _ = _
           simp only [Act.put, List.setIfInBounds_toArray, List.set_cons_zero, List.set_cons_succ, i64_w, i32_w]
           rfl
          exact norm_ b49_ (hCont (v277, v285, v288) _ ⟨(vq (Kd.V_mono HO283.out (fun _ hk => ⟨hk.1.1, ⟨hk.2, hk.1.2⟩⟩))), (rq HO286.out), (rq HO289.out), (vq (Kd.V_mono HO297.out (fun _ hk => ⟨hk.1.1, ⟨hk.2, hk.1.2⟩⟩))), (vq (Kd.V_mono HO_0.out (fun _ hk => ⟨hk.1.1, ⟨hk.2, hk.1.2⟩⟩))), bel⟩)
        ·skip
         refine Kd.R_lit_step Kd.string _ 9 ?hg (N := 39) ?hd (xs := ([a1] : List ByteArray)) (inner := [.string a1]) (ok := fun _ => True) (okp := fun _ => True) ?hr ?hp (fun _ hk => hk) trivial (Below.refl _ _) (Nat.le_refl _) (by simp) ?_; (case hd => rfl); (case hg => rfl); (case hr => first | (go_simp; done) | (go_simp; rfl)); (case hp => exact (Reps.one (show Kd.M Kd.string _ _ _ a1 [.string a1] from rfl) (Reps.none _ _)))
         intro v288 w21 ho22 hb hg_ hnew_; clear hg_ hnew_
         (first | rw [← Ny287.out] at ho22 | (simp only [Int.reduceToNat] at ho22; rw [← Ny287.out] at ho22) | (simp only [Int.toNat_natCast] at ho22; rw [← Ny287.out] at ho22))
         replace HO_0 := am (Kd.V_elder' (vq HO_0.out) (Kd.R_base ho22) hb); replace HO283 := am (Kd.V_elder' (vq HO283.out) (Kd.R_base ho22) hb); replace HO297 := am (Kd.V_elder' (vq HO297.out) (Kd.R_base ho22) hb); have HO289 := am (Kd.R_lower (Kd.R_newM (M := fun k_ => (w.heap.size ≤ k_)) ho22 (below_size bel) (fun k_ h_ => h_)) (below_size bel)); replace HB := am (below_step bel hb); clear hb ho22
         refine hK.out _ _ trivial (fun hHeld => ?_)
         clear hK K
         refine norm_ (a' := ?_) ?_ ?_
         rotate_left
         ·show Act.put _ (some 39) _ = _
          simp only [Act.put, List.setIfInBounds_toArray, List.set_cons_zero, List.set_cons_succ, i64_w, i32_w]
          rfl
         refine on1 0 33 (fun K hK => ?_)
         refine Kd.R_lit_step Kd.string _ 9 ?hg (N := 33) ?hd (xs := ([] : List ByteArray)) (inner := []) (ok := fun _ => True) (okp := fun _ => True) ?hr ?hp (fun _ hk => hk) trivial (Below.refl _ _) (Nat.le_refl _) (by simp) ?_; (case hd => rfl); (case hg => rfl); (case hr => first | (go_simp; done) | (go_simp; rfl)); (case hp => exact (Reps.none _ _))
         intro v277 w23 ho24 hb hg_ hnew_; clear hg_ hnew_
         (first | rw [← Ny276.out] at ho24 | (simp only [Int.reduceToNat] at ho24; rw [← Ny276.out] at ho24) | (simp only [Int.toNat_natCast] at ho24; rw [← Ny276.out] at ho24))
         replace HO_0 := am (Kd.V_elder' (vq HO_0.out) (Kd.R_base ho24) hb); replace HO283 := am (Kd.V_elder' (vq HO283.out) (Kd.R_base ho24) hb); replace HO297 := am (Kd.V_elder' (vq HO297.out) (Kd.R_base ho24) hb); have HO278 := am (Kd.R_lower (Kd.R_new' (Kd.R_newM (M := fun k_ => (w.heap.size ≤ k_)) ho24 (below_size bel) (fun k_ h_ => h_)) (Kd.R_lt (rq HO289.out))) (below_size bel)); replace HO289 := am (Kd.R_elder' (rq HO289.out) (Kd.R_base ho24) hb); replace HB := am (below_step bel hb); clear hb ho24
         refine hK.out _ _ trivial (fun hHeld => ?_)
         clear hK K
         refine norm_ (a' := ?_) ?_ ?_
         rotate_left
         ·show Act.put _ (some 33) _ = _
          simp only [Act.put, List.setIfInBounds_toArray, List.set_cons_zero, List.set_cons_succ, i64_w, i32_w]
          rfl
         refine on1 4 37 (fun K hK => ?_)
         refine Kd.R_append_rows_step Kd.string (w0 := w) w.heap.size (by rfl) (.tmp 33) (.tmp 36) 22 9 (.string ⟨#[]⟩) 16 rfl Try.underlying22 info9 rfl (by decide) (by omega) v277 y276 y279 _ _ _ (fun k_ => (w.heap.size ≤ k_) ∧ some k_ ≠ (v288 : Value).ownBlock) (fun _ => False) rfl rfl ?aO ?aR (fun _ _ h => h) (fun _ h => h.elim) ?aF ?aB ?aS ?aL ?_
         (case aR => exact cq (Kd.V_reads' HO283.out).2.2); (case aB => exact bel); (case aF => exact (fun k_ hk => ⟨(Nat.le_trans (below_size bel) hk), Kd.fresh' (Kd.R_lt (rq HO289.out)) k_ hk⟩)); (case aO => exact (rq (Kd.R_mono HO278.out (fun _ hk => ⟨hk.1.1, hk.2⟩)))); (case aS => exact (below_size bel)); (case aL => have := LMc13.out; omega); intro v285 w25 ho hb hg hat; rw [← Ny284.out] at ho; replace HO_0 := am (Kd.V_afterv (ok := (fun k_ => (P0_ k_ ∨ w.heap.size ≤ k_) ∧ some k_ ≠ (v288 : Value).ownBlock)) (vq HO_0.out) hg hat); replace HO283 := am (Kd.V_afterv (ok := (fun k_ => (P0_ k_ ∨ w.heap.size ≤ k_) ∧ some k_ ≠ (v288 : Value).ownBlock)) (vq HO283.out) hg hat); replace HO297 := am (Kd.V_afterv (ok := (fun k_ => (P0_ k_ ∨ w.heap.size ≤ k_) ∧ some k_ ≠ (v288 : Value).ownBlock)) (vq HO297.out) hg hat); replace HO289 := am (Kd.R_after (ok := (fun k_ => (w.heap.size ≤ k_))) (rq (Kd.R_mono HO289.out (fun _ hk => ⟨hk.1.1, hk.2⟩))) hg hat); replace HB := am (hb); have HO286 := am (ho); clear HO278; clear ho hb hg hat
         refine hK.out _ _ trivial (fun hHeld => ?_)
         clear hK K
         refine norm_ (a' := ?_) ?_ ?_
         rotate_left
         ·show Act.put _ (some 37) _ = _
          simp only [Act.put, List.setIfInBounds_toArray, List.set_cons_zero, List.set_cons_succ, i64_w, i32_w]
          rfl
         exact norm_ b49_ (hCont (v277, v285, v288) _ ⟨(vq (Kd.V_mono HO283.out (fun _ hk => ⟨hk.1.1, ⟨hk.2, hk.1.2⟩⟩))), (rq HO286.out), (rq HO289.out), (vq (Kd.V_mono HO297.out (fun _ hk => ⟨hk.1.1, ⟨hk.2, hk.1.2⟩⟩))), (vq (Kd.V_mono HO_0.out (fun _ hk => ⟨hk.1.1, ⟨hk.2, hk.1.2⟩⟩))), bel⟩)
       rintro ⟨v277, v285, v288⟩ w26 ⟨h0_, h1_, h2_, h3_, h4_, h5_⟩
       have n0_ : Aside0 (Kd.V Kd.string 9 w26 w.heap.size (fun k_ => (P0_ k_ ∨ w.heap.size ≤ k_) ∧ some k_ ≠ (v285 : Value).ownBlock ∧ some k_ ≠ (v288 : Value).ownBlock) (.slice A0 y279.length c0) y279) := ⟨h0_⟩
       have n1_ : Aside0 (Kd.R Kd.string 9 w26 w.heap.size (fun k_ => (w.heap.size ≤ k_) ∧ some k_ ≠ (v288 : Value).ownBlock) v285 y284) := ⟨h1_⟩
       have n2_ : Aside0 (Kd.R Kd.string 9 w26 w.heap.size (fun k_ => (w.heap.size ≤ k_) ∧ some k_ ≠ (v285 : Value).ownBlock) v288 y287) := ⟨h2_⟩
       have n3_ : Aside0 (Kd.V Kd.string 9 w26 w.heap.size (fun k_ => (P0_ k_ ∨ w.heap.size ≤ k_) ∧ some k_ ≠ (v285 : Value).ownBlock ∧ some k_ ≠ (v288 : Value).ownBlock) (.slice A20 y293.length c20) y293) := ⟨h3_⟩
       have n4_ : Aside0 (Kd.V Kd.string 9 w26 w.heap.size (fun k_ => (P0_ k_ ∨ w.heap.size ≤ k_) ∧ some k_ ≠ (v285 : Value).ownBlock ∧ some k_ ≠ (v288 : Value).ownBlock) (.slice A0 l0.length c0) l0) := ⟨h4_⟩
       have n5_ : Aside0 (Below w.heap.size w w26) := ⟨h5_⟩
       clear HO_0; clear HB; clear h0_ h1_ h2_ h3_ h4_ h5_; have HO283 := n0_; have HO286 := n1_; have HO289 := n2_; have HO297 := n3_; have HO_0 := n4_; have HB := n5_; clear n0_ n1_ n2_ n3_ n4_ n5_; have hHeld := trivial; obtain ⟨Ao28, co28, eo28⟩ := Kd.R_slice HO289.out
       (first | subst eo28 | (injection eo28 with f1_ f2_ f3_; have f4_ := f1_.symm; have f5_ := f3_.symm; clear f1_ f2_ f3_; subst f4_; subst f5_))
       refine norm_ (a' := ?_) ?_ ?_
       rotate_left
       ·simp only [putAll, Act.put, List.setIfInBounds_toArray, List.set_cons_zero, List.set_cons_succ]
        rfl
       refine on1 7 40 (fun K hK => ?_)
       refine Kd.R_append_rows_step Kd.string (w0 := w) w.heap.size (by rfl) (.tmp 37) (.tmp 39) 22 9 (.string ⟨#[]⟩) 16 rfl Try.underlying22 info9 rfl (by decide) (by omega) v285 y284 y287 _ _ _ (fun k_ => (w.heap.size ≤ k_) ∧ some k_ ≠ (.slice Ao28 y287.length co28 : Value).ownBlock) (fun _ => False) rfl rfl ?aO ?aR (fun _ _ h => h) (fun _ h => h.elim) ?aF ?aB ?aS ?aL ?_
       (case aR => exact cq (Kd.R_reads' HO289.out).2.2); (case aB => exact bel); (case aF => exact (fun k_ hk => ⟨(Nat.le_trans (below_size bel) hk), Kd.fresh' (Kd.R_lt (rq HO289.out)) k_ hk⟩)); (case aO => exact (rq HO286.out)); (case aS => exact (below_size bel)); (case aL => have := LMc14.out; omega); intro v291 w27 ho hb hg hat; rw [← Ny290.out] at ho; replace HO_0 := am (Kd.V_afterv (ok := (fun k_ => (P0_ k_ ∨ w.heap.size ≤ k_) ∧ some k_ ≠ (.slice Ao28 y287.length co28 : Value).ownBlock)) (vq (Kd.V_mono HO_0.out (fun _ hk => ⟨⟨hk.1, hk.2.2⟩, hk.2.1⟩))) hg hat); replace HO283 := am (Kd.V_afterv (ok := (fun k_ => (P0_ k_ ∨ w.heap.size ≤ k_) ∧ some k_ ≠ (.slice Ao28 y287.length co28 : Value).ownBlock)) (vq (Kd.V_mono HO283.out (fun _ hk => ⟨⟨hk.1, hk.2.2⟩, hk.2.1⟩))) hg hat); replace HO297 := am (Kd.V_afterv (ok := (fun k_ => (P0_ k_ ∨ w.heap.size ≤ k_) ∧ some k_ ≠ (.slice Ao28 y287.length co28 : Value).ownBlock)) (vq (Kd.V_mono HO297.out (fun _ hk => ⟨⟨hk.1, hk.2.2⟩, hk.2.1⟩))) hg hat); replace HO289 := am (Kd.R_after (ok := (fun k_ => (w.heap.size ≤ k_))) (rq HO289.out) hg hat); replace HB := am (hb); have HO292 := am (ho); clear HO286; clear ho hb hg hat
       refine hK.out _ _ trivial (fun hHeld => ?_)
       clear hK K
       refine norm_ (a' := ?_) ?_ ?_
       rotate_left
       ·show Act.put _ (some 40) _ = _
        simp only [Act.put, List.setIfInBounds_toArray, List.set_cons_zero, List.set_cons_succ, i64_w, i32_w]
        rfl
       refine on1 11 44 (fun K hK => ?_)
       refine Kd.R_append_rows_step Kd.string (w0 := w) w.heap.size (by rfl) (.tmp 40) (.tmp 43) 22 9 (.string ⟨#[]⟩) 16 rfl Try.underlying22 info9 rfl (by decide) (by omega) v291 y290 y293 _ _ _ (fun k_ => (w.heap.size ≤ k_) ∧ some k_ ≠ (.slice Ao28 y287.length co28 : Value).ownBlock) (fun _ => False) rfl rfl ?aO ?aR (fun _ _ h => h) (fun _ h => h.elim) ?aF ?aB ?aS ?aL ?_
       (case aR => exact cq (Kd.V_reads' HO297.out).2.2); (case aB => exact bel); (case aF => exact (fun k_ hk => ⟨(Nat.le_trans (below_size bel) hk), Kd.fresh' (Kd.R_lt (rq HO289.out)) k_ hk⟩)); (case aO => exact (rq HO292.out)); (case aS => exact (below_size bel)); (case aL => have := LMc17.out; omega); intro v299 w29 ho hb hg hat; rw [← Ny298.out] at ho; replace HO_0 := am (Kd.V_afterv (ok := (fun k_ => (P0_ k_ ∨ w.heap.size ≤ k_) ∧ some k_ ≠ (.slice Ao28 y287.length co28 : Value).ownBlock)) (vq HO_0.out) hg hat); replace HO283 := am (Kd.V_afterv (ok := (fun k_ => (P0_ k_ ∨ w.heap.size ≤ k_) ∧ some k_ ≠ (.slice Ao28 y287.length co28 : Value).ownBlock)) (vq HO283.out) hg hat); replace HO297 := am (Kd.V_afterv (ok := (fun k_ => (P0_ k_ ∨ w.heap.size ≤ k_) ∧ some k_ ≠ (.slice Ao28 y287.length co28 : Value).ownBlock)) (vq HO297.out) hg hat); replace HO289 := am (Kd.R_after (ok := (fun k_ => (w.heap.size ≤ k_))) (rq HO289.out) hg hat); replace HB := am (hb); have HO300 := am (ho); clear HO292; clear ho hb hg hat
       refine hK.out _ _ trivial (fun hHeld => ?_)
       clear hK K
       refine norm_ (a' := ?_) ?_ ?_
       rotate_left
       ·show Act.put _ (some 44) _ = _
        simp only [Act.put, List.setIfInBounds_toArray, List.set_cons_zero, List.set_cons_succ, i64_w, i32_w]
        rfl
       refine pu 12 4 ?_
       refine done_ (done_of HT_.out (by kernel_rfl)) ?_
       try go_wp2
       go_ret
       exact ⟨_, eq_, Kd.V_mono (Kd.R_V (rq (Kd.R_mono HO300.out (fun _ hk => hk.1)))) (fun k_ hk => by first | exact ⟨(.inr (hk.1)), hk.2⟩ | exact (.inr (hk))), bel⟩
-- shrunk

/-! ### spec_l2Has: function 197 -/
def spec_l2Has.l0 : Nat → ByteArray → ByteArray → Int → Option (Bool)
 | 0, _, _, _ => none
 | k + 1, x0, x1, x5 => if x5 < (x0.size : Int) then (if 0 ≤ x5 then (if x5 ≤ (wrap64 (x5 + 1)) then (if (wrap64 (x5 + 1)) ≤ (x0.size : Int) then (if (x0.extract (x5 : Int).toNat ((wrap64 (x5 + 1)) : Int).toNat).toList = x1.toList then (some true) else (spec_l2Has.l0 k x0 x1 (wrap64 (x5 + 1)))) else (none)) else (none)) else (none)) else (some false)
def spec_l2Has.f (k : Nat) (a0 : ByteArray) (a1 : ByteArray) : Option (Bool) := spec_l2Has.l0 k a0 a1 0
theorem spec_l2Has.calls (k : Nat) (a0 : ByteArray) (a1 : ByteArray) (r : Bool) (w : World) (h : spec_l2Has.f k a0 a1 = some r) :
  Calls Try.prog 197 #[.string a0, .string a1] w fun e w' => e = .returned (.bool r) ∧ Drawn0 w w' := by
 have H : (spec_l2Has.l0 k a0 a1 0) = some r := h
 clear h
 have H' := am H
 clear H; go_enter Try.func197, Try.ntmps197; go_wp2
 go_loopg [5] k (fun kq v5 w' => ∃ (x5_1 : Int), v5 = .int .i64 x5_1 ∧ Aside0 (spec_l2Has.l0 kq a0 a1 x5_1 = some r) ∧ Aside0 (kq ≤ k) ∧ Drawn0 w w')
 case atStart => exact ⟨(0), sq, H', ⟨Nat.le_refl _⟩, dr⟩
 case round =>
  clear H'; (try clear c1); (try clear p2); obtain ⟨x5_1, rfl, HA, HK1, ⟨m1, rfl⟩⟩ := hrel
  cases gk with
  | zero => exact absurd HA.out (by simp [spec_l2Has.l0])
  | succ k1 =>
   have H := HA.out; clear HA
   simp only [spec_l2Has.l0] at H
   by_cases c3 : x5_1 < (a0.size : Int)
   ·rw [if_pos c3] at H; have c3b0 := decide_eq_true c3; clear c3
    replace H := ip H; obtain ⟨c4, H⟩ := H; have c4b0 := eq_true c4
    have c4b1 : decide (0 ≤ x5_1) = true := decide_eq_true c4
    clear c4
    replace H := ip H; obtain ⟨c5, H⟩ := H; have c5b0 := eq_true c5
    have c5b1 : decide (x5_1 ≤ (wrap64 (x5_1 + 1))) = true := decide_eq_true c5
    replace H := ip H; obtain ⟨c6, H⟩ := H; have c6b0 := eq_true c6
    have c6b1 : decide ((wrap64 (x5_1 + 1)) ≤ (a0.size : Int)) = true := decide_eq_true c6
    by_cases c7 : (a0.extract (x5_1 : Int).toNat ((wrap64 (x5_1 + 1)) : Int).toNat).toList = a1.toList
    ·rw [if_pos c7] at H
     have c7b0 : ((a0.extract (x5_1 : Int).toNat ((wrap64 (x5_1 + 1)) : Int).toNat).toList == a1.toList) = true := beq_iff_eq.mpr c7
     have c7b1 : ((a0.extract (x5_1 : Int).toNat ((wrap64 (x5_1 + 1)) : Int).toNat).toList != a1.toList) = false := bne_eq_false_iff_eq.mpr c7
     clear c7; obtain rfl := Option.some.inj H; go_wp2; go_ret
     exact ⟨sq, dr⟩
    rw [if_neg c7] at H
    have c7b0 : ((a0.extract (x5_1 : Int).toNat ((wrap64 (x5_1 + 1)) : Int).toNat).toList == a1.toList) = false := beq_eq_false_iff_ne.mpr c7
    have c7b1 : ((a0.extract (x5_1 : Int).toNat ((wrap64 (x5_1 + 1)) : Int).toNat).toList != a1.toList) = true := bne_iff_ne.mpr c7
    have H' := am H
    clear H; go_wp2
    go_roundg k1
    case measure => have := HK1.out; omega
    case rel => exact ⟨(wrap64 (x5_1 + 1)), sq, H', ⟨b67_⟩, dr⟩
   rw [if_neg c3] at H; have c3b0 := decide_eq_false c3; clear c3; obtain rfl := Option.some.inj H; go_wp2; go_ret
   exact ⟨sq, dr⟩

/-! ### spec_l1Letters: function 102 -/
def spec_l1Letters.l0 : Nat → ByteArray → Int → Int → Option (Bool)
 | 0, _, _, _ => none
 | k + 1, x0, x1, x5 => if x5 < (x0.size : Int) then (if 0 ≤ x5 then (if (bt x0 x5) < 97 then (some false) else (if (bt x0 x5) > 122 then (some false) else (spec_l1Letters.l0 k x0 x1 (wrap64 (x5 + 1))))) else (none)) else (some (decide ((x0.size : Int) ≤ x1)))
def spec_l1Letters.f (k : Nat) (a0 : ByteArray) (a1 : Int) : Option (Bool) := spec_l1Letters.l0 k a0 a1 0
theorem spec_l1Letters.calls (k : Nat) (a0 : ByteArray) (a1 : Int) (r : Bool) (w : World) (h : spec_l1Letters.f k a0 a1 = some r) :
  Calls Try.prog 102 #[.string a0, .int .i64 a1] w fun e w' => e = .returned (.bool r) ∧ Drawn0 w w' := by
 have H : (spec_l1Letters.l0 k a0 a1 0) = some r := h
 clear h
 have H' := am H
 clear H; go_enter Try.func102, Try.ntmps102; go_wp2
 go_loopg [5] k (fun kq v5 w' => ∃ (x5_1 : Int), v5 = .int .i64 x5_1 ∧ Aside0 (spec_l1Letters.l0 kq a0 a1 x5_1 = some r) ∧ Aside0 (kq ≤ k) ∧ Drawn0 w w')
 case atStart => exact ⟨(0), sq, H', ⟨Nat.le_refl _⟩, dr⟩
 case round =>
  clear H'; (try clear c1); (try clear p2); obtain ⟨x5_1, rfl, HA, HK1, ⟨m1, rfl⟩⟩ := hrel
  cases gk with
  | zero => exact absurd HA.out (by simp [spec_l1Letters.l0])
  | succ k1 =>
   have H := HA.out; clear HA
   simp only [spec_l1Letters.l0] at H
   by_cases c3 : x5_1 < (a0.size : Int)
   ·rw [if_pos c3] at H; have c3b0 := decide_eq_true c3; clear c3
    replace H := it H; obtain ⟨c4b0, H⟩ := H
    by_cases c6 : (bt a0 x5_1) < 97
    ·rw [if_pos c6] at H; have c6b0 := decide_eq_true c6; clear c6; obtain rfl := Option.some.inj H
     have p5 : 0 ≤ (x5_1 : Int) := of_decide_eq_true ad
     have q5 : x5_1 < (a0.size : Int) := of_decide_eq_true ad
     have hx5 := bt_at a0 x5_1; replace p5 := eq_true p5; replace q5 := eq_true q5; go_wp2; go_ret
     exact ⟨sq, dr⟩
    rw [if_neg c6] at H; have c6b0 := decide_eq_false c6; clear c6
    by_cases c8 : (bt a0 x5_1) > 122
    ·rw [if_pos c8] at H; have c8b0 := decide_eq_true c8; clear c8; obtain rfl := Option.some.inj H
     have p5 : 0 ≤ (x5_1 : Int) := of_decide_eq_true ad
     have q5 : x5_1 < (a0.size : Int) := of_decide_eq_true ad
     have hx5 := bt_at a0 x5_1; replace p5 := eq_true p5; replace q5 := eq_true q5
     have p7 : 0 ≤ (x5_1 : Int) := of_decide_eq_true ad
     have q7 : x5_1 < (a0.size : Int) := of_decide_eq_true ad
     have hx7 := bt_at a0 x5_1; replace p7 := eq_true p7; replace q7 := eq_true q7; go_wp2; go_ret
     exact ⟨sq, dr⟩
    rw [if_neg c8] at H; have c8b0 := decide_eq_false c8; clear c8
    have H' := am H
    clear H
    have p5 : 0 ≤ (x5_1 : Int) := of_decide_eq_true ad
    have q5 : x5_1 < (a0.size : Int) := of_decide_eq_true ad
    have hx5 := bt_at a0 x5_1; replace p5 := eq_true p5; replace q5 := eq_true q5
    have p7 : 0 ≤ (x5_1 : Int) := of_decide_eq_true ad
    have q7 : x5_1 < (a0.size : Int) := of_decide_eq_true ad
    have hx7 := bt_at a0 x5_1; replace p7 := eq_true p7; replace q7 := eq_true q7; go_wp2
    go_roundg k1
    case measure => have := HK1.out; omega
    case rel => exact ⟨(wrap64 (x5_1 + 1)), sq, H', ⟨b67_⟩, dr⟩
   rw [if_neg c3] at H; have c3b0 := decide_eq_false c3; clear c3; obtain rfl := Option.some.inj H; go_wp2; go_ret
   exact ⟨sq, dr⟩

/-! ### spec_l1Word: function 57 -/
def spec_l1Word.f (k : Nat) (a0 : ByteArray) : Option (Bool) := if (a0.size : Int) > 0 then ((spec_l1Letters.f k a0 12).bind fun t301 => (some t301)) else (some false)
theorem spec_l1Word.calls (k : Nat) (a0 : ByteArray) (r : Bool) (w : World) (h : spec_l1Word.f k a0 = some r) :
  Calls Try.prog 57 #[.string a0] w fun e w' => e = .returned (.bool r) ∧ Drawn0 w w' := by
 have H : (if (a0.size : Int) > 0 then ((spec_l1Letters.f k a0 12).bind fun t301 => (some t301)) else (some false)) = some r := h
 clear h
 by_cases c2 : (a0.size : Int) > 0
 ·rw [if_pos c2] at H; have c2b0 := decide_eq_true c2
  have c2b1 : decide (0 < a0.size) = true := decide_eq_true (by omega)
  clear c2; replace H := bs H; obtain ⟨t301, A30, H⟩ := H; replace H : (some t301) = some r := H; have A3 := Aside0.mk A30; clear A30; obtain rfl := Option.some.inj H; go_enter Try.func57, Try.ntmps57
  go_wp2_with (first | (go_at_call 102; (with_reducible refine (spec_l1Letters.calls k a0 12 t301 _ A3.out).mono ?_); rintro e w' ⟨rfl, ⟨nd, rfl⟩⟩))
  go_ret
  exact ⟨sq, dr⟩
 rw [if_neg c2] at H; have c2b0 := decide_eq_false c2
 have c2b1 : decide (0 < a0.size) = false := decide_eq_false (by omega)
 clear c2; obtain rfl := Option.some.inj H; go_enter Try.func57, Try.ntmps57; go_wp2; go_ret
 exact ⟨sq, dr⟩

/-! ### spec_l2Begins: function 170 -/
def spec_l2Begins.f (a0 : ByteArray) (a1 : ByteArray) : Option (Bool) := if (a0.size : Int) ≥ (a1.size : Int) then (if 0 ≤ (a1.size : Int) then (if (a1.size : Int) ≤ (a0.size : Int) then (some ((a0.extract 0 a1.size).toList == a1.toList)) else (none)) else (none)) else (some false)
theorem spec_l2Begins.calls (a0 : ByteArray) (a1 : ByteArray) (r : Bool) (w : World) (h : spec_l2Begins.f a0 a1 = some r) :
  Calls Try.prog 170 #[.string a0, .string a1] w fun e w' => e = .returned (.bool r) ∧ Drawn0 w w' := by
 have H : (if (a0.size : Int) ≥ (a1.size : Int) then (if 0 ≤ (a1.size : Int) then (if (a1.size : Int) ≤ (a0.size : Int) then (some ((a0.extract 0 a1.size).toList == a1.toList)) else (none)) else (none)) else (some false)) = some r := h
 clear h
 by_cases c3 : (a0.size : Int) ≥ (a1.size : Int)
 ·rw [if_pos c3] at H; have c3b0 := decide_eq_true c3
  have c3b1 : decide (a1.size ≤ a0.size) = true := decide_eq_true (Int.ofNat_le.mp c3)
  clear c3
  replace H := ip H; obtain ⟨c4, H⟩ := H; have c4b0 := eq_true c4
  have c4b1 : decide (0 ≤ (a1.size : Int)) = true := decide_eq_true c4
  clear c4
  replace H := ip H; obtain ⟨c5, H⟩ := H; have c5b0 := eq_true c5
  have c5b9 : (a1.size ≤ a0.size) = True := eq_true (by omega)
  have c5b6 : decide (a1.size ≤ a0.size) = true := decide_eq_true (by omega)
  have c5b1 : decide ((a1.size : Int) ≤ (a0.size : Int)) = true := decide_eq_true c5
  clear c5; obtain rfl := Option.some.inj H; go_enter Try.func170, Try.ntmps170; go_wp2; go_ret
  exact ⟨sq, dr⟩
 rw [if_neg c3] at H; have c3b0 := decide_eq_false c3
 have c3b1 : decide (a1.size ≤ a0.size) = false := decide_eq_false (fun h => c3 (Int.ofNat_le.mpr h))
 clear c3; obtain rfl := Option.some.inj H; go_enter Try.func170, Try.ntmps170; go_wp2; go_ret
 exact ⟨sq, dr⟩

/-! ### spec_l2Ends: function 171 -/
def spec_l2Ends.f (a0 : ByteArray) (a1 : ByteArray) : Option (Bool) := if (a0.size : Int) ≥ (a1.size : Int) then (if 0 ≤ (wrap64 ((a0.size : Int) - (a1.size : Int))) then (if (wrap64 ((a0.size : Int) - (a1.size : Int))) ≤ (a0.size : Int) then (some ((a0.extract ((wrap64 ((a0.size : Int) - (a1.size : Int))) : Int).toNat a0.size).toList == a1.toList)) else (none)) else (none)) else (some false)
theorem spec_l2Ends.calls (a0 : ByteArray) (a1 : ByteArray) (r : Bool) (w : World) (h : spec_l2Ends.f a0 a1 = some r) :
  Calls Try.prog 171 #[.string a0, .string a1] w fun e w' => e = .returned (.bool r) ∧ Drawn0 w w' := by
 have H : (if (a0.size : Int) ≥ (a1.size : Int) then (if 0 ≤ (wrap64 ((a0.size : Int) - (a1.size : Int))) then (if (wrap64 ((a0.size : Int) - (a1.size : Int))) ≤ (a0.size : Int) then (some ((a0.extract ((wrap64 ((a0.size : Int) - (a1.size : Int))) : Int).toNat a0.size).toList == a1.toList)) else (none)) else (none)) else (some false)) = some r := h
 clear h
 by_cases c3 : (a0.size : Int) ≥ (a1.size : Int)
 ·rw [if_pos c3] at H; have c3b0 := decide_eq_true c3
  have c3b1 : decide (a1.size ≤ a0.size) = true := decide_eq_true (Int.ofNat_le.mp c3)
  clear c3; obtain ⟨ji4, hji4⟩ : ∃ j_ : Int, (wrap64 ((a0.size : Int) - (a1.size : Int))) = j_ := ⟨_, rfl⟩
  replace H : (if 0 ≤ (ji4) then (if (ji4) ≤ (a0.size : Int) then (some ((a0.extract ((ji4) : Int).toNat a0.size).toList == a1.toList)) else (none)) else (none)) = some r := by first | (rw [hji4] at H; exact H) | (simp only [hji4] at H ⊢; exact H)
  have hji4w : (IntKind.i64.wrap ((a0.size : Int) - (a1.size : Int))) = ji4 := (i64_w _).trans hji4
  replace H := ip H; obtain ⟨c5, H⟩ := H; have c5b0 := eq_true c5
  have c5b1 : decide (0 ≤ (ji4)) = true := decide_eq_true c5
  clear c5
  replace H := ip H; obtain ⟨c6, H⟩ := H; have c6b0 := eq_true c6
  have c6b1 : decide ((ji4) ≤ (a0.size : Int)) = true := decide_eq_true c6
  clear c6; obtain rfl := Option.some.inj H; go_enter Try.func171, Try.ntmps171; go_wp2; go_ret
  exact ⟨by first | rfl | (simp; done) | (simp only [← hji4] <;> (first | rfl | simp)) | (simp [*]; done), dr⟩
 rw [if_neg c3] at H; have c3b0 := decide_eq_false c3
 have c3b1 : decide (a1.size ≤ a0.size) = false := decide_eq_false (fun h => c3 (Int.ofNat_le.mpr h))
 clear c3; obtain rfl := Option.some.inj H; go_enter Try.func171, Try.ntmps171; go_wp2; go_ret
 exact ⟨sq, dr⟩

/-! ### spec_l2Do: function 198 -/
def spec_l2Do.f (k : Nat) (a0_0 : ByteArray) (a0_1 : Bool) (a0_2 : ByteArray) (a0_3 : ByteArray) (a0_4 : ByteArray) (a1 : ByteArray) : Option (ByteArray × Bool) := if a0_1 = true then ((spec_l2Begins.f a1 a0_4).bind fun t303 => (if t303 = true then (if 0 ≤ (a0_2.size : Int) then (if (a0_2.size : Int) ≤ (a1.size : Int) then (if a0_3.size + (a1.extract a0_2.size a1.size).size ≤ 9223372036854775807 then ((spec_l1Word.f k (a0_3 ++ (a1.extract a0_2.size a1.size))).bind fun t304 => (some (a0_3 ++ (a1.extract a0_2.size a1.size), t304))) else (none)) else (none)) else (none)) else (some ((⟨#[]⟩ : ByteArray), false)))) else ((spec_l2Ends.f a1 a0_4).bind fun t305 => (if t305 = true then (if 0 ≤ (wrap64 ((a1.size : Int) - (a0_2.size : Int))) then (if (wrap64 ((a1.size : Int) - (a0_2.size : Int))) ≤ (a1.size : Int) then (if (a1.extract 0 ((wrap64 ((a1.size : Int) - (a0_2.size : Int))) : Int).toNat).size + a0_3.size ≤ 9223372036854775807 then ((spec_l1Word.f k ((a1.extract 0 ((wrap64 ((a1.size : Int) - (a0_2.size : Int))) : Int).toNat) ++ a0_3)).bind fun t306 => (some ((a1.extract 0 ((wrap64 ((a1.size : Int) - (a0_2.size : Int))) : Int).toNat) ++ a0_3, t306))) else (none)) else (none)) else (none)) else (some ((⟨#[]⟩ : ByteArray), false))))
theorem spec_l2Do.calls (k : Nat) (a0_0 : ByteArray) (a0_1 : Bool) (a0_2 : ByteArray) (a0_3 : ByteArray) (a0_4 : ByteArray) (a1 : ByteArray) (r1 : ByteArray) (r2 : Bool) (w : World) (h : spec_l2Do.f k a0_0 a0_1 a0_2 a0_3 a0_4 a1 = some (r1, r2)) :
  Calls Try.prog 198 #[.agg #[.string a0_0, .bool a0_1, .string a0_2, .string a0_3, .string a0_4], .string a1] w fun e w' => e = .returned (.tuple #[.string r1, .bool r2]) ∧ Below w.heap.size w w' := by
 have hu117 := Try.underlying117; have HB := am (Below.refl w.heap.size w)
 have H : (if a0_1 = true then ((spec_l2Begins.f a1 a0_4).bind fun t303 => (if t303 = true then (if 0 ≤ (a0_2.size : Int) then (if (a0_2.size : Int) ≤ (a1.size : Int) then (if a0_3.size + (a1.extract a0_2.size a1.size).size ≤ 9223372036854775807 then ((spec_l1Word.f k (a0_3 ++ (a1.extract a0_2.size a1.size))).bind fun t304 => (some (a0_3 ++ (a1.extract a0_2.size a1.size), t304))) else (none)) else (none)) else (none)) else (some ((⟨#[]⟩ : ByteArray), false)))) else ((spec_l2Ends.f a1 a0_4).bind fun t305 => (if t305 = true then (if 0 ≤ (wrap64 ((a1.size : Int) - (a0_2.size : Int))) then (if (wrap64 ((a1.size : Int) - (a0_2.size : Int))) ≤ (a1.size : Int) then (if (a1.extract 0 ((wrap64 ((a1.size : Int) - (a0_2.size : Int))) : Int).toNat).size + a0_3.size ≤ 9223372036854775807 then ((spec_l1Word.f k ((a1.extract 0 ((wrap64 ((a1.size : Int) - (a0_2.size : Int))) : Int).toNat) ++ a0_3)).bind fun t306 => (some ((a1.extract 0 ((wrap64 ((a1.size : Int) - (a0_2.size : Int))) : Int).toNat) ++ a0_3, t306))) else (none)) else (none)) else (none)) else (some ((⟨#[]⟩ : ByteArray), false))))) = some (r1, r2) := h
 clear h
 by_cases c3 : a0_1 = true
 ·subst c3
  have H1 : ((spec_l2Begins.f a1 a0_4).bind fun t303 => (if t303 = true then (if 0 ≤ (a0_2.size : Int) then (if (a0_2.size : Int) ≤ (a1.size : Int) then (if a0_3.size + (a1.extract a0_2.size a1.size).size ≤ 9223372036854775807 then ((spec_l1Word.f k (a0_3 ++ (a1.extract a0_2.size a1.size))).bind fun t304 => (some (a0_3 ++ (a1.extract a0_2.size a1.size), t304))) else (none)) else (none)) else (none)) else (some ((⟨#[]⟩ : ByteArray), false)))) = some (r1, r2) := b21_
  replace H := H1; clear H1
  replace H := bs H; obtain ⟨t303, A40, H⟩ := H; replace H : (if t303 = true then (if 0 ≤ (a0_2.size : Int) then (if (a0_2.size : Int) ≤ (a1.size : Int) then (if a0_3.size + (a1.extract a0_2.size a1.size).size ≤ 9223372036854775807 then ((spec_l1Word.f k (a0_3 ++ (a1.extract a0_2.size a1.size))).bind fun t304 => (some (a0_3 ++ (a1.extract a0_2.size a1.size), t304))) else (none)) else (none)) else (none)) else (some ((⟨#[]⟩ : ByteArray), false))) = some (r1, r2) := H; have A4 := Aside0.mk A40; clear A40
  by_cases c5 : t303 = true
  ·subst c5
   have H1 : (if 0 ≤ (a0_2.size : Int) then (if (a0_2.size : Int) ≤ (a1.size : Int) then (if a0_3.size + (a1.extract a0_2.size a1.size).size ≤ 9223372036854775807 then ((spec_l1Word.f k (a0_3 ++ (a1.extract a0_2.size a1.size))).bind fun t304 => (some (a0_3 ++ (a1.extract a0_2.size a1.size), t304))) else (none)) else (none)) else (none)) = some (r1, r2) := b21_
   replace H := H1; clear H1
   replace H := ip H; obtain ⟨c6, H⟩ := H; have c6b0 := eq_true c6
   have c6b1 : decide (0 ≤ (a0_2.size : Int)) = true := decide_eq_true c6
   clear c6
   replace H := ip H; obtain ⟨c7, H⟩ := H; have c7b0 := eq_true c7
   have c7b9 : (a0_2.size ≤ a1.size) = True := eq_true (by omega)
   have c7b6 : decide (a0_2.size ≤ a1.size) = true := decide_eq_true (by omega)
   have c7b1 : decide ((a0_2.size : Int) ≤ (a1.size : Int)) = true := decide_eq_true c7
   clear c7
   replace H := ip H; obtain ⟨c8, H⟩ := H; have c8b0 := eq_true c8; have c8b5 := c8
   try simp at c8b5
   try have c8b4 := eq_false (Nat.not_lt.2 c8b5)
   try have c8b3 : (9223372036854775807 < a0_3.size + (a1.size - a0_2.size)) = False := by
         have h_ := c8
         simp only [ByteArray.size_append, ByteArray.size_extract] at h_
         exact eq_false (by omega)
   have c8b1 : decide (a0_3.size + (a1.extract a0_2.size a1.size).size ≤ 9223372036854775807) = true := decide_eq_true c8
   try have c8b2 : (9223372036854775807 < a0_3.size + (a1.extract a0_2.size a1.size).size) = False := eq_false (Nat.not_lt.2 c8)
   replace H := bs H; obtain ⟨t304, A90, H⟩ := H; replace H : (some (a0_3 ++ (a1.extract a0_2.size a1.size), t304)) = some (r1, r2) := H; have A9 := Aside0.mk A90; clear A90
   simp only [Option.some.injEq, Prod.mk.injEq] at H
   obtain ⟨rfl, rfl⟩ := H; go_enter Try.func198, Try.ntmps198
   go_wp2_with (first | ((with_reducible refine gate_dst (N := 2) rfl ?_); refine bx 2 (cs := #[.string a0_0, .bool true, .string a0_2, .string a0_3, .string a0_4]) (t := 117) ?_; intro gb302 hg w10 hbox hb; have BK302 := am (hbox); have GW302 := am ((b7_ : w.heap.size ≤ gb302)); have GE302 := am ((b7_ : w.heap.size ≤ gb302)); replace HB := am (below_step bel hb); clear hb hbox hg; have hcz11_0 := bc BK302.out 0; have hcz11_1 := bc BK302.out 1; have hcz11_2 := bc BK302.out 2; have hcz11_3 := bc BK302.out 3; have hcz11_4 := bc BK302.out 4; have hfz11_0 := bf BK302.out 0; have hfz11_1 := bf BK302.out 1; have hfz11_2 := bf BK302.out 2; have hfz11_3 := bf BK302.out 3; have hfz11_4 := bf BK302.out 4) | (go_at_call 170; (with_reducible refine (spec_l2Begins.calls a1 a0_4 true _ A4.out).mono ?_); rintro e w' ⟨rfl, ⟨nd, rfl⟩⟩; (try first | exact ⟨rfl, _, World.drewN_drewN _ _ _⟩ | exact ⟨rfl, _, Eq.trans (World.drewN_drewN _ _ _) (congrArg (World.drewN _) (Nat.add_assoc _ _ _))⟩)) | (go_at_call 57; (with_reducible refine (spec_l1Word.calls k (a0_3 ++ (a1.extract a0_2.size a1.size)) t304 _ A9.out).mono ?_); rintro e w' ⟨rfl, ⟨nd, rfl⟩⟩; (try first | exact ⟨rfl, _, World.drewN_drewN _ _ _⟩ | exact ⟨rfl, _, Eq.trans (World.drewN_drewN _ _ _) (congrArg (World.drewN _) (Nat.add_assoc _ _ _))⟩)))
   repeat (go_quiet (first | ((with_reducible refine gate_dst (N := 2) rfl ?_); refine bx 2 (cs := #[.string a0_0, .bool true, .string a0_2, .string a0_3, .string a0_4]) (t := 117) ?_; intro gb302 hg w10 hbox hb; have BK302 := am (hbox); have GW302 := am ((b7_ : w.heap.size ≤ gb302)); have GE302 := am ((b7_ : w.heap.size ≤ gb302)); replace HB := am (below_step bel hb); clear hb hbox hg; have hcz11_0 := bc BK302.out 0; have hcz11_1 := bc BK302.out 1; have hcz11_2 := bc BK302.out 2; have hcz11_3 := bc BK302.out 3; have hcz11_4 := bc BK302.out 4; have hfz11_0 := bf BK302.out 0; have hfz11_1 := bf BK302.out 1; have hfz11_2 := bf BK302.out 2; have hfz11_3 := bf BK302.out 3; have hfz11_4 := bf BK302.out 4) | (go_at_call 170; (with_reducible refine (spec_l2Begins.calls a1 a0_4 true _ A4.out).mono ?_); rintro e w' ⟨rfl, ⟨nd, rfl⟩⟩; (try first | exact ⟨rfl, _, World.drewN_drewN _ _ _⟩ | exact ⟨rfl, _, Eq.trans (World.drewN_drewN _ _ _) (congrArg (World.drewN _) (Nat.add_assoc _ _ _))⟩)) | (go_at_call 57; (with_reducible refine (spec_l1Word.calls k (a0_3 ++ (a1.extract a0_2.size a1.size)) t304 _ A9.out).mono ?_); rintro e w' ⟨rfl, ⟨nd, rfl⟩⟩; (try first | exact ⟨rfl, _, World.drewN_drewN _ _ _⟩ | exact ⟨rfl, _, Eq.trans (World.drewN_drewN _ _ _) (congrArg (World.drewN _) (Nat.add_assoc _ _ _))⟩))); try go_wp2_with (first | ((with_reducible refine gate_dst (N := 2) rfl ?_); refine bx 2 (cs := #[.string a0_0, .bool true, .string a0_2, .string a0_3, .string a0_4]) (t := 117) ?_; intro gb302 hg w10 hbox hb; have BK302 := am (hbox); have GW302 := am ((b7_ : w.heap.size ≤ gb302)); have GE302 := am ((b7_ : w.heap.size ≤ gb302)); replace HB := am (below_step bel hb); clear hb hbox hg; have hcz11_0 := bc BK302.out 0; have hcz11_1 := bc BK302.out 1; have hcz11_2 := bc BK302.out 2; have hcz11_3 := bc BK302.out 3; have hcz11_4 := bc BK302.out 4; have hfz11_0 := bf BK302.out 0; have hfz11_1 := bf BK302.out 1; have hfz11_2 := bf BK302.out 2; have hfz11_3 := bf BK302.out 3; have hfz11_4 := bf BK302.out 4) | (go_at_call 170; (with_reducible refine (spec_l2Begins.calls a1 a0_4 true _ A4.out).mono ?_); rintro e w' ⟨rfl, ⟨nd, rfl⟩⟩; (try first | exact ⟨rfl, _, World.drewN_drewN _ _ _⟩ | exact ⟨rfl, _, Eq.trans (World.drewN_drewN _ _ _) (congrArg (World.drewN _) (Nat.add_assoc _ _ _))⟩)) | (go_at_call 57; (with_reducible refine (spec_l1Word.calls k (a0_3 ++ (a1.extract a0_2.size a1.size)) t304 _ A9.out).mono ?_); rintro e w' ⟨rfl, ⟨nd, rfl⟩⟩; (try first | exact ⟨rfl, _, World.drewN_drewN _ _ _⟩ | exact ⟨rfl, _, Eq.trans (World.drewN_drewN _ _ _) (congrArg (World.drewN _) (Nat.add_assoc _ _ _))⟩))))
   go_ret2
   exact ⟨eq_, bel1 GE302.out⟩
  replace c5 := Bool.eq_false_iff.mpr c5; subst c5
  have H1 : (some ((⟨#[]⟩ : ByteArray), false)) = some (r1, r2) := b6_
  replace H := H1; clear H1
  simp only [Option.some.injEq, Prod.mk.injEq] at H
  obtain ⟨rfl, rfl⟩ := H; go_enter Try.func198, Try.ntmps198
  go_wp2_with (first | ((with_reducible refine gate_dst (N := 2) rfl ?_); refine bx 2 (cs := #[.string a0_0, .bool true, .string a0_2, .string a0_3, .string a0_4]) (t := 117) ?_; intro gb302 hg w12 hbox hb; have BK302 := am (hbox); have GW302 := am ((b7_ : w.heap.size ≤ gb302)); have GE302 := am ((b7_ : w.heap.size ≤ gb302)); replace HB := am (below_step bel hb); clear hb hbox hg; have hcz13_0 := bc BK302.out 0; have hcz13_1 := bc BK302.out 1; have hcz13_2 := bc BK302.out 2; have hcz13_3 := bc BK302.out 3; have hcz13_4 := bc BK302.out 4; have hfz13_0 := bf BK302.out 0; have hfz13_1 := bf BK302.out 1; have hfz13_2 := bf BK302.out 2; have hfz13_3 := bf BK302.out 3; have hfz13_4 := bf BK302.out 4) | (go_at_call 170; (with_reducible refine (spec_l2Begins.calls a1 a0_4 false _ A4.out).mono ?_); rintro e w' ⟨rfl, ⟨nd, rfl⟩⟩; (try first | exact ⟨rfl, _, World.drewN_drewN _ _ _⟩ | exact ⟨rfl, _, Eq.trans (World.drewN_drewN _ _ _) (congrArg (World.drewN _) (Nat.add_assoc _ _ _))⟩)))
  repeat (go_quiet (first | ((with_reducible refine gate_dst (N := 2) rfl ?_); refine bx 2 (cs := #[.string a0_0, .bool true, .string a0_2, .string a0_3, .string a0_4]) (t := 117) ?_; intro gb302 hg w12 hbox hb; have BK302 := am (hbox); have GW302 := am ((b7_ : w.heap.size ≤ gb302)); have GE302 := am ((b7_ : w.heap.size ≤ gb302)); replace HB := am (below_step bel hb); clear hb hbox hg; have hcz13_0 := bc BK302.out 0; have hcz13_1 := bc BK302.out 1; have hcz13_2 := bc BK302.out 2; have hcz13_3 := bc BK302.out 3; have hcz13_4 := bc BK302.out 4; have hfz13_0 := bf BK302.out 0; have hfz13_1 := bf BK302.out 1; have hfz13_2 := bf BK302.out 2; have hfz13_3 := bf BK302.out 3; have hfz13_4 := bf BK302.out 4) | (go_at_call 170; (with_reducible refine (spec_l2Begins.calls a1 a0_4 false _ A4.out).mono ?_); rintro e w' ⟨rfl, ⟨nd, rfl⟩⟩; (try first | exact ⟨rfl, _, World.drewN_drewN _ _ _⟩ | exact ⟨rfl, _, Eq.trans (World.drewN_drewN _ _ _) (congrArg (World.drewN _) (Nat.add_assoc _ _ _))⟩))); try go_wp2_with (first | ((with_reducible refine gate_dst (N := 2) rfl ?_); refine bx 2 (cs := #[.string a0_0, .bool true, .string a0_2, .string a0_3, .string a0_4]) (t := 117) ?_; intro gb302 hg w12 hbox hb; have BK302 := am (hbox); have GW302 := am ((b7_ : w.heap.size ≤ gb302)); have GE302 := am ((b7_ : w.heap.size ≤ gb302)); replace HB := am (below_step bel hb); clear hb hbox hg; have hcz13_0 := bc BK302.out 0; have hcz13_1 := bc BK302.out 1; have hcz13_2 := bc BK302.out 2; have hcz13_3 := bc BK302.out 3; have hcz13_4 := bc BK302.out 4; have hfz13_0 := bf BK302.out 0; have hfz13_1 := bf BK302.out 1; have hfz13_2 := bf BK302.out 2; have hfz13_3 := bf BK302.out 3; have hfz13_4 := bf BK302.out 4) | (go_at_call 170; (with_reducible refine (spec_l2Begins.calls a1 a0_4 false _ A4.out).mono ?_); rintro e w' ⟨rfl, ⟨nd, rfl⟩⟩; (try first | exact ⟨rfl, _, World.drewN_drewN _ _ _⟩ | exact ⟨rfl, _, Eq.trans (World.drewN_drewN _ _ _) (congrArg (World.drewN _) (Nat.add_assoc _ _ _))⟩))))
  go_ret2
  exact ⟨eq_, bel1 GE302.out⟩
 replace c3 := Bool.eq_false_iff.mpr c3; subst c3
 have H1 : ((spec_l2Ends.f a1 a0_4).bind fun t305 => (if t305 = true then (if 0 ≤ (wrap64 ((a1.size : Int) - (a0_2.size : Int))) then (if (wrap64 ((a1.size : Int) - (a0_2.size : Int))) ≤ (a1.size : Int) then (if (a1.extract 0 ((wrap64 ((a1.size : Int) - (a0_2.size : Int))) : Int).toNat).size + a0_3.size ≤ 9223372036854775807 then ((spec_l1Word.f k ((a1.extract 0 ((wrap64 ((a1.size : Int) - (a0_2.size : Int))) : Int).toNat) ++ a0_3)).bind fun t306 => (some ((a1.extract 0 ((wrap64 ((a1.size : Int) - (a0_2.size : Int))) : Int).toNat) ++ a0_3, t306))) else (none)) else (none)) else (none)) else (some ((⟨#[]⟩ : ByteArray), false)))) = some (r1, r2) := b6_
 replace H := H1; clear H1
 replace H := bs H; obtain ⟨t305, A140, H⟩ := H; replace H : (if t305 = true then (if 0 ≤ (wrap64 ((a1.size : Int) - (a0_2.size : Int))) then (if (wrap64 ((a1.size : Int) - (a0_2.size : Int))) ≤ (a1.size : Int) then (if (a1.extract 0 ((wrap64 ((a1.size : Int) - (a0_2.size : Int))) : Int).toNat).size + a0_3.size ≤ 9223372036854775807 then ((spec_l1Word.f k ((a1.extract 0 ((wrap64 ((a1.size : Int) - (a0_2.size : Int))) : Int).toNat) ++ a0_3)).bind fun t306 => (some ((a1.extract 0 ((wrap64 ((a1.size : Int) - (a0_2.size : Int))) : Int).toNat) ++ a0_3, t306))) else (none)) else (none)) else (none)) else (some ((⟨#[]⟩ : ByteArray), false))) = some (r1, r2) := H; have A14 := Aside0.mk A140; clear A140
 by_cases c15 : t305 = true
 ·subst c15
  have H1 : (if 0 ≤ (wrap64 ((a1.size : Int) - (a0_2.size : Int))) then (if (wrap64 ((a1.size : Int) - (a0_2.size : Int))) ≤ (a1.size : Int) then (if (a1.extract 0 ((wrap64 ((a1.size : Int) - (a0_2.size : Int))) : Int).toNat).size + a0_3.size ≤ 9223372036854775807 then ((spec_l1Word.f k ((a1.extract 0 ((wrap64 ((a1.size : Int) - (a0_2.size : Int))) : Int).toNat) ++ a0_3)).bind fun t306 => (some ((a1.extract 0 ((wrap64 ((a1.size : Int) - (a0_2.size : Int))) : Int).toNat) ++ a0_3, t306))) else (none)) else (none)) else (none)) = some (r1, r2) := b21_
  replace H := H1; clear H1
  obtain ⟨ji16, hji16⟩ : ∃ j_ : Int, (wrap64 ((a1.size : Int) - (a0_2.size : Int))) = j_ := ⟨_, rfl⟩
  replace H : (if 0 ≤ (ji16) then (if (ji16) ≤ (a1.size : Int) then (if (a1.extract 0 ((ji16) : Int).toNat).size + a0_3.size ≤ 9223372036854775807 then ((spec_l1Word.f k ((a1.extract 0 ((ji16) : Int).toNat) ++ a0_3)).bind fun t306 => (some ((a1.extract 0 ((ji16) : Int).toNat) ++ a0_3, t306))) else (none)) else (none)) else (none)) = some (r1, r2) := by first | (rw [hji16] at H; exact H) | (simp only [hji16] at H ⊢; exact H)
  (try rw [hji16] at A14)
  have hji16w : (IntKind.i64.wrap ((a1.size : Int) - (a0_2.size : Int))) = ji16 := (i64_w _).trans hji16
  replace H := ip H; obtain ⟨c17, H⟩ := H; have c17b0 := eq_true c17
  have c17b1 : decide (0 ≤ (ji16)) = true := decide_eq_true c17
  clear c17
  replace H := ip H; obtain ⟨c18, H⟩ := H; have c18b0 := eq_true c18
  have c18b1 : decide ((ji16) ≤ (a1.size : Int)) = true := decide_eq_true c18
  clear c18
  replace H := ip H; obtain ⟨c19, H⟩ := H; have c19b0 := eq_true c19; have c19b5 := c19
  try simp at c19b5
  try have c19b4 := eq_false (Nat.not_lt.2 c19b5)
  try have c19b3 : (9223372036854775807 < ((ji16) : Int).toNat + a0_3.size) = False := by
        have h_ := c19
        simp only [ByteArray.size_append, ByteArray.size_extract] at h_
        have g0_ : ((ji16)) ≤ (a1.size : Int) := of_decide_eq_true ad
        exact eq_false (by omega)
  have c19b1 : decide ((a1.extract 0 ((ji16) : Int).toNat).size + a0_3.size ≤ 9223372036854775807) = true := decide_eq_true c19
  try have c19b2 : (9223372036854775807 < (a1.extract 0 ((ji16) : Int).toNat).size + a0_3.size) = False := eq_false (Nat.not_lt.2 c19)
  replace H := bs H; obtain ⟨t306, A200, H⟩ := H; replace H : (some ((a1.extract 0 ((ji16) : Int).toNat) ++ a0_3, t306)) = some (r1, r2) := H; have A20 := Aside0.mk A200; clear A200
  simp only [Option.some.injEq, Prod.mk.injEq] at H
  obtain ⟨rfl, rfl⟩ := H; go_enter Try.func198, Try.ntmps198
  go_wp2_with (first | ((with_reducible refine gate_dst (N := 2) rfl ?_); refine bx 2 (cs := #[.string a0_0, .bool false, .string a0_2, .string a0_3, .string a0_4]) (t := 117) ?_; intro gb302 hg w21 hbox hb; have BK302 := am (hbox); have GW302 := am ((b7_ : w.heap.size ≤ gb302)); have GE302 := am ((b7_ : w.heap.size ≤ gb302)); replace HB := am (below_step bel hb); clear hb hbox hg; have hcz22_0 := bc BK302.out 0; have hcz22_1 := bc BK302.out 1; have hcz22_2 := bc BK302.out 2; have hcz22_3 := bc BK302.out 3; have hcz22_4 := bc BK302.out 4; have hfz22_0 := bf BK302.out 0; have hfz22_1 := bf BK302.out 1; have hfz22_2 := bf BK302.out 2; have hfz22_3 := bf BK302.out 3; have hfz22_4 := bf BK302.out 4) | (go_at_call 171; (with_reducible refine (spec_l2Ends.calls a1 a0_4 true _ A14.out).mono ?_); rintro e w' ⟨rfl, ⟨nd, rfl⟩⟩; (try first | exact ⟨rfl, _, World.drewN_drewN _ _ _⟩ | exact ⟨rfl, _, Eq.trans (World.drewN_drewN _ _ _) (congrArg (World.drewN _) (Nat.add_assoc _ _ _))⟩)) | (go_at_call 57; (with_reducible refine (spec_l1Word.calls k ((a1.extract 0 ((ji16) : Int).toNat) ++ a0_3) t306 _ A20.out).mono ?_); rintro e w' ⟨rfl, ⟨nd, rfl⟩⟩; (try first | exact ⟨rfl, _, World.drewN_drewN _ _ _⟩ | exact ⟨rfl, _, Eq.trans (World.drewN_drewN _ _ _) (congrArg (World.drewN _) (Nat.add_assoc _ _ _))⟩)))
  repeat (go_quiet (first | ((with_reducible refine gate_dst (N := 2) rfl ?_); refine bx 2 (cs := #[.string a0_0, .bool false, .string a0_2, .string a0_3, .string a0_4]) (t := 117) ?_; intro gb302 hg w21 hbox hb; have BK302 := am (hbox); have GW302 := am ((b7_ : w.heap.size ≤ gb302)); have GE302 := am ((b7_ : w.heap.size ≤ gb302)); replace HB := am (below_step bel hb); clear hb hbox hg; have hcz22_0 := bc BK302.out 0; have hcz22_1 := bc BK302.out 1; have hcz22_2 := bc BK302.out 2; have hcz22_3 := bc BK302.out 3; have hcz22_4 := bc BK302.out 4; have hfz22_0 := bf BK302.out 0; have hfz22_1 := bf BK302.out 1; have hfz22_2 := bf BK302.out 2; have hfz22_3 := bf BK302.out 3; have hfz22_4 := bf BK302.out 4) | (go_at_call 171; (with_reducible refine (spec_l2Ends.calls a1 a0_4 true _ A14.out).mono ?_); rintro e w' ⟨rfl, ⟨nd, rfl⟩⟩; (try first | exact ⟨rfl, _, World.drewN_drewN _ _ _⟩ | exact ⟨rfl, _, Eq.trans (World.drewN_drewN _ _ _) (congrArg (World.drewN _) (Nat.add_assoc _ _ _))⟩)) | (go_at_call 57; (with_reducible refine (spec_l1Word.calls k ((a1.extract 0 ((ji16) : Int).toNat) ++ a0_3) t306 _ A20.out).mono ?_); rintro e w' ⟨rfl, ⟨nd, rfl⟩⟩; (try first | exact ⟨rfl, _, World.drewN_drewN _ _ _⟩ | exact ⟨rfl, _, Eq.trans (World.drewN_drewN _ _ _) (congrArg (World.drewN _) (Nat.add_assoc _ _ _))⟩))); try go_wp2_with (first | ((with_reducible refine gate_dst (N := 2) rfl ?_); refine bx 2 (cs := #[.string a0_0, .bool false, .string a0_2, .string a0_3, .string a0_4]) (t := 117) ?_; intro gb302 hg w21 hbox hb; have BK302 := am (hbox); have GW302 := am ((b7_ : w.heap.size ≤ gb302)); have GE302 := am ((b7_ : w.heap.size ≤ gb302)); replace HB := am (below_step bel hb); clear hb hbox hg; have hcz22_0 := bc BK302.out 0; have hcz22_1 := bc BK302.out 1; have hcz22_2 := bc BK302.out 2; have hcz22_3 := bc BK302.out 3; have hcz22_4 := bc BK302.out 4; have hfz22_0 := bf BK302.out 0; have hfz22_1 := bf BK302.out 1; have hfz22_2 := bf BK302.out 2; have hfz22_3 := bf BK302.out 3; have hfz22_4 := bf BK302.out 4) | (go_at_call 171; (with_reducible refine (spec_l2Ends.calls a1 a0_4 true _ A14.out).mono ?_); rintro e w' ⟨rfl, ⟨nd, rfl⟩⟩; (try first | exact ⟨rfl, _, World.drewN_drewN _ _ _⟩ | exact ⟨rfl, _, Eq.trans (World.drewN_drewN _ _ _) (congrArg (World.drewN _) (Nat.add_assoc _ _ _))⟩)) | (go_at_call 57; (with_reducible refine (spec_l1Word.calls k ((a1.extract 0 ((ji16) : Int).toNat) ++ a0_3) t306 _ A20.out).mono ?_); rintro e w' ⟨rfl, ⟨nd, rfl⟩⟩; (try first | exact ⟨rfl, _, World.drewN_drewN _ _ _⟩ | exact ⟨rfl, _, Eq.trans (World.drewN_drewN _ _ _) (congrArg (World.drewN _) (Nat.add_assoc _ _ _))⟩))))
  go_ret2
  exact ⟨by first | rfl | (simp [errW_none, errW_some] <;> rfl) | (simp only [← hji16]; first | rfl | (simp [errW_none, errW_some] <;> rfl)) | (simp [*, errW_none, errW_some] <;> rfl), bel1 GE302.out⟩
 replace c15 := Bool.eq_false_iff.mpr c15; subst c15
 have H1 : (some ((⟨#[]⟩ : ByteArray), false)) = some (r1, r2) := b6_
 replace H := H1; clear H1
 simp only [Option.some.injEq, Prod.mk.injEq] at H
 obtain ⟨rfl, rfl⟩ := H; go_enter Try.func198, Try.ntmps198
 go_wp2_with (first | ((with_reducible refine gate_dst (N := 2) rfl ?_); refine bx 2 (cs := #[.string a0_0, .bool false, .string a0_2, .string a0_3, .string a0_4]) (t := 117) ?_; intro gb302 hg w23 hbox hb; have BK302 := am (hbox); have GW302 := am ((b7_ : w.heap.size ≤ gb302)); have GE302 := am ((b7_ : w.heap.size ≤ gb302)); replace HB := am (below_step bel hb); clear hb hbox hg; have hcz24_0 := bc BK302.out 0; have hcz24_1 := bc BK302.out 1; have hcz24_2 := bc BK302.out 2; have hcz24_3 := bc BK302.out 3; have hcz24_4 := bc BK302.out 4; have hfz24_0 := bf BK302.out 0; have hfz24_1 := bf BK302.out 1; have hfz24_2 := bf BK302.out 2; have hfz24_3 := bf BK302.out 3; have hfz24_4 := bf BK302.out 4) | (go_at_call 171; (with_reducible refine (spec_l2Ends.calls a1 a0_4 false _ A14.out).mono ?_); rintro e w' ⟨rfl, ⟨nd, rfl⟩⟩; (try first | exact ⟨rfl, _, World.drewN_drewN _ _ _⟩ | exact ⟨rfl, _, Eq.trans (World.drewN_drewN _ _ _) (congrArg (World.drewN _) (Nat.add_assoc _ _ _))⟩)))
 repeat (go_quiet (first | ((with_reducible refine gate_dst (N := 2) rfl ?_); refine bx 2 (cs := #[.string a0_0, .bool false, .string a0_2, .string a0_3, .string a0_4]) (t := 117) ?_; intro gb302 hg w23 hbox hb; have BK302 := am (hbox); have GW302 := am ((b7_ : w.heap.size ≤ gb302)); have GE302 := am ((b7_ : w.heap.size ≤ gb302)); replace HB := am (below_step bel hb); clear hb hbox hg; have hcz24_0 := bc BK302.out 0; have hcz24_1 := bc BK302.out 1; have hcz24_2 := bc BK302.out 2; have hcz24_3 := bc BK302.out 3; have hcz24_4 := bc BK302.out 4; have hfz24_0 := bf BK302.out 0; have hfz24_1 := bf BK302.out 1; have hfz24_2 := bf BK302.out 2; have hfz24_3 := bf BK302.out 3; have hfz24_4 := bf BK302.out 4) | (go_at_call 171; (with_reducible refine (spec_l2Ends.calls a1 a0_4 false _ A14.out).mono ?_); rintro e w' ⟨rfl, ⟨nd, rfl⟩⟩; (try first | exact ⟨rfl, _, World.drewN_drewN _ _ _⟩ | exact ⟨rfl, _, Eq.trans (World.drewN_drewN _ _ _) (congrArg (World.drewN _) (Nat.add_assoc _ _ _))⟩))); try go_wp2_with (first | ((with_reducible refine gate_dst (N := 2) rfl ?_); refine bx 2 (cs := #[.string a0_0, .bool false, .string a0_2, .string a0_3, .string a0_4]) (t := 117) ?_; intro gb302 hg w23 hbox hb; have BK302 := am (hbox); have GW302 := am ((b7_ : w.heap.size ≤ gb302)); have GE302 := am ((b7_ : w.heap.size ≤ gb302)); replace HB := am (below_step bel hb); clear hb hbox hg; have hcz24_0 := bc BK302.out 0; have hcz24_1 := bc BK302.out 1; have hcz24_2 := bc BK302.out 2; have hcz24_3 := bc BK302.out 3; have hcz24_4 := bc BK302.out 4; have hfz24_0 := bf BK302.out 0; have hfz24_1 := bf BK302.out 1; have hfz24_2 := bf BK302.out 2; have hfz24_3 := bf BK302.out 3; have hfz24_4 := bf BK302.out 4) | (go_at_call 171; (with_reducible refine (spec_l2Ends.calls a1 a0_4 false _ A14.out).mono ?_); rintro e w' ⟨rfl, ⟨nd, rfl⟩⟩; (try first | exact ⟨rfl, _, World.drewN_drewN _ _ _⟩ | exact ⟨rfl, _, Eq.trans (World.drewN_drewN _ _ _) (congrArg (World.drewN _) (Nat.add_assoc _ _ _))⟩))))
 go_ret2
 exact ⟨eq_, bel1 GE302.out⟩
-- shrunk

/-! ### spec_l2One: function 181 -/
mutual
def spec_l2One.l0 : Nat → List (S117) → ByteArray → Bool → List ByteArray → List ByteArray → Int → Option (List ByteArray)
 | 0, _, _, _, _, _, _ => none
 | k + 1, x0, x1, x2, x3, x9, x10 => if x10 < (x0.length : Int) then (if 0 ≤ x10 then (if (((rd_T117 x0 x10).f1) != x2) = true then (spec_l2One.j1 k x0 x1 x2 x3 x9 x10 true) else ((spec_l2Has.f k x1 ((rd_T117 x0 x10).f0)).bind fun t315 => (spec_l2One.j1 k x0 x1 x2 x3 x9 x10 (!t315)))) else (none)) else (some x9)
def spec_l2One.j1 : Nat → List (S117) → ByteArray → Bool → List ByteArray → List ByteArray → Int → Bool → Option (List ByteArray)
 | 0, _, _, _, _, _, _, _ => none
 | k + 1, x0, x1, x2, x3, x9, x10, x39 => if x39 = true then (spec_l2One.l0 k x0 x1 x2 x3 x9 (wrap64 (x10 + 1))) else (spec_l2One.l1 k x0 x1 x2 x3 x9 x10 0)
def spec_l2One.l1 : Nat → List (S117) → ByteArray → Bool → List ByteArray → List ByteArray → Int → Int → Option (List ByteArray)
 | 0, _, _, _, _, _, _, _ => none
 | k + 1, x0, x1, x2, x3, x9, x10, x11 => if x11 < (x3.length : Int) then (if 0 ≤ x10 then (if x10 < (x0.length : Int) then (if 0 ≤ x11 then ((spec_l2Do.f k ((rd_T117 x0 x10).f0) ((rd_T117 x0 x10).f1) ((rd_T117 x0 x10).f2) ((rd_T117 x0 x10).f3) ((rd_T117 x0 x10).f4) (rdOf ByteArray.empty x3 x11)).bind fun bt318 => (if bt318.2 = true then ((spec_l1Put.f k x9 bt318.1).bind fun t320 => (spec_l2One.l1 k x0 x1 x2 x3 t320 x10 (wrap64 (x11 + 1)))) else (spec_l2One.l1 k x0 x1 x2 x3 x9 x10 (wrap64 (x11 + 1))))) else (none)) else (none)) else (none)) else (spec_l2One.l0 k x0 x1 x2 x3 x9 (wrap64 (x10 + 1)))
end
def spec_l2One.f (k : Nat) (l0 : List (S117)) (a1 : ByteArray) (a2 : Bool) (l3 : List ByteArray) : Option (List ByteArray) := (some (([] : List ByteArray) : List ByteArray)).bind fun y307 => (if y307.length + l3.length < 8796093022208 then (spec_l2One.l0 k l0 a1 a2 l3 (y307 ++ l3) 0) else (none))
def spec_l2One.T9 : Bool × List (List Nat × List Nat) := (true, [([], []), ([], []), ([0, 1], [0, 1]), ([2], [2]), ([], []), ([], []), ([4, 5], [4, 5]), ([6], [6]), ([3, 7], [3, 7]), ([8], [8]), ([9], [9]), ([9], [9]), ([10, 8, 0, 1, 2, 3, 4, 5, 6, 7, 8, 9, 10], [10]), ([11, 12, 0, 1, 2, 3, 4, 5, 6, 7, 8, 9, 10, 11, 12], [11])])
def spec_l2One.B9 : List Nat := [0, 0, 3, 7, 0, 0, 48, 112, 255, 511, 1023, 1023, 2047, 8191]
theorem spec_l2One.tab9 : rtab .any (opsOf Try.f181 9) = spec_l2One.T9 := by kernel_rfl
theorem spec_l2One.bits9 : waitsOk spec_l2One.T9.2 spec_l2One.B9 = true := by kernel_rfl
theorem spec_l2One.calls (k : Nat) (A0 : Option Addr) (c0 : Nat) (l0 : List (S117)) (a1 : ByteArray) (a2 : Bool) (A3 : Option Addr) (c3 : Nat) (l3 : List ByteArray) (r : List ByteArray) (w : World) (hr0 : Kd.C k117 w A0 l0.length l0) (hc0 : l0.length ≤ c0) (hr3 : Kd.C Kd.string w A3 l3.length l3) (hc3 : l3.length ≤ c3) (h : spec_l2One.f k l0 a1 a2 l3 = some r) :
  Calls Try.prog 181 #[.slice A0 l0.length c0, .string a1, .bool a2, .slice A3 l3.length c3] w fun e w' => ∃ v0_ : Value, e = .returned (v0_) ∧ Kd.V Kd.string 9 w' w.heap.size (fun k_ => (w.heap.size ≤ k_)) v0_ r ∧ Below w.heap.size w w' := by
 have hu117 := Try.underlying117; have HR0 := am hr0; have HC0 := am hc0; clear hr0 hc0; have HR3 := am hr3; have HC3 := am hc3; clear hr3 hc3; have HB := am (Below.refl w.heap.size w)
 have H : ((some (([] : List ByteArray) : List ByteArray)).bind fun y307 => (if y307.length + l3.length < 8796093022208 then (spec_l2One.l0 k l0 a1 a2 l3 (y307 ++ l3) 0) else (none))) = some r := h
 clear h; obtain ⟨y307, hy307⟩ : ∃ y_ : List ByteArray, y_ = (([] : List ByteArray)) := ⟨_, rfl⟩
 replace H : (if y307.length + l3.length < 8796093022208 then (spec_l2One.l0 k l0 a1 a2 l3 (y307 ++ l3) 0) else (none)) = some r := by first | (rw [hy307]; with_reducible exact H) | (have H2_ := bm H; rw [hy307]; with_reducible exact H2_) | (with_reducible exact bm H) | with_reducible exact H | (rw [hy307]; exact H) | exact H
 have Ny307 := am hy307; clear hy307
 replace H := ip H; obtain ⟨c5, H⟩ := H; have LMc5 := Aside0.mk c5; clear c5; obtain ⟨y310, hy310⟩ : ∃ y_ : List ByteArray, y_ = (y307 ++ l3) := ⟨_, rfl⟩
 replace H : (spec_l2One.l0 k l0 a1 a2 l3 y310 0) = some r := by first | (rw [hy310]; with_reducible exact H) | (have H2_ := bm H; rw [hy310]; with_reducible exact H2_) | (with_reducible exact bm H) | with_reducible exact H | (rw [hy310]; exact H) | exact H
 have Ny310 := am hy310; clear hy310
 have H' := am H
 clear H; go_enter Try.func181, Try.ntmps181
 go_wp2_with (first | ((with_reducible refine gate_dst (N := 14) rfl ?_); refine Kd.R_lit Kd.string _ 9 ?hg (N := 14) ?hd (xs := ([] : List ByteArray)) (inner := []) (ok := fun _ => True) (okp := fun _ => True) ?hr ?hp (fun _ hk => hk) trivial (Below.refl _ _) (Nat.le_refl _) (by simp) ?_; (case hd => rfl); (case hg => rfl); (case hr => first | (go_simp; done) | (go_simp; rfl)); (case hp => exact (Reps.none _ _)); intro v308 w6 ho7 hb hg_ hnew_; clear hg_ hnew_; (first | rw [← Ny307.out] at ho7 | (simp only [Int.reduceToNat] at ho7; rw [← Ny307.out] at ho7) | (simp only [Int.toNat_natCast] at ho7; rw [← Ny307.out] at ho7)); have HO309 := am (Kd.R_lower (Kd.R_newM (M := fun k_ => (w.heap.size ≤ k_)) ho7 (below_size bel) (fun k_ h_ => h_)) (below_size bel)); replace HB := am (below_step bel hb); clear hb ho7) | ((with_reducible refine gate_builtin (b := .append) (xs := #[.tmp 14, .tmp 15]) rfl ?_); at_builtin; refine Kd.R_append_rows Kd.string (w0 := w) w.heap.size rfl (.tmp 14) (.tmp 15) 22 9 (.string ⟨#[]⟩) 16 rfl Try.underlying22 info9 rfl (by decide) (by omega) v308 y307 l3 _ _ _ (fun k_ => (w.heap.size ≤ k_)) (fun _ => False) rfl rfl ?aO ?aR (fun _ _ h => h) (fun _ h => h.elim) ?aF ?aB ?aS ?aL ?_; (case aR => exact cq (Kd.C_below HR3.out HB.out)); (case aB => exact bel); (case aF => exact (fun k_ hk => (Nat.le_trans (below_size bel) hk))); (case aO => exact (rq (Kd.R_mono HO309.out (fun _ hk => hk.1)))); (case aS => exact (below_size bel)); (case aL => have := LMc5.out; omega); intro v311 w8 ho hb hg hat; rw [← Ny310.out] at ho; replace HB := am (hb); have HO312 := am (ho); clear HO309; clear ho hb hg hat))
 go_loopg [9, 10] k (fun kq v9 v10 w' => ∃ (x9_1 : List ByteArray) (x10_1 : Int), v10 = .int .i64 x10_1 ∧ Aside0 (spec_l2One.l0 kq l0 a1 a2 l3 x9_1 x10_1 = some r) ∧ Aside0 (kq ≤ k) ∧ Aside0 (Kd.V Kd.string 9 w' w.heap.size (fun k_ => (w.heap.size ≤ k_)) v9 x9_1) ∧ Aside0 (Below w.heap.size w w'))
 case atStart => exact ⟨(y310), (0), sq, H', ⟨Nat.le_refl _⟩, ⟨Kd.R_V (rq HO312.out)⟩, ⟨bel⟩⟩
 case round =>
  clear H'; (try clear c1); (try clear p2); (try clear c3); (try clear c5); obtain ⟨x9_1, x10_1, rfl, HA, HK1, HO_9, HB⟩ := hrel
  cases gk with
  | zero => exact absurd HA.out (by simp [spec_l2One.l0])
  | succ k1 =>
   have H := HA.out; clear HA
   simp only [spec_l2One.l0] at H
   by_cases c9 : x10_1 < (l0.length : Int)
   ·rw [if_pos c9] at H; have c9b0 := decide_eq_true c9; clear c9; have HC10 := am H; clear H
    go_upto_region 5 with (fail)
    go_cut [39] (fun v39 wc => ∃ (kq : Nat) (x39_9 : Bool), v39 = .bool x39_9 ∧ Aside0 (spec_l2One.j1 kq l0 a1 a2 l3 x9_1 x10_1 x39_9 = some r) ∧ Aside0 (kq ≤ k1) ∧ Aside0 (Kd.V Kd.string 9 wc w.heap.size (fun k_ => (w.heap.size ≤ k_)) u9 x9_1) ∧ Aside0 (Below w.heap.size w wc))
    case first =>
     have H := HC10.out; clear HC10
     replace H := it H; obtain ⟨c11b0, H⟩ := H
     (first | rw [c11b0] | (simp only [i64_w, i32_w]; rw [c11b0]) | skip)
     by_cases c12 : (((rd_T117 l0 x10_1).f1) != a2) = true
     ·rw [if_pos c12] at H
      have c12b0 : (((rd_T117 l0 x10_1).f1) != a2) = true := c12
      (try (have c12b1 : decide (((rd_T117 l0 x10_1).f1) = a2) = false := by simpa using c12))
      (try (have c12b2 : (((rd_T117 l0 x10_1).f1) == a2) = false := by simpa using c12))
      (try (have c12b3 : ¬ (((rd_T117 l0 x10_1).f1) = a2) := by simpa using c12))
      clear c12
      have H' := am H
      clear H
      have p313 : 0 ≤ (x10_1 : Int) := of_decide_eq_true ad
      have q313 : x10_1 < (l0.length : Int) := of_decide_eq_true ad
      obtain ⟨ad313, e313, hx313_0, hx313_1, hx313_2, hx313_3, hx313_4⟩ := at_T117 HR0.out x10_1 p313 q313
      cases e313
      replace hx313_0 := kp HB.out hx313_0; replace hx313_1 := kp HB.out hx313_1; replace hx313_2 := kp HB.out hx313_2; replace hx313_3 := kp HB.out hx313_3; replace hx313_4 := kp HB.out hx313_4; replace p313 := eq_true p313; replace q313 := eq_true q313; go_wp2
      go_meet
      case rel => exact ⟨_, (true), sq, H', ⟨b27_⟩, ⟨vq HO_9.out⟩, ⟨bel⟩⟩
     rw [if_neg c12] at H
     have c12b0 : (((rd_T117 l0 x10_1).f1) != a2) = false := by simpa using c12
     (try (have c12b1 : decide (((rd_T117 l0 x10_1).f1) = a2) = true := by simpa using c12))
     (try (have c12b2 : (((rd_T117 l0 x10_1).f1) == a2) = true := by simpa using c12))
     clear c12; replace H := bs H; obtain ⟨t315, A130, H⟩ := H; replace H : (spec_l2One.j1 k1 l0 a1 a2 l3 x9_1 x10_1 (!t315)) = some r := H; have A13 := Aside0.mk A130; clear A130
     have H' := am H
     clear H
     have p313 : 0 ≤ (x10_1 : Int) := of_decide_eq_true ad
     have q313 : x10_1 < (l0.length : Int) := of_decide_eq_true ad
     obtain ⟨ad313, e313, hx313_0, hx313_1, hx313_2, hx313_3, hx313_4⟩ := at_T117 HR0.out x10_1 p313 q313
     cases e313
     replace hx313_0 := kp HB.out hx313_0; replace hx313_1 := kp HB.out hx313_1; replace hx313_2 := kp HB.out hx313_2; replace hx313_3 := kp HB.out hx313_3; replace hx313_4 := kp HB.out hx313_4; replace p313 := eq_true p313; replace q313 := eq_true q313
     have p314 : 0 ≤ (x10_1 : Int) := of_decide_eq_true ad
     have q314 : x10_1 < (l0.length : Int) := of_decide_eq_true ad
     obtain ⟨ad314, e314, hx314_0, hx314_1, hx314_2, hx314_3, hx314_4⟩ := at_T117 HR0.out x10_1 p314 q314
     obtain rfl : ad313 = ad314 := (by injection e314)
     replace hx314_0 := kp HB.out hx314_0; replace hx314_1 := kp HB.out hx314_1; replace hx314_2 := kp HB.out hx314_2; replace hx314_3 := kp HB.out hx314_3; replace hx314_4 := kp HB.out hx314_4; replace p314 := eq_true p314; replace q314 := eq_true q314
     go_wp2_with (first | (go_at_call 197; (with_reducible refine (spec_l2Has.calls k1 a1 ((rd_T117 l0 x10_1).f0) t315 _ A13.out).mono ?_); rintro e w' ⟨rfl, ⟨nd, rfl⟩⟩))
     go_meet
     case rel => exact ⟨_, (!t315), sq, H', ⟨b27_⟩, ⟨vq HO_9.out⟩, ⟨bel⟩⟩
    case rest =>
     clear HC10; (try clear c1); (try clear p2); (try clear c3); (try clear p3); (try clear q3); (try clear hx3); (try clear c5); (try clear c9); (try clear c9b0); (try clear c11); (try clear c11b0); (try clear c12); (try clear c12b0); (try clear c12b1); (try clear c12b2); (try clear hx313_0); (try clear hx313_1); (try clear hx313_2); (try clear hx313_3); (try clear hx313_4); (try clear hx314_0); (try clear hx314_1); (try clear hx314_2); (try clear hx314_3); (try clear hx314_4); (try clear p2); (try clear p313); (try clear p314); (try clear q313); (try clear q314); obtain ⟨kq, x39_9, rfl, HA, HJ9, HO_9, HB⟩ := hcut
     cases kq with
     | zero => exact absurd HA.out (by simp [spec_l2One.j1])
     | succ kj9 =>
      have H := HA.out; clear HA
      simp only [spec_l2One.j1] at H
      by_cases c14 : x39_9 = true
      ·subst c14
       have H1 : (spec_l2One.l0 kj9 l0 a1 a2 l3 x9_1 (wrap64 (x10_1 + 1))) = some r := b21_
       replace H := H1; clear H1
       have H' := am H
       clear H; go_wp2
       go_roundg kj9
       case measure => have := HK1.out; have := HJ9.out; omega
       case rel => exact ⟨(x9_1), (wrap64 (x10_1 + 1)), sq, H', ⟨by have := HK1.out; have := HJ9.out; omega⟩, ⟨vq HO_9.out⟩, ⟨bel⟩⟩
      replace c14 := Bool.eq_false_iff.mpr c14; subst c14
      have H1 : (spec_l2One.l1 kj9 l0 a1 a2 l3 x9_1 x10_1 0) = some r := b6_
      replace H := H1; clear H1
      have H' := am H
      clear H; go_wp2
      go_loopg [9, 11] kj9 (fun kq v9 v11 w' => ∃ (x9_3 : List ByteArray) (x11_3 : Int), v11 = .int .i64 x11_3 ∧ Aside0 (spec_l2One.l1 kq l0 a1 a2 l3 x9_3 x10_1 x11_3 = some r) ∧ Aside0 (kq ≤ kj9) ∧ Aside0 (Kd.V Kd.string 9 w' w.heap.size (fun k_ => (w.heap.size ≤ k_)) v9 x9_3) ∧ Aside0 (Below w.heap.size w w'))
      case atStart => exact ⟨(x9_1), (0), sq, H', ⟨Nat.le_refl _⟩, ⟨vq HO_9.out⟩, ⟨bel⟩⟩
      case round =>
       clear H'; (try clear c1); (try clear p2); (try clear c3); (try clear p3); (try clear q3); (try clear hx3); (try clear c5); (try clear p6); (try clear c9); (try clear c9b0); (try clear c11); (try clear c11b0); (try clear c12); (try clear c12b0); (try clear c12b1); (try clear c12b2); (try clear c14); (try clear hx313_0); (try clear hx313_1); (try clear hx313_2); (try clear hx313_3); (try clear hx313_4); (try clear hx314_0); (try clear hx314_1); (try clear hx314_2); (try clear hx314_3); (try clear hx314_4); (try clear p2); (try clear p3); (try clear p313); (try clear p314); (try clear q3); (try clear q313); (try clear q314); obtain ⟨x9_3, x11_3, rfl, HA, HK3, HO_9, HB⟩ := hrel
       cases gk with
       | zero => exact absurd HA.out (by simp [spec_l2One.l1])
       | succ k3 =>
        have H := HA.out; clear HA
        simp only [spec_l2One.l1] at H
        by_cases c15 : x11_3 < (l3.length : Int)
        ·rw [if_pos c15] at H; have c15b0 := decide_eq_true c15; clear c15
         replace H := it H; obtain ⟨c16b0, H⟩ := H
         replace H := it H; obtain ⟨c17b0, H⟩ := H
         replace H := it H; obtain ⟨c18b0, H⟩ := H; replace H := bs H; obtain ⟨⟨t318, t319⟩, A190, H⟩ := H; replace H : (if t319 = true then ((spec_l1Put.f k3 x9_3 t318).bind fun t320 => (spec_l2One.l1 k3 l0 a1 a2 l3 t320 x10_1 (wrap64 (x11_3 + 1)))) else (spec_l2One.l1 k3 l0 a1 a2 l3 x9_3 x10_1 (wrap64 (x11_3 + 1)))) = some r := H; have A19 := Aside0.mk A190; clear A190
         by_cases c20 : t319 = true
         ·subst c20
          have H1 : ((spec_l1Put.f k3 x9_3 t318).bind fun t320 => (spec_l2One.l1 k3 l0 a1 a2 l3 t320 x10_1 (wrap64 (x11_3 + 1)))) = some r := b21_
          replace H := H1; clear H1
          replace H := bs H; obtain ⟨t320, A210, H⟩ := H; replace H : (spec_l2One.l1 k3 l0 a1 a2 l3 t320 x10_1 (wrap64 (x11_3 + 1))) = some r := H; have A21 := Aside0.mk A210; clear A210
          have H' := am H
          clear H
          try go_wp2
          replace HO_9 := am (Kd.V_drew HO_9.out); replace HB := am (below_drew1 HB.out)
          have p316 : 0 ≤ (x10_1 : Int) := of_decide_eq_true ad
          have q316 : x10_1 < (l0.length : Int) := of_decide_eq_true ad
          obtain ⟨ad316, e316, hx316_0, hx316_1, hx316_2, hx316_3, hx316_4⟩ := at_T117 HR0.out x10_1 p316 q316; have hw316_4 := hx316_4; have hw316_3 := hx316_3; have hw316_2 := hx316_2; have hw316_1 := hx316_1; have hw316_0 := hx316_0
          cases e316
          replace hx316_0 := kp HB.out hx316_0; replace hx316_1 := kp HB.out hx316_1; replace hx316_2 := kp HB.out hx316_2; replace hx316_3 := kp HB.out hx316_3; replace hx316_4 := kp HB.out hx316_4; replace p316 := eq_true p316; replace q316 := eq_true q316
          have p317 : 0 ≤ (x11_3 : Int) := of_decide_eq_true ad
          have q317 : x11_3 < (l3.length : Int) := of_decide_eq_true ad
          obtain ⟨ad317, e317, hx317_0⟩ := Kd.at_string HR3.out x11_3 p317 q317; have hw317_0 := hx317_0
          cases e317
          replace hx317_0 := kp HB.out hx317_0; replace p317 := eq_true p317; replace q317 := eq_true q317
          refine st (n := 14) (S := fun w' => w'.cell? (ad316.add ((x10_1).toNat * 5)) = some (.string ((rd_T117 l0 x10_1).f0)) ∧ w'.cell? ⟨(ad316.add ((x10_1).toNat * 5)).block, (ad316.add ((x10_1).toNat * 5)).off + 1, none⟩ = some (.bool ((rd_T117 l0 x10_1).f1)) ∧ w'.cell? ⟨(ad316.add ((x10_1).toNat * 5)).block, (ad316.add ((x10_1).toNat * 5)).off + 2, none⟩ = some (.string ((rd_T117 l0 x10_1).f2)) ∧ w'.cell? ⟨(ad316.add ((x10_1).toNat * 5)).block, (ad316.add ((x10_1).toNat * 5)).off + 3, none⟩ = some (.string ((rd_T117 l0 x10_1).f3)) ∧ w'.cell? ⟨(ad316.add ((x10_1).toNat * 5)).block, (ad316.add ((x10_1).toNat * 5)).off + 4, none⟩ = some (.string ((rd_T117 l0 x10_1).f4)) ∧ w'.cell? (ad317.add (x11_3).toNat) = some (.string (rdOf ByteArray.empty l3 x11_3))) (ds := []) ⟨(kp HB.out hw316_0), (kp HB.out hw316_1), (kp HB.out hw316_2), (kp HB.out hw316_3), (kp HB.out hw316_4), (kp HB.out hw317_0)⟩ (fun hHeld => ?_); refine with_tabW spec_l2One.tab9 spec_l2One.bits9 (fun HT_ HW_ => ?_)
          generalize wr.drew = w22 at HO_9 HB hx316_0 hx316_1 hx316_2 hx316_3 hx316_4 hx317_0 hHeld ⊢
          refine pu 0 47 ?_
          refine pu 1 48 ?_
          refine pu 2 49 ?_
          refine pu 4 51 ?_
          refine pu 5 52 ?_
          refine pu 6 53 ?_
          refine tk6 3 50 hHeld ?_
          refine tk6 7 54 hHeld ?_
          refine on1 8 55 (fun K hK => ?_)
          refine goes_ Try.func198 (by kernel_rfl) rfl #[.agg #[.string ((rd_T117 l0 x10_1).f0), .bool ((rd_T117 l0 x10_1).f1), .string ((rd_T117 l0 x10_1).f2), .string ((rd_T117 l0 x10_1).f3), .string ((rd_T117 l0 x10_1).f4)], .string (rdOf ByteArray.empty l3 x11_3)] (by rfl) rfl rfl mq ?_
          with_reducible refine (spec_l2Do.calls k3 ((rd_T117 l0 x10_1).f0) ((rd_T117 l0 x10_1).f1) ((rd_T117 l0 x10_1).f2) ((rd_T117 l0 x10_1).f3) ((rd_T117 l0 x10_1).f4) (rdOf ByteArray.empty l3 x11_3) t318 true _ A19.out).mono ?_
          rintro e w23 ⟨rfl, hb⟩
          refine ⟨_, rfl, ?_⟩
          replace HO_9 := am (Kd.V_below (vq HO_9.out) hb); replace HB := am (below_step bel hb)
          (try clear hb)
          (try clear hb2)
          (try clear hk)
          (try clear hi)
          refine hK.out _ _ ⟨(kp HB.out hw316_0), (kp HB.out hw316_1), (kp HB.out hw316_2), (kp HB.out hw316_3), (kp HB.out hw316_4), (kp HB.out hw317_0)⟩ (fun hHeld => ?_)
          clear hK K
          refine norm_ (a' := ?_) ?_ ?_
          rotate_left
          ·show Act.put _ (some 55) _ = _
           simp only [Act.put, List.setIfInBounds_toArray, List.set_cons_zero, List.set_cons_succ, i64_w, i32_w]
           rfl
          refine pu 9 46 ?_
          refine pu 10 56 ?_
          refine pu 11 57 ?_
          refine pu 12 12 ?_
          refine pu 13 13 ?_
          refine done_ (done_of HT_.out (by kernel_rfl)) ?_
          obtain ⟨Ao24, co24, eo24⟩ := Kd.V_slice HO_9.out; subst eo24
          try go_wp2_with (first | ((with_reducible refine gate_callee (f := 138) rfl ?_); refine goesL_ (some 61) rfl rfl Try.func138 (by kernel_rfl) rfl #[.slice Ao24 x9_3.length co24, .string t318] rfl mq ?_; (with_reducible refine (spec_l1Put.calls k3 (fun k_ => (w.heap.size ≤ k_)) _ _ x9_3 t318 t320 _ ?side1 A21.out).mono ?_); (case side1 => exact HO_9.out); rintro e w25 ⟨v321, rfl, ho0, hb⟩; refine ⟨_, rfl, ?_⟩; replace HO_9 := am (Kd.V_below (vq HO_9.out) hb); have HO322 := am (Kd.V_lower (Kd.V_mono (ok' := fun k_ => (w.heap.size ≤ k_)) ho0 (fun k_ hk_ => Or.elim hk_ (fun hs_ => hs_) (fun hn_ => (Nat.le_trans (below_size bel) hn_)))) (below_size bel)); replace HB := am (below_step bel hb); (try clear hb); (try clear hb2); (try clear hk); (try clear hi); (try clear ho0)))
          go_roundg k3
          case measure => have := HK1.out; have := HJ9.out; have := HK3.out; omega
          case rel => exact ⟨(t320), (wrap64 (x11_3 + 1)), sq, H', ⟨by have := HK1.out; have := HJ9.out; have := HK3.out; omega⟩, ⟨vq HO322.out⟩, ⟨bel⟩⟩
         replace c20 := Bool.eq_false_iff.mpr c20; subst c20
         have H1 : (spec_l2One.l1 k3 l0 a1 a2 l3 x9_3 x10_1 (wrap64 (x11_3 + 1))) = some r := b6_
         replace H := H1; clear H1
         have H' := am H
         clear H
         try go_wp2
         replace HO_9 := am (Kd.V_drew HO_9.out); replace HB := am (below_drew1 HB.out)
         have p316 : 0 ≤ (x10_1 : Int) := of_decide_eq_true ad
         have q316 : x10_1 < (l0.length : Int) := of_decide_eq_true ad
         obtain ⟨ad316, e316, hx316_0, hx316_1, hx316_2, hx316_3, hx316_4⟩ := at_T117 HR0.out x10_1 p316 q316; have hw316_4 := hx316_4; have hw316_3 := hx316_3; have hw316_2 := hx316_2; have hw316_1 := hx316_1; have hw316_0 := hx316_0
         cases e316
         replace hx316_0 := kp HB.out hx316_0; replace hx316_1 := kp HB.out hx316_1; replace hx316_2 := kp HB.out hx316_2; replace hx316_3 := kp HB.out hx316_3; replace hx316_4 := kp HB.out hx316_4; replace p316 := eq_true p316; replace q316 := eq_true q316
         have p317 : 0 ≤ (x11_3 : Int) := of_decide_eq_true ad
         have q317 : x11_3 < (l3.length : Int) := of_decide_eq_true ad
         obtain ⟨ad317, e317, hx317_0⟩ := Kd.at_string HR3.out x11_3 p317 q317; have hw317_0 := hx317_0
         cases e317
         replace hx317_0 := kp HB.out hx317_0; replace p317 := eq_true p317; replace q317 := eq_true q317
         refine st (n := 14) (S := fun w' => w'.cell? (ad316.add ((x10_1).toNat * 5)) = some (.string ((rd_T117 l0 x10_1).f0)) ∧ w'.cell? ⟨(ad316.add ((x10_1).toNat * 5)).block, (ad316.add ((x10_1).toNat * 5)).off + 1, none⟩ = some (.bool ((rd_T117 l0 x10_1).f1)) ∧ w'.cell? ⟨(ad316.add ((x10_1).toNat * 5)).block, (ad316.add ((x10_1).toNat * 5)).off + 2, none⟩ = some (.string ((rd_T117 l0 x10_1).f2)) ∧ w'.cell? ⟨(ad316.add ((x10_1).toNat * 5)).block, (ad316.add ((x10_1).toNat * 5)).off + 3, none⟩ = some (.string ((rd_T117 l0 x10_1).f3)) ∧ w'.cell? ⟨(ad316.add ((x10_1).toNat * 5)).block, (ad316.add ((x10_1).toNat * 5)).off + 4, none⟩ = some (.string ((rd_T117 l0 x10_1).f4)) ∧ w'.cell? (ad317.add (x11_3).toNat) = some (.string (rdOf ByteArray.empty l3 x11_3))) (ds := []) ⟨(kp HB.out hw316_0), (kp HB.out hw316_1), (kp HB.out hw316_2), (kp HB.out hw316_3), (kp HB.out hw316_4), (kp HB.out hw317_0)⟩ (fun hHeld => ?_); refine with_tabW spec_l2One.tab9 spec_l2One.bits9 (fun HT_ HW_ => ?_)
         generalize wr.drew = w26 at HO_9 HB hx316_0 hx316_1 hx316_2 hx316_3 hx316_4 hx317_0 hHeld ⊢
         refine pu 0 47 ?_
         refine pu 1 48 ?_
         refine pu 2 49 ?_
         refine pu 4 51 ?_
         refine pu 5 52 ?_
         refine pu 6 53 ?_
         refine tk6 3 50 hHeld ?_
         refine tk6 7 54 hHeld ?_
         refine on1 8 55 (fun K hK => ?_)
         refine goes_ Try.func198 (by kernel_rfl) rfl #[.agg #[.string ((rd_T117 l0 x10_1).f0), .bool ((rd_T117 l0 x10_1).f1), .string ((rd_T117 l0 x10_1).f2), .string ((rd_T117 l0 x10_1).f3), .string ((rd_T117 l0 x10_1).f4)], .string (rdOf ByteArray.empty l3 x11_3)] (by rfl) rfl rfl mq ?_
         with_reducible refine (spec_l2Do.calls k3 ((rd_T117 l0 x10_1).f0) ((rd_T117 l0 x10_1).f1) ((rd_T117 l0 x10_1).f2) ((rd_T117 l0 x10_1).f3) ((rd_T117 l0 x10_1).f4) (rdOf ByteArray.empty l3 x11_3) t318 false _ A19.out).mono ?_
         rintro e w27 ⟨rfl, hb⟩
         refine ⟨_, rfl, ?_⟩
         replace HO_9 := am (Kd.V_below (vq HO_9.out) hb); replace HB := am (below_step bel hb)
         (try clear hb)
         (try clear hb2)
         (try clear hk)
         (try clear hi)
         refine hK.out _ _ ⟨(kp HB.out hw316_0), (kp HB.out hw316_1), (kp HB.out hw316_2), (kp HB.out hw316_3), (kp HB.out hw316_4), (kp HB.out hw317_0)⟩ (fun hHeld => ?_)
         clear hK K
         refine norm_ (a' := ?_) ?_ ?_
         rotate_left
         ·show Act.put _ (some 55) _ = _
          simp only [Act.put, List.setIfInBounds_toArray, List.set_cons_zero, List.set_cons_succ, i64_w, i32_w]
          rfl
         refine pu 9 46 ?_
         refine pu 10 56 ?_
         refine pu 11 57 ?_
         refine pu 12 12 ?_
         refine pu 13 13 ?_
         refine done_ (done_of HT_.out (by kernel_rfl)) ?_
         try go_wp2
         go_roundg k3
         case measure => have := HK1.out; have := HJ9.out; have := HK3.out; omega
         case rel => exact ⟨(x9_3), (wrap64 (x11_3 + 1)), sq, H', ⟨by have := HK1.out; have := HJ9.out; have := HK3.out; omega⟩, ⟨vq HO_9.out⟩, ⟨bel⟩⟩
        rw [if_neg c15] at H; have c15b0 := decide_eq_false c15; clear c15
        have H' := am H
        clear H; go_wp2
        go_roundg k3
        case measure => have := HK1.out; have := HJ9.out; have := HK3.out; omega
        case rel => exact ⟨(x9_3), (wrap64 (x10_1 + 1)), sq, H', ⟨by have := HK1.out; have := HJ9.out; have := HK3.out; omega⟩, ⟨vq HO_9.out⟩, ⟨bel⟩⟩
   rw [if_neg c9] at H; have c9b0 := decide_eq_false c9; clear c9; obtain rfl := Option.some.inj H; go_wp2; go_ret
   exact ⟨_, eq_, by (with_reducible repeat (first | apply Kd.V_alloc | apply Kd.V_drewN | apply Kd.V_drew)); exact HO_9.out, bel⟩
end Go.Proofs.Ytfpmfaelodfecaa.QFnMachineRank
