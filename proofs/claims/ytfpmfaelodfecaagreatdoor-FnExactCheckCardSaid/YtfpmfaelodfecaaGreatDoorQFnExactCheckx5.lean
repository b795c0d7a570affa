import Derived.Test.YtfpmfaelodfecaaGreatDoorQFnExactCheckx0
import Derived.Test.YtfpmfaelodfecaaGreatDoorVMSh2
namespace Go.Proofs.YtfpmfaelodfecaaGreatDoor.QFnExactCheck
open Go.RowKit Go.Proofs.YtfpmfaelodfecaaGreatDoorW.PrintWords Go.Proofs.YtfpmfaelodfecaaGreatDoorW.PrintLast Go.Proofs.YtfpmfaelodfecaaGreatDoorW.PrintMore Go.Proofs.YtfpmfaelodfecaaGreatDoor.Sh
attribute [local go_sem] max2_int min2_int max_two min_two max_three min_three max_four min_four
set_option linter.unusedVariables false
set_option linter.unusedSimpArgs false
set_option maxHeartbeats 8000000
set_option maxRecDepth 100000
-- shrunk

/-! ### spec_l1Put: function 49 -/
mutual
def spec_l1Put.l0 : Nat → List ByteArray → ByteArray → Int → Option (List ByteArray)
 | 0, _, _, _ => none
 | k + 1, x0, x1, x5 => if x5 < (x0.length : Int) then (if 0 ≤ x5 then (spec_l1Put.j1 k x0 x1 x5 (Op.bytesLess ((rdOf ByteArray.empty x0 x5).toList) x1.toList)) else (none)) else (spec_l1Put.j1 k x0 x1 x5 false)
def spec_l1Put.j1 : Nat → List ByteArray → ByteArray → Int → Bool → Option (List ByteArray)
 | 0, _, _, _, _ => none
 | k + 1, x0, x1, x5, x17 => if x17 = true then (spec_l1Put.l0 k x0 x1 (wrap64 (x5 + 1))) else (if x5 < (x0.length : Int) then (if 0 ≤ x5 then (spec_l1Put.j2 k x0 x1 x5 ((rdOf ByteArray.empty x0 x5).toList == x1.toList)) else (none)) else (spec_l1Put.j2 k x0 x1 x5 false))
def spec_l1Put.j2 : Nat → List ByteArray → ByteArray → Int → Bool → Option (List ByteArray)
 | 0, _, _, _, _ => none
 | k + 1, x0, x1, x5, x31 => if x31 = true then (some x0) else ((some (([] : List ByteArray) : List ByteArray)).bind fun y133 => (if 0 ≤ x5 then (if x5 ≤ (x0.length : Int) then ((some (x0.take (x5 : Int).toNat : List ByteArray)).bind fun y136 => (if y133.length + y136.length < 8796093022208 then ((some (y133 ++ y136 : List ByteArray)).bind fun y141 => ((some (([x1] : List ByteArray) : List ByteArray)).bind fun y144 => (if y141.length + y144.length < 8796093022208 then ((some (y141 ++ y144 : List ByteArray)).bind fun y147 => ((some (x0.drop (x5 : Int).toNat : List ByteArray)).bind fun y150 => (if y147.length + y150.length < 8796093022208 then (some (y147 ++ y150)) else (none)))) else (none)))) else (none))) else (none)) else (none)))
end
def spec_l1Put.f (k : Nat) (l0 : List ByteArray) (a1 : ByteArray) : Option (List ByteArray) := spec_l1Put.l0 k l0 a1 0
def spec_l1Put.T6 : Bool × List (List Nat × List Nat) := (true, [([], []), ([], []), ([], []), ([1, 2], [1, 2]), ([0, 3], [0, 3]), ([], []), ([5], [5]), ([4, 6, 4], [4, 6]), ([], []), ([], []), ([8, 9], [8, 9]), ([7, 10, 7], [7, 10]), ([11, 11, 0, 1, 2, 3, 4, 5, 6, 7, 8, 9, 10, 11], [11])])
def spec_l1Put.B6 : List Nat := [0, 0, 0, 6, 15, 0, 32, 127, 0, 0, 768, 2047, 4095]
theorem spec_l1Put.tab6 : rtab .any (opsOf Tryz.f49 6) = spec_l1Put.T6 := by kernel_rfl
theorem spec_l1Put.bits6 : waitsOk spec_l1Put.T6.2 spec_l1Put.B6 = true := by kernel_rfl
theorem spec_l1Put.calls (k : Nat) (P0_ : Nat → Prop) (A0 : Option Addr) (c0 : Nat) (l0 : List ByteArray) (a1 : ByteArray) (r : List ByteArray) (w : World) (hs0 : Kd.V Kd.string 9 w w.heap.size (fun k_ => P0_ k_) (.slice A0 l0.length c0) l0) (h : spec_l1Put.f k l0 a1 = some r) :
  Calls Tryz.prog 49 #[.slice A0 l0.length c0, .string a1] w fun e w' => ∃ v0_ : Value, e = .returned (v0_) ∧ Kd.V Kd.string 9 w' w.heap.size (fun k_ => (P0_ k_ ∨ w.heap.size ≤ k_)) v0_ r ∧ Below w.heap.size w w' := by
 have HO0 := am (show Kd.V Kd.string 9 w w.heap.size (fun k_ => (P0_ k_ ∨ w.heap.size ≤ k_)) (.slice A0 l0.length c0) l0 from Kd.V_mono hs0 (fun k_ hk => .inl hk)); have HB := am (Below.refl w.heap.size w)
 have H : (spec_l1Put.l0 k l0 a1 0) = some r := h
 clear h
 have H' := am H
 clear H; go_enter Tryz.func49, Tryz.ntmps49; go_wp2
 go_loopg [5] k (fun kq v5 w' => ∃ (x5_1 : Int), v5 = .int .i64 x5_1 ∧ Aside0 (spec_l1Put.l0 kq l0 a1 x5_1 = some r) ∧ Aside0 (kq ≤ k) ∧ Aside0 (Kd.V Kd.string 9 w' w.heap.size (fun k_ => (P0_ k_ ∨ w.heap.size ≤ k_)) (.slice A0 l0.length c0) l0) ∧ Aside0 (Below w.heap.size w w'))
 case atStart => exact ⟨(0), sq, H', ⟨Nat.le_refl _⟩, ⟨vq HO0.out⟩, ⟨bel⟩⟩
 case round =>
  clear H'; (try clear p2); obtain ⟨x5_1, rfl, HA, HK1, HO_0, HB⟩ := hrel
  cases gk with
  | zero => exact absurd HA.out (by simp [spec_l1Put.l0])
  | succ k1 =>
   have H := HA.out; clear HA
   simp only [spec_l1Put.l0] at H
   have HC3 := am H; clear H
   go_upto_region 2 with (fail)
   go_cut [17] (fun v17 wc => ∃ (kq : Nat) (x17_2 : Bool), v17 = .bool x17_2 ∧ Aside0 (spec_l1Put.j1 kq l0 a1 x5_1 x17_2 = some r) ∧ Aside0 (kq ≤ k1) ∧ Aside0 (Kd.V Kd.string 9 wc w.heap.size (fun k_ => (P0_ k_ ∨ w.heap.size ≤ k_)) (.slice A0 l0.length c0) l0) ∧ Aside0 (Below w.heap.size w wc))
   case first =>
    have H := HC3.out; clear HC3
    by_cases c4 : x5_1 < (l0.length : Int)
    ·rw [if_pos c4] at H; have c4b0 := decide_eq_true c4; clear c4
     (first | rw [c4b0] | (simp only [i64_w, i32_w]; rw [c4b0]) | skip)
     replace H := it H; obtain ⟨c5b0, H⟩ := H
     have H' := am H
     clear H
     have p131 : 0 ≤ (x5_1 : Int) := of_decide_eq_true ad
     have q131 : x5_1 < (l0.length : Int) := of_decide_eq_true ad
     obtain ⟨ad131, e131, hx131_0⟩ := Kd.at_string (Kd.V_reads' HO_0.out).2.2 x5_1 p131 q131
     cases e131
     replace p131 := eq_true p131; replace q131 := eq_true q131; go_wp2
     go_meet
     case rel => exact ⟨_, ((Op.bytesLess ((rdOf ByteArray.empty l0 x5_1).toList) a1.toList)), sq, H', ⟨b42_⟩, ⟨vq HO_0.out⟩, ⟨bel⟩⟩
    rw [if_neg c4] at H; have c4b0 := decide_eq_false c4; clear c4
    (first | rw [c4b0] | (simp only [i64_w, i32_w]; rw [c4b0]) | skip)
    have H' := am H
    clear H; go_wp2
    go_meet
    case rel => exact ⟨_, (false), sq, H', ⟨b42_⟩, ⟨vq HO_0.out⟩, ⟨bel⟩⟩
   case rest =>
    clear HC3; (try clear p1); (try clear q1); (try clear hx1); (try clear p2); (try clear c4); (try clear c4b0); (try clear c5); (try clear c5b0); (try clear hx131_0); (try clear p131); (try clear p2); (try clear q131); obtain ⟨kq, x17_2, rfl, HA, HJ2, HO_0, HB⟩ := hcut
    cases kq with
    | zero => exact absurd HA.out (by simp [spec_l1Put.j1])
    | succ kj2 =>
     have H := HA.out; clear HA
     simp only [spec_l1Put.j1] at H
     by_cases c6 : x17_2 = true
     ·subst c6
      have H1 : (spec_l1Put.l0 kj2 l0 a1 (wrap64 (x5_1 + 1))) = some r := b8_
      replace H := H1; clear H1
      have H' := am H
      clear H; go_wp2
      go_roundg kj2
      case measure => have := HK1.out; have := HJ2.out; omega
      case rel => exact ⟨(wrap64 (x5_1 + 1)), sq, H', ⟨by have := HK1.out; have := HJ2.out; omega⟩, ⟨vq HO_0.out⟩, ⟨bel⟩⟩
     replace c6 := Bool.eq_false_iff.mpr c6; subst c6
     have H1 : (if x5_1 < (l0.length : Int) then (if 0 ≤ x5_1 then (spec_l1Put.j2 kj2 l0 a1 x5_1 ((rdOf ByteArray.empty l0 x5_1).toList == a1.toList)) else (none)) else (spec_l1Put.j2 kj2 l0 a1 x5_1 false)) = some r := b2_
     replace H := H1; clear H1
     have HC7 := am H; clear H
     go_upto_region 4 with (fail)
     go_cut [31] (fun v31 wc => ∃ (kq : Nat) (x31_6 : Bool), v31 = .bool x31_6 ∧ Aside0 (spec_l1Put.j2 kq l0 a1 x5_1 x31_6 = some r) ∧ Aside0 (kq ≤ kj2) ∧ Aside0 (Kd.V Kd.string 9 wc w.heap.size (fun k_ => (P0_ k_ ∨ w.heap.size ≤ k_)) (.slice A0 l0.length c0) l0) ∧ Aside0 (Below w.heap.size w wc))
     case first =>
      have H := HC7.out; clear HC7
      by_cases c8 : x5_1 < (l0.length : Int)
      ·rw [if_pos c8] at H; have c8b0 := decide_eq_true c8; clear c8
       (first | rw [c8b0] | (simp only [i64_w, i32_w]; rw [c8b0]) | skip)
       replace H := it H; obtain ⟨c9b0, H⟩ := H
       have H' := am H
       clear H
       have p132 : 0 ≤ (x5_1 : Int) := of_decide_eq_true ad
       have q132 : x5_1 < (l0.length : Int) := of_decide_eq_true ad
       obtain ⟨ad132, e132, hx132_0⟩ := Kd.at_string (Kd.V_reads' HO_0.out).2.2 x5_1 p132 q132
       cases e132
       replace p132 := eq_true p132; replace q132 := eq_true q132; go_wp2
       go_meet
       case rel => exact ⟨_, (((rdOf ByteArray.empty l0 x5_1).toList == a1.toList)), sq, H', ⟨by have := HK1.out; have := HJ2.out; first | omega | exact Nat.le_refl _⟩, ⟨vq HO_0.out⟩, ⟨bel⟩⟩
      rw [if_neg c8] at H; have c8b0 := decide_eq_false c8; clear c8
      (first | rw [c8b0] | (simp only [i64_w, i32_w]; rw [c8b0]) | skip)
      have H' := am H
      clear H; go_wp2
      go_meet
      case rel => exact ⟨_, (false), sq, H', ⟨by have := HK1.out; have := HJ2.out; first | omega | exact Nat.le_refl _⟩, ⟨vq HO_0.out⟩, ⟨bel⟩⟩
     case rest =>
      clear HC7; (try clear p1); (try clear q1); (try clear hx1); (try clear p2); (try clear c4); (try clear c4b0); (try clear c5); (try clear c5b0); (try clear c6); (try clear p6); (try clear c8); (try clear c8b0); (try clear c9); (try clear c9b0); (try clear hx131_0); (try clear hx132_0); (try clear p1); (try clear p131); (try clear p132); (try clear p2); (try clear q1); (try clear q131); (try clear q132); obtain ⟨kq, x31_6, rfl, HA, HJ6, HO_0, HB⟩ := hcut
      cases kq with
      | zero => exact absurd HA.out (by simp [spec_l1Put.j2])
      | succ kj6 =>
       have H := HA.out; clear HA
       simp only [spec_l1Put.j2] at H
       by_cases c10 : x31_6 = true
       ·subst c10
        have H1 : (some l0) = some r := b8_
        replace H := H1; clear H1
        obtain rfl := Option.some.inj H; go_wp2; go_ret
        exact ⟨_, eq_, by (with_reducible repeat (first | apply Kd.V_alloc | apply Kd.V_drewN | apply Kd.V_drew)); exact HO_0.out, bel⟩
       replace c10 := Bool.eq_false_iff.mpr c10; subst c10
       have H1 : ((some (([] : List ByteArray) : List ByteArray)).bind fun y133 => (if 0 ≤ x5_1 then (if x5_1 ≤ (l0.length : Int) then ((some (l0.take (x5_1 : Int).toNat : List ByteArray)).bind fun y136 => (if y133.length + y136.length < 8796093022208 then ((some (y133 ++ y136 : List ByteArray)).bind fun y141 => ((some (([a1] : List ByteArray) : List ByteArray)).bind fun y144 => (if y141.length + y144.length < 8796093022208 then ((some (y141 ++ y144 : List ByteArray)).bind fun y147 => ((some (l0.drop (x5_1 : Int).toNat : List ByteArray)).bind fun y150 => (if y147.length + y150.length < 8796093022208 then (some (y147 ++ y150)) else (none)))) else (none)))) else (none))) else (none)) else (none))) = some r := b2_
       replace H := H1; clear H1
       obtain ⟨y133, hy133⟩ : ∃ y_ : List ByteArray, y_ = (([] : List ByteArray)) := ⟨_, rfl⟩
       replace H : (if 0 ≤ x5_1 then (if x5_1 ≤ (l0.length : Int) then ((some (l0.take (x5_1 : Int).toNat : List ByteArray)).bind fun y136 => (if y133.length + y136.length < 8796093022208 then ((some (y133 ++ y136 : List ByteArray)).bind fun y141 => ((some (([a1] : List ByteArray) : List ByteArray)).bind fun y144 => (if y141.length + y144.length < 8796093022208 then ((some (y141 ++ y144 : List ByteArray)).bind fun y147 => ((some (l0.drop (x5_1 : Int).toNat : List ByteArray)).bind fun y150 => (if y147.length + y150.length < 8796093022208 then (some (y147 ++ y150)) else (none)))) else (none)))) else (none))) else (none)) else (none)) = some r := by first | (rw [hy133]; with_reducible exact H) | (have H2_ := bm H; rw [hy133]; with_reducible exact H2_) | (with_reducible exact bm H) | with_reducible exact H | (rw [hy133]; exact H) | exact H
       have Ny133 := am hy133; clear hy133
       replace H := ip H; obtain ⟨c11, H⟩ := H; have c11b0 := eq_true c11
       have c11b1 : decide (0 ≤ x5_1) = true := decide_eq_true c11
       clear c11
       replace H := ip H; obtain ⟨c12, H⟩ := H; have c12b0 := eq_true c12
       have c12b1 : decide (x5_1 ≤ (l0.length : Int)) = true := decide_eq_true c12
       clear c12; obtain ⟨y136, hy136⟩ : ∃ y_ : List ByteArray, y_ = (l0.take (x5_1 : Int).toNat) := ⟨_, rfl⟩
       replace H : (if y133.length + y136.length < 8796093022208 then ((some (y133 ++ y136 : List ByteArray)).bind fun y141 => ((some (([a1] : List ByteArray) : List ByteArray)).bind fun y144 => (if y141.length + y144.length < 8796093022208 then ((some (y141 ++ y144 : List ByteArray)).bind fun y147 => ((some (l0.drop (x5_1 : Int).toNat : List ByteArray)).bind fun y150 => (if y147.length + y150.length < 8796093022208 then (some (y147 ++ y150)) else (none)))) else (none)))) else (none)) = some r := by first | (rw [hy136]; with_reducible exact H) | (have H2_ := bm H; rw [hy136]; with_reducible exact H2_) | (with_reducible exact bm H) | with_reducible exact H | (rw [hy136]; exact H) | exact H
       have Ny136 := am hy136; clear hy136
       replace H := ip H; obtain ⟨c13, H⟩ := H; have LMc13 := Aside0.mk c13; clear c13; obtain ⟨y141, hy141⟩ : ∃ y_ : List ByteArray, y_ = (y133 ++ y136) := ⟨_, rfl⟩
       replace H : ((some (([a1] : List ByteArray) : List ByteArray)).bind fun y144 => (if y141.length + y144.length < 8796093022208 then ((some (y141 ++ y144 : List ByteArray)).bind fun y147 => ((some (l0.drop (x5_1 : Int).toNat : List ByteArray)).bind fun y150 => (if y147.length + y150.length < 8796093022208 then (some (y147 ++ y150)) else (none)))) else (none))) = some r := by first | (rw [hy141]; with_reducible exact H) | (have H2_ := bm H; rw [hy141]; with_reducible exact H2_) | (with_reducible exact bm H) | with_reducible exact H | (rw [hy141]; exact H) | exact H
       have Ny141 := am hy141; clear hy141; obtain ⟨y144, hy144⟩ : ∃ y_ : List ByteArray, y_ = (([a1] : List ByteArray)) := ⟨_, rfl⟩
       replace H : (if y141.length + y144.length < 8796093022208 then ((some (y141 ++ y144 : List ByteArray)).bind fun y147 => ((some (l0.drop (x5_1 : Int).toNat : List ByteArray)).bind fun y150 => (if y147.length + y150.length < 8796093022208 then (some (y147 ++ y150)) else (none)))) else (none)) = some r := by first | (rw [hy144]; with_reducible exact H) | (have H2_ := bm H; rw [hy144]; with_reducible exact H2_) | (with_reducible exact bm H) | with_reducible exact H | (rw [hy144]; exact H) | exact H
       have Ny144 := am hy144; clear hy144
       replace H := ip H; obtain ⟨c14, H⟩ := H; have LMc14 := Aside0.mk c14; clear c14; obtain ⟨y147, hy147⟩ : ∃ y_ : List ByteArray, y_ = (y141 ++ y144) := ⟨_, rfl⟩
       replace H : ((some (l0.drop (x5_1 : Int).toNat : List ByteArray)).bind fun y150 => (if y147.length + y150.length < 8796093022208 then (some (y147 ++ y150)) else (none))) = some r := by first | (rw [hy147]; with_reducible exact H) | (have H2_ := bm H; rw [hy147]; with_reducible exact H2_) | (with_reducible exact bm H) | with_reducible exact H | (rw [hy147]; exact H) | exact H
       have Ny147 := am hy147; clear hy147; have c15b0 := eq_true (of_decide_eq_true ad : 0 ≤ x5_1); have c16b0 := eq_true (of_decide_eq_true ad : x5_1 ≤ (l0.length : Int)); obtain ⟨y150, hy150⟩ : ∃ y_ : List ByteArray, y_ = (l0.drop (x5_1 : Int).toNat) := ⟨_, rfl⟩
       replace H : (if y147.length + y150.length < 8796093022208 then (some (y147 ++ y150)) else (none)) = some r := by first | (rw [hy150]; with_reducible exact H) | (have H2_ := bm H; rw [hy150]; with_reducible exact H2_) | (with_reducible exact bm H) | with_reducible exact H | (rw [hy150]; exact H) | exact H
       have Ny150 := am hy150; clear hy150
       replace H := ip H; obtain ⟨c17, H⟩ := H; have LMc17 := Aside0.mk c17; clear c17; obtain ⟨y155, hy155⟩ : ∃ y_ : List ByteArray, y_ = (y147 ++ y150) := ⟨_, rfl⟩
       replace H : (some y155) = some r := by first | (rw [hy155]; with_reducible exact H) | (have H2_ := bm H; rw [hy155]; with_reducible exact H2_) | (with_reducible exact bm H) | with_reducible exact H | (rw [hy155]; exact H) | exact H
       have Ny155 := am hy155; clear hy155; obtain rfl := Option.some.inj H
       try go_wp2
       replace HO_0 := am (Kd.V_drew HO_0.out); replace HB := am (below_drew1 HB.out)
       have q19 : (x5_1 : Int) ≤ ((l0.length : Int) : Int) := of_decide_eq_true ad
       obtain ⟨i019, hi019, _, hsz19, _⟩ := info_parts info9
       have hroom19 : l0.length ≤ c0 := (Kd.V_reads' HO_0.out).2.1
       have hC19 : Kd.F Kd.string _ _ A0 l0.length l0 := (Kd.V_at (base := w.heap.size) HO_0.out).2.2
       have hcut19 := cut_to (P := Tryz.prog) 49 9 .i64 Tryz.underlying49 hi019 A0 l0.length c0 x5_1 (of_decide_eq_true ad) q19 hroom19
       have hr19 := Kd.F_take (m := (x5_1 : Int).toNat) hC19 (by omega)
       have hy19 : y136.length = (x5_1 : Int).toNat := (by rw [Ny136.out, List.length_take]; omega)
       rw [← Ny136.out] at hr19; rw [← hy19] at hcut19
       have HO140 := am (show Kd.V Kd.string 9 _ w.heap.size _ (.slice A0 y136.length c0) y136 from Kd.V_mk (by omega) hr19)
       have HC140 := am (show y136.length ≤ c0 from by omega)
       clear hr19 hC19 hroom19 hi019 hsz19; have KY19 := am hy19; clear hy19; replace q19 := eq_true q19
       have q20 : (x5_1 : Int) ≤ ((l0.length : Int) : Int) := of_decide_eq_true ad
       obtain ⟨i020, hi020, _, hsz20, _⟩ := info_parts info9
       have hroom20 : l0.length ≤ c0 := (Kd.V_reads' HO_0.out).2.1
       have hC20 : Kd.F Kd.string _ _ A0 l0.length l0 := (Kd.V_at (base := w.heap.size) HO_0.out).2.2
       have q020 : (0 : Int) ≤ (x5_1 : Int) := of_decide_eq_true ad
       have hcut20 := cut_from (P := Tryz.prog) 49 9 .i64 Tryz.underlying49 hi020 1 hsz20 A0 l0.length c0 x5_1 q020 q20
       have hr20 := Kd.F_cut (m := (x5_1 : Int).toNat) (c := c0) hC20 (by omega) hroom20
       obtain ⟨A20, hA20⟩ : ∃ A1, A1 = (if c0 = (x5_1 : Int).toNat then A0 else (A0 : Option Addr).map (·.add ((x5_1 : Int).toNat * 1))) := ⟨_, rfl⟩; obtain ⟨c20, hc20⟩ : ∃ c1, c1 = c0 - (x5_1 : Int).toNat := ⟨_, rfl⟩
       have hy20 : y150.length = l0.length - (x5_1 : Int).toNat := (by rw [Ny150.out, List.length_drop] <;> omega)
       rw [show (l0).drop (x5_1 : Int).toNat = y150 from Ny150.out.symm] at hr20
       replace hr20 : Kd.F Kd.string _ _ A20 y150.length y150 := (by rw [hA20]; exact hr20)
       rw [← hy20, ← hA20, ← hc20] at hcut20
       have HO154 := am (show Kd.V Kd.string 9 _ w.heap.size _ (.slice A20 y150.length c20) y150 from Kd.V_mk (by rw [hy20, hc20]; exact Nat.sub_le_sub_right hroom20 _) hr20)
       have HC154 := am (show y150.length ≤ c20 from by rw [hy20, hc20]; exact Nat.sub_le_sub_right hroom20 _)
       clear hr20 hC20 hroom20 hi020 hsz20 hc20; have KY20 := am hy20; have KA20 := am hA20; clear hy20 hA20; replace q20 := eq_true q20
       refine st (n := 13) (S := fun w' => True) (ds := []) trivial (fun hHeld => ?_); refine with_tabW spec_l1Put.tab6 spec_l1Put.bits6 (fun HT_ HW_ => ?_)
       generalize wc.drew = w18 at HO_0 HB HO140 HO154 hHeld ⊢
       refine pu 1 34 ?_
       refine pu 2 35 ?_
       refine pu 3 36 ?_
       refine pu 5 38 ?_
       refine pu 8 41 ?_
       refine pu 9 42 ?_
       refine pu 10 43 ?_
       refine join_ (σ := Value × Value × Value) 3 #[true, true, true, true, true, true, true, false, true, true, true, false, false] (fun s_ => [(33, s_.1), (37, s_.2.1), (39, s_.2.2)]) (fun s_ w' => (Kd.V Kd.string 9 w' w.heap.size (fun k_ => (P0_ k_ ∨ w.heap.size ≤ k_) ∧ some k_ ≠ (s_.2.1 : Value).ownBlock ∧ some k_ ≠ (s_.2.2 : Value).ownBlock) (.slice A0 y136.length c0) y136) ∧ (Kd.R Kd.string 9 w' w.heap.size (fun k_ => (w.heap.size ≤ k_) ∧ some k_ ≠ (s_.2.2 : Value).ownBlock) s_.2.1 y141) ∧ (Kd.R Kd.string 9 w' w.heap.size (fun k_ => (w.heap.size ≤ k_) ∧ some k_ ≠ (s_.2.1 : Value).ownBlock) s_.2.2 y144) ∧ (Kd.V Kd.string 9 w' w.heap.size (fun k_ => (P0_ k_ ∨ w.heap.size ≤ k_) ∧ some k_ ≠ (s_.2.1 : Value).ownBlock ∧ some k_ ≠ (s_.2.2 : Value).ownBlock) (.slice A20 y150.length c20) y150) ∧ (Kd.V Kd.string 9 w' w.heap.size (fun k_ => (P0_ k_ ∨ w.heap.size ≤ k_) ∧ some k_ ≠ (s_.2.1 : Value).ownBlock ∧ some k_ ≠ (s_.2.2 : Value).ownBlock) (.slice A0 l0.length c0) l0) ∧ (Below w.heap.size w w')) ?_ ?_
       rotate_left
       ·intro hCont
        refine two_ (i := 0) (j := 6) (Ni := some 33) (Nj := some 39) #[true, true, true, true, false, true, false, false, true, true, true, false, false] #[false, true, true, true, false, true, true, false, true, true, true, false, false] rfl rfl rfl rfl (two_of HT_.out (by kernel_rfl)) (by decide) (by decide) (fun K hK => ?_) (fun K hK => ?_)
        ·skip
         refine Kd.R_lit_step Kd.string _ 9 ?hg (N := 33) ?hd (xs := ([] : List ByteArray)) (inner := []) (ok := fun _ => True) (okp := fun _ => True) ?hr ?hp (fun _ hk => hk) trivial (Below.refl _ _) (Nat.le_refl _) (by simp) ?_; (case hd => rfl); (case hg => rfl); (case hr => first | (go_simp; done) | (go_simp; rfl)); (case hp => exact (Reps.none _ _))
         intro v134 w21 ho22 hb hg_ hnew_; clear hg_ hnew_
         (first | rw [← Ny133.out] at ho22 | (simp only [Int.reduceToNat] at ho22; rw [← Ny133.out] at ho22) | (simp only [Int.toNat_natCast] at ho22; rw [← Ny133.out] at ho22))
         replace HO_0 := am (Kd.V_elder' (vq HO_0.out) (Kd.R_base ho22) hb); replace HO140 := am (Kd.V_elder' (vq HO140.out) (Kd.R_base ho22) hb); replace HO154 := am (Kd.V_elder' (vq HO154.out) (Kd.R_base ho22) hb); have HO135 := am (Kd.R_lower (Kd.R_newM (M := fun k_ => (w.heap.size ≤ k_)) ho22 (below_size bel) (fun k_ h_ => h_)) (below_size bel)); replace HB := am (below_step bel hb); clear hb ho22
         refine hK.out _ _ trivial (fun hHeld => ?_)
         clear hK K
         refine norm_ (a' := ?_) ?_ ?_
         rotate_left
         ·show Act.put _ (some 33) _ = _
          simp only [Act.put, List.setIfInBounds_toArray, List.set_cons_zero, List.set_cons_succ, i64_w, i32_w]
          rfl
         refine two_ (i := 4) (j := 6) (Ni := some 37) (Nj := some 39) #[true, true, true, true, true, true, false, false, true, true, true, false, false] #[true, true, true, true, false, true, true, false, true, true, true, false, false] rfl rfl rfl rfl (two_of HT_.out (by kernel_rfl)) (by decide) (by decide) (fun K hK => ?_) (fun K hK => ?_)
         ·skip
          refine Kd.R_append_rows_step Kd.string (w0 := w) w.heap.size (by rfl) (.tmp 33) (.tmp 36) 49 9 (.string ⟨#[]⟩) 16 rfl Tryz.underlying49 info9 rfl (by decide) (by omega) v134 y133 y136 _ _ _ (fun k_ => (w.heap.size ≤ k_)) (fun _ => False) rfl rfl ?aO ?aR (fun _ _ h => h) (fun _ h => h.elim) ?aF ?aB ?aS ?aL ?_
          (case aR => exact cq (Kd.V_reads' HO140.out).2.2); (case aB => exact bel); (case aF => exact (fun k_ hk => (Nat.le_trans (below_size bel) hk))); (case aO => exact (rq (Kd.R_mono HO135.out (fun _ hk => hk.1)))); (case aS => exact (below_size bel)); (case aL => have := LMc13.out; omega); intro v142 w23 ho hb hg hat; rw [← Ny141.out] at ho; replace HO_0 := am (Kd.V_afterv (ok := (fun k_ => (P0_ k_ ∨ w.heap.size ≤ k_))) (vq HO_0.out) hg hat); replace HO140 := am (Kd.V_afterv (ok := (fun k_ => (P0_ k_ ∨ w.heap.size ≤ k_))) (vq HO140.out) hg hat); replace HO154 := am (Kd.V_afterv (ok := (fun k_ => (P0_ k_ ∨ w.heap.size ≤ k_))) (vq HO154.out) hg hat); replace HB := am (hb); have HO143 := am (ho); clear HO135; clear ho hb hg hat
          refine hK.out _ _ trivial (fun hHeld => ?_)
          clear hK K
          refine norm_ (a' := ?_) ?_ ?_
          rotate_left
          ·show Act.put _ (some 37) _ = _
           simp only [Act.put, List.setIfInBounds_toArray, List.set_cons_zero, List.set_cons_succ, i64_w, i32_w]
           rfl
          refine on1 6 39 (fun K hK => ?_)
          refine Kd.R_lit_step Kd.string _ 9 ?hg (N := 39) ?hd (xs := ([a1] : List ByteArray)) (inner := [.string a1]) (ok := fun _ => True) (okp := fun _ => True) ?hr ?hp (fun _ hk => hk) trivial (Below.refl _ _) (Nat.le_refl _) (by simp) ?_; (case hd => rfl); (case hg => rfl); (case hr => first | (go_simp; done) | (go_simp; rfl)); (case hp => exact (Reps.one (show Kd.M Kd.string _ _ _ a1 [.string a1] from rfl) (Reps.none _ _)))
          intro v145 w24 ho25 hb hg_ hnew_; clear hg_ hnew_
          (first | rw [← Ny144.out] at ho25 | (simp only [Int.reduceToNat] at ho25; rw [← Ny144.out] at ho25) | (simp only [Int.toNat_natCast] at ho25; rw [← Ny144.out] at ho25))
          replace HO_0 := am (Kd.V_elder' (vq HO_0.out) (Kd.R_base ho25) hb); replace HO140 := am (Kd.V_elder' (vq HO140.out) (Kd.R_base ho25) hb); replace HO154 := am (Kd.V_elder' (vq HO154.out) (Kd.R_base ho25) hb); have HO146 := am (Kd.R_lower (Kd.R_new' (Kd.R_newM (M := fun k_ => (w.heap.size ≤ k_)) ho25 (below_size bel) (fun k_ h_ => h_)) (Kd.R_lt (rq HO143.out))) (below_size bel)); replace HO143 := am (Kd.R_elder' (rq HO143.out) (Kd.R_base ho25) hb); replace HB := am (below_step bel hb); clear hb ho25
          refine hK.out _ _ trivial (fun hHeld => ?_)
          clear hK K
          refine norm_ (a' := ?_) ?_ ?_
          rotate_left
          ·show Act.put _ (some 39) _ = _
           simp only [Act.put, List.setIfInBounds_toArray, List.set_cons_zero, List.set_cons_succ, i64_w, i32_w]
           rfl
          exact norm_ b36_ (hCont (v134, v142, v145) _ ⟨(vq (Kd.V_mono HO140.out (fun _ hk => ⟨hk.1.1, ⟨hk.1.2, hk.2⟩⟩))), (rq HO143.out), (rq (Kd.R_mono HO146.out (fun _ hk => ⟨hk.1.1, hk.2⟩))), (vq (Kd.V_mono HO154.out (fun _ hk => ⟨hk.1.1, ⟨hk.1.2, hk.2⟩⟩))), (vq (Kd.V_mono HO_0.out (fun _ hk => ⟨hk.1.1, ⟨hk.1.2, hk.2⟩⟩))), bel⟩)
         ·skip
          refine Kd.R_lit_step Kd.string _ 9 ?hg (N := 39) ?hd (xs := ([a1] : List ByteArray)) (inner := [.string a1]) (ok := fun _ => True) (okp := fun _ => True) ?hr ?hp (fun _ hk => hk) trivial (Below.refl _ _) (Nat.le_refl _) (by simp) ?_; (case hd => rfl); (case hg => rfl); (case hr => first | (go_simp; done) | (go_simp; rfl)); (case hp => exact (Reps.one (show Kd.M Kd.string _ _ _ a1 [.string a1] from rfl) (Reps.none _ _)))
          intro v145 w23 ho24 hb hg_ hnew_; clear hg_ hnew_
          (first | rw [← Ny144.out] at ho24 | (simp only [Int.reduceToNat] at ho24; rw [← Ny144.out] at ho24) | (simp only [Int.toNat_natCast] at ho24; rw [← Ny144.out] at ho24))
          replace HO_0 := am (Kd.V_elder' (vq HO_0.out) (Kd.R_base ho24) hb); replace HO140 := am (Kd.V_elder' (vq HO140.out) (Kd.R_base ho24) hb); replace HO154 := am (Kd.V_elder' (vq HO154.out) (Kd.R_base ho24) hb); have HO146 := am (Kd.R_lower (Kd.R_new' (Kd.R_newM (M := fun k_ => (w.heap.size ≤ k_)) ho24 (below_size bel) (fun k_ h_ => h_)) (Kd.R_lt (rq HO135.out))) (below_size bel)); replace HO135 := am (Kd.R_elder' (rq HO135.out) (Kd.R_base ho24) hb); replace HB := am (below_step bel hb); clear hb ho24
          refine hK.out _ _ trivial (fun hHeld => ?_)
          clear hK K
          refine norm_ (a' := ?_) ?_ ?_
          rotate_left
          ·show Act.put _ (some 39) _ = _
           simp only [Act.put, List.setIfInBounds_toArray, List.set_cons_zero, List.set_cons_succ, i64_w, i32_w]
           rfl
          refine on1 4 37 (fun K hK => ?_)
          refine Kd.R_append_rows_step Kd.string (w0 := w) w.heap.size (by rfl) (.tmp 33) (.tmp 36) 49 9 (.string ⟨#[]⟩) 16 rfl Tryz.underlying49 info9 rfl (by decide) (by omega) v134 y133 y136 _ _ _ (fun k_ => (w.heap.size ≤ k_) ∧ some k_ ≠ (v145 : Value).ownBlock) (fun _ => False) rfl rfl ?aO ?aR (fun _ _ h => h) (fun _ h => h.elim) ?aF ?aB ?aS ?aL ?_
          (case aR => exact cq (Kd.V_reads' HO140.out).2.2); (case aB => exact bel); (case aF => exact (fun k_ hk => ⟨(Nat.le_trans (below_size bel) hk), Kd.fresh' (Kd.R_lt (rq HO146.out)) k_ hk⟩)); (case aO => exact (rq (Kd.R_mono HO135.out (fun _ hk => ⟨hk.1.1, hk.2⟩)))); (case aS => exact (below_size bel)); (case aL => have := LMc13.out; omega); intro v142 w25 ho hb hg hat; rw [← Ny141.out] at ho; replace HO_0 := am (Kd.V_afterv (ok := (fun k_ => (P0_ k_ ∨ w.heap.size ≤ k_) ∧ some k_ ≠ (v145 : Value).ownBlock)) (vq (Kd.V_mono HO_0.out (fun _ hk => ⟨⟨hk.1.1, hk.2⟩, hk.1.2⟩))) hg hat); replace HO140 := am (Kd.V_afterv (ok := (fun k_ => (P0_ k_ ∨ w.heap.size ≤ k_) ∧ some k_ ≠ (v145 : Value).ownBlock)) (vq (Kd.V_mono HO140.out (fun _ hk => ⟨⟨hk.1.1, hk.2⟩, hk.1.2⟩))) hg hat); replace HO154 := am (Kd.V_afterv (ok := (fun k_ => (P0_ k_ ∨ w.heap.size ≤ k_) ∧ some k_ ≠ (v145 : Value).ownBlock)) (vq (Kd.V_mono HO154.out (fun _ hk => ⟨⟨hk.1.1, hk.2⟩, hk.1.2⟩))) hg hat); replace HO146 := am (Kd.R_after (ok := (fun k_ => (w.heap.size ≤ k_))) (rq (Kd.R_mono HO146.out (fun _ hk => ⟨hk.1.1, hk.2⟩))) hg hat); replace HB := am (hb); have HO143 := am (ho); clear HO135; clear ho hb hg hat
          refine hK.out _ _ trivial (fun hHeld => ?_)
          clear hK K
          refine norm_ (a' := ?_) ?_ ?_
          rotate_left
          ·show Act.put _ (some 37) _ = _
           simp only [Act.put, List.setIfInBounds_toArray, List.set_cons_zero, List.set_cons_succ, i64_w, i32_w]
           rfl
          exact norm_ b36_ (hCont (v134, v142, v145) _ ⟨(vq (Kd.V_mono HO140.out (fun _ hk => ⟨hk.1.1, ⟨hk.2, hk.1.2⟩⟩))), (rq HO143.out), (rq HO146.out), (vq (Kd.V_mono HO154.out (fun _ hk => ⟨hk.1.1, ⟨hk.2, hk.1.2⟩⟩))), (vq (Kd.V_mono HO_0.out (fun _ hk => ⟨hk.1.1, ⟨hk.2, hk.1.2⟩⟩))), bel⟩)
        ·skip
         refine Kd.R_lit_step Kd.string _ 9 ?hg (N := 39) ?hd (xs := ([a1] : List ByteArray)) (inner := [.string a1]) (ok := fun _ => True) (okp := fun _ => True) ?hr ?hp (fun _ hk => hk) trivial (Below.refl _ _) (Nat.le_refl _) (by simp) ?_; (case hd => rfl); (case hg => rfl); (case hr => first | (go_simp; done) | (go_simp; rfl)); (case hp => exact (Reps.one (show Kd.M Kd.string _ _ _ a1 [.string a1] from rfl) (Reps.none _ _)))
         intro v145 w21 ho22 hb hg_ hnew_; clear hg_ hnew_
         (first | rw [← Ny144.out] at ho22 | (simp only [Int.reduceToNat] at ho22; rw [← Ny144.out] at ho22) | (simp only [Int.toNat_natCast] at ho22; rw [← Ny144.out] at ho22))
         replace HO_0 := am (Kd.V_elder' (vq HO_0.out) (Kd.R_base ho22) hb); replace HO140 := am (Kd.V_elder' (vq HO140.out) (Kd.R_base ho22) hb); replace HO154 := am (Kd.V_elder' (vq HO154.out) (Kd.R_base ho22) hb); have HO146 := am (Kd.R_lower (Kd.R_newM (M := fun k_ => (w.heap.size ≤ k_)) ho22 (below_size bel) (fun k_ h_ => h_)) (below_size bel)); replace HB := am (below_step bel hb); clear hb ho22
         refine hK.out _ _ trivial (fun hHeld => ?_)
         clear hK K
         refine norm_ (a' := ?_) ?_ ?_
         rotate_left
         ·show Act.put _ (some 39) _ = _
          simp only [Act.put, List.setIfInBounds_toArray, List.set_cons_zero, List.set_cons_succ, i64_w, i32_w]
          rfl
         refine on1 0 33 (fun K hK => ?_)
         refine Kd.R_lit_step Kd.string _ 9 ?hg (N := 33) ?hd (xs := ([] : List ByteArray)) (inner := []) (ok := fun _ => True) (okp := fun _ => True) ?hr ?hp (fun _ hk => hk) trivial (Below.refl _ _) (Nat.le_refl _) (by simp) ?_; (case hd => rfl); (case hg => rfl); (case hr => first | (go_simp; done) | (go_simp; rfl)); (case hp => exact (Reps.none _ _))
         intro v134 w23 ho24 hb hg_ hnew_; clear hg_ hnew_
         (first | rw [← Ny133.out] at ho24 | (simp only [Int.reduceToNat] at ho24; rw [← Ny133.out] at ho24) | (simp only [Int.toNat_natCast] at ho24; rw [← Ny133.out] at ho24))
         replace HO_0 := am (Kd.V_elder' (vq HO_0.out) (Kd.R_base ho24) hb); replace HO140 := am (Kd.V_elder' (vq HO140.out) (Kd.R_base ho24) hb); replace HO154 := am (Kd.V_elder' (vq HO154.out) (Kd.R_base ho24) hb); have HO135 := am (Kd.R_lower (Kd.R_new' (Kd.R_newM (M := fun k_ => (w.heap.size ≤ k_)) ho24 (below_size bel) (fun k_ h_ => h_)) (Kd.R_lt (rq HO146.out))) (below_size bel)); replace HO146 := am (Kd.R_elder' (rq HO146.out) (Kd.R_base ho24) hb); replace HB := am (below_step bel hb); clear hb ho24
         refine hK.out _ _ trivial (fun hHeld => ?_)
         clear hK K
         refine norm_ (a' := ?_) ?_ ?_
         rotate_left
         ·show Act.put _ (some 33) _ = _
          simp only [Act.put, List.setIfInBounds_toArray, List.set_cons_zero, List.set_cons_succ, i64_w, i32_w]
          rfl
         refine on1 4 37 (fun K hK => ?_)
         refine Kd.R_append_rows_step Kd.string (w0 := w) w.heap.size (by rfl) (.tmp 33) (.tmp 36) 49 9 (.string ⟨#[]⟩) 16 rfl Tryz.underlying49 info9 rfl (by decide) (by omega) v134 y133 y136 _ _ _ (fun k_ => (w.heap.size ≤ k_) ∧ some k_ ≠ (v145 : Value).ownBlock) (fun _ => False) rfl rfl ?aO ?aR (fun _ _ h => h) (fun _ h => h.elim) ?aF ?aB ?aS ?aL ?_
         (case aR => exact cq (Kd.V_reads' HO140.out).2.2); (case aB => exact bel); (case aF => exact (fun k_ hk => ⟨(Nat.le_trans (below_size bel) hk), Kd.fresh' (Kd.R_lt (rq HO146.out)) k_ hk⟩)); (case aO => exact (rq (Kd.R_mono HO135.out (fun _ hk => ⟨hk.1.1, hk.2⟩)))); (case aS => exact (below_size bel)); (case aL => have := LMc13.out; omega); intro v142 w25 ho hb hg hat; rw [← Ny141.out] at ho; replace HO_0 := am (Kd.V_afterv (ok := (fun k_ => (P0_ k_ ∨ w.heap.size ≤ k_) ∧ some k_ ≠ (v145 : Value).ownBlock)) (vq HO_0.out) hg hat); replace HO140 := am (Kd.V_afterv (ok := (fun k_ => (P0_ k_ ∨ w.heap.size ≤ k_) ∧ some k_ ≠ (v145 : Value).ownBlock)) (vq HO140.out) hg hat); replace HO154 := am (Kd.V_afterv (ok := (fun k_ => (P0_ k_ ∨ w.heap.size ≤ k_) ∧ some k_ ≠ (v145 : Value).ownBlock)) (vq HO154.out) hg hat); replace HO146 := am (Kd.R_after (ok := (fun k_ => (w.heap.size ≤ k_))) (rq (Kd.R_mono HO146.out (fun _ hk => ⟨hk.1.1, hk.2⟩))) hg hat); replace HB := am (hb); have HO143 := am (ho); clear HO135; clear ho hb hg hat
         refine hK.out _ _ trivial (fun hHeld => ?_)
         clear hK K
         refine norm_ (a' := ?_) ?_ ?_
         rotate_left
         ·show Act.put _ (some 37) _ = _
          simp only [Act.put, List.setIfInBounds_toArray, List.set_cons_zero, List.set_cons_succ, i64_w, i32_w]
          rfl
         exact norm_ b36_ (hCont (v134, v142, v145) _ ⟨(vq (Kd.V_mono HO140.out (fun _ hk => ⟨hk.1.1, ⟨hk.2, hk.1.2⟩⟩))), (rq HO143.out), (rq HO146.out), (vq (Kd.V_mono HO154.out (fun _ hk => ⟨hk.1.1, ⟨hk.2, hk.1.2⟩⟩))), (vq (Kd.V_mono HO_0.out (fun _ hk => ⟨hk.1.1, ⟨hk.2, hk.1.2⟩⟩))), bel⟩)
       rintro ⟨v134, v142, v145⟩ w26 ⟨h0_, h1_, h2_, h3_, h4_, h5_⟩
       have n0_ : Aside0 (Kd.V Kd.string 9 w26 w.heap.size (fun k_ => (P0_ k_ ∨ w.heap.size ≤ k_) ∧ some k_ ≠ (v142 : Value).ownBlock ∧ some k_ ≠ (v145 : Value).ownBlock) (.slice A0 y136.length c0) y136) := ⟨h0_⟩
       have n1_ : Aside0 (Kd.R Kd.string 9 w26 w.heap.size (fun k_ => (w.heap.size ≤ k_) ∧ some k_ ≠ (v145 : Value).ownBlock) v142 y141) := ⟨h1_⟩
       have n2_ : Aside0 (Kd.R Kd.string 9 w26 w.heap.size (fun k_ => (w.heap.size ≤ k_) ∧ some k_ ≠ (v142 : Value).ownBlock) v145 y144) := ⟨h2_⟩
       have n3_ : Aside0 (Kd.V Kd.string 9 w26 w.heap.size (fun k_ => (P0_ k_ ∨ w.heap.size ≤ k_) ∧ some k_ ≠ (v142 : Value).ownBlock ∧ some k_ ≠ (v145 : Value).ownBlock) (.slice A20 y150.length c20) y150) := ⟨h3_⟩
       have n4_ : Aside0 (Kd.V Kd.string 9 w26 w.heap.size (fun k_ => (P0_ k_ ∨ w.heap.size ≤ k_) ∧ some k_ ≠ (v142 : Value).ownBlock ∧ some k_ ≠ (v145 : Value).ownBlock) (.slice A0 l0.length c0) l0) := ⟨h4_⟩
       have n5_ : Aside0 (Below w.heap.size w w26) := ⟨h5_⟩
       clear HO_0; clear HB; clear h0_ h1_ h2_ h3_ h4_ h5_; have HO140 := n0_; have HO143 := n1_; have HO146 := n2_; have HO154 := n3_; have HO_0 := n4_; have HB := n5_; clear n0_ n1_ n2_ n3_ n4_ n5_; have hHeld := trivial; obtain ⟨Ao28, co28, eo28⟩ := Kd.R_slice HO146.out
       (first | subst eo28 | (injection eo28 with f1_ f2_ f3_; have f4_ := f1_.symm; have f5_ := f3_.symm; clear f1_ f2_ f3_; subst f4_; subst f5_))
       refine norm_ (a' := ?_) ?_ ?_
       rotate_left
       ·simp only [putAll, Act.put, List.setIfInBounds_toArray, List.set_cons_zero, List.set_cons_succ]
        rfl
       refine on1 7 40 (fun K hK => ?_)
       refine Kd.R_append_rows_step Kd.string (w0 := w) w.heap.size (by rfl) (.tmp 37) (.tmp 39) 49 9 (.string ⟨#[]⟩) 16 rfl Tryz.underlying49 info9 rfl (by decide) (by omega) v142 y141 y144 _ _ _ (fun k_ => (w.heap.size ≤ k_) ∧ some k_ ≠ (.slice Ao28 y144.length co28 : Value).ownBlock) (fun _ => False) rfl rfl ?aO ?aR (fun _ _ h => h) (fun _ h => h.elim) ?aF ?aB ?aS ?aL ?_
       (case aR => exact cq (Kd.R_reads' HO146.out).2.2); (case aB => exact bel); (case aF => exact (fun k_ hk => ⟨(Nat.le_trans (below_size bel) hk), Kd.fresh' (Kd.R_lt (rq HO146.out)) k_ hk⟩)); (case aO => exact (rq HO143.out)); (case aS => exact (below_size bel)); (case aL => have := LMc14.out; omega); intro v148 w27 ho hb hg hat; rw [← Ny147.out] at ho; replace HO_0 := am (Kd.V_afterv (ok := (fun k_ => (P0_ k_ ∨ w.heap.size ≤ k_) ∧ some k_ ≠ (.slice Ao28 y144.length co28 : Value).ownBlock)) (vq (Kd.V_mono HO_0.out (fun _ hk => ⟨⟨hk.1, hk.2.2⟩, hk.2.1⟩))) hg hat); replace HO140 := am (Kd.V_afterv (ok := (fun k_ => (P0_ k_ ∨ w.heap.size ≤ k_) ∧ some k_ ≠ (.slice Ao28 y144.length co28 : Value).ownBlock)) (vq (Kd.V_mono HO140.out (fun _ hk => ⟨⟨hk.1, hk.2.2⟩, hk.2.1⟩))) hg hat); replace HO154 := am (Kd.V_afterv (ok := (fun k_ => (P0_ k_ ∨ w.heap.size ≤ k_) ∧ some k_ ≠ (.slice Ao28 y144.length co28 : Value).ownBlock)) (vq (Kd.V_mono HO154.out (fun _ hk => ⟨⟨hk.1, hk.2.2⟩, hk.2.1⟩))) hg hat); replace HO146 := am (Kd.R_after (ok := (fun k_ => (w.heap.size ≤ k_))) (rq HO146.out) hg hat); replace HB := am (hb); have HO149 := am (ho); clear HO143; clear ho hb hg hat
       refine hK.out _ _ trivial (fun hHeld => ?_)
       clear hK K
       refine norm_ (a' := ?_) ?_ ?_
       rotate_left
       ·show Act.put _ (some 40) _ = _
        simp only [Act.put, List.setIfInBounds_toArray, List.set_cons_zero, List.set_cons_succ, i64_w, i32_w]
        rfl
       refine on1 11 44 (fun K hK => ?_)
       refine Kd.R_append_rows_step Kd.string (w0 := w) w.heap.size (by rfl) (.tmp 40) (.tmp 43) 49 9 (.string ⟨#[]⟩) 16 rfl Tryz.underlying49 info9 rfl (by decide) (by omega) v148 y147 y150 _ _ _ (fun k_ => (w.heap.size ≤ k_) ∧ some k_ ≠ (.slice Ao28 y144.length co28 : Value).ownBlock) (fun _ => False) rfl rfl ?aO ?aR (fun _ _ h => h) (fun _ h => h.elim) ?aF ?aB ?aS ?aL ?_
       (case aR => exact cq (Kd.V_reads' HO154.out).2.2); (case aB => exact bel); (case aF => exact (fun k_ hk => ⟨(Nat.le_trans (below_size bel) hk), Kd.fresh' (Kd.R_lt (rq HO146.out)) k_ hk⟩)); (case aO => exact (rq HO149.out)); (case aS => exact (below_size bel)); (case aL => have := LMc17.out; omega); intro v156 w29 ho hb hg hat; rw [← Ny155.out] at ho; replace HO_0 := am (Kd.V_afterv (ok := (fun k_ => (P0_ k_ ∨ w.heap.size ≤ k_) ∧ some k_ ≠ (.slice Ao28 y144.length co28 : Value).ownBlock)) (vq HO_0.out) hg hat); replace HO140 := am (Kd.V_afterv (ok := (fun k_ => (P0_ k_ ∨ w.heap.size ≤ k_) ∧ some k_ ≠ (.slice Ao28 y144.length co28 : Value).ownBlock)) (vq HO140.out) hg hat); replace HO154 := am (Kd.V_afterv (ok := (fun k_ => (P0_ k_ ∨ w.heap.size ≤ k_) ∧ some k_ ≠ (.slice Ao28 y144.length co28 : Value).ownBlock)) (vq HO154.out) hg hat); replace HO146 := am (Kd.R_after (ok := (fun k_ => (w.heap.size ≤ k_))) (rq HO146.out) hg hat); replace HB := am (hb); have HO157 := am (ho); clear HO149; clear ho hb hg hat
       refine hK.out _ _ trivial (fun hHeld => ?_)
       clear hK K
       refine norm_ (a' := ?_) ?_ ?_
       rotate_left
       ·show Act.put _ (some 44) _ = _
        simp only [Act.put, List.setIfInBounds_toArray, List.set_cons_zero, List.set_cons_succ, i64_w, i32_w]
        rfl
       refine pu 12 4 ?_
       refine done_ (done_of HT_.out (by kernel_rfl)) ?_
       try go_wp2
       go_ret
       exact ⟨_, eq_, Kd.V_mono (Kd.R_V (rq (Kd.R_mono HO157.out (fun _ hk => hk.1)))) (fun k_ hk => by first | exact ⟨(.inr (hk.1)), hk.2⟩ | exact (.inr (hk))), bel⟩
-- shrunk

/-! ### spec_l2Has: function 94 -/
def spec_l2Has.l0 : Nat → ByteArray → ByteArray → Int → Option (Bool)
 | 0, _, _, _ => none
 | k + 1, x0, x1, x5 => if x5 < (x0.size : Int) then (if 0 ≤ x5 then (if x5 ≤ (wrap64 (x5 + 1)) then (if (wrap64 (x5 + 1)) ≤ (x0.size : Int) then (if (x0.extract (x5 : Int).toNat ((wrap64 (x5 + 1)) : Int).toNat).toList = x1.toList then (some true) else (spec_l2Has.l0 k x0 x1 (wrap64 (x5 + 1)))) else (none)) else (none)) else (none)) else (some false)
def spec_l2Has.f (k : Nat) (a0 : ByteArray) (a1 : ByteArray) : Option (Bool) := spec_l2Has.l0 k a0 a1 0
theorem spec_l2Has.calls (k : Nat) (a0 : ByteArray) (a1 : ByteArray) (r : Bool) (w : World) (h : spec_l2Has.f k a0 a1 = some r) :
  Calls Tryz.prog 94 #[.string a0, .string a1] w fun e w' => e = .returned (.bool r) ∧ Drawn0 w w' := by
 have H : (spec_l2Has.l0 k a0 a1 0) = some r := h
 clear h
 have H' := am H
 clear H; go_enter Tryz.func94, Tryz.ntmps94; go_wp2
 go_loopg [5] k (fun kq v5 w' => ∃ (x5_1 : Int), v5 = .int .i64 x5_1 ∧ Aside0 (spec_l2Has.l0 kq a0 a1 x5_1 = some r) ∧ Aside0 (kq ≤ k) ∧ Drawn0 w w')
 case atStart => exact ⟨(0), sq, H', ⟨Nat.le_refl _⟩, dr⟩
 case round =>
  clear H'; (try clear p2); obtain ⟨x5_1, rfl, HA, HK1, ⟨m1, rfl⟩⟩ := hrel
  cases gk with
  | zero => exact absurd HA.out (by simp [spec_l2Has.l0])
  | succ k1 =>
   have H := HA.out; clear HA
   simp only [spec_l2Has.l0] at H
   by_cases c3 : x5_1 < (a0.size : Int)
   ·rw [if_pos c3] at H; have c3b0 := decide_eq_true c3; clear c3
    replace H := ip H; obtain ⟨c4, H⟩ := H; have c4b0 := eq_true c4
    have c4b1 : decide (0 ≤ x5_1) = true := decide_eq_true c4
    clear c4
    replace H := ip H; obtain ⟨c5, H⟩ := H; have c5b0 := eq_true c5
    have c5b1 : decide (x5_1 ≤ (wrap64 (x5_1 + 1))) = true := decide_eq_true c5
    replace H := ip H; obtain ⟨c6, H⟩ := H; have c6b0 := eq_true c6
    have c6b1 : decide ((wrap64 (x5_1 + 1)) ≤ (a0.size : Int)) = true := decide_eq_true c6
    by_cases c7 : (a0.extract (x5_1 : Int).toNat ((wrap64 (x5_1 + 1)) : Int).toNat).toList = a1.toList
    ·rw [if_pos c7] at H
     have c7b0 : ((a0.extract (x5_1 : Int).toNat ((wrap64 (x5_1 + 1)) : Int).toNat).toList == a1.toList) = true := beq_iff_eq.mpr c7
     have c7b1 : ((a0.extract (x5_1 : Int).toNat ((wrap64 (x5_1 + 1)) : Int).toNat).toList != a1.toList) = false := bne_eq_false_iff_eq.mpr c7
     clear c7; obtain rfl := Option.some.inj H; go_wp2; go_ret
     exact ⟨sq, dr⟩
    rw [if_neg c7] at H
    have c7b0 : ((a0.extract (x5_1 : Int).toNat ((wrap64 (x5_1 + 1)) : Int).toNat).toList == a1.toList) = false := beq_eq_false_iff_ne.mpr c7
    have c7b1 : ((a0.extract (x5_1 : Int).toNat ((wrap64 (x5_1 + 1)) : Int).toNat).toList != a1.toList) = true := bne_iff_ne.mpr c7
    have H' := am H
    clear H; go_wp2
    go_roundg k1
    case measure => have := HK1.out; omega
    case rel => exact ⟨(wrap64 (x5_1 + 1)), sq, H', ⟨b14_⟩, dr⟩
   rw [if_neg c3] at H; have c3b0 := decide_eq_false c3; clear c3; obtain rfl := Option.some.inj H; go_wp2; go_ret
   exact ⟨sq, dr⟩

/-! ### spec_l2Do: function 95 -/
def spec_l2Do.f (k : Nat) (a0_0 : ByteArray) (a0_1 : Bool) (a0_2 : ByteArray) (a0_3 : ByteArray) (a0_4 : ByteArray) (a1 : ByteArray) : Option (ByteArray × Bool) := if a0_1 = true then ((spec_l2Begins.f a1 a0_4).bind fun t159 => (if t159 = true then (if 0 ≤ (a0_2.size : Int) then (if (a0_2.size : Int) ≤ (a1.size : Int) then (if a0_3.size + (a1.extract a0_2.size a1.size).size ≤ 9223372036854775807 then ((spec_l1Word.f k (a0_3 ++ (a1.extract a0_2.size a1.size))).bind fun t160 => (some (a0_3 ++ (a1.extract a0_2.size a1.size), t160))) else (none)) else (none)) else (none)) else (some ((⟨#[]⟩ : ByteArray), false)))) else ((spec_l2Ends.f a1 a0_4).bind fun t161 => (if t161 = true then (if 0 ≤ (wrap64 ((a1.size : Int) - (a0_2.size : Int))) then (if (wrap64 ((a1.size : Int) - (a0_2.size : Int))) ≤ (a1.size : Int) then (if (a1.extract 0 ((wrap64 ((a1.size : Int) - (a0_2.size : Int))) : Int).toNat).size + a0_3.size ≤ 9223372036854775807 then ((spec_l1Word.f k ((a1.extract 0 ((wrap64 ((a1.size : Int) - (a0_2.size : Int))) : Int).toNat) ++ a0_3)).bind fun t162 => (some ((a1.extract 0 ((wrap64 ((a1.size : Int) - (a0_2.size : Int))) : Int).toNat) ++ a0_3, t162))) else (none)) else (none)) else (none)) else (some ((⟨#[]⟩ : ByteArray), false))))
theorem spec_l2Do.calls (k : Nat) (a0_0 : ByteArray) (a0_1 : Bool) (a0_2 : ByteArray) (a0_3 : ByteArray) (a0_4 : ByteArray) (a1 : ByteArray) (r1 : ByteArray) (r2 : Bool) (w : World) (h : spec_l2Do.f k a0_0 a0_1 a0_2 a0_3 a0_4 a1 = some (r1, r2)) :
  Calls Tryz.prog 95 #[.agg #[.string a0_0, .bool a0_1, .string a0_2, .string a0_3, .string a0_4], .string a1] w fun e w' => e = .returned (.tuple #[.string r1, .bool r2]) ∧ Below w.heap.size w w' := by
 have hu82 := Tryz.underlying82; have HB := am (Below.refl w.heap.size w)
 have H : (if a0_1 = true then ((spec_l2Begins.f a1 a0_4).bind fun t159 => (if t159 = true then (if 0 ≤ (a0_2.size : Int) then (if (a0_2.size : Int) ≤ (a1.size : Int) then (if a0_3.size + (a1.extract a0_2.size a1.size).size ≤ 9223372036854775807 then ((spec_l1Word.f k (a0_3 ++ (a1.extract a0_2.size a1.size))).bind fun t160 => (some (a0_3 ++ (a1.extract a0_2.size a1.size), t160))) else (none)) else (none)) else (none)) else (some ((⟨#[]⟩ : ByteArray), false)))) else ((spec_l2Ends.f a1 a0_4).bind fun t161 => (if t161 = true then (if 0 ≤ (wrap64 ((a1.size : Int) - (a0_2.size : Int))) then (if (wrap64 ((a1.size : Int) - (a0_2.size : Int))) ≤ (a1.size : Int) then (if (a1.extract 0 ((wrap64 ((a1.size : Int) - (a0_2.size : Int))) : Int).toNat).size + a0_3.size ≤ 9223372036854775807 then ((spec_l1Word.f k ((a1.extract 0 ((wrap64 ((a1.size : Int) - (a0_2.size : Int))) : Int).toNat) ++ a0_3)).bind fun t162 => (some ((a1.extract 0 ((wrap64 ((a1.size : Int) - (a0_2.size : Int))) : Int).toNat) ++ a0_3, t162))) else (none)) else (none)) else (none)) else (some ((⟨#[]⟩ : ByteArray), false))))) = some (r1, r2) := h
 clear h
 by_cases c3 : a0_1 = true
 ·subst c3
  have H1 : ((spec_l2Begins.f a1 a0_4).bind fun t159 => (if t159 = true then (if 0 ≤ (a0_2.size : Int) then (if (a0_2.size : Int) ≤ (a1.size : Int) then (if a0_3.size + (a1.extract a0_2.size a1.size).size ≤ 9223372036854775807 then ((spec_l1Word.f k (a0_3 ++ (a1.extract a0_2.size a1.size))).bind fun t160 => (some (a0_3 ++ (a1.extract a0_2.size a1.size), t160))) else (none)) else (none)) else (none)) else (some ((⟨#[]⟩ : ByteArray), false)))) = some (r1, r2) := b8_
  replace H := H1; clear H1
  replace H := bs H; obtain ⟨t159, A40, H⟩ := H; replace H : (if t159 = true then (if 0 ≤ (a0_2.size : Int) then (if (a0_2.size : Int) ≤ (a1.size : Int) then (if a0_3.size + (a1.extract a0_2.size a1.size).size ≤ 9223372036854775807 then ((spec_l1Word.f k (a0_3 ++ (a1.extract a0_2.size a1.size))).bind fun t160 => (some (a0_3 ++ (a1.extract a0_2.size a1.size), t160))) else (none)) else (none)) else (none)) else (some ((⟨#[]⟩ : ByteArray), false))) = some (r1, r2) := H; have A4 := Aside0.mk A40; clear A40
  by_cases c5 : t159 = true
  ·subst c5
   have H1 : (if 0 ≤ (a0_2.size : Int) then (if (a0_2.size : Int) ≤ (a1.size : Int) then (if a0_3.size + (a1.extract a0_2.size a1.size).size ≤ 9223372036854775807 then ((spec_l1Word.f k (a0_3 ++ (a1.extract a0_2.size a1.size))).bind fun t160 => (some (a0_3 ++ (a1.extract a0_2.size a1.size), t160))) else (none)) else (none)) else (none)) = some (r1, r2) := b8_
   replace H := H1; clear H1
   replace H := ip H; obtain ⟨c6, H⟩ := H; have c6b0 := eq_true c6
   have c6b1 : decide (0 ≤ (a0_2.size : Int)) = true := decide_eq_true c6
   clear c6
   replace H := ip H; obtain ⟨c7, H⟩ := H; have c7b0 := eq_true c7
   have c7b9 : (a0_2.size ≤ a1.size) = True := eq_true (by omega)
   have c7b6 : decide (a0_2.size ≤ a1.size) = true := decide_eq_true (by omega)
   have c7b1 : decide ((a0_2.size : Int) ≤ (a1.size : Int)) = true := decide_eq_true c7
   clear c7
   replace H := ip H; obtain ⟨c8, H⟩ := H; have c8b0 := eq_true c8; have c8b5 := c8
   try simp at c8b5
   try have c8b4 := eq_false (Nat.not_lt.2 c8b5)
   try have c8b3 : (9223372036854775807 < a0_3.size + (a1.size - a0_2.size)) = False := by
         have h_ := c8
         simp only [ByteArray.size_append, ByteArray.size_extract] at h_
         exact eq_false (by omega)
   have c8b1 : decide (a0_3.size + (a1.extract a0_2.size a1.size).size ≤ 9223372036854775807) = true := decide_eq_true c8
   try have c8b2 : (9223372036854775807 < a0_3.size + (a1.extract a0_2.size a1.size).size) = False := eq_false (Nat.not_lt.2 c8)
   replace H := bs H; obtain ⟨t160, A90, H⟩ := H; replace H : (some (a0_3 ++ (a1.extract a0_2.size a1.size), t160)) = some (r1, r2) := H; have A9 := Aside0.mk A90; clear A90
   simp only [Option.some.injEq, Prod.mk.injEq] at H
   obtain ⟨rfl, rfl⟩ := H; go_enter Tryz.func95, Tryz.ntmps95
   go_wp2_with (first | ((with_reducible refine gate_dst (N := 2) rfl ?_); refine bx 2 (cs := #[.string a0_0, .bool true, .string a0_2, .string a0_3, .string a0_4]) (t := 82) ?_; intro gb158 hg w10 hbox hb; have BK158 := am (hbox); have GW158 := am ((b0_ : w.heap.size ≤ gb158)); have GE158 := am ((b0_ : w.heap.size ≤ gb158)); replace HB := am (below_step bel hb); clear hb hbox hg; have hcz11_0 := bc BK158.out 0; have hcz11_1 := bc BK158.out 1; have hcz11_2 := bc BK158.out 2; have hcz11_3 := bc BK158.out 3; have hcz11_4 := bc BK158.out 4; have hfz11_0 := bf BK158.out 0; have hfz11_1 := bf BK158.out 1; have hfz11_2 := bf BK158.out 2; have hfz11_3 := bf BK158.out 3; have hfz11_4 := bf BK158.out 4) | (go_at_call 92; (with_reducible refine (spec_l2Begins.calls a1 a0_4 true _ A4.out).mono ?_); rintro e w' ⟨rfl, ⟨nd, rfl⟩⟩; (try first | exact ⟨rfl, _, World.drewN_drewN _ _ _⟩ | exact ⟨rfl, _, Eq.trans (World.drewN_drewN _ _ _) (congrArg (World.drewN _) (Nat.add_assoc _ _ _))⟩)) | (go_at_call 71; (with_reducible refine (spec_l1Word.calls k (a0_3 ++ (a1.extract a0_2.size a1.size)) t160 _ A9.out).mono ?_); rintro e w' ⟨rfl, ⟨nd, rfl⟩⟩; (try first | exact ⟨rfl, _, World.drewN_drewN _ _ _⟩ | exact ⟨rfl, _, Eq.trans (World.drewN_drewN _ _ _) (congrArg (World.drewN _) (Nat.add_assoc _ _ _))⟩)))
   repeat (go_quiet (first | ((with_reducible refine gate_dst (N := 2) rfl ?_); refine bx 2 (cs := #[.string a0_0, .bool true, .string a0_2, .string a0_3, .string a0_4]) (t := 82) ?_; intro gb158 hg w10 hbox hb; have BK158 := am (hbox); have GW158 := am ((b0_ : w.heap.size ≤ gb158)); have GE158 := am ((b0_ : w.heap.size ≤ gb158)); replace HB := am (below_step bel hb); clear hb hbox hg; have hcz11_0 := bc BK158.out 0; have hcz11_1 := bc BK158.out 1; have hcz11_2 := bc BK158.out 2; have hcz11_3 := bc BK158.out 3; have hcz11_4 := bc BK158.out 4; have hfz11_0 := bf BK158.out 0; have hfz11_1 := bf BK158.out 1; have hfz11_2 := bf BK158.out 2; have hfz11_3 := bf BK158.out 3; have hfz11_4 := bf BK158.out 4) | (go_at_call 92; (with_reducible refine (spec_l2Begins.calls a1 a0_4 true _ A4.out).mono ?_); rintro e w' ⟨rfl, ⟨nd, rfl⟩⟩; (try first | exact ⟨rfl, _, World.drewN_drewN _ _ _⟩ | exact ⟨rfl, _, Eq.trans (World.drewN_drewN _ _ _) (congrArg (World.drewN _) (Nat.add_assoc _ _ _))⟩)) | (go_at_call 71; (with_reducible refine (spec_l1Word.calls k (a0_3 ++ (a1.extract a0_2.size a1.size)) t160 _ A9.out).mono ?_); rintro e w' ⟨rfl, ⟨nd, rfl⟩⟩; (try first | exact ⟨rfl, _, World.drewN_drewN _ _ _⟩ | exact ⟨rfl, _, Eq.trans (World.drewN_drewN _ _ _) (congrArg (World.drewN _) (Nat.add_assoc _ _ _))⟩))); try go_wp2_with (first | ((with_reducible refine gate_dst (N := 2) rfl ?_); refine bx 2 (cs := #[.string a0_0, .bool true, .string a0_2, .string a0_3, .string a0_4]) (t := 82) ?_; intro gb158 hg w10 hbox hb; have BK158 := am (hbox); have GW158 := am ((b0_ : w.heap.size ≤ gb158)); have GE158 := am ((b0_ : w.heap.size ≤ gb158)); replace HB := am (below_step bel hb); clear hb hbox hg; have hcz11_0 := bc BK158.out 0; have hcz11_1 := bc BK158.out 1; have hcz11_2 := bc BK158.out 2; have hcz11_3 := bc BK158.out 3; have hcz11_4 := bc BK158.out 4; have hfz11_0 := bf BK158.out 0; have hfz11_1 := bf BK158.out 1; have hfz11_2 := bf BK158.out 2; have hfz11_3 := bf BK158.out 3; have hfz11_4 := bf BK158.out 4) | (go_at_call 92; (with_reducible refine (spec_l2Begins.calls a1 a0_4 true _ A4.out).mono ?_); rintro e w' ⟨rfl, ⟨nd, rfl⟩⟩; (try first | exact ⟨rfl, _, World.drewN_drewN _ _ _⟩ | exact ⟨rfl, _, Eq.trans (World.drewN_drewN _ _ _) (congrArg (World.drewN _) (Nat.add_assoc _ _ _))⟩)) | (go_at_call 71; (with_reducible refine (spec_l1Word.calls k (a0_3 ++ (a1.extract a0_2.size a1.size)) t160 _ A9.out).mono ?_); rintro e w' ⟨rfl, ⟨nd, rfl⟩⟩; (try first | exact ⟨rfl, _, World.drewN_drewN _ _ _⟩ | exact ⟨rfl, _, Eq.trans (World.drewN_drewN _ _ _) (congrArg (World.drewN _) (Nat.add_assoc _ _ _))⟩))))
   go_ret2
   exact ⟨eq_, bel1 GE158.out⟩
  replace c5 := Bool.eq_false_iff.mpr c5; subst c5
  have H1 : (some ((⟨#[]⟩ : ByteArray), false)) = some (r1, r2) := b2_
  replace H := H1; clear H1
  simp only [Option.some.injEq, Prod.mk.injEq] at H
  obtain ⟨rfl, rfl⟩ := H; go_enter Tryz.func95, Tryz.ntmps95
  go_wp2_with (first | ((with_reducible refine gate_dst (N := 2) rfl ?_); refine bx 2 (cs := #[.string a0_0, .bool true, .string a0_2, .string a0_3, .string a0_4]) (t := 82) ?_; intro gb158 hg w12 hbox hb; have BK158 := am (hbox); have GW158 := am ((b0_ : w.heap.size ≤ gb158)); have GE158 := am ((b0_ : w.heap.size ≤ gb158)); replace HB := am (below_step bel hb); clear hb hbox hg; have hcz13_0 := bc BK158.out 0; have hcz13_1 := bc BK158.out 1; have hcz13_2 := bc BK158.out 2; have hcz13_3 := bc BK158.out 3; have hcz13_4 := bc BK158.out 4; have hfz13_0 := bf BK158.out 0; have hfz13_1 := bf BK158.out 1; have hfz13_2 := bf BK158.out 2; have hfz13_3 := bf BK158.out 3; have hfz13_4 := bf BK158.out 4) | (go_at_call 92; (with_reducible refine (spec_l2Begins.calls a1 a0_4 false _ A4.out).mono ?_); rintro e w' ⟨rfl, ⟨nd, rfl⟩⟩; (try first | exact ⟨rfl, _, World.drewN_drewN _ _ _⟩ | exact ⟨rfl, _, Eq.trans (World.drewN_drewN _ _ _) (congrArg (World.drewN _) (Nat.add_assoc _ _ _))⟩)))
  repeat (go_quiet (first | ((with_reducible refine gate_dst (N := 2) rfl ?_); refine bx 2 (cs := #[.string a0_0, .bool true, .string a0_2, .string a0_3, .string a0_4]) (t := 82) ?_; intro gb158 hg w12 hbox hb; have BK158 := am (hbox); have GW158 := am ((b0_ : w.heap.size ≤ gb158)); have GE158 := am ((b0_ : w.heap.size ≤ gb158)); replace HB := am (below_step bel hb); clear hb hbox hg; have hcz13_0 := bc BK158.out 0; have hcz13_1 := bc BK158.out 1; have hcz13_2 := bc BK158.out 2; have hcz13_3 := bc BK158.out 3; have hcz13_4 := bc BK158.out 4; have hfz13_0 := bf BK158.out 0; have hfz13_1 := bf BK158.out 1; have hfz13_2 := bf BK158.out 2; have hfz13_3 := bf BK158.out 3; have hfz13_4 := bf BK158.out 4) | (go_at_call 92; (with_reducible refine (spec_l2Begins.calls a1 a0_4 false _ A4.out).mono ?_); rintro e w' ⟨rfl, ⟨nd, rfl⟩⟩; (try first | exact ⟨rfl, _, World.drewN_drewN _ _ _⟩ | exact ⟨rfl, _, Eq.trans (World.drewN_drewN _ _ _) (congrArg (World.drewN _) (Nat.add_assoc _ _ _))⟩))); try go_wp2_with (first | ((with_reducible refine gate_dst (N := 2) rfl ?_); refine bx 2 (cs := #[.string a0_0, .bool true, .string a0_2, .string a0_3, .string a0_4]) (t := 82) ?_; intro gb158 hg w12 hbox hb; have BK158 := am (hbox); have GW158 := am ((b0_ : w.heap.size ≤ gb158)); have GE158 := am ((b0_ : w.heap.size ≤ gb158)); replace HB := am (below_step bel hb); clear hb hbox hg; have hcz13_0 := bc BK158.out 0; have hcz13_1 := bc BK158.out 1; have hcz13_2 := bc BK158.out 2; have hcz13_3 := bc BK158.out 3; have hcz13_4 := bc BK158.out 4; have hfz13_0 := bf BK158.out 0; have hfz13_1 := bf BK158.out 1; have hfz13_2 := bf BK158.out 2; have hfz13_3 := bf BK158.out 3; have hfz13_4 := bf BK158.out 4) | (go_at_call 92; (with_reducible refine (spec_l2Begins.calls a1 a0_4 false _ A4.out).mono ?_); rintro e w' ⟨rfl, ⟨nd, rfl⟩⟩; (try first | exact ⟨rfl, _, World.drewN_drewN _ _ _⟩ | exact ⟨rfl, _, Eq.trans (World.drewN_drewN _ _ _) (congrArg (World.drewN _) (Nat.add_assoc _ _ _))⟩))))
  go_ret2
  exact ⟨eq_, bel1 GE158.out⟩
 replace c3 := Bool.eq_false_iff.mpr c3; subst c3
 have H1 : ((spec_l2Ends.f a1 a0_4).bind fun t161 => (if t161 = true then (if 0 ≤ (wrap64 ((a1.size : Int) - (a0_2.size : Int))) then (if (wrap64 ((a1.size : Int) - (a0_2.size : Int))) ≤ (a1.size : Int) then (if (a1.extract 0 ((wrap64 ((a1.size : Int) - (a0_2.size : Int))) : Int).toNat).size + a0_3.size ≤ 9223372036854775807 then ((spec_l1Word.f k ((a1.extract 0 ((wrap64 ((a1.size : Int) - (a0_2.size : Int))) : Int).toNat) ++ a0_3)).bind fun t162 => (some ((a1.extract 0 ((wrap64 ((a1.size : Int) - (a0_2.size : Int))) : Int).toNat) ++ a0_3, t162))) else (none)) else (none)) else (none)) else (some ((⟨#[]⟩ : ByteArray), false)))) = some (r1, r2) := b2_
 replace H := H1; clear H1
 replace H := bs H; obtain ⟨t161, A140, H⟩ := H; replace H : (if t161 = true then (if 0 ≤ (wrap64 ((a1.size : Int) - (a0_2.size : Int))) then (if (wrap64 ((a1.size : Int) - (a0_2.size : Int))) ≤ (a1.size : Int) then (if (a1.extract 0 ((wrap64 ((a1.size : Int) - (a0_2.size : Int))) : Int).toNat).size + a0_3.size ≤ 9223372036854775807 then ((spec_l1Word.f k ((a1.extract 0 ((wrap64 ((a1.size : Int) - (a0_2.size : Int))) : Int).toNat) ++ a0_3)).bind fun t162 => (some ((a1.extract 0 ((wrap64 ((a1.size : Int) - (a0_2.size : Int))) : Int).toNat) ++ a0_3, t162))) else (none)) else (none)) else (none)) else (some ((⟨#[]⟩ : ByteArray), false))) = some (r1, r2) := H; have A14 := Aside0.mk A140; clear A140
 by_cases c15 : t161 = true
 ·subst c15
  have H1 : (if 0 ≤ (wrap64 ((a1.size : Int) - (a0_2.size : Int))) then (if (wrap64 ((a1.size : Int) - (a0_2.size : Int))) ≤ (a1.size : Int) then (if (a1.extract 0 ((wrap64 ((a1.size : Int) - (a0_2.size : Int))) : Int).toNat).size + a0_3.size ≤ 9223372036854775807 then ((spec_l1Word.f k ((a1.extract 0 ((wrap64 ((a1.size : Int) - (a0_2.size : Int))) : Int).toNat) ++ a0_3)).bind fun t162 => (some ((a1.extract 0 ((wrap64 ((a1.size : Int) - (a0_2.size : Int))) : Int).toNat) ++ a0_3, t162))) else (none)) else (none)) else (none)) = some (r1, r2) := b8_
  replace H := H1; clear H1
  obtain ⟨ji16, hji16⟩ : ∃ j_ : Int, (wrap64 ((a1.size : Int) - (a0_2.size : Int))) = j_ := ⟨_, rfl⟩
  replace H : (if 0 ≤ (ji16) then (if (ji16) ≤ (a1.size : Int) then (if (a1.extract 0 ((ji16) : Int).toNat).size + a0_3.size ≤ 9223372036854775807 then ((spec_l1Word.f k ((a1.extract 0 ((ji16) : Int).toNat) ++ a0_3)).bind fun t162 => (some ((a1.extract 0 ((ji16) : Int).toNat) ++ a0_3, t162))) else (none)) else (none)) else (none)) = some (r1, r2) := by first | (rw [hji16] at H; exact H) | (simp only [hji16] at H ⊢; exact H)
  (try rw [hji16] at A14)
  have hji16w : (IntKind.i64.wrap ((a1.size : Int) - (a0_2.size : Int))) = ji16 := (i64_w _).trans hji16
  replace H := ip H; obtain ⟨c17, H⟩ := H; have c17b0 := eq_true c17
  have c17b1 : decide (0 ≤ (ji16)) = true := decide_eq_true c17
  clear c17
  replace H := ip H; obtain ⟨c18, H⟩ := H; have c18b0 := eq_true c18
  have c18b1 : decide ((ji16) ≤ (a1.size : Int)) = true := decide_eq_true c18
  clear c18
  replace H := ip H; obtain ⟨c19, H⟩ := H; have c19b0 := eq_true c19; have c19b5 := c19
  try simp at c19b5
  try have c19b4 := eq_false (Nat.not_lt.2 c19b5)
  try have c19b3 : (9223372036854775807 < ((ji16) : Int).toNat + a0_3.size) = False := by
        have h_ := c19
        simp only [ByteArray.size_append, ByteArray.size_extract] at h_
        have g0_ : ((ji16)) ≤ (a1.size : Int) := of_decide_eq_true ad
        exact eq_false (by omega)
  have c19b1 : decide ((a1.extract 0 ((ji16) : Int).toNat).size + a0_3.size ≤ 9223372036854775807) = true := decide_eq_true c19
  try have c19b2 : (9223372036854775807 < (a1.extract 0 ((ji16) : Int).toNat).size + a0_3.size) = False := eq_false (Nat.not_lt.2 c19)
  replace H := bs H; obtain ⟨t162, A200, H⟩ := H; replace H : (some ((a1.extract 0 ((ji16) : Int).toNat) ++ a0_3, t162)) = some (r1, r2) := H; have A20 := Aside0.mk A200; clear A200
  simp only [Option.some.injEq, Prod.mk.injEq] at H
  obtain ⟨rfl, rfl⟩ := H; go_enter Tryz.func95, Tryz.ntmps95
  go_wp2_with (first | ((with_reducible refine gate_dst (N := 2) rfl ?_); refine bx 2 (cs := #[.string a0_0, .bool false, .string a0_2, .string a0_3, .string a0_4]) (t := 82) ?_; intro gb158 hg w21 hbox hb; have BK158 := am (hbox); have GW158 := am ((b0_ : w.heap.size ≤ gb158)); have GE158 := am ((b0_ : w.heap.size ≤ gb158)); replace HB := am (below_step bel hb); clear hb hbox hg; have hcz22_0 := bc BK158.out 0; have hcz22_1 := bc BK158.out 1; have hcz22_2 := bc BK158.out 2; have hcz22_3 := bc BK158.out 3; have hcz22_4 := bc BK158.out 4; have hfz22_0 := bf BK158.out 0; have hfz22_1 := bf BK158.out 1; have hfz22_2 := bf BK158.out 2; have hfz22_3 := bf BK158.out 3; have hfz22_4 := bf BK158.out 4) | (go_at_call 93; (with_reducible refine (spec_l2Ends.calls a1 a0_4 true _ A14.out).mono ?_); rintro e w' ⟨rfl, ⟨nd, rfl⟩⟩; (try first | exact ⟨rfl, _, World.drewN_drewN _ _ _⟩ | exact ⟨rfl, _, Eq.trans (World.drewN_drewN _ _ _) (congrArg (World.drewN _) (Nat.add_assoc _ _ _))⟩)) | (go_at_call 71; (with_reducible refine (spec_l1Word.calls k ((a1.extract 0 ((ji16) : Int).toNat) ++ a0_3) t162 _ A20.out).mono ?_); rintro e w' ⟨rfl, ⟨nd, rfl⟩⟩; (try first | exact ⟨rfl, _, World.drewN_drewN _ _ _⟩ | exact ⟨rfl, _, Eq.trans (World.drewN_drewN _ _ _) (congrArg (World.drewN _) (Nat.add_assoc _ _ _))⟩)))
  repeat (go_quiet (first | ((with_reducible refine gate_dst (N := 2) rfl ?_); refine bx 2 (cs := #[.string a0_0, .bool false, .string a0_2, .string a0_3, .string a0_4]) (t := 82) ?_; intro gb158 hg w21 hbox hb; have BK158 := am (hbox); have GW158 := am ((b0_ : w.heap.size ≤ gb158)); have GE158 := am ((b0_ : w.heap.size ≤ gb158)); replace HB := am (below_step bel hb); clear hb hbox hg; have hcz22_0 := bc BK158.out 0; have hcz22_1 := bc BK158.out 1; have hcz22_2 := bc BK158.out 2; have hcz22_3 := bc BK158.out 3; have hcz22_4 := bc BK158.out 4; have hfz22_0 := bf BK158.out 0; have hfz22_1 := bf BK158.out 1; have hfz22_2 := bf BK158.out 2; have hfz22_3 := bf BK158.out 3; have hfz22_4 := bf BK158.out 4) | (go_at_call 93; (with_reducible refine (spec_l2Ends.calls a1 a0_4 true _ A14.out).mono ?_); rintro e w' ⟨rfl, ⟨nd, rfl⟩⟩; (try first | exact ⟨rfl, _, World.drewN_drewN _ _ _⟩ | exact ⟨rfl, _, Eq.trans (World.drewN_drewN _ _ _) (congrArg (World.drewN _) (Nat.add_assoc _ _ _))⟩)) | (go_at_call 71; (with_reducible refine (spec_l1Word.calls k ((a1.extract 0 ((ji16) : Int).toNat) ++ a0_3) t162 _ A20.out).mono ?_); rintro e w' ⟨rfl, ⟨nd, rfl⟩⟩; (try first | exact ⟨rfl, _, World.drewN_drewN _ _ _⟩ | exact ⟨rfl, _, Eq.trans (World.drewN_drewN _ _ _) (congrArg (World.drewN _) (Nat.add_assoc _ _ _))⟩))); try go_wp2_with (first | ((with_reducible refine gate_dst (N := 2) rfl ?_); refine bx 2 (cs := #[.string a0_0, .bool false, .string a0_2, .string a0_3, .string a0_4]) (t := 82) ?_; intro gb158 hg w21 hbox hb; have BK158 := am (hbox); have GW158 := am ((b0_ : w.heap.size ≤ gb158)); have GE158 := am ((b0_ : w.heap.size ≤ gb158)); replace HB := am (below_step bel hb); clear hb hbox hg; have hcz22_0 := bc BK158.out 0; have hcz22_1 := bc BK158.out 1; have hcz22_2 := bc BK158.out 2; have hcz22_3 := bc BK158.out 3; have hcz22_4 := bc BK158.out 4; have hfz22_0 := bf BK158.out 0; have hfz22_1 := bf BK158.out 1; have hfz22_2 := bf BK158.out 2; have hfz22_3 := bf BK158.out 3; have hfz22_4 := bf BK158.out 4) | (go_at_call 93; (with_reducible refine (spec_l2Ends.calls a1 a0_4 true _ A14.out).mono ?_); rintro e w' ⟨rfl, ⟨nd, rfl⟩⟩; (try first | exact ⟨rfl, _, World.drewN_drewN _ _ _⟩ | exact ⟨rfl, _, Eq.trans (World.drewN_drewN _ _ _) (congrArg (World.drewN _) (Nat.add_assoc _ _ _))⟩)) | (go_at_call 71; (with_reducible refine (spec_l1Word.calls k ((a1.extract 0 ((ji16) : Int).toNat) ++ a0_3) t162 _ A20.out).mono ?_); rintro e w' ⟨rfl, ⟨nd, rfl⟩⟩; (try first | exact ⟨rfl, _, World.drewN_drewN _ _ _⟩ | exact ⟨rfl, _, Eq.trans (World.drewN_drewN _ _ _) (congrArg (World.drewN _) (Nat.add_assoc _ _ _))⟩))))
  go_ret2
  exact ⟨by first | rfl | (simp [errW_none, errW_some] <;> rfl) | (simp only [← hji16]; first | rfl | (simp [errW_none, errW_some] <;> rfl)) | (simp [*, errW_none, errW_some] <;> rfl), bel1 GE158.out⟩
 replace c15 := Bool.eq_false_iff.mpr c15; subst c15
 have H1 : (some ((⟨#[]⟩ : ByteArray), false)) = some (r1, r2) := b2_
 replace H := H1; clear H1
 simp only [Option.some.injEq, Prod.mk.injEq] at H
 obtain ⟨rfl, rfl⟩ := H; go_enter Tryz.func95, Tryz.ntmps95
 go_wp2_with (first | ((with_reducible refine gate_dst (N := 2) rfl ?_); refine bx 2 (cs := #[.string a0_0, .bool false, .string a0_2, .string a0_3, .string a0_4]) (t := 82) ?_; intro gb158 hg w23 hbox hb; have BK158 := am (hbox); have GW158 := am ((b0_ : w.heap.size ≤ gb158)); have GE158 := am ((b0_ : w.heap.size ≤ gb158)); replace HB := am (below_step bel hb); clear hb hbox hg; have hcz24_0 := bc BK158.out 0; have hcz24_1 := bc BK158.out 1; have hcz24_2 := bc BK158.out 2; have hcz24_3 := bc BK158.out 3; have hcz24_4 := bc BK158.out 4; have hfz24_0 := bf BK158.out 0; have hfz24_1 := bf BK158.out 1; have hfz24_2 := bf BK158.out 2; have hfz24_3 := bf BK158.out 3; have hfz24_4 := bf BK158.out 4) | (go_at_call 93; (with_reducible refine (spec_l2Ends.calls a1 a0_4 false _ A14.out).mono ?_); rintro e w' ⟨rfl, ⟨nd, rfl⟩⟩; (try first | exact ⟨rfl, _, World.drewN_drewN _ _ _⟩ | exact ⟨rfl, _, Eq.trans (World.drewN_drewN _ _ _) (congrArg (World.drewN _) (Nat.add_assoc _ _ _))⟩)))
 repeat (go_quiet (first | ((with_reducible refine gate_dst (N := 2) rfl ?_); refine bx 2 (cs := #[.string a0_0, .bool false, .string a0_2, .string a0_3, .string a0_4]) (t := 82) ?_; intro gb158 hg w23 hbox hb; have BK158 := am (hbox); have GW158 := am ((b0_ : w.heap.size ≤ gb158)); have GE158 := am ((b0_ : w.heap.size ≤ gb158)); replace HB := am (below_step bel hb); clear hb hbox hg; have hcz24_0 := bc BK158.out 0; have hcz24_1 := bc BK158.out 1; have hcz24_2 := bc BK158.out 2; have hcz24_3 := bc BK158.out 3; have hcz24_4 := bc BK158.out 4; have hfz24_0 := bf BK158.out 0; have hfz24_1 := bf BK158.out 1; have hfz24_2 := bf BK158.out 2; have hfz24_3 := bf BK158.out 3; have hfz24_4 := bf BK158.out 4) | (go_at_call 93; (with_reducible refine (spec_l2Ends.calls a1 a0_4 false _ A14.out).mono ?_); rintro e w' ⟨rfl, ⟨nd, rfl⟩⟩; (try first | exact ⟨rfl, _, World.drewN_drewN _ _ _⟩ | exact ⟨rfl, _, Eq.trans (World.drewN_drewN _ _ _) (congrArg (World.drewN _) (Nat.add_assoc _ _ _))⟩))); try go_wp2_with (first | ((with_reducible refine gate_dst (N := 2) rfl ?_); refine bx 2 (cs := #[.string a0_0, .bool false, .string a0_2, .string a0_3, .string a0_4]) (t := 82) ?_; intro gb158 hg w23 hbox hb; have BK158 := am (hbox); have GW158 := am ((b0_ : w.heap.size ≤ gb158)); have GE158 := am ((b0_ : w.heap.size ≤ gb158)); replace HB := am (below_step bel hb); clear hb hbox hg; have hcz24_0 := bc BK158.out 0; have hcz24_1 := bc BK158.out 1; have hcz24_2 := bc BK158.out 2; have hcz24_3 := bc BK158.out 3; have hcz24_4 := bc BK158.out 4; have hfz24_0 := bf BK158.out 0; have hfz24_1 := bf BK158.out 1; have hfz24_2 := bf BK158.out 2; have hfz24_3 := bf BK158.out 3; have hfz24_4 := bf BK158.out 4) | (go_at_call 93; (with_reducible refine (spec_l2Ends.calls a1 a0_4 false _ A14.out).mono ?_); rintro e w' ⟨rfl, ⟨nd, rfl⟩⟩; (try first | exact ⟨rfl, _, World.drewN_drewN _ _ _⟩ | exact ⟨rfl, _, Eq.trans (World.drewN_drewN _ _ _) (congrArg (World.drewN _) (Nat.add_assoc _ _ _))⟩))))
 go_ret2
 exact ⟨eq_, bel1 GE158.out⟩
-- shrunk

/-! ### spec_l2One: function 73 -/
mutual
def spec_l2One.l0 : Nat → List (S82) → ByteArray → Bool → List ByteArray → List ByteArray → Int → Option (List ByteArray)
 | 0, _, _, _, _, _, _ => none
 | k + 1, x0, x1, x2, x3, x9, x10 => if x10 < (x0.length : Int) then (if 0 ≤ x10 then (if (((rd_T82 x0 x10).f1) != x2) = true then (spec_l2One.j1 k x0 x1 x2 x3 x9 x10 true) else ((spec_l2Has.f k x1 ((rd_T82 x0 x10).f0)).bind fun t171 => (spec_l2One.j1 k x0 x1 x2 x3 x9 x10 (!t171)))) else (none)) else (some x9)
def spec_l2One.j1 : Nat → List (S82) → ByteArray → Bool → List ByteArray → List ByteArray → Int → Bool → Option (List ByteArray)
 | 0, _, _, _, _, _, _, _ => none
 | k + 1, x0, x1, x2, x3, x9, x10, x39 => if x39 = true then (spec_l2One.l0 k x0 x1 x2 x3 x9 (wrap64 (x10 + 1))) else (spec_l2One.l1 k x0 x1 x2 x3 x9 x10 0)
def spec_l2One.l1 : Nat → List (S82) → ByteArray → Bool → List ByteArray → List ByteArray → Int → Int → Option (List ByteArray)
 | 0, _, _, _, _, _, _, _ => none
 | k + 1, x0, x1, x2, x3, x9, x10, x11 => if x11 < (x3.length : Int) then (if 0 ≤ x10 then (if x10 < (x0.length : Int) then (if 0 ≤ x11 then ((spec_l2Do.f k ((rd_T82 x0 x10).f0) ((rd_T82 x0 x10).f1) ((rd_T82 x0 x10).f2) ((rd_T82 x0 x10).f3) ((rd_T82 x0 x10).f4) (rdOf ByteArray.empty x3 x11)).bind fun bt174 => (if bt174.2 = true then ((spec_l1Put.f k x9 bt174.1).bind fun t176 => (spec_l2One.l1 k x0 x1 x2 x3 t176 x10 (wrap64 (x11 + 1)))) else (spec_l2One.l1 k x0 x1 x2 x3 x9 x10 (wrap64 (x11 + 1))))) else (none)) else (none)) else (none)) else (spec_l2One.l0 k x0 x1 x2 x3 x9 (wrap64 (x10 + 1)))
end
def spec_l2One.f (k : Nat) (l0 : List (S82)) (a1 : ByteArray) (a2 : Bool) (l3 : List ByteArray) : Option (List ByteArray) := (some (([] : List ByteArray) : List ByteArray)).bind fun y163 => (if y163.length + l3.length < 8796093022208 then (spec_l2One.l0 k l0 a1 a2 l3 (y163 ++ l3) 0) else (none))
def spec_l2One.T9 : Bool × List (List Nat × List Nat) := (true, [([], []), ([], []), ([0, 1], [0, 1]), ([2], [2]), ([], []), ([], []), ([4, 5], [4, 5]), ([6], [6]), ([3, 7], [3, 7]), ([8], [8]), ([9], [9]), ([9], [9]), ([10, 8, 0, 1, 2, 3, 4, 5, 6, 7, 8, 9, 10], [10]), ([11, 12, 0, 1, 2, 3, 4, 5, 6, 7, 8, 9, 10, 11, 12], [11])])
def spec_l2One.B9 : List Nat := [0, 0, 3, 7, 0, 0, 48, 112, 255, 511, 1023, 1023, 2047, 8191]
theorem spec_l2One.tab9 : rtab .any (opsOf Tryz.f73 9) = spec_l2One.T9 := by kernel_rfl
theorem spec_l2One.bits9 : waitsOk spec_l2One.T9.2 spec_l2One.B9 = true := by kernel_rfl
theorem spec_l2One.calls (k : Nat) (A0 : Option Addr) (c0 : Nat) (l0 : List (S82)) (a1 : ByteArray) (a2 : Bool) (A3 : Option Addr) (c3 : Nat) (l3 : List ByteArray) (r : List ByteArray) (w : World) (hr0 : Kd.C k82 w A0 l0.length l0) (hc0 : l0.length ≤ c0) (hr3 : Kd.C Kd.string w A3 l3.length l3) (hc3 : l3.length ≤ c3) (h : spec_l2One.f k l0 a1 a2 l3 = some r) :
  Calls Tryz.prog 73 #[.slice A0 l0.length c0, .string a1, .bool a2, .slice A3 l3.length c3] w fun e w' => ∃ v0_ : Value, e = .returned (v0_) ∧ Kd.V Kd.string 9 w' w.heap.size (fun k_ => (w.heap.size ≤ k_)) v0_ r ∧ Below w.heap.size w w' := by
 have hu82 := Tryz.underlying82; have HR0 := am hr0; have HC0 := am hc0; clear hr0 hc0; have HR3 := am hr3; have HC3 := am hc3; clear hr3 hc3; have HB := am (Below.refl w.heap.size w)
 have H : ((some (([] : List ByteArray) : List ByteArray)).bind fun y163 => (if y163.length + l3.length < 8796093022208 then (spec_l2One.l0 k l0 a1 a2 l3 (y163 ++ l3) 0) else (none))) = some r := h
 clear h; obtain ⟨y163, hy163⟩ : ∃ y_ : List ByteArray, y_ = (([] : List ByteArray)) := ⟨_, rfl⟩
 replace H : (if y163.length + l3.length < 8796093022208 then (spec_l2One.l0 k l0 a1 a2 l3 (y163 ++ l3) 0) else (none)) = some r := by first | (rw [hy163]; with_reducible exact H) | (have H2_ := bm H; rw [hy163]; with_reducible exact H2_) | (with_reducible exact bm H) | with_reducible exact H | (rw [hy163]; exact H) | exact H
 have Ny163 := am hy163; clear hy163
 replace H := ip H; obtain ⟨c5, H⟩ := H; have LMc5 := Aside0.mk c5; clear c5; obtain ⟨y166, hy166⟩ : ∃ y_ : List ByteArray, y_ = (y163 ++ l3) := ⟨_, rfl⟩
 replace H : (spec_l2One.l0 k l0 a1 a2 l3 y166 0) = some r := by first | (rw [hy166]; with_reducible exact H) | (have H2_ := bm H; rw [hy166]; with_reducible exact H2_) | (with_reducible exact bm H) | with_reducible exact H | (rw [hy166]; exact H) | exact H
 have Ny166 := am hy166; clear hy166
 have H' := am H
 clear H; go_enter Tryz.func73, Tryz.ntmps73
 go_wp2_with (first | ((with_reducible refine gate_dst (N := 14) rfl ?_); refine Kd.R_lit Kd.string _ 9 ?hg (N := 14) ?hd (xs := ([] : List ByteArray)) (inner := []) (ok := fun _ => True) (okp := fun _ => True) ?hr ?hp (fun _ hk => hk) trivial (Below.refl _ _) (Nat.le_refl _) (by simp) ?_; (case hd => rfl); (case hg => rfl); (case hr => first | (go_simp; done) | (go_simp; rfl)); (case hp => exact (Reps.none _ _)); intro v164 w6 ho7 hb hg_ hnew_; clear hg_ hnew_; (first | rw [← Ny163.out] at ho7 | (simp only [Int.reduceToNat] at ho7; rw [← Ny163.out] at ho7) | (simp only [Int.toNat_natCast] at ho7; rw [← Ny163.out] at ho7)); have HO165 := am (Kd.R_lower (Kd.R_newM (M := fun k_ => (w.heap.size ≤ k_)) ho7 (below_size bel) (fun k_ h_ => h_)) (below_size bel)); replace HB := am (below_step bel hb); clear hb ho7) | ((with_reducible refine gate_builtin (b := .append) (xs := #[.tmp 14, .tmp 15]) rfl ?_); at_builtin; refine Kd.R_append_rows Kd.string (w0 := w) w.heap.size rfl (.tmp 14) (.tmp 15) 49 9 (.string ⟨#[]⟩) 16 rfl Tryz.underlying49 info9 rfl (by decide) (by omega) v164 y163 l3 _ _ _ (fun k_ => (w.heap.size ≤ k_)) (fun _ => False) rfl rfl ?aO ?aR (fun _ _ h => h) (fun _ h => h.elim) ?aF ?aB ?aS ?aL ?_; (case aR => exact cq (Kd.C_below HR3.out HB.out)); (case aB => exact bel); (case aF => exact (fun k_ hk => (Nat.le_trans (below_size bel) hk))); (case aO => exact (rq (Kd.R_mono HO165.out (fun _ hk => hk.1)))); (case aS => exact (below_size bel)); (case aL => have := LMc5.out; omega); intro v167 w8 ho hb hg hat; rw [← Ny166.out] at ho; replace HB := am (hb); have HO168 := am (ho); clear HO165; clear ho hb hg hat))
 go_loopg [9, 10] k (fun kq v9 v10 w' => ∃ (x9_1 : List ByteArray) (x10_1 : Int), v10 = .int .i64 x10_1 ∧ Aside0 (spec_l2One.l0 kq l0 a1 a2 l3 x9_1 x10_1 = some r) ∧ Aside0 (kq ≤ k) ∧ Aside0 (Kd.V Kd.string 9 w' w.heap.size (fun k_ => (w.heap.size ≤ k_)) v9 x9_1) ∧ Aside0 (Below w.heap.size w w'))
 case atStart => exact ⟨(y166), (0), sq, H', ⟨Nat.le_refl _⟩, ⟨Kd.R_V (rq HO168.out)⟩, ⟨bel⟩⟩
 case round =>
  clear H'; (try clear p2); (try clear c3); (try clear c5); (try clear c7); obtain ⟨x9_1, x10_1, rfl, HA, HK1, HO_9, HB⟩ := hrel
  cases gk with
  | zero => exact absurd HA.out (by simp [spec_l2One.l0])
  | succ k1 =>
   have H := HA.out; clear HA
   simp only [spec_l2One.l0] at H
   by_cases c9 : x10_1 < (l0.length : Int)
   ·rw [if_pos c9] at H; have c9b0 := decide_eq_true c9; clear c9; have HC10 := am H; clear H
    go_upto_region 5 with (fail)
    go_cut [39] (fun v39 wc => ∃ (kq : Nat) (x39_9 : Bool), v39 = .bool x39_9 ∧ Aside0 (spec_l2One.j1 kq l0 a1 a2 l3 x9_1 x10_1 x39_9 = some r) ∧ Aside0 (kq ≤ k1) ∧ Aside0 (Kd.V Kd.string 9 wc w.heap.size (fun k_ => (w.heap.size ≤ k_)) u9 x9_1) ∧ Aside0 (Below w.heap.size w wc))
    case first =>
     have H := HC10.out; clear HC10
     replace H := it H; obtain ⟨c11b0, H⟩ := H
     (first | rw [c11b0] | (simp only [i64_w, i32_w]; rw [c11b0]) | skip)
     by_cases c12 : (((rd_T82 l0 x10_1).f1) != a2) = true
     ·rw [if_pos c12] at H
      have c12b0 : (((rd_T82 l0 x10_1).f1) != a2) = true := c12
      (try (have c12b1 : decide (((rd_T82 l0 x10_1).f1) = a2) = false := by simpa using c12))
      (try (have c12b2 : (((rd_T82 l0 x10_1).f1) == a2) = false := by simpa using c12))
      (try (have c12b3 : ¬ (((rd_T82 l0 x10_1).f1) = a2) := by simpa using c12))
      clear c12
      have H' := am H
      clear H
      have p169 : 0 ≤ (x10_1 : Int) := of_decide_eq_true ad
      have q169 : x10_1 < (l0.length : Int) := of_decide_eq_true ad
      obtain ⟨ad169, e169, hx169_0, hx169_1, hx169_2, hx169_3, hx169_4⟩ := at_T82 HR0.out x10_1 p169 q169
      cases e169
      replace hx169_0 := kp HB.out hx169_0; replace hx169_1 := kp HB.out hx169_1; replace hx169_2 := kp HB.out hx169_2; replace hx169_3 := kp HB.out hx169_3; replace hx169_4 := kp HB.out hx169_4; replace p169 := eq_true p169; replace q169 := eq_true q169; go_wp2
      go_meet
      case rel => exact ⟨_, (true), sq, H', ⟨b42_⟩, ⟨vq HO_9.out⟩, ⟨bel⟩⟩
     rw [if_neg c12] at H
     have c12b0 : (((rd_T82 l0 x10_1).f1) != a2) = false := by simpa using c12
     (try (have c12b1 : decide (((rd_T82 l0 x10_1).f1) = a2) = true := by simpa using c12))
     (try (have c12b2 : (((rd_T82 l0 x10_1).f1) == a2) = true := by simpa using c12))
     clear c12; replace H := bs H; obtain ⟨t171, A130, H⟩ := H; replace H : (spec_l2One.j1 k1 l0 a1 a2 l3 x9_1 x10_1 (!t171)) = some r := H; have A13 := Aside0.mk A130; clear A130
     have H' := am H
     clear H
     have p169 : 0 ≤ (x10_1 : Int) := of_decide_eq_true ad
     have q169 : x10_1 < (l0.length : Int) := of_decide_eq_true ad
     obtain ⟨ad169, e169, hx169_0, hx169_1, hx169_2, hx169_3, hx169_4⟩ := at_T82 HR0.out x10_1 p169 q169
     cases e169
     replace hx169_0 := kp HB.out hx169_0; replace hx169_1 := kp HB.out hx169_1; replace hx169_2 := kp HB.out hx169_2; replace hx169_3 := kp HB.out hx169_3; replace hx169_4 := kp HB.out hx169_4; replace p169 := eq_true p169; replace q169 := eq_true q169
     have p170 : 0 ≤ (x10_1 : Int) := of_decide_eq_true ad
     have q170 : x10_1 < (l0.length : Int) := of_decide_eq_true ad
     obtain ⟨ad170, e170, hx170_0, hx170_1, hx170_2, hx170_3, hx170_4⟩ := at_T82 HR0.out x10_1 p170 q170
     obtain rfl : ad169 = ad170 := (by injection e170)
     replace hx170_0 := kp HB.out hx170_0; replace hx170_1 := kp HB.out hx170_1; replace hx170_2 := kp HB.out hx170_2; replace hx170_3 := kp HB.out hx170_3; replace hx170_4 := kp HB.out hx170_4; replace p170 := eq_true p170; replace q170 := eq_true q170
     go_wp2_with (first | (go_at_call 94; (with_reducible refine (spec_l2Has.calls k1 a1 ((rd_T82 l0 x10_1).f0) t171 _ A13.out).mono ?_); rintro e w' ⟨rfl, ⟨nd, rfl⟩⟩))
     go_meet
     case rel => exact ⟨_, (!t171), sq, H', ⟨b42_⟩, ⟨vq HO_9.out⟩, ⟨bel⟩⟩
    case rest =>
     clear HC10; (try clear c1); (try clear p1); (try clear q1); (try clear hx1); (try clear p2); (try clear c3); (try clear c5); (try clear c7); (try clear c9); (try clear c9b0); (try clear c11); (try clear c11b0); (try clear c12); (try clear c12b0); (try clear c12b1); (try clear c12b2); (try clear hx169_0); (try clear hx169_1); (try clear hx169_2); (try clear hx169_3); (try clear hx169_4); (try clear hx170_0); (try clear hx170_1); (try clear hx170_2); (try clear hx170_3); (try clear hx170_4); (try clear p169); (try clear p170); (try clear p2); (try clear q169); (try clear q170); obtain ⟨kq, x39_9, rfl, HA, HJ9, HO_9, HB⟩ := hcut
     cases kq with
     | zero => exact absurd HA.out (by simp [spec_l2One.j1])
     | succ kj9 =>
      have H := HA.out; clear HA
      simp only [spec_l2One.j1] at H
      by_cases c14 : x39_9 = true
      ·subst c14
       have H1 : (spec_l2One.l0 kj9 l0 a1 a2 l3 x9_1 (wrap64 (x10_1 + 1))) = some r := b8_
       replace H := H1; clear H1
       have H' := am H
       clear H; go_wp2
       go_roundg kj9
       case measure => have := HK1.out; have := HJ9.out; omega
       case rel => exact ⟨(x9_1), (wrap64 (x10_1 + 1)), sq, H', ⟨by have := HK1.out; have := HJ9.out; omega⟩, ⟨vq HO_9.out⟩, ⟨bel⟩⟩
      replace c14 := Bool.eq_false_iff.mpr c14; subst c14
      have H1 : (spec_l2One.l1 kj9 l0 a1 a2 l3 x9_1 x10_1 0) = some r := b2_
      replace H := H1; clear H1
      have H' := am H
      clear H; go_wp2
      go_loopg [9, 11] kj9 (fun kq v9 v11 w' => ∃ (x9_3 : List ByteArray) (x11_3 : Int), v11 = .int .i64 x11_3 ∧ Aside0 (spec_l2One.l1 kq l0 a1 a2 l3 x9_3 x10_1 x11_3 = some r) ∧ Aside0 (kq ≤ kj9) ∧ Aside0 (Kd.V Kd.string 9 w' w.heap.size (fun k_ => (w.heap.size ≤ k_)) v9 x9_3) ∧ Aside0 (Below w.heap.size w w'))
      case atStart => exact ⟨(x9_1), (0), sq, H', ⟨Nat.le_refl _⟩, ⟨vq HO_9.out⟩, ⟨bel⟩⟩
      case round =>
       clear H'; (try clear c1); (try clear p1); (try clear q1); (try clear hx1); (try clear p2); (try clear c3); (try clear c5); (try clear p6); (try clear c7); (try clear c9); (try clear c9b0); (try clear c11); (try clear c11b0); (try clear c12); (try clear c12b0); (try clear c12b1); (try clear c12b2); (try clear c14); (try clear hx169_0); (try clear hx169_1); (try clear hx169_2); (try clear hx169_3); (try clear hx169_4); (try clear hx170_0); (try clear hx170_1); (try clear hx170_2); (try clear hx170_3); (try clear hx170_4); (try clear p1); (try clear p169); (try clear p170); (try clear p2); (try clear q1); (try clear q169); (try clear q170); obtain ⟨x9_3, x11_3, rfl, HA, HK3, HO_9, HB⟩ := hrel
       cases gk with
       | zero => exact absurd HA.out (by simp [spec_l2One.l1])
       | succ k3 =>
        have H := HA.out; clear HA
        simp only [spec_l2One.l1] at H
        by_cases c15 : x11_3 < (l3.length : Int)
        ·rw [if_pos c15] at H; have c15b0 := decide_eq_true c15; clear c15
         replace H := it H; obtain ⟨c16b0, H⟩ := H
         replace H := it H; obtain ⟨c17b0, H⟩ := H
         replace H := it H; obtain ⟨c18b0, H⟩ := H; replace H := bs H; obtain ⟨⟨t174, t175⟩, A190, H⟩ := H; replace H : (if t175 = true then ((spec_l1Put.f k3 x9_3 t174).bind fun t176 => (spec_l2One.l1 k3 l0 a1 a2 l3 t176 x10_1 (wrap64 (x11_3 + 1)))) else (spec_l2One.l1 k3 l0 a1 a2 l3 x9_3 x10_1 (wrap64 (x11_3 + 1)))) = some r := H; have A19 := Aside0.mk A190; clear A190
         by_cases c20 : t175 = true
         ·subst c20
          have H1 : ((spec_l1Put.f k3 x9_3 t174).bind fun t176 => (spec_l2One.l1 k3 l0 a1 a2 l3 t176 x10_1 (wrap64 (x11_3 + 1)))) = some r := b8_
          replace H := H1; clear H1
          replace H := bs H; obtain ⟨t176, A210, H⟩ := H; replace H : (spec_l2One.l1 k3 l0 a1 a2 l3 t176 x10_1 (wrap64 (x11_3 + 1))) = some r := H; have A21 := Aside0.mk A210; clear A210
          have H' := am H
          clear H
          try go_wp2
          replace HO_9 := am (Kd.V_drew HO_9.out); replace HB := am (below_drew1 HB.out)
          have p172 : 0 ≤ (x10_1 : Int) := of_decide_eq_true ad
          have q172 : x10_1 < (l0.length : Int) := of_decide_eq_true ad
          obtain ⟨ad172, e172, hx172_0, hx172_1, hx172_2, hx172_3, hx172_4⟩ := at_T82 HR0.out x10_1 p172 q172; have hw172_4 := hx172_4; have hw172_3 := hx172_3; have hw172_2 := hx172_2; have hw172_1 := hx172_1; have hw172_0 := hx172_0
          cases e172
          replace hx172_0 := kp HB.out hx172_0; replace hx172_1 := kp HB.out hx172_1; replace hx172_2 := kp HB.out hx172_2; replace hx172_3 := kp HB.out hx172_3; replace hx172_4 := kp HB.out hx172_4; replace p172 := eq_true p172; replace q172 := eq_true q172
          have p173 : 0 ≤ (x11_3 : Int) := of_decide_eq_true ad
          have q173 : x11_3 < (l3.length : Int) := of_decide_eq_true ad
          obtain ⟨ad173, e173, hx173_0⟩ := Kd.at_string HR3.out x11_3 p173 q173; have hw173_0 := hx173_0
          cases e173
          replace hx173_0 := kp HB.out hx173_0; replace p173 := eq_true p173; replace q173 := eq_true q173
          refine st (n := 14) (S := fun w' => w'.cell? (ad172.add ((x10_1).toNat * 5)) = some (.string ((rd_T82 l0 x10_1).f0)) ∧ w'.cell? ⟨(ad172.add ((x10_1).toNat * 5)).block, (ad172.add ((x10_1).toNat * 5)).off + 1, none⟩ = some (.bool ((rd_T82 l0 x10_1).f1)) ∧ w'.cell? ⟨(ad172.add ((x10_1).toNat * 5)).block, (ad172.add ((x10_1).toNat * 5)).off + 2, none⟩ = some (.string ((rd_T82 l0 x10_1).f2)) ∧ w'.cell? ⟨(ad172.add ((x10_1).toNat * 5)).block, (ad172.add ((x10_1).toNat * 5)).off + 3, none⟩ = some (.string ((rd_T82 l0 x10_1).f3)) ∧ w'.cell? ⟨(ad172.add ((x10_1).toNat * 5)).block, (ad172.add ((x10_1).toNat * 5)).off + 4, none⟩ = some (.string ((rd_T82 l0 x10_1).f4)) ∧ w'.cell? (ad173.add (x11_3).toNat) = some (.string (rdOf ByteArray.empty l3 x11_3))) (ds := []) ⟨(kp HB.out hw172_0), (kp HB.out hw172_1), (kp HB.out hw172_2), (kp HB.out hw172_3), (kp HB.out hw172_4), (kp HB.out hw173_0)⟩ (fun hHeld => ?_); refine with_tabW spec_l2One.tab9 spec_l2One.bits9 (fun HT_ HW_ => ?_)
          generalize wr.drew = w22 at HO_9 HB hx172_0 hx172_1 hx172_2 hx172_3 hx172_4 hx173_0 hHeld ⊢
          refine pu 0 47 ?_
          refine pu 1 48 ?_
          refine pu 2 49 ?_
          refine pu 4 51 ?_
          refine pu 5 52 ?_
          refine pu 6 53 ?_
          refine tk6 3 50 hHeld ?_
          refine tk6 7 54 hHeld ?_
          refine on1 8 55 (fun K hK => ?_)
          refine goes_ Tryz.func95 (by kernel_rfl) rfl #[.agg #[.string ((rd_T82 l0 x10_1).f0), .bool ((rd_T82 l0 x10_1).f1), .string ((rd_T82 l0 x10_1).f2), .string ((rd_T82 l0 x10_1).f3), .string ((rd_T82 l0 x10_1).f4)], .string (rdOf ByteArray.empty l3 x11_3)] (by rfl) rfl rfl mq ?_
          with_reducible refine (spec_l2Do.calls k3 ((rd_T82 l0 x10_1).f0) ((rd_T82 l0 x10_1).f1) ((rd_T82 l0 x10_1).f2) ((rd_T82 l0 x10_1).f3) ((rd_T82 l0 x10_1).f4) (rdOf ByteArray.empty l3 x11_3) t174 true _ A19.out).mono ?_
          rintro e w23 ⟨rfl, hb⟩
          refine ⟨_, rfl, ?_⟩
          replace HO_9 := am (Kd.V_below (vq HO_9.out) hb); replace HB := am (below_step bel hb)
          (try clear hb)
          (try clear hb2)
          (try clear hk)
          (try clear hi)
          refine hK.out _ _ ⟨(kp HB.out hw172_0), (kp HB.out hw172_1), (kp HB.out hw172_2), (kp HB.out hw172_3), (kp HB.out hw172_4), (kp HB.out hw173_0)⟩ (fun hHeld => ?_)
          clear hK K
          refine norm_ (a' := ?_) ?_ ?_
          rotate_left
          ·show Act.put _ (some 55) _ = _
           simp only [Act.put, List.setIfInBounds_toArray, List.set_cons_zero, List.set_cons_succ, i64_w, i32_w]
           rfl
          refine pu 9 46 ?_
          refine pu 10 56 ?_
          refine pu 11 57 ?_
          refine pu 12 12 ?_
          refine pu 13 13 ?_
          refine done_ (done_of HT_.out (by kernel_rfl)) ?_
          obtain ⟨Ao24, co24, eo24⟩ := Kd.V_slice HO_9.out; subst eo24
          try go_wp2_with (first | ((with_reducible refine gate_callee (f := 49) rfl ?_); refine goesL_ (some 61) rfl rfl Tryz.func49 (by kernel_rfl) rfl #[.slice Ao24 x9_3.length co24, .string t174] rfl mq ?_; (with_reducible refine (spec_l1Put.calls k3 (fun k_ => (w.heap.size ≤ k_)) _ _ x9_3 t174 t176 _ ?side1 A21.out).mono ?_); (case side1 => exact HO_9.out); rintro e w25 ⟨v177, rfl, ho0, hb⟩; refine ⟨_, rfl, ?_⟩; replace HO_9 := am (Kd.V_below (vq HO_9.out) hb); have HO178 := am (Kd.V_lower (Kd.V_mono (ok' := fun k_ => (w.heap.size ≤ k_)) ho0 (fun k_ hk_ => Or.elim hk_ (fun hs_ => hs_) (fun hn_ => (Nat.le_trans (below_size bel) hn_)))) (below_size bel)); replace HB := am (below_step bel hb); (try clear hb); (try clear hb2); (try clear hk); (try clear hi); (try clear ho0)))
          go_roundg k3
          case measure => have := HK1.out; have := HJ9.out; have := HK3.out; omega
          case rel => exact ⟨(t176), (wrap64 (x11_3 + 1)), sq, H', ⟨by have := HK1.out; have := HJ9.out; have := HK3.out; omega⟩, ⟨vq HO178.out⟩, ⟨bel⟩⟩
         replace c20 := Bool.eq_false_iff.mpr c20; subst c20
         have H1 : (spec_l2One.l1 k3 l0 a1 a2 l3 x9_3 x10_1 (wrap64 (x11_3 + 1))) = some r := b2_
         replace H := H1; clear H1
         have H' := am H
         clear H
         try go_wp2
         replace HO_9 := am (Kd.V_drew HO_9.out); replace HB := am (below_drew1 HB.out)
         have p172 : 0 ≤ (x10_1 : Int) := of_decide_eq_true ad
         have q172 : x10_1 < (l0.length : Int) := of_decide_eq_true ad
         obtain ⟨ad172, e172, hx172_0, hx172_1, hx172_2, hx172_3, hx172_4⟩ := at_T82 HR0.out x10_1 p172 q172; have hw172_4 := hx172_4; have hw172_3 := hx172_3; have hw172_2 := hx172_2; have hw172_1 := hx172_1; have hw172_0 := hx172_0
         cases e172
         replace hx172_0 := kp HB.out hx172_0; replace hx172_1 := kp HB.out hx172_1; replace hx172_2 := kp HB.out hx172_2; replace hx172_3 := kp HB.out hx172_3; replace hx172_4 := kp HB.out hx172_4; replace p172 := eq_true p172; replace q172 := eq_true q172
         have p173 : 0 ≤ (x11_3 : Int) := of_decide_eq_true ad
         have q173 : x11_3 < (l3.length : Int) := of_decide_eq_true ad
         obtain ⟨ad173, e173, hx173_0⟩ := Kd.at_string HR3.out x11_3 p173 q173; have hw173_0 := hx173_0
         cases e173
         replace hx173_0 := kp HB.out hx173_0; replace p173 := eq_true p173; replace q173 := eq_true q173
         refine st (n := 14) (S := fun w' => w'.cell? (ad172.add ((x10_1).toNat * 5)) = some (.string ((rd_T82 l0 x10_1).f0)) ∧ w'.cell? ⟨(ad172.add ((x10_1).toNat * 5)).block, (ad172.add ((x10_1).toNat * 5)).off + 1, none⟩ = some (.bool ((rd_T82 l0 x10_1).f1)) ∧ w'.cell? ⟨(ad172.add ((x10_1).toNat * 5)).block, (ad172.add ((x10_1).toNat * 5)).off + 2, none⟩ = some (.string ((rd_T82 l0 x10_1).f2)) ∧ w'.cell? ⟨(ad172.add ((x10_1).toNat * 5)).block, (ad172.add ((x10_1).toNat * 5)).off + 3, none⟩ = some (.string ((rd_T82 l0 x10_1).f3)) ∧ w'.cell? ⟨(ad172.add ((x10_1).toNat * 5)).block, (ad172.add ((x10_1).toNat * 5)).off + 4, none⟩ = some (.string ((rd_T82 l0 x10_1).f4)) ∧ w'.cell? (ad173.add (x11_3).toNat) = some (.string (rdOf ByteArray.empty l3 x11_3))) (ds := []) ⟨(kp HB.out hw172_0), (kp HB.out hw172_1), (kp HB.out hw172_2), (kp HB.out hw172_3), (kp HB.out hw172_4), (kp HB.out hw173_0)⟩ (fun hHeld => ?_); refine with_tabW spec_l2One.tab9 spec_l2One.bits9 (fun HT_ HW_ => ?_)
         generalize wr.drew = w26 at HO_9 HB hx172_0 hx172_1 hx172_2 hx172_3 hx172_4 hx173_0 hHeld ⊢
         refine pu 0 47 ?_
         refine pu 1 48 ?_
         refine pu 2 49 ?_
         refine pu 4 51 ?_
         refine pu 5 52 ?_
         refine pu 6 53 ?_
         refine tk6 3 50 hHeld ?_
         refine tk6 7 54 hHeld ?_
         refine on1 8 55 (fun K hK => ?_)
         refine goes_ Tryz.func95 (by kernel_rfl) rfl #[.agg #[.string ((rd_T82 l0 x10_1).f0), .bool ((rd_T82 l0 x10_1).f1), .string ((rd_T82 l0 x10_1).f2), .string ((rd_T82 l0 x10_1).f3), .string ((rd_T82 l0 x10_1).f4)], .string (rdOf ByteArray.empty l3 x11_3)] (by rfl) rfl rfl mq ?_
         with_reducible refine (spec_l2Do.calls k3 ((rd_T82 l0 x10_1).f0) ((rd_T82 l0 x10_1).f1) ((rd_T82 l0 x10_1).f2) ((rd_T82 l0 x10_1).f3) ((rd_T82 l0 x10_1).f4) (rdOf ByteArray.empty l3 x11_3) t174 false _ A19.out).mono ?_
         rintro e w27 ⟨rfl, hb⟩
         refine ⟨_, rfl, ?_⟩
         replace HO_9 := am (Kd.V_below (vq HO_9.out) hb); replace HB := am (below_step bel hb)
         (try clear hb)
         (try clear hb2)
         (try clear hk)
         (try clear hi)
         refine hK.out _ _ ⟨(kp HB.out hw172_0), (kp HB.out hw172_1), (kp HB.out hw172_2), (kp HB.out hw172_3), (kp HB.out hw172_4), (kp HB.out hw173_0)⟩ (fun hHeld => ?_)
         clear hK K
         refine norm_ (a' := ?_) ?_ ?_
         rotate_left
         ·show Act.put _ (some 55) _ = _
          simp only [Act.put, List.setIfInBounds_toArray, List.set_cons_zero, List.set_cons_succ, i64_w, i32_w]
          rfl
         refine pu 9 46 ?_
         refine pu 10 56 ?_
         refine pu 11 57 ?_
         refine pu 12 12 ?_
         refine pu 13 13 ?_
         refine done_ (done_of HT_.out (by kernel_rfl)) ?_
         try go_wp2
         go_roundg k3
         case measure => have := HK1.out; have := HJ9.out; have := HK3.out; omega
         case rel => exact ⟨(x9_3), (wrap64 (x11_3 + 1)), sq, H', ⟨by have := HK1.out; have := HJ9.out; have := HK3.out; omega⟩, ⟨vq HO_9.out⟩, ⟨bel⟩⟩
        rw [if_neg c15] at H; have c15b0 := decide_eq_false c15; clear c15
        have H' := am H
        clear H; go_wp2
        go_roundg k3
        case measure => have := HK1.out; have := HJ9.out; have := HK3.out; omega
        case rel => exact ⟨(x9_3), (wrap64 (x10_1 + 1)), sq, H', ⟨by have := HK1.out; have := HJ9.out; have := HK3.out; omega⟩, ⟨vq HO_9.out⟩, ⟨bel⟩⟩
   rw [if_neg c9] at H; have c9b0 := decide_eq_false c9; clear c9; obtain rfl := Option.some.inj H; go_wp2; go_ret
   exact ⟨_, eq_, by (with_reducible repeat (first | apply Kd.V_alloc | apply Kd.V_drewN | apply Kd.V_drew)); exact HO_9.out, bel⟩
-- shrunk

/-! ### spec_l2Forms: function 48 -/
def spec_l2Forms.f (k : Nat) (l0 : List (S82)) (a1_0 : ByteArray) (a1_1 : ByteArray) : Option (List ByteArray) := (spec_l2One.f k l0 a1_1 false (([a1_0] : List ByteArray))).bind fun t183 => ((spec_l2One.f k l0 a1_1 true t183).bind fun t186 => (some t186))
def spec_l2Forms.T1 : Bool × List (List Nat × List Nat) := (true, [([], []), ([], []), ([1], [1]), ([], []), ([], []), ([4], [4]), ([], []), ([6], [6]), ([7], [7]), ([3, 5, 8], [3, 5, 8]), ([0, 2, 9, 9], [0, 2, 9]), ([10, 10, 0, 1, 2, 3, 4, 5, 6, 7, 8, 9, 10], [10])])
def spec_l2Forms.B1 : List Nat := [0, 0, 2, 0, 0, 16, 0, 64, 192, 504, 1023, 2047]
theorem spec_l2Forms.tab1 : rtab .any (opsOf Tryz.f48 1) = spec_l2Forms.T1 := by kernel_rfl
theorem spec_l2Forms.bits1 : waitsOk spec_l2Forms.T1.2 spec_l2Forms.B1 = true := by kernel_rfl
theorem spec_l2Forms.calls (k : Nat) (A0 : Option Addr) (c0 : Nat) (l0 : List (S82)) (a1_0 : ByteArray) (a1_1 : ByteArray) (r : List ByteArray) (w : World) (hr0 : Kd.C k82 w A0 l0.length l0) (hc0 : l0.length ≤ c0) (h : spec_l2Forms.f k l0 a1_0 a1_1 = some r) :
  Calls Tryz.prog 48 #[.slice A0 l0.length c0, .agg #[.string a1_0, .string a1_1]] w fun e w' => ∃ v0_ : Value, e = .returned (v0_) ∧ Kd.V Kd.string 9 w' w.heap.size (fun k_ => (w.heap.size ≤ k_)) v0_ r ∧ Below w.heap.size w w' := by
 have hu78 := Tryz.underlying78; have HR0 := am hr0; have HC0 := am hc0; clear hr0 hc0; have HB := am (Below.refl w.heap.size w)
 have H : ((spec_l2One.f k l0 a1_1 false (([a1_0] : List ByteArray))).bind fun t183 => ((spec_l2One.f k l0 a1_1 true t183).bind fun t186 => (some t186))) = some r := h
 clear h; obtain ⟨y180, hy180⟩ : ∃ y_ : List ByteArray, y_ = (([a1_0] : List ByteArray)) := ⟨_, rfl⟩
 replace H : ((spec_l2One.f k l0 a1_1 false y180).bind fun t183 => ((spec_l2One.f k l0 a1_1 true t183).bind fun t186 => (some t186))) = some r := by first | (rw [hy180]; with_reducible exact H) | (have H2_ := bm H; rw [hy180]; with_reducible exact H2_) | (with_reducible exact bm H) | with_reducible exact H | (rw [hy180]; exact H) | exact H
 have Ny180 := am hy180; clear hy180; replace H := bs H; obtain ⟨t183, A30, H⟩ := H; replace H : ((spec_l2One.f k l0 a1_1 true t183).bind fun t186 => (some t186)) = some r := H; have A3 := Aside0.mk A30; clear A30; replace H := bs H; obtain ⟨t186, A40, H⟩ := H; replace H : (some t186) = some r := H; have A4 := Aside0.mk A40; clear A40; obtain rfl := Option.some.inj H; go_enter Tryz.func48, Tryz.ntmps48
 try go_wp2_with (first | ((with_reducible refine gate_dst (N := 3) rfl ?_); refine bx 3 (cs := #[.string a1_0, .string a1_1]) (t := 78) ?_; intro gb179 hg w5 hbox hb; have BK179 := am (hbox); have GW179 := am ((b0_ : w.heap.size ≤ gb179)); have GE179 := am ((b0_ : w.heap.size ≤ gb179)); replace HB := am (below_step bel hb); clear hb hbox hg))
 replace BK179 := am (blk_drew BK179.out); replace HB := am (below_drew1 HB.out)
 refine st (n := 12) (S := fun w' => w'.cell? ⟨gb179, 0, none⟩ = some (.string a1_0) ∧ w'.cell? ⟨gb179, 1, none⟩ = some (.string a1_1)) (ds := []) ⟨(blk_cell BK179.out 0).trans rfl, (blk_cell BK179.out 1).trans rfl⟩ (fun hHeld => ?_); refine with_tabW spec_l2Forms.tab1 spec_l2Forms.bits1 (fun HT_ HW_ => ?_)
 generalize w5.drew = w6 at BK179 HB hHeld ⊢
 refine pu 0 5 ?_
 refine pu 1 6 ?_
 refine pu 3 8 ?_
 refine pu 4 9 ?_
 refine pu 6 11 ?_
 refine tk2 2 7 hHeld ?_
 refine tk2 5 10 hHeld ?_
 refine tk2 7 12 hHeld ?_
 refine on1 8 13 (fun K hK => ?_)
 refine Kd.R_lit_step Kd.string _ 9 ?hg (N := 13) ?hd (xs := ([a1_0] : List ByteArray)) (inner := [.string a1_0]) (ok := fun _ => True) (okp := fun _ => True) ?hr ?hp (fun _ hk => hk) trivial (Below.refl _ _) (Nat.le_refl _) (by simp) ?_; (case hd => rfl); (case hg => rfl); (case hr => first | (go_simp; done) | (go_simp; rfl)); (case hp => exact (Reps.one (show Kd.M Kd.string _ _ _ a1_0 [.string a1_0] from rfl) (Reps.none _ _)))
 intro v181 w7 ho8 hb hg_ hnew_; clear hg_ hnew_
 (first | rw [← Ny180.out] at ho8 | (simp only [Int.reduceToNat] at ho8; rw [← Ny180.out] at ho8) | (simp only [Int.toNat_natCast] at ho8; rw [← Ny180.out] at ho8))
 have HO182 := am (Kd.R_lower (Kd.R_newM (M := fun k_ => (w.heap.size ≤ k_)) ho8 (below_size (bel1 GE179.out)) (fun k_ h_ => h_)) (below_size (bel1 GE179.out))); replace BK179 := am (blk_below (g := gb179) (o := .cells #[.string a1_0, .string a1_1] 78 (0, 0)) (bq BK179.out) hb); replace HB := am (below_step (bel1 GE179.out) hb); clear hb ho8; obtain ⟨Ao9, co9, eo9⟩ := Kd.R_slice HO182.out
 (first | subst eo9 | (injection eo9 with f1_ f2_ f3_; have f4_ := f1_.symm; have f5_ := f3_.symm; clear f1_ f2_ f3_; subst f4_; subst f5_))
 refine hK.out _ _ ⟨(blk_cell BK179.out 0).trans rfl, (blk_cell BK179.out 1).trans rfl⟩ (fun hHeld => ?_)
 clear hK K
 refine norm_ (a' := ?_) ?_ ?_
 rotate_left
 ·show Act.put _ (some 13) _ = _
  simp only [Act.put, List.setIfInBounds_toArray, List.set_cons_zero, List.set_cons_succ, i64_w, i32_w]
  rfl
 refine on1 9 14 (fun K hK => ?_)
 refine goes_ Tryz.func73 (by kernel_rfl) rfl #[.slice A0 l0.length c0, .string a1_1, .bool false, .slice Ao9 y180.length co9] (by rfl) rfl rfl mq ?_
 with_reducible refine (spec_l2One.calls k _ _ l0 a1_1 false _ _ y180 t183 _ ?side1 ?side2 ?side3 ?side4 A3.out).mono ?_
 (case side1 => exact cq (Kd.C_below HR0.out HB.out)); (case side2 => exact HC0.out); (case side3 => exact cq (Kd.R_reads' HO182.out).2.2); (case side4 => exact (Kd.R_reads' HO182.out).2.1)
 rintro e w10 ⟨v184, rfl, ho0, hb⟩
 refine ⟨_, rfl, ?_⟩
 have HO185 := am (Kd.V_lower (Kd.V_mono (ok' := fun k_ => (w.heap.size ≤ k_) ∧ some k_ ≠ (.slice Ao9 y180.length co9 : Value).ownBlock ∧ k_ ≠ gb179) ho0 (fun k_ hk_ => ⟨(Nat.le_trans (below_size (bel1 GE179.out)) hk_), (Kd.fresh' (Kd.R_lt (rq HO182.out)) k_ hk_), (Kd.freshB (g := gb179) (o := .cells #[.string a1_0, .string a1_1] 78 (0, 0)) (bq BK179.out) k_ hk_)⟩)) (below_size (bel1 GE179.out))); replace HO182 := am (Kd.R_below (rq HO182.out) hb); replace BK179 := am (blk_below (g := gb179) (o := .cells #[.string a1_0, .string a1_1] 78 (0, 0)) (bq BK179.out) hb); replace HB := am (below_step (bel1 GE179.out) hb)
 (try clear hb)
 (try clear hb2)
 (try clear hk)
 (try clear hi)
 (try clear ho0)
 obtain ⟨Ao11, co11, eo11⟩ := Kd.V_slice HO185.out
 (first | subst eo11 | (injection eo11 with f1_ f2_ f3_; have f4_ := f1_.symm; have f5_ := f3_.symm; clear f1_ f2_ f3_; subst f4_; subst f5_))
 refine hK.out _ _ ⟨(blk_cell BK179.out 0).trans rfl, (blk_cell BK179.out 1).trans rfl⟩ (fun hHeld => ?_)
 clear hK K
 refine norm_ (a' := ?_) ?_ ?_
 rotate_left
 ·show Act.put _ (some 14) _ = _
  simp only [Act.put, List.setIfInBounds_toArray, List.set_cons_zero, List.set_cons_succ, i64_w, i32_w]
  rfl
 refine on1 10 15 (fun K hK => ?_)
 refine goes_ Tryz.func73 (by kernel_rfl) rfl #[.slice A0 l0.length c0, .string a1_1, .bool true, .slice Ao11 t183.length co11] (by rfl) rfl rfl mq ?_
 with_reducible refine (spec_l2One.calls k _ _ l0 a1_1 true _ _ t183 t186 _ ?side1 ?side2 ?side3 ?side4 A4.out).mono ?_
 (case side1 => exact cq (Kd.C_below HR0.out HB.out)); (case side2 => exact HC0.out); (case side3 => exact cq (Kd.V_reads' HO185.out).2.2); (case side4 => exact (Kd.V_reads' HO185.out).2.1)
 rintro e w12 ⟨v187, rfl, ho0, hb⟩
 refine ⟨_, rfl, ?_⟩
 replace HO185 := am (Kd.V_below (vq HO185.out) hb); have HO188 := am (Kd.V_lower (Kd.V_mono (ok' := fun k_ => (w.heap.size ≤ k_) ∧ some k_ ≠ (.slice Ao9 y180.length co9 : Value).ownBlock ∧ k_ ≠ gb179) ho0 (fun k_ hk_ => ⟨(Nat.le_trans (below_size (bel1 GE179.out)) hk_), (Kd.fresh' (Kd.R_lt (rq HO182.out)) k_ hk_), (Kd.freshB (g := gb179) (o := .cells #[.string a1_0, .string a1_1] 78 (0, 0)) (bq BK179.out) k_ hk_)⟩)) (below_size (bel1 GE179.out))); replace HO182 := am (Kd.R_below (rq HO182.out) hb); replace BK179 := am (blk_below (g := gb179) (o := .cells #[.string a1_0, .string a1_1] 78 (0, 0)) (bq BK179.out) hb); replace HB := am (below_step (bel1 GE179.out) hb)
 (try clear hb)
 (try clear hb2)
 (try clear hk)
 (try clear hi)
 (try clear ho0)
 refine hK.out _ _ ⟨(blk_cell BK179.out 0).trans rfl, (blk_cell BK179.out 1).trans rfl⟩ (fun hHeld => ?_)
 clear hK K
 refine norm_ (a' := ?_) ?_ ?_
 rotate_left
 ·show Act.put _ (some 15) _ = _
  simp only [Act.put, List.setIfInBounds_toArray, List.set_cons_zero, List.set_cons_succ, i64_w, i32_w]
  rfl
 refine pu 11 4 ?_
 refine done_ (done_of HT_.out (by kernel_rfl)) ?_
 try go_wp2
 go_ret
 exact ⟨_, eq_, by (with_reducible repeat (first | apply Kd.V_alloc | apply Kd.V_drewN | apply Kd.V_drew)); exact Kd.V_mono HO188.out (fun _ hk => hk.1), bel1 GE179.out⟩

/-! ### spec_l2Words: function 20 -/
mutual
def spec_l2Words.l0 : Nat → List ByteArray → Int → List (S82) → List (S78) → Option (List ByteArray)
 | 0, _, _, _, _ => none
 | k + 1, x3, x4, x190000, x190001 => if x4 < (x190001.length : Int) then (if 0 ≤ x4 then ((spec_l2Forms.f k x190000 ((rd_T78 x190001 x4).f0) ((rd_T78 x190001 x4).f1)).bind fun t194 => (spec_l2Words.l1 k x3 x4 t194 0 x190000 x190001)) else (none)) else (some x3)
def spec_l2Words.l1 : Nat → List ByteArray → Int → List ByteArray → Int → List (S82) → List (S78) → Option (List ByteArray)
 | 0, _, _, _, _, _, _ => none
 | k + 1, x3, x4, x5, x6, x190000, x190001 => if x6 < (x5.length : Int) then (if 0 ≤ x6 then ((spec_l1Put.f k x3 (rdOf ByteArray.empty x5 x6)).bind fun t198 => (spec_l2Words.l1 k t198 x4 x5 (wrap64 (x6 + 1)) x190000 x190001)) else (none)) else (spec_l2Words.l0 k x3 (wrap64 (x4 + 1)) x190000 x190001)
end
def spec_l2Words.f (k : Nat) (l0_0 : List (S82)) (l0_1 : List (S78)) : Option (List ByteArray) := spec_l2Words.l0 k (([] : List ByteArray)) 0 l0_0 l0_1
def spec_l2Words.T5 : Bool × List (List Nat × List Nat) := (true, [([], []), ([0], [0]), ([], []), ([2], [2]), ([], []), ([3, 4], [3, 4]), ([5], [5]), ([1, 6], [1, 6]), ([7, 7, 0, 1, 2, 3, 4, 5, 6, 7], [7])])
def spec_l2Words.B5 : List Nat := [0, 1, 0, 4, 0, 28, 60, 127, 255]
theorem spec_l2Words.tab5 : rtab .any (opsOf Tryz.f20 5) = spec_l2Words.T5 := by kernel_rfl
theorem spec_l2Words.bits5 : waitsOk spec_l2Words.T5.2 spec_l2Words.B5 = true := by kernel_rfl
theorem spec_l2Words.calls (k : Nat) (A0_0 : Option Addr) (c0_0 : Nat) (l0_0 : List (S82)) (A0_1 : Option Addr) (c0_1 : Nat) (l0_1 : List (S78)) (r : List ByteArray) (w : World) (hr0_0 : Kd.C k82 w A0_0 l0_0.length l0_0) (hc0_0 : l0_0.length ≤ c0_0) (hr0_1 : Kd.C k78 w A0_1 l0_1.length l0_1) (hc0_1 : l0_1.length ≤ c0_1) (h : spec_l2Words.f k l0_0 l0_1 = some r) :
  Calls Tryz.prog 20 #[.agg #[.slice A0_0 l0_0.length c0_0, .slice A0_1 l0_1.length c0_1]] w fun e w' => ∃ v0_ : Value, e = .returned (v0_) ∧ Kd.V Kd.string 9 w' w.heap.size (fun k_ => (w.heap.size ≤ k_)) v0_ r ∧ Below w.heap.size w w' := by
 have hu32 := Tryz.underlying32; have hu78 := Tryz.underlying78; have HR0_0 := am hr0_0; have HC0_0 := am hc0_0; clear hr0_0 hc0_0; have HR0_1 := am hr0_1; have HC0_1 := am hc0_1; clear hr0_1 hc0_1; have HB := am (Below.refl w.heap.size w)
 have H : (spec_l2Words.l0 k (([] : List ByteArray)) 0 l0_0 l0_1) = some r := h
 clear h; obtain ⟨y190, hy190⟩ : ∃ y_ : List ByteArray, y_ = (([] : List ByteArray)) := ⟨_, rfl⟩
 replace H : (spec_l2Words.l0 k y190 0 l0_0 l0_1) = some r := by first | (rw [hy190]; with_reducible exact H) | (have H2_ := bm H; rw [hy190]; with_reducible exact H2_) | (with_reducible exact bm H) | with_reducible exact H | (rw [hy190]; exact H) | exact H
 have Ny190 := am hy190; clear hy190
 have H' := am H
 clear H; go_enter Tryz.func20, Tryz.ntmps20
 go_wp2_with (first | ((with_reducible refine gate_dst (N := 1) rfl ?_); refine bx 1 (cs := #[.slice A0_0 l0_0.length c0_0, .slice A0_1 l0_1.length c0_1]) (t := 32) ?_; intro gb189 hg w2 hbox hb; have BK189 := am (hbox); have GW189 := am ((b0_ : w.heap.size ≤ gb189)); have GE189 := am ((b0_ : w.heap.size ≤ gb189)); replace HB := am (below_step bel hb); clear hb hbox hg) | ((with_reducible refine gate_dst (N := 7) rfl ?_); refine Kd.R_lit Kd.string _ 9 ?hg (N := 7) ?hd (xs := ([] : List ByteArray)) (inner := []) (ok := fun _ => True) (okp := fun _ => True) ?hr ?hp (fun _ hk => hk) trivial (Below.refl _ _) (Nat.le_refl _) (by simp) ?_; (case hd => rfl); (case hg => rfl); (case hr => first | (go_simp; done) | (go_simp; rfl)); (case hp => exact (Reps.none _ _)); intro v191 w3 ho4 hb hg_ hnew_; clear hg_ hnew_; (first | rw [← Ny190.out] at ho4 | (simp only [Int.reduceToNat] at ho4; rw [← Ny190.out] at ho4) | (simp only [Int.toNat_natCast] at ho4; rw [← Ny190.out] at ho4)); have HO192 := am (Kd.R_lower (Kd.R_newM (M := fun k_ => (w.heap.size ≤ k_)) ho4 (below_size (bel1 GE189.out)) (fun k_ h_ => h_)) (below_size (bel1 GE189.out))); replace BK189 := am (blk_below (g := gb189) (o := .cells #[.slice A0_0 l0_0.length c0_0, .slice A0_1 l0_1.length c0_1] 32 (0, 0)) (bq BK189.out) hb); replace HB := am (below_step (bel1 GE189.out) hb); clear hb ho4))
 go_loopg [3, 4] k (fun kq v3 v4 w' => ∃ (x3_1 : List ByteArray) (x4_1 : Int), v4 = .int .i64 x4_1 ∧ Aside0 (spec_l2Words.l0 kq x3_1 x4_1 l0_0 l0_1 = some r) ∧ Aside0 (kq ≤ k) ∧ Aside0 (Kd.V Kd.string 9 w' w.heap.size (fun k_ => (w.heap.size ≤ k_) ∧ k_ ≠ gb189) v3 x3_1) ∧ Aside0 (w'.heap[gb189]? = some (.cells #[(.slice A0_0 l0_0.length c0_0), (.slice A0_1 l0_1.length c0_1)] 32 (0, 0))) ∧ Aside0 (Below w.heap.size w w'))
 case atStart => exact ⟨(y190), (0), sq, H', ⟨Nat.le_refl _⟩, ⟨Kd.R_V (rq (Kd.R_mono (Kd.R_types HO192.out BK189.out (by decide)) (fun _ hk => ⟨hk.1.1, hk.2⟩)))⟩, ⟨bq BK189.out⟩, ⟨bel1 GE189.out⟩⟩
 case round =>
  clear H'; (try clear c2); (try clear p2); obtain ⟨x3_1, x4_1, rfl, HA, HK1, HO_3, BK189, HB⟩ := hrel
  cases gk with
  | zero => exact absurd HA.out (by simp [spec_l2Words.l0])
  | succ k1 =>
   have H := HA.out; clear HA
   simp only [spec_l2Words.l0] at H
   by_cases c5 : x4_1 < (l0_1.length : Int)
   ·rw [if_pos c5] at H; have c5b0 := decide_eq_true c5; clear c5
    replace H := it H; obtain ⟨c6b0, H⟩ := H; replace H := bs H; obtain ⟨t194, A70, H⟩ := H; replace H : (spec_l2Words.l1 k1 x3_1 x4_1 t194 0 l0_0 l0_1) = some r := H; have A7 := Aside0.mk A70; clear A70
    have H' := am H
    clear H; have hcz8_0 := bc BK189.out 0; have hcz8_1 := bc BK189.out 1; have hfz8_0 := bf BK189.out 0; have hfz8_1 := bf BK189.out 1
    try go_wp2
    replace HO_3 := am (Kd.V_drew HO_3.out); replace BK189 := am (blk_drew BK189.out); replace HB := am (below_drew1 HB.out)
    have p193 : 0 ≤ (x4_1 : Int) := of_decide_eq_true ad
    have q193 : x4_1 < (l0_1.length : Int) := of_decide_eq_true ad
    obtain ⟨ad193, e193, hx193_0, hx193_1⟩ := at_T78 HR0_1.out x4_1 p193 q193; have hw193_1 := hx193_1; have hw193_0 := hx193_0
    cases e193
    replace hx193_0 := kp HB.out hx193_0; replace hx193_1 := kp HB.out hx193_1; replace p193 := eq_true p193; replace q193 := eq_true q193
    refine st (n := 9) (S := fun w' => w'.cell? ⟨gb189, 0, none⟩ = some (.slice A0_0 l0_0.length c0_0) ∧ w'.cell? ⟨gb189, 1, none⟩ = some (.slice (some ad193) l0_1.length c0_1) ∧ w'.cell? (ad193.add ((x4_1).toNat * 2)) = some (.string ((rd_T78 l0_1 x4_1).f0)) ∧ w'.cell? ⟨(ad193.add ((x4_1).toNat * 2)).block, (ad193.add ((x4_1).toNat * 2)).off + 1, none⟩ = some (.string ((rd_T78 l0_1 x4_1).f1))) (ds := []) ⟨(blk_cell BK189.out 0).trans rfl, (blk_cell BK189.out 1).trans rfl, (kp HB.out hw193_0), (kp HB.out hw193_1)⟩ (fun hHeld => ?_); refine with_tabW spec_l2Words.tab5 spec_l2Words.bits5 (fun HT_ HW_ => ?_)
    generalize wr.drew = w9 at HO_3 BK189 HB hx193_0 hx193_1 hHeld ⊢
    refine pu 0 15 ?_
    refine pu 2 17 ?_
    refine pu 4 19 ?_
    refine tk4 1 16 hHeld ?_
    refine tk4 3 18 hHeld ?_
    refine pu 5 20 ?_
    refine tk4 6 21 hHeld ?_
    refine on1 7 22 (fun K hK => ?_)
    refine goes_ Tryz.func48 (by kernel_rfl) rfl #[.slice A0_0 l0_0.length c0_0, .agg #[.string ((rd_T78 l0_1 x4_1).f0), .string ((rd_T78 l0_1 x4_1).f1)]] (by rfl) rfl rfl mq ?_
    with_reducible refine (spec_l2Forms.calls k1 _ _ l0_0 ((rd_T78 l0_1 x4_1).f0) ((rd_T78 l0_1 x4_1).f1) t194 _ ?side1 ?side2 A7.out).mono ?_
    (case side1 => exact cq (Kd.C_below HR0_0.out HB.out)); (case side2 => exact HC0_0.out)
    rintro e w10 ⟨v195, rfl, ho0, hb⟩
    refine ⟨_, rfl, ?_⟩
    replace HO_3 := am (Kd.V_below (vq HO_3.out) hb); have HO196 := am (Kd.V_lower (Kd.V_mono (ok' := fun k_ => (w.heap.size ≤ k_) ∧ k_ ≠ gb189) ho0 (fun k_ hk_ => ⟨(Nat.le_trans (below_size (bel1 GE189.out)) hk_), (Kd.freshB (g := gb189) (o := .cells #[.slice A0_0 l0_0.length c0_0, .slice (some ad193) l0_1.length c0_1] 32 (0, 0)) (bq BK189.out) k_ hk_)⟩)) (below_size (bel1 GE189.out))); replace BK189 := am (blk_below (g := gb189) (o := .cells #[.slice A0_0 l0_0.length c0_0, .slice (some ad193) l0_1.length c0_1] 32 (0, 0)) (bq BK189.out) hb); replace HB := am (below_step (bel1 GE189.out) hb)
    (try clear hb)
    (try clear hb2)
    (try clear hk)
    (try clear hi)
    (try clear ho0)
    refine hK.out _ _ ⟨(blk_cell BK189.out 0).trans rfl, (blk_cell BK189.out 1).trans rfl, (kp HB.out hw193_0), (kp HB.out hw193_1)⟩ (fun hHeld => ?_)
    clear hK K
    refine norm_ (a' := ?_) ?_ ?_
    rotate_left
    ·show Act.put _ (some 22) _ = _
     simp only [Act.put, List.setIfInBounds_toArray, List.set_cons_zero, List.set_cons_succ, i64_w, i32_w]
     rfl
    refine pu 8 5 ?_
    refine done_ (done_of HT_.out (by kernel_rfl)) ?_
    try go_wp2
    go_loopg [3, 6] k1 (fun kq v3 v6 w' => ∃ (x3_2 : List ByteArray) (x6_2 : Int), v6 = .int .i64 x6_2 ∧ Aside0 (spec_l2Words.l1 kq x3_2 x4_1 t194 x6_2 l0_0 l0_1 = some r) ∧ Aside0 (kq ≤ k1) ∧ Aside0 (Kd.V Kd.string 9 w' w.heap.size (fun k_ => (w.heap.size ≤ k_) ∧ k_ ≠ gb189) v3 x3_2) ∧ Aside0 (Kd.V Kd.string 9 w' w.heap.size (fun k_ => (w.heap.size ≤ k_) ∧ k_ ≠ gb189) v195 t194) ∧ Aside0 (w'.heap[gb189]? = some (.cells #[(.slice A0_0 l0_0.length c0_0), (.slice (some ad193) l0_1.length c0_1)] 32 (0, 0))) ∧ Aside0 (Below w.heap.size w w'))
    case atStart => exact ⟨(x3_1), (0), sq, H', ⟨Nat.le_refl _⟩, ⟨vq HO_3.out⟩, ⟨vq HO196.out⟩, ⟨bq BK189.out⟩, ⟨bel1 GE189.out⟩⟩
    case round =>
     clear H'; (try clear p1); (try clear q1); (try clear hx1); (try clear c2); (try clear p2); (try clear c4); (try clear c5); (try clear c5b0); (try clear c6); (try clear c6b0); (try clear hcz8_0); (try clear hcz8_1); (try clear hfz8_0); (try clear hfz8_1); (try clear hx193_0); (try clear hx193_1); (try clear p193); (try clear p2); (try clear q193); obtain ⟨x3_2, x6_2, rfl, HA, HK2, HO_3, HO_5, BK189, HB⟩ := hrel
     cases gk with
     | zero => exact absurd HA.out (by simp [spec_l2Words.l1])
     | succ k2 =>
      have H := HA.out; clear HA
      simp only [spec_l2Words.l1] at H
      by_cases c11 : x6_2 < (t194.length : Int)
      ·rw [if_pos c11] at H; have c11b0 := decide_eq_true c11; clear c11
       replace H := it H; obtain ⟨c12b0, H⟩ := H; replace H := bs H; obtain ⟨t198, A130, H⟩ := H; replace H : (spec_l2Words.l1 k2 t198 x4_1 t194 (wrap64 (x6_2 + 1)) l0_0 l0_1) = some r := H; have A13 := Aside0.mk A130; clear A130
       have H' := am H
       clear H; obtain ⟨Ao14, co14, eo14⟩ := Kd.V_slice HO_5.out; subst eo14
       have p197 : 0 ≤ (x6_2 : Int) := of_decide_eq_true ad
       have q197 : x6_2 < (t194.length : Int) := of_decide_eq_true ad
       obtain ⟨ad197, e197, hx197_0⟩ := Kd.at_string (Kd.V_reads' HO_5.out).2.2 x6_2 p197 q197
       cases e197
       replace p197 := eq_true p197; replace q197 := eq_true q197; obtain ⟨Ao15, co15, eo15⟩ := Kd.V_slice HO_3.out; subst eo15
       go_wp2_with (first | ((with_reducible refine gate_callee (f := 49) rfl ?_); refine goesL_ (some 34) rfl rfl Tryz.func49 (by kernel_rfl) rfl #[.slice Ao15 x3_2.length co15, .string (rdOf ByteArray.empty t194 x6_2)] rfl mq ?_; (with_reducible refine (spec_l1Put.calls k2 (fun k_ => ((w.heap.size ≤ k_) ∧ k_ ≠ gb189)) _ _ x3_2 (rdOf ByteArray.empty t194 x6_2) t198 _ ?side1 A13.out).mono ?_); (case side1 => exact HO_3.out); rintro e w16 ⟨v199, rfl, ho0, hb⟩; refine ⟨_, rfl, ?_⟩; replace HO_3 := am (Kd.V_below (vq HO_3.out) hb); replace HO_5 := am (Kd.V_below (vq HO_5.out) hb); have HO200 := am (Kd.V_lower (Kd.V_mono (ok' := fun k_ => (w.heap.size ≤ k_) ∧ k_ ≠ gb189) ho0 (fun k_ hk_ => ⟨Or.elim hk_ (fun hs_ => hs_.1) (fun hn_ => (Nat.le_trans (below_size (bel1 GE189.out)) hn_)), Or.elim hk_ (fun hs_ => hs_.2) (fun hn_ => (Kd.freshB (g := gb189) (o := .cells #[.slice A0_0 l0_0.length c0_0, .slice (some ad193) l0_1.length c0_1] 32 (0, 0)) (bq BK189.out) k_ hn_))⟩)) (below_size (bel1 GE189.out))); replace BK189 := am (blk_below (g := gb189) (o := .cells #[.slice A0_0 l0_0.length c0_0, .slice (some ad193) l0_1.length c0_1] 32 (0, 0)) (bq BK189.out) hb); replace HB := am (below_step (bel1 GE189.out) hb); (try clear hb); (try clear hb2); (try clear hk); (try clear hi); (try clear ho0)))
       go_roundg k2
       case measure => have := HK1.out; have := HK2.out; omega
       case rel => exact ⟨(t198), (wrap64 (x6_2 + 1)), sq, H', ⟨by have := HK1.out; have := HK2.out; omega⟩, ⟨vq HO200.out⟩, ⟨vq HO_5.out⟩, ⟨bq BK189.out⟩, ⟨bel1 GE189.out⟩⟩
      rw [if_neg c11] at H; have c11b0 := decide_eq_false c11; clear c11
      have H' := am H
      clear H; obtain ⟨Ao17, co17, eo17⟩ := Kd.V_slice HO_5.out; subst eo17; go_wp2
      go_roundg k2
      case measure => have := HK1.out; have := HK2.out; omega
      case rel => exact ⟨(x3_2), (wrap64 (x4_1 + 1)), sq, H', ⟨by have := HK1.out; have := HK2.out; omega⟩, ⟨vq HO_3.out⟩, ⟨bq BK189.out⟩, ⟨bel1 GE189.out⟩⟩
   rw [if_neg c5] at H; have c5b0 := decide_eq_false c5; clear c5; obtain rfl := Option.some.inj H; have hcz18_0 := bc BK189.out 0; have hcz18_1 := bc BK189.out 1; have hfz18_0 := bf BK189.out 0; have hfz18_1 := bf BK189.out 1; go_wp2; go_ret
   exact ⟨_, eq_, by (with_reducible repeat (first | apply Kd.V_alloc | apply Kd.V_drewN | apply Kd.V_drew)); exact Kd.V_mono HO_3.out (fun _ hk => hk.1), bel1 GE189.out⟩

/-! ### spec_l4Letter: function 21 -/
def spec_l4Letter.f (a0 : Int) : Option (Bool) := if a0 ≥ 97 then (if a0 ≤ 122 then (some true) else (if a0 ≥ 65 then (some (decide (a0 ≤ 90))) else (some false))) else (if a0 ≥ 65 then (some (decide (a0 ≤ 90))) else (some false))
theorem spec_l4Letter.calls (a0 : Int) (r : Bool) (w : World) (h : spec_l4Letter.f a0 = some r) :
  Calls Tryz.prog 21 #[.int .u8 a0] w fun e w' => e = .returned (.bool r) ∧ Drawn0 w w' := by
 have H : (if a0 ≥ 97 then (if a0 ≤ 122 then (some true) else (if a0 ≥ 65 then (some (decide (a0 ≤ 90))) else (some false))) else (if a0 ≥ 65 then (some (decide (a0 ≤ 90))) else (some false))) = some r := h
 clear h
 by_cases c2 : a0 ≥ 97
 ·rw [if_pos c2] at H; have c2b0 := decide_eq_true c2; clear c2
  by_cases c3 : a0 ≤ 122
  ·rw [if_pos c3] at H; have c3b0 := decide_eq_true c3; clear c3; obtain rfl := Option.some.inj H; go_enter Tryz.func21, Tryz.ntmps21; go_wp2; go_ret
   exact ⟨sq, dr⟩
  rw [if_neg c3] at H; have c3b0 := decide_eq_false c3; clear c3
  by_cases c4 : a0 ≥ 65
  ·rw [if_pos c4] at H; have c4b0 := decide_eq_true c4; clear c4; obtain rfl := Option.some.inj H; go_enter Tryz.func21, Tryz.ntmps21; go_wp2; go_ret
   exact ⟨sq, dr⟩
  rw [if_neg c4] at H; have c4b0 := decide_eq_false c4; clear c4; obtain rfl := Option.some.inj H; go_enter Tryz.func21, Tryz.ntmps21; go_wp2; go_ret
  exact ⟨sq, dr⟩
 rw [if_neg c2] at H; have c2b0 := decide_eq_false c2; clear c2
 by_cases c5 : a0 ≥ 65
 ·rw [if_pos c5] at H; have c5b0 := decide_eq_true c5; clear c5; obtain rfl := Option.some.inj H; go_enter Tryz.func21, Tryz.ntmps21; go_wp2; go_ret
  exact ⟨sq, dr⟩
 rw [if_neg c5] at H; have c5b0 := decide_eq_false c5; clear c5; obtain rfl := Option.some.inj H; go_enter Tryz.func21, Tryz.ntmps21; go_wp2; go_ret
 exact ⟨sq, dr⟩

/-! ### spec_l4Small: function 22 -/
/-- A great letter told small. -/
def spec_l4Small.low (x : Int) : Int := if 65 ≤ x ∧ x ≤ 90 then x + 32 else x
def spec_l4Small.f (a0 : ByteArray) : Option ByteArray := if a0.size ≤ 1000000000 then some (strOfNums ((bytesOf a0).map spec_l4Small.low)) else none
def spec_l4Small.at_ (xs : List Int) (i j : Nat) : Int := if j < i then spec_l4Small.low (xs.getD j 0) else xs.getD j 0
def spec_l4Small.St (w W : World) (g n : Nat) (xs : List Int) (i : Nat) : Prop :=
 (∀ j, j < n → W.cell? ⟨g, j, none⟩ = some (.int .u8 (spec_l4Small.at_ xs i j)) ∧ W.frozen? ⟨g, j, none⟩ = false) ∧ w.heap.size ≤ g ∧ Below w.heap.size w W
theorem spec_l4Small.start (w : World) (s : ByteArray) : spec_l4Small.St w (Go.Lib.bytesWorld w 5 s) w.heap.size s.size (bytesOf s) 0 := by
 refine ⟨fun j hj => ⟨?_, ?_⟩, Nat.le_refl _, ?_⟩
 ·rw [Go.Lib.bytesWorld_cell w 5 s j hj]
  have hl : s.data.toList.length = s.size := data_length s
  simp only [spec_l4Small.at_, Nat.not_lt_zero, if_false, bytesOf, List.getD_eq_getElem?_getD, List.getElem?_map, List.getElem?_eq_getElem (show j < s.data.toList.length by omega), Option.map_some, Option.getD_some]
 ·have h1 := Go.Lib.bytesWorld_at_new w 5 s
  have h2 : s.size ≤ (Go.Lib.bytesCells w 5 s).size := by simp [Go.Lib.bytesCells]
  simp only [World.frozen?, h1]
  simp
  omega
 ·exact ⟨rfl, rfl, rfl, by rw [Go.Lib.bytesWorld_size]; omega, fun k hk => Go.Lib.bytesWorld_at_old w 5 s k hk⟩
theorem spec_l4Small.keep {w W : World} {g n : Nat} {xs : List Int} {i : Nat} (h : spec_l4Small.St w W g n xs i) (hx : spec_l4Small.low (xs.getD i 0) = xs.getD i 0) : spec_l4Small.St w W g n xs (i + 1) := by
 refine ⟨fun j hj => ⟨?_, (h.1 j hj).2⟩, h.2⟩
 rw [(h.1 j hj).1]
 unfold spec_l4Small.at_
 by_cases c : j = i
 ·subst c
  rw [if_neg (Nat.lt_irrefl _), if_pos (Nat.lt_succ_self _), hx]
 ·by_cases c2 : j < i
  ·rw [if_pos c2, if_pos (by omega)]
  rw [if_neg c2, if_neg (by omega)]
theorem spec_l4Small.put {w W : World} {g n : Nat} {xs : List Int} {i : Nat} (h : spec_l4Small.St w W g n xs i) (hi : i < n) : spec_l4Small.St w (W.setCell ⟨g, i, none⟩ (.int .u8 (spec_l4Small.low (xs.getD i 0)))) g n xs (i + 1) := by
 have hc := (h.1 i hi).1
 refine ⟨fun j hj => ?_, h.2.1, below_set h.2.2 h.2.1⟩
 by_cases c : j = i
 ·subst c
  refine ⟨?_, ?_⟩
  ·rw [World.cell?_setCell_same _ _ _ hc]
   unfold spec_l4Small.at_
   rw [if_pos (Nat.lt_succ_self _)]
  ·rw [World.frozen?_setCell]
   exact (h.1 j hj).2
 ·refine ⟨?_, ?_⟩
  ·rw [World.cell?_setCell_other _ _ _ _ (by intro e; injection e with _ e _; exact c e.symm), (h.1 j hj).1]
   unfold spec_l4Small.at_
   by_cases c2 : j < i
   ·rw [if_pos c2, if_pos (by omega)]
   rw [if_neg c2, if_neg (by omega)]
  ·rw [World.frozen?_setCell]
   exact (h.1 j hj).2
theorem spec_l4Small.calls (a0 : ByteArray) (r : ByteArray) (w : World) (h : spec_l4Small.f a0 = some r) :
  Calls Tryz.prog 22 #[.string a0] w fun e w' => e = .returned (.string r) ∧ Below w.heap.size w w' := by
 unfold spec_l4Small.f at h
 split at h
 case isFalse => cases h
 rename_i hz; obtain rfl := Option.some.inj h; clear h; have HZ := am hz; clear hz; have hc := Go.Lib.run_convert_string_bytes (P := Tryz.prog) w 9 39 5 a0 Tryz.underlying9 Tryz.underlying39 Tryz.underlying5; go_enter Tryz.func22, Tryz.ntmps22; go_wp2; clear hc; have HS := am (spec_l4Small.start w a0)
 generalize Go.Lib.bytesWorld w 5 a0 = w1 at HS ⊢
 generalize grownCap w a0.size 0 5 = cap
 generalize hg : w.heap.size = g at HS ⊢
 have hl : (bytesOf a0).length = a0.size := bytesOf_length a0
 have HL := am hl; clear hl
 go_loopg [4] a0.size (fun kq v4 W => ∃ (i : Nat), v4 = .int .i64 (i : Int) ∧ Aside0 (i + kq = a0.size) ∧ Aside0 (spec_l4Small.St w W g a0.size (bytesOf a0) i))
 case atStart => exact ⟨0, rfl, ⟨by omega⟩, HS⟩
 case round =>
  clear HS; obtain ⟨i, rfl, HI, HS⟩ := hrel; have hsz := HZ.out
  cases gk with
  | zero =>
   have hi := HI.out
   have c3b0 : decide ((i : Int) < (a0.size : Int)) = false := decide_eq_false (by omega)
   have hv := run_convert_bytes_arg (P := Tryz.prog) wr 39 5 Tryz.underlying39 Tryz.underlying5 g 0 a0.size cap ((bytesOf a0).map spec_l4Small.low) (by rw [List.length_map]; exact HL.out) (fun j hj => by
    have e1 := (HS.out.1 j hj).1
    rw [Nat.zero_add, e1]
    have hlt : j < (bytesOf a0).length := by rw [HL.out]; exact hj
    have : j < i := by omega
    simp [spec_l4Small.at_, this, List.getD_eq_getElem?_getD, hlt]) 9 Tryz.underlying9
   have c3b1 : decide (i < a0.size) = false := decide_eq_false (by omega)
   have c3b2 : (i < a0.size) = False := eq_false (by omega)
   clear hi hsz; go_wp2; go_ret
   exact ⟨rfl, HS.out.2.2⟩
  | succ k1 =>
   have hi := HI.out
   have hil : i < a0.size := by omega
   have c3b0 : decide ((i : Int) < (a0.size : Int)) = true := decide_eq_true (by omega)
   have c3b1 : decide (i < a0.size) = true := decide_eq_true hil
   have p5 := eq_true (show 0 ≤ ((i : Nat) : Int) by omega)
   have q5 := eq_true (show ((i : Nat) : Int) < (a0.size : Int) by omega)
   obtain ⟨hx0, hf0⟩ := HS.out.1 i hil
   have ea : spec_l4Small.at_ (bytesOf a0) i i = (bytesOf a0).getD i 0 := by unfold spec_l4Small.at_; rw [if_neg (Nat.lt_irrefl _)]
   rw [ea] at hx0
   have e3 : wrap64 ((i : Int) + 1) = ((i + 1 : Nat) : Int) := by unfold wrap64; omega
   have HIL := am hil
   generalize hx : (bytesOf a0).getD i 0 = x at hx0
   have HX := am hx; clear ea hil hi hsz hx
   by_cases c1 : 65 ≤ x
   ·have c1b : decide (x ≥ 65) = true := decide_eq_true c1
    by_cases c2 : x ≤ 90
    ·have c2b : decide (x ≤ 90) = true := decide_eq_true c2
     have hu : IntKind.u8.wrap (x + 32) = x + 32 := by show (x + 32) % 256 = _; omega
     have hlow : spec_l4Small.low ((bytesOf a0).getD i 0) = x + 32 := by rw [HX.out]; unfold spec_l4Small.low; rw [if_pos ⟨c1, c2⟩]
     have HN := am (spec_l4Small.put HS.out HIL.out); rw [hlow] at HN; clear hlow c1 c2; go_wp2
     go_roundg k1
     case measure => omega
     case rel => exact ⟨i + 1, by rw [e3], ⟨by have := HI.out; omega⟩, HN⟩
    have c2b : decide (x ≤ 90) = false := decide_eq_false c2
    have HN := am (spec_l4Small.keep HS.out (by rw [HX.out]; unfold spec_l4Small.low; rw [if_neg (fun h => c2 h.2)]))
    clear c1 c2; go_wp2
    go_roundg k1
    case measure => omega
    case rel => exact ⟨i + 1, by rw [e3], ⟨by have := HI.out; omega⟩, HN⟩
   have c1b : decide (x ≥ 65) = false := decide_eq_false c1
   have HN := am (spec_l4Small.keep HS.out (by rw [HX.out]; unfold spec_l4Small.low; rw [if_neg (fun h => c1 h.1)]))
   clear c1; go_wp2
   go_roundg k1
   case measure => omega
   case rel => exact ⟨i + 1, by rw [e3], ⟨by have := HI.out; omega⟩, HN⟩

/-! ### spec_l2In: function 23 -/
def spec_l2In.l0 : Nat → List ByteArray → ByteArray → Int → Option (Bool)
 | 0, _, _, _ => none
 | k + 1, x0, x1, x5 => if x5 < (x0.length : Int) then (if 0 ≤ x5 then (if (rdOf ByteArray.empty x0 x5).toList = x1.toList then (some true) else (spec_l2In.l0 k x0 x1 (wrap64 (x5 + 1)))) else (none)) else (some false)
def spec_l2In.f (k : Nat) (l0 : List ByteArray) (a1 : ByteArray) : Option (Bool) := spec_l2In.l0 k l0 a1 0
theorem spec_l2In.calls (k : Nat) (A0 : Option Addr) (c0 : Nat) (l0 : List ByteArray) (a1 : ByteArray) (r : Bool) (w : World) (hr0 : Kd.C Kd.string w A0 l0.length l0) (hc0 : l0.length ≤ c0) (h : spec_l2In.f k l0 a1 = some r) :
  Calls Tryz.prog 23 #[.slice A0 l0.length c0, .string a1] w fun e w' => e = .returned (.bool r) ∧ Drawn0 w w' := by
 have HR0 := am hr0; have HC0 := am hc0; clear hr0 hc0
 have H : (spec_l2In.l0 k l0 a1 0) = some r := h
 clear h
 have H' := am H
 clear H; go_enter Tryz.func23, Tryz.ntmps23; go_wp2
 go_loopg [5] k (fun kq v5 w' => ∃ (x5_1 : Int), v5 = .int .i64 x5_1 ∧ Aside0 (spec_l2In.l0 kq l0 a1 x5_1 = some r) ∧ Aside0 (kq ≤ k) ∧ Drawn0 w w')
 case atStart => exact ⟨(0), sq, H', ⟨Nat.le_refl _⟩, dr⟩
 case round =>
  clear H'; (try clear c2); (try clear p2); obtain ⟨x5_1, rfl, HA, HK1, ⟨m1, rfl⟩⟩ := hrel
  cases gk with
  | zero => exact absurd HA.out (by simp [spec_l2In.l0])
  | succ k1 =>
   have H := HA.out; clear HA
   simp only [spec_l2In.l0] at H
   by_cases c3 : x5_1 < (l0.length : Int)
   ·rw [if_pos c3] at H; have c3b0 := decide_eq_true c3; clear c3
    replace H := it H; obtain ⟨c4b0, H⟩ := H
    by_cases c5 : (rdOf ByteArray.empty l0 x5_1).toList = a1.toList
    ·rw [if_pos c5] at H
     have c5b0 : ((rdOf ByteArray.empty l0 x5_1).toList == a1.toList) = true := beq_iff_eq.mpr c5
     have c5b1 : ((rdOf ByteArray.empty l0 x5_1).toList != a1.toList) = false := bne_eq_false_iff_eq.mpr c5
     clear c5; obtain rfl := Option.some.inj H
     have p201 : 0 ≤ (x5_1 : Int) := of_decide_eq_true ad
     have q201 : x5_1 < (l0.length : Int) := of_decide_eq_true ad
     obtain ⟨ad201, e201, hx201_0⟩ := Kd.at_string HR0.out x5_1 p201 q201
     cases e201
     replace p201 := eq_true p201; replace q201 := eq_true q201; go_wp2; go_ret
     exact ⟨sq, dr⟩
    rw [if_neg c5] at H
    have c5b0 : ((rdOf ByteArray.empty l0 x5_1).toList == a1.toList) = false := beq_eq_false_iff_ne.mpr c5
    have c5b1 : ((rdOf ByteArray.empty l0 x5_1).toList != a1.toList) = true := bne_iff_ne.mpr c5
    have H' := am H
    clear H
    have p201 : 0 ≤ (x5_1 : Int) := of_decide_eq_true ad
    have q201 : x5_1 < (l0.length : Int) := of_decide_eq_true ad
    obtain ⟨ad201, e201, hx201_0⟩ := Kd.at_string HR0.out x5_1 p201 q201
    cases e201
    replace p201 := eq_true p201; replace q201 := eq_true q201; go_wp2
    go_roundg k1
    case measure => have := HK1.out; omega
    case rel => exact ⟨(wrap64 (x5_1 + 1)), sq, H', ⟨b14_⟩, dr⟩
   rw [if_neg c3] at H; have c3b0 := decide_eq_false c3; clear c3; obtain rfl := Option.some.inj H; go_wp2; go_ret
   exact ⟨sq, dr⟩
end Go.Proofs.YtfpmfaelodfecaaGreatDoor.QFnExactCheck
