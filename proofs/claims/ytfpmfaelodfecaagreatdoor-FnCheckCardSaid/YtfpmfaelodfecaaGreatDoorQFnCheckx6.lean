import Derived.Test.YtfpmfaelodfecaaGreatDoorQFnCheckx0
import Derived.Test.YtfpmfaelodfecaaGreatDoorVMSh2
namespace Go.Proofs.YtfpmfaelodfecaaGreatDoor.QFnCheck
open Go.RowKit Go.Proofs.YtfpmfaelodfecaaGreatDoorW.PrintWords Go.Proofs.YtfpmfaelodfecaaGreatDoorW.PrintLast Go.Proofs.YtfpmfaelodfecaaGreatDoorW.PrintMore Go.Proofs.YtfpmfaelodfecaaGreatDoor.Sh
attribute [local go_sem] max2_int min2_int max_two min_two max_three min_three max_four min_four
set_option linter.unusedVariables false
set_option linter.unusedSimpArgs false
set_option maxHeartbeats 8000000
set_option maxRecDepth 100000
-- shrunk

/-! ### spec_l1Put: function 49 -/
mutual
def spec_l1Put.l0 : Nat → List ByteArray → ByteArray → Int → Option (List ByteArray)
 | 0, _, _, _ => none
 | k + 1, x0, x1, x5 => if x5 < (x0.length : Int) then (if 0 ≤ x5 then (spec_l1Put.j1 k x0 x1 x5 (Op.bytesLess ((rdOf ByteArray.empty x0 x5).toList) x1.toList)) else (none)) else (spec_l1Put.j1 k x0 x1 x5 false)
def spec_l1Put.j1 : Nat → List ByteArray → ByteArray → Int → Bool → Option (List ByteArray)
 | 0, _, _, _, _ => none
 | k + 1, x0, x1, x5, x17 => if x17 = true then (spec_l1Put.l0 k x0 x1 (wrap64 (x5 + 1))) else (if x5 < (x0.length : Int) then (if 0 ≤ x5 then (spec_l1Put.j2 k x0 x1 x5 ((rdOf ByteArray.empty x0 x5).toList == x1.toList)) else (none)) else (spec_l1Put.j2 k x0 x1 x5 false))
def spec_l1Put.j2 : Nat → List ByteArray → ByteArray → Int → Bool → Option (List ByteArray)
 | 0, _, _, _, _ => none
 | k + 1, x0, x1, x5, x31 => if x31 = true then (some x0) else ((some (([] : List ByteArray) : List ByteArray)).bind fun y124 => (if 0 ≤ x5 then (if x5 ≤ (x0.length : Int) then ((some (x0.take (x5 : Int).toNat : List ByteArray)).bind fun y127 => (if y124.length + y127.length < 8796093022208 then ((some (y124 ++ y127 : List ByteArray)).bind fun y132 => ((some (([x1] : List ByteArray) : List ByteArray)).bind fun y135 => (if y132.length + y135.length < 8796093022208 then ((some (y132 ++ y135 : List ByteArray)).bind fun y138 => ((some (x0.drop (x5 : Int).toNat : List ByteArray)).bind fun y141 => (if y138.length + y141.length < 8796093022208 then (some (y138 ++ y141)) else (none)))) else (none)))) else (none))) else (none)) else (none)))
end
def spec_l1Put.f (k : Nat) (l0 : List ByteArray) (a1 : ByteArray) : Option (List ByteArray) := spec_l1Put.l0 k l0 a1 0
def spec_l1Put.T6 : Bool × List (List Nat × List Nat) := (true, [([], []), ([], []), ([], []), ([1, 2], [1, 2]), ([0, 3], [0, 3]), ([], []), ([5], [5]), ([4, 6, 4], [4, 6]), ([], []), ([], []), ([8, 9], [8, 9]), ([7, 10, 7], [7, 10]), ([11, 11, 0, 1, 2, 3, 4, 5, 6, 7, 8, 9, 10, 11], [11])])
def spec_l1Put.B6 : List Nat := [0, 0, 0, 6, 15, 0, 32, 127, 0, 0, 768, 2047, 4095]
theorem spec_l1Put.tab6 : rtab .any (opsOf Tryz.f49 6) = spec_l1Put.T6 := by kernel_rfl
theorem spec_l1Put.bits6 : waitsOk spec_l1Put.T6.2 spec_l1Put.B6 = true := by kernel_rfl
theorem spec_l1Put.calls (k : Nat) (P0_ : Nat → Prop) (A0 : Option Addr) (c0 : Nat) (l0 : List ByteArray) (a1 : ByteArray) (r : List ByteArray) (w : World) (hs0 : Kd.V Kd.string 9 w w.heap.size (fun k_ => P0_ k_) (.slice A0 l0.length c0) l0) (h : spec_l1Put.f k l0 a1 = some r) :
  Calls Tryz.prog 49 #[.slice A0 l0.length c0, .string a1] w fun e w' => ∃ v0_ : Value, e = .returned (v0_) ∧ Kd.V Kd.string 9 w' w.heap.size (fun k_ => (P0_ k_ ∨ w.heap.size ≤ k_)) v0_ r ∧ Below w.heap.size w w' := by
 have HO0 := am (show Kd.V Kd.string 9 w w.heap.size (fun k_ => (P0_ k_ ∨ w.heap.size ≤ k_)) (.slice A0 l0.length c0) l0 from Kd.V_mono hs0 (fun k_ hk => .inl hk)); have HB := am (Below.refl w.heap.size w)
 have H : (spec_l1Put.l0 k l0 a1 0) = some r := h
 clear h
 have H' := am H
 clear H; go_enter Tryz.func49, Tryz.ntmps49; go_wp2
 go_loopg [5] k (fun kq v5 w' => ∃ (x5_1 : Int), v5 = .int .i64 x5_1 ∧ Aside0 (spec_l1Put.l0 kq l0 a1 x5_1 = some r) ∧ Aside0 (kq ≤ k) ∧ Aside0 (Kd.V Kd.string 9 w' w.heap.size (fun k_ => (P0_ k_ ∨ w.heap.size ≤ k_)) (.slice A0 l0.length c0) l0) ∧ Aside0 (Below w.heap.size w w'))
 case atStart => exact ⟨(0), sq, H', ⟨Nat.le_refl _⟩, ⟨vq HO0.out⟩, ⟨bel⟩⟩
 case round =>
  clear H'; (try clear p2); obtain ⟨x5_1, rfl, HA, HK1, HO_0, HB⟩ := hrel
  cases gk with
  | zero => exact absurd HA.out (by simp [spec_l1Put.l0])
  | succ k1 =>
   have H := HA.out; clear HA
   simp only [spec_l1Put.l0] at H
   have HC3 := am H; clear H
   go_upto_region 2 with (fail)
   go_cut [17] (fun v17 wc => ∃ (kq : Nat) (x17_2 : Bool), v17 = .bool x17_2 ∧ Aside0 (spec_l1Put.j1 kq l0 a1 x5_1 x17_2 = some r) ∧ Aside0 (kq ≤ k1) ∧ Aside0 (Kd.V Kd.string 9 wc w.heap.size (fun k_ => (P0_ k_ ∨ w.heap.size ≤ k_)) (.slice A0 l0.length c0) l0) ∧ Aside0 (Below w.heap.size w wc))
   case first =>
    have H := HC3.out; clear HC3
    by_cases c4 : x5_1 < (l0.length : Int)
    ·rw [if_pos c4] at H; have c4b0 := decide_eq_true c4; clear c4
     (first | rw [c4b0] | (simp only [i64_w, i32_w]; rw [c4b0]) | skip)
     replace H := it H; obtain ⟨c5b0, H⟩ := H
     have H' := am H
     clear H
     have p122 : 0 ≤ (x5_1 : Int) := of_decide_eq_true ad
     have q122 : x5_1 < (l0.length : Int) := of_decide_eq_true ad
     obtain ⟨ad122, e122, hx122_0⟩ := Kd.at_string (Kd.V_reads' HO_0.out).2.2 x5_1 p122 q122
     cases e122
     replace p122 := eq_true p122; replace q122 := eq_true q122; go_wp2
     go_meet
     case rel => exact ⟨_, ((Op.bytesLess ((rdOf ByteArray.empty l0 x5_1).toList) a1.toList)), sq, H', ⟨b61_⟩, ⟨vq HO_0.out⟩, ⟨bel⟩⟩
    rw [if_neg c4] at H; have c4b0 := decide_eq_false c4; clear c4
    (first | rw [c4b0] | (simp only [i64_w, i32_w]; rw [c4b0]) | skip)
    have H' := am H
    clear H; go_wp2
    go_meet
    case rel => exact ⟨_, (false), sq, H', ⟨b61_⟩, ⟨vq HO_0.out⟩, ⟨bel⟩⟩
   case rest =>
    clear HC3; (try clear p1); (try clear q1); (try clear hx1); (try clear p2); (try clear c4); (try clear c4b0); (try clear c5); (try clear c5b0); (try clear hx122_0); (try clear p122); (try clear p2); (try clear q122); obtain ⟨kq, x17_2, rfl, HA, HJ2, HO_0, HB⟩ := hcut
    cases kq with
    | zero => exact absurd HA.out (by simp [spec_l1Put.j1])
    | succ kj2 =>
     have H := HA.out; clear HA
     simp only [spec_l1Put.j1] at H
     by_cases c6 : x17_2 = true
     ·subst c6
      have H1 : (spec_l1Put.l0 kj2 l0 a1 (wrap64 (x5_1 + 1))) = some r := b32_
      replace H := H1; clear H1
      have H' := am H
      clear H; go_wp2
      go_roundg kj2
      case measure => have := HK1.out; have := HJ2.out; omega
      case rel => exact ⟨(wrap64 (x5_1 + 1)), sq, H', ⟨by have := HK1.out; have := HJ2.out; omega⟩, ⟨vq HO_0.out⟩, ⟨bel⟩⟩
     replace c6 := Bool.eq_false_iff.mpr c6; subst c6
     have H1 : (if x5_1 < (l0.length : Int) then (if 0 ≤ x5_1 then (spec_l1Put.j2 kj2 l0 a1 x5_1 ((rdOf ByteArray.empty l0 x5_1).toList == a1.toList)) else (none)) else (spec_l1Put.j2 kj2 l0 a1 x5_1 false)) = some r := b13_
     replace H := H1; clear H1
     have HC7 := am H; clear H
     go_upto_region 4 with (fail)
     go_cut [31] (fun v31 wc => ∃ (kq : Nat) (x31_6 : Bool), v31 = .bool x31_6 ∧ Aside0 (spec_l1Put.j2 kq l0 a1 x5_1 x31_6 = some r) ∧ Aside0 (kq ≤ kj2) ∧ Aside0 (Kd.V Kd.string 9 wc w.heap.size (fun k_ => (P0_ k_ ∨ w.heap.size ≤ k_)) (.slice A0 l0.length c0) l0) ∧ Aside0 (Below w.heap.size w wc))
     case first =>
      have H := HC7.out; clear HC7
      by_cases c8 : x5_1 < (l0.length : Int)
      ·rw [if_pos c8] at H; have c8b0 := decide_eq_true c8; clear c8
       (first | rw [c8b0] | (simp only [i64_w, i32_w]; rw [c8b0]) | skip)
       replace H := it H; obtain ⟨c9b0, H⟩ := H
       have H' := am H
       clear H
       have p123 : 0 ≤ (x5_1 : Int) := of_decide_eq_true ad
       have q123 : x5_1 < (l0.length : Int) := of_decide_eq_true ad
       obtain ⟨ad123, e123, hx123_0⟩ := Kd.at_string (Kd.V_reads' HO_0.out).2.2 x5_1 p123 q123
       cases e123
       replace p123 := eq_true p123; replace q123 := eq_true q123; go_wp2
       go_meet
       case rel => exact ⟨_, (((rdOf ByteArray.empty l0 x5_1).toList == a1.toList)), sq, H', ⟨by have := HK1.out; have := HJ2.out; first | omega | exact Nat.le_refl _⟩, ⟨vq HO_0.out⟩, ⟨bel⟩⟩
      rw [if_neg c8] at H; have c8b0 := decide_eq_false c8; clear c8
      (first | rw [c8b0] | (simp only [i64_w, i32_w]; rw [c8b0]) | skip)
      have H' := am H
      clear H; go_wp2
      go_meet
      case rel => exact ⟨_, (false), sq, H', ⟨by have := HK1.out; have := HJ2.out; first | omega | exact Nat.le_refl _⟩, ⟨vq HO_0.out⟩, ⟨bel⟩⟩
     case rest =>
      clear HC7; (try clear p1); (try clear q1); (try clear hx1); (try clear p2); (try clear c4); (try clear c4b0); (try clear c5); (try clear c5b0); (try clear c6); (try clear p6); (try clear c8); (try clear c8b0); (try clear c9); (try clear c9b0); (try clear hx122_0); (try clear hx123_0); (try clear p1); (try clear p122); (try clear p123); (try clear p2); (try clear q1); (try clear q122); (try clear q123); obtain ⟨kq, x31_6, rfl, HA, HJ6, HO_0, HB⟩ := hcut
      cases kq with
      | zero => exact absurd HA.out (by simp [spec_l1Put.j2])
      | succ kj6 =>
       have H := HA.out; clear HA
       simp only [spec_l1Put.j2] at H
       by_cases c10 : x31_6 = true
       ·subst c10
        have H1 : (some l0) = some r := b32_
        replace H := H1; clear H1
        obtain rfl := Option.some.inj H; go_wp2; go_ret
        exact ⟨_, eq_, by (with_reducible repeat (first | apply Kd.V_alloc | apply Kd.V_drewN | apply Kd.V_drew)); exact HO_0.out, bel⟩
       replace c10 := Bool.eq_false_iff.mpr c10; subst c10
       have H1 : ((some (([] : List ByteArray) : List ByteArray)).bind fun y124 => (if 0 ≤ x5_1 then (if x5_1 ≤ (l0.length : Int) then ((some (l0.take (x5_1 : Int).toNat : List ByteArray)).bind fun y127 => (if y124.length + y127.length < 8796093022208 then ((some (y124 ++ y127 : List ByteArray)).bind fun y132 => ((some (([a1] : List ByteArray) : List ByteArray)).bind fun y135 => (if y132.length + y135.length < 8796093022208 then ((some (y132 ++ y135 : List ByteArray)).bind fun y138 => ((some (l0.drop (x5_1 : Int).toNat : List ByteArray)).bind fun y141 => (if y138.length + y141.length < 8796093022208 then (some (y138 ++ y141)) else (none)))) else (none)))) else (none))) else (none)) else (none))) = some r := b13_
       replace H := H1; clear H1
       obtain ⟨y124, hy124⟩ : ∃ y_ : List ByteArray, y_ = (([] : List ByteArray)) := ⟨_, rfl⟩
       replace H : (if 0 ≤ x5_1 then (if x5_1 ≤ (l0.length : Int) then ((some (l0.take (x5_1 : Int).toNat : List ByteArray)).bind fun y127 => (if y124.length + y127.length < 8796093022208 then ((some (y124 ++ y127 : List ByteArray)).bind fun y132 => ((some (([a1] : List ByteArray) : List ByteArray)).bind fun y135 => (if y132.length + y135.length < 8796093022208 then ((some (y132 ++ y135 : List ByteArray)).bind fun y138 => ((some (l0.drop (x5_1 : Int).toNat : List ByteArray)).bind fun y141 => (if y138.length + y141.length < 8796093022208 then (some (y138 ++ y141)) else (none)))) else (none)))) else (none))) else (none)) else (none)) = some r := by first | (rw [hy124]; with_reducible exact H) | (have H2_ := bm H; rw [hy124]; with_reducible exact H2_) | (with_reducible exact bm H) | with_reducible exact H | (rw [hy124]; exact H) | exact H
       have Ny124 := am hy124; clear hy124
       replace H := ip H; obtain ⟨c11, H⟩ := H; have c11b0 := eq_true c11
       have c11b1 : decide (0 ≤ x5_1) = true := decide_eq_true c11
       clear c11
       replace H := ip H; obtain ⟨c12, H⟩ := H; have c12b0 := eq_true c12
       have c12b1 : decide (x5_1 ≤ (l0.length : Int)) = true := decide_eq_true c12
       clear c12; obtain ⟨y127, hy127⟩ : ∃ y_ : List ByteArray, y_ = (l0.take (x5_1 : Int).toNat) := ⟨_, rfl⟩
       replace H : (if y124.length + y127.length < 8796093022208 then ((some (y124 ++ y127 : List ByteArray)).bind fun y132 => ((some (([a1] : List ByteArray) : List ByteArray)).bind fun y135 => (if y132.length + y135.length < 8796093022208 then ((some (y132 ++ y135 : List ByteArray)).bind fun y138 => ((some (l0.drop (x5_1 : Int).toNat : List ByteArray)).bind fun y141 => (if y138.length + y141.length < 8796093022208 then (some (y138 ++ y141)) else (none)))) else (none)))) else (none)) = some r := by first | (rw [hy127]; with_reducible exact H) | (have H2_ := bm H; rw [hy127]; with_reducible exact H2_) | (with_reducible exact bm H) | with_reducible exact H | (rw [hy127]; exact H) | exact H
       have Ny127 := am hy127; clear hy127
       replace H := ip H; obtain ⟨c13, H⟩ := H; have LMc13 := Aside0.mk c13; clear c13; obtain ⟨y132, hy132⟩ : ∃ y_ : List ByteArray, y_ = (y124 ++ y127) := ⟨_, rfl⟩
       replace H : ((some (([a1] : List ByteArray) : List ByteArray)).bind fun y135 => (if y132.length + y135.length < 8796093022208 then ((some (y132 ++ y135 : List ByteArray)).bind fun y138 => ((some (l0.drop (x5_1 : Int).toNat : List ByteArray)).bind fun y141 => (if y138.length + y141.length < 8796093022208 then (some (y138 ++ y141)) else (none)))) else (none))) = some r := by first | (rw [hy132]; with_reducible exact H) | (have H2_ := bm H; rw [hy132]; with_reducible exact H2_) | (with_reducible exact bm H) | with_reducible exact H | (rw [hy132]; exact H) | exact H
       have Ny132 := am hy132; clear hy132; obtain ⟨y135, hy135⟩ : ∃ y_ : List ByteArray, y_ = (([a1] : List ByteArray)) := ⟨_, rfl⟩
       replace H : (if y132.length + y135.length < 8796093022208 then ((some (y132 ++ y135 : List ByteArray)).bind fun y138 => ((some (l0.drop (x5_1 : Int).toNat : List ByteArray)).bind fun y141 => (if y138.length + y141.length < 8796093022208 then (some (y138 ++ y141)) else (none)))) else (none)) = some r := by first | (rw [hy135]; with_reducible exact H) | (have H2_ := bm H; rw [hy135]; with_reducible exact H2_) | (with_reducible exact bm H) | with_reducible exact H | (rw [hy135]; exact H) | exact H
       have Ny135 := am hy135; clear hy135
       replace H := ip H; obtain ⟨c14, H⟩ := H; have LMc14 := Aside0.mk c14; clear c14; obtain ⟨y138, hy138⟩ : ∃ y_ : List ByteArray, y_ = (y132 ++ y135) := ⟨_, rfl⟩
       replace H : ((some (l0.drop (x5_1 : Int).toNat : List ByteArray)).bind fun y141 => (if y138.length + y141.length < 8796093022208 then (some (y138 ++ y141)) else (none))) = some r := by first | (rw [hy138]; with_reducible exact H) | (have H2_ := bm H; rw [hy138]; with_reducible exact H2_) | (with_reducible exact bm H) | with_reducible exact H | (rw [hy138]; exact H) | exact H
       have Ny138 := am hy138; clear hy138; have c15b0 := eq_true (of_decide_eq_true ad : 0 ≤ x5_1); have c16b0 := eq_true (of_decide_eq_true ad : x5_1 ≤ (l0.length : Int)); obtain ⟨y141, hy141⟩ : ∃ y_ : List ByteArray, y_ = (l0.drop (x5_1 : Int).toNat) := ⟨_, rfl⟩
       replace H : (if y138.length + y141.length < 8796093022208 then (some (y138 ++ y141)) else (none)) = some r := by first | (rw [hy141]; with_reducible exact H) | (have H2_ := bm H; rw [hy141]; with_reducible exact H2_) | (with_reducible exact bm H) | with_reducible exact H | (rw [hy141]; exact H) | exact H
       have Ny141 := am hy141; clear hy141
       replace H := ip H; obtain ⟨c17, H⟩ := H; have LMc17 := Aside0.mk c17; clear c17; obtain ⟨y146, hy146⟩ : ∃ y_ : List ByteArray, y_ = (y138 ++ y141) := ⟨_, rfl⟩
       replace H : (some y146) = some r := by first | (rw [hy146]; with_reducible exact H) | (have H2_ := bm H; rw [hy146]; with_reducible exact H2_) | (with_reducible exact bm H) | with_reducible exact H | (rw [hy146]; exact H) | exact H
       have Ny146 := am hy146; clear hy146; obtain rfl := Option.some.inj H
       try go_wp2
       replace HO_0 := am (Kd.V_drew HO_0.out); replace HB := am (below_drew1 HB.out)
       have q19 : (x5_1 : Int) ≤ ((l0.length : Int) : Int) := of_decide_eq_true ad
       obtain ⟨i019, hi019, _, hsz19, _⟩ := info_parts info9
       have hroom19 : l0.length ≤ c0 := (Kd.V_reads' HO_0.out).2.1
       have hC19 : Kd.F Kd.string _ _ A0 l0.length l0 := (Kd.V_at (base := w.heap.size) HO_0.out).2.2
       have hcut19 := cut_to (P := Tryz.prog) 49 9 .i64 Tryz.underlying49 hi019 A0 l0.length c0 x5_1 (of_decide_eq_true ad) q19 hroom19
       have hr19 := Kd.F_take (m := (x5_1 : Int).toNat) hC19 (by omega)
       have hy19 : y127.length = (x5_1 : Int).toNat := (by rw [Ny127.out, List.length_take]; omega)
       rw [← Ny127.out] at hr19; rw [← hy19] at hcut19
       have HO131 := am (show Kd.V Kd.string 9 _ w.heap.size _ (.slice A0 y127.length c0) y127 from Kd.V_mk (by omega) hr19)
       have HC131 := am (show y127.length ≤ c0 from by omega)
       clear hr19 hC19 hroom19 hi019 hsz19; have KY19 := am hy19; clear hy19; replace q19 := eq_true q19
       have q20 : (x5_1 : Int) ≤ ((l0.length : Int) : Int) := of_decide_eq_true ad
       obtain ⟨i020, hi020, _, hsz20, _⟩ := info_parts info9
       have hroom20 : l0.length ≤ c0 := (Kd.V_reads' HO_0.out).2.1
       have hC20 : Kd.F Kd.string _ _ A0 l0.length l0 := (Kd.V_at (base := w.heap.size) HO_0.out).2.2
       have q020 : (0 : Int) ≤ (x5_1 : Int) := of_decide_eq_true ad
       have hcut20 := cut_from (P := Tryz.prog) 49 9 .i64 Tryz.underlying49 hi020 1 hsz20 A0 l0.length c0 x5_1 q020 q20
       have hr20 := Kd.F_cut (m := (x5_1 : Int).toNat) (c := c0) hC20 (by omega) hroom20
       obtain ⟨A20, hA20⟩ : ∃ A1, A1 = (if c0 = (x5_1 : Int).toNat then A0 else (A0 : Option Addr).map (·.add ((x5_1 : Int).toNat * 1))) := ⟨_, rfl⟩; obtain ⟨c20, hc20⟩ : ∃ c1, c1 = c0 - (x5_1 : Int).toNat := ⟨_, rfl⟩
       have hy20 : y141.length = l0.length - (x5_1 : Int).toNat := (by rw [Ny141.out, List.length_drop] <;> omega)
       rw [show (l0).drop (x5_1 : Int).toNat = y141 from Ny141.out.symm] at hr20
       replace hr20 : Kd.F Kd.string _ _ A20 y141.length y141 := (by rw [hA20]; exact hr20)
       rw [← hy20, ← hA20, ← hc20] at hcut20
       have HO145 := am (show Kd.V Kd.string 9 _ w.heap.size _ (.slice A20 y141.length c20) y141 from Kd.V_mk (by rw [hy20, hc20]; exact Nat.sub_le_sub_right hroom20 _) hr20)
       have HC145 := am (show y141.length ≤ c20 from by rw [hy20, hc20]; exact Nat.sub_le_sub_right hroom20 _)
       clear hr20 hC20 hroom20 hi020 hsz20 hc20; have KY20 := am hy20; have KA20 := am hA20; clear hy20 hA20; replace q20 := eq_true q20
       refine st (n := 13) (S := fun w' => True) (ds := []) trivial (fun hHeld => ?_); refine with_tabW spec_l1Put.tab6 spec_l1Put.bits6 (fun HT_ HW_ => ?_)
       generalize wc.drew = w18 at HO_0 HB HO131 HO145 hHeld ⊢
       refine pu 1 34 ?_
       refine pu 2 35 ?_
       refine pu 3 36 ?_
       refine pu 5 38 ?_
       refine pu 8 41 ?_
       refine pu 9 42 ?_
       refine pu 10 43 ?_
       refine join_ (σ := Value × Value × Value) 3 #[true, true, true, true, true, true, true, false, true, true, true, false, false] (fun s_ => [(33, s_.1), (37, s_.2.1), (39, s_.2.2)]) (fun s_ w' => (Kd.V Kd.string 9 w' w.heap.size (fun k_ => (P0_ k_ ∨ w.heap.size ≤ k_) ∧ some k_ ≠ (s_.2.1 : Value).ownBlock ∧ some k_ ≠ (s_.2.2 : Value).ownBlock) (.slice A0 y127.length c0) y127) ∧ (Kd.R Kd.string 9 w' w.heap.size (fun k_ => (w.heap.size ≤ k_) ∧ some k_ ≠ (s_.2.2 : Value).ownBlock) s_.2.1 y132) ∧ (Kd.R Kd.string 9 w' w.heap.size (fun k_ => (w.heap.size ≤ k_) ∧ some k_ ≠ (s_.2.1 : Value).ownBlock) s_.2.2 y135) ∧ (Kd.V Kd.string 9 w' w.heap.size (fun k_ => (P0_ k_ ∨ w.heap.size ≤ k_) ∧ some k_ ≠ (s_.2.1 : Value).ownBlock ∧ some k_ ≠ (s_.2.2 : Value).ownBlock) (.slice A20 y141.length c20) y141) ∧ (Kd.V Kd.string 9 w' w.heap.size (fun k_ => (P0_ k_ ∨ w.heap.size ≤ k_) ∧ some k_ ≠ (s_.2.1 : Value).ownBlock ∧ some k_ ≠ (s_.2.2 : Value).ownBlock) (.slice A0 l0.length c0) l0) ∧ (Below w.heap.size w w')) ?_ ?_
       rotate_left
       ·intro hCont
        refine two_ (i := 0) (j := 6) (Ni := some 33) (Nj := some 39) #[true, true, true, true, false, true, false, false, true, true, true, false, false] #[false, true, true, true, false, true, true, false, true, true, true, false, false] rfl rfl rfl rfl (two_of HT_.out (by kernel_rfl)) (by decide) (by decide) (fun K hK => ?_) (fun K hK => ?_)
        ·skip
         refine Kd.R_lit_step Kd.string _ 9 ?hg (N := 33) ?hd (xs := ([] : List ByteArray)) (inner := []) (ok := fun _ => True) (okp := fun _ => True) ?hr ?hp (fun _ hk => hk) trivial (Below.refl _ _) (Nat.le_refl _) (by simp) ?_; (case hd => rfl); (case hg => rfl); (case hr => first | (go_simp; done) | (go_simp; rfl)); (case hp => exact (Reps.none _ _))
         intro v125 w21 ho22 hb hg_ hnew_; clear hg_ hnew_
         (first | rw [← Ny124.out] at ho22 | (simp only [Int.reduceToNat] at ho22; rw [← Ny124.out] at ho22) | (simp only [Int.toNat_natCast] at ho22; rw [← Ny124.out] at ho22))
         replace HO_0 := am (Kd.V_elder' (vq HO_0.out) (Kd.R_base ho22) hb); replace HO131 := am (Kd.V_elder' (vq HO131.out) (Kd.R_base ho22) hb); replace HO145 := am (Kd.V_elder' (vq HO145.out) (Kd.R_base ho22) hb); have HO126 := am (Kd.R_lower (Kd.R_newM (M := fun k_ => (w.heap.size ≤ k_)) ho22 (below_size bel) (fun k_ h_ => h_)) (below_size bel)); replace HB := am (below_step bel hb); clear hb ho22
         refine hK.out _ _ trivial (fun hHeld => ?_)
         clear hK K
         refine norm_ (a' := ?_) ?_ ?_
         rotate_left
         ·show Act.put _ (some 33) _ = _
          simp only [Act.put, List.setIfInBounds_toArray, List.set_cons_zero, List.set_cons_succ, i64_w, i32_w]
          rfl
         refine two_ (i := 4) (j := 6) (Ni := some 37) (Nj := some 39) #[true, true, true, true, true, true, false, false, true, true, true, false, false] #[true, true, true, true, false, true, true, false, true, true, true, false, false] rfl rfl rfl rfl (two_of HT_.out (by kernel_rfl)) (by decide) (by decide) (fun K hK => ?_) (fun K hK => ?_)
         ·skip
          refine Kd.R_append_rows_step Kd.string (w0 := w) w.heap.size (by rfl) (.tmp 33) (.tmp 36) 49 9 (.string ⟨#[]⟩) 16 rfl Tryz.underlying49 info9 rfl (by decide) (by omega) v125 y124 y127 _ _ _ (fun k_ => (w.heap.size ≤ k_)) (fun _ => False) rfl rfl ?aO ?aR (fun _ _ h => h) (fun _ h => h.elim) ?aF ?aB ?aS ?aL ?_
          (case aR => exact cq (Kd.V_reads' HO131.out).2.2); (case aB => exact bel); (case aF => exact (fun k_ hk => (Nat.le_trans (below_size bel) hk))); (case aO => exact (rq (Kd.R_mono HO126.out (fun _ hk => hk.1)))); (case aS => exact (below_size bel)); (case aL => have := LMc13.out; omega); intro v133 w23 ho hb hg hat; rw [← Ny132.out] at ho; replace HO_0 := am (Kd.V_afterv (ok := (fun k_ => (P0_ k_ ∨ w.heap.size ≤ k_))) (vq HO_0.out) hg hat); replace HO131 := am (Kd.V_afterv (ok := (fun k_ => (P0_ k_ ∨ w.heap.size ≤ k_))) (vq HO131.out) hg hat); replace HO145 := am (Kd.V_afterv (ok := (fun k_ => (P0_ k_ ∨ w.heap.size ≤ k_))) (vq HO145.out) hg hat); replace HB := am (hb); have HO134 := am (ho); clear HO126; clear ho hb hg hat
          refine hK.out _ _ trivial (fun hHeld => ?_)
          clear hK K
          refine norm_ (a' := ?_) ?_ ?_
          rotate_left
          ·show Act.put _ (some 37) _ = _
           simp only [Act.put, List.setIfInBounds_toArray, List.set_cons_zero, List.set_cons_succ, i64_w, i32_w]
           rfl
          refine on1 6 39 (fun K hK => ?_)
          refine Kd.R_lit_step Kd.string _ 9 ?hg (N := 39) ?hd (xs := ([a1] : List ByteArray)) (inner := [.string a1]) (ok := fun _ => True) (okp := fun _ => True) ?hr ?hp (fun _ hk => hk) trivial (Below.refl _ _) (Nat.le_refl _) (by simp) ?_; (case hd => rfl); (case hg => rfl); (case hr => first | (go_simp; done) | (go_simp; rfl)); (case hp => exact (Reps.one (show Kd.M Kd.string _ _ _ a1 [.string a1] from rfl) (Reps.none _ _)))
          intro v136 w24 ho25 hb hg_ hnew_; clear hg_ hnew_
          (first | rw [← Ny135.out] at ho25 | (simp only [Int.reduceToNat] at ho25; rw [← Ny135.out] at ho25) | (simp only [Int.toNat_natCast] at ho25; rw [← Ny135.out] at ho25))
          replace HO_0 := am (Kd.V_elder' (vq HO_0.out) (Kd.R_base ho25) hb); replace HO131 := am (Kd.V_elder' (vq HO131.out) (Kd.R_base ho25) hb); replace HO145 := am (Kd.V_elder' (vq HO145.out) (Kd.R_base ho25) hb); have HO137 := am (Kd.R_lower (Kd.R_new' (Kd.R_newM (M := fun k_ => (w.heap.size ≤ k_)) ho25 (below_size bel) (fun k_ h_ => h_)) (Kd.R_lt (rq HO134.out))) (below_size bel)); replace HO134 := am (Kd.R_elder' (rq HO134.out) (Kd.R_base ho25) hb); replace HB := am (below_step bel hb); clear hb ho25
          refine hK.out _ _ trivial (fun hHeld => ?_)
          clear hK K
          refine norm_ (a' := ?_) ?_ ?_
          rotate_left
          ·show Act.put _ (some 39) _ = _
           simp only [Act.put, List.setIfInBounds_toArray, List.set_cons_zero, List.set_cons_succ, i64_w, i32_w]
           rfl
          exact norm_ b65_ (hCont (v125, v133, v136) _ ⟨(vq (Kd.V_mono HO131.out (fun _ hk => ⟨hk.1.1, ⟨hk.1.2, hk.2⟩⟩))), (rq HO134.out), (rq (Kd.R_mono HO137.out (fun _ hk => ⟨hk.1.1, hk.2⟩))), (vq (Kd.V_mono HO145.out (fun _ hk => ⟨hk.1.1, ⟨hk.1.2, hk.2⟩⟩))), (vq (Kd.V_mono HO_0.out (fun _ hk => ⟨hk.1.1, ⟨hk.1.2, hk.2⟩⟩))), bel⟩)
         ·skip
          refine Kd.R_lit_step Kd.string _ 9 ?hg (N := 39) ?hd (xs := ([a1] : List ByteArray)) (inner := [.string a1]) (ok := fun _ => True) (okp := fun _ => True) ?hr ?hp (fun _ hk => hk) trivial (Below.refl _ _) (Nat.le_refl _) (by simp) ?_; (case hd => rfl); (case hg => rfl); (case hr => first | (go_simp; done) | (go_simp; rfl)); (case hp => exact (Reps.one (show Kd.M Kd.string _ _ _ a1 [.string a1] from rfl) (Reps.none _ _)))
          intro v136 w23 ho24 hb hg_ hnew_; clear hg_ hnew_
          (first | rw [← Ny135.out] at ho24 | (simp only [Int.reduceToNat] at ho24; rw [← Ny135.out] at ho24) | (simp only [Int.toNat_natCast] at ho24; rw [← Ny135.out] at ho24))
          replace HO_0 := am (Kd.V_elder' (vq HO_0.out) (Kd.R_base ho24) hb); replace HO131 := am (Kd.V_elder' (vq HO131.out) (Kd.R_base ho24) hb); replace HO145 := am (Kd.V_elder' (vq HO145.out) (Kd.R_base ho24) hb); have HO137 := am (Kd.R_lower (Kd.R_new' (Kd.R_newM (M := fun k_ => (w.heap.size ≤ k_)) ho24 (below_size bel) (fun k_ h_ => h_)) (Kd.R_lt (rq HO126.out))) (below_size bel)); replace HO126 := am (Kd.R_elder' (rq HO126.out) (Kd.R_base ho24) hb); replace HB := am (below_step bel hb); clear hb ho24
          refine hK.out _ _ trivial (fun hHeld => ?_)
          clear hK K
          refine norm_ (a' := ?_) ?_ ?_
          rotate_left
          ·show Act.put _ (some 39) _ = _
           simp only [Act.put, List.setIfInBounds_toArray, List.set_cons_zero, List.set_cons_succ, i64_w, i32_w]
           rfl
          refine on1 4 37 (fun K hK => ?_)
          refine Kd.R_append_rows_step Kd.string (w0 := w) w.heap.size (by rfl) (.tmp 33) (.tmp 36) 49 9 (.string ⟨#[]⟩) 16 rfl Tryz.underlying49 info9 rfl (by decide) (by omega) v125 y124 y127 _ _ _ (fun k_ => (w.heap.size ≤ k_) ∧ some k_ ≠ (v136 : Value).ownBlock) (fun _ => False) rfl rfl ?aO ?aR (fun _ _ h => h) (fun _ h => h.elim) ?aF ?aB ?aS ?aL ?_
          (case aR => exact cq (Kd.V_reads' HO131.out).2.2); (case aB => exact bel); (case aF => exact (fun k_ hk => ⟨(Nat.le_trans (below_size bel) hk), Kd.fresh' (Kd.R_lt (rq HO137.out)) k_ hk⟩)); (case aO => exact (rq (Kd.R_mono HO126.out (fun _ hk => ⟨hk.1.1, hk.2⟩)))); (case aS => exact (below_size bel)); (case aL => have := LMc13.out; omega); intro v133 w25 ho hb hg hat; rw [← Ny132.out] at ho; replace HO_0 := am (Kd.V_afterv (ok := (fun k_ => (P0_ k_ ∨ w.heap.size ≤ k_) ∧ some k_ ≠ (v136 : Value).ownBlock)) (vq (Kd.V_mono HO_0.out (fun _ hk => ⟨⟨hk.1.1, hk.2⟩, hk.1.2⟩))) hg hat); replace HO131 := am (Kd.V_afterv (ok := (fun k_ => (P0_ k_ ∨ w.heap.size ≤ k_) ∧ some k_ ≠ (v136 : Value).ownBlock)) (vq (Kd.V_mono HO131.out (fun _ hk => ⟨⟨hk.1.1, hk.2⟩, hk.1.2⟩))) hg hat); replace HO145 := am (Kd.V_afterv (ok := (fun k_ => (P0_ k_ ∨ w.heap.size ≤ k_) ∧ some k_ ≠ (v136 : Value).ownBlock)) (vq (Kd.V_mono HO145.out (fun _ hk => ⟨⟨hk.1.1, hk.2⟩, hk.1.2⟩))) hg hat); replace HO137 := am (Kd.R_after (ok := (fun k_ => (w.heap.size ≤ k_))) (rq (Kd.R_mono HO137.out (fun _ hk => ⟨hk.1.1, hk.2⟩))) hg hat); replace HB := am (hb); have HO134 := am (ho); clear HO126; clear ho hb hg hat
          refine hK.out _ _ trivial (fun hHeld => ?_)
          clear hK K
          refine norm_ (a' := ?_) ?_ ?_
          rotate_left
          ·show Act.put _ (some 37) _ = _
           simp only [Act.put, List.setIfInBounds_toArray, List.set_cons_zero, List.set_cons_succ, i64_w, i32_w]
           rfl
          exact norm_ b65_ (hCont (v125, v133, v136) _ ⟨(vq (Kd.V_mono HO131.out (fun _ hk => ⟨hk.1.1, ⟨hk.2, hk.1.2⟩⟩))), (rq HO134.out), (rq HO137.out), (vq (Kd.V_mono HO145.out (fun _ hk => ⟨hk.1.1, ⟨hk.2, hk.1.2⟩⟩))), (vq (Kd.V_mono HO_0.out (fun _ hk => ⟨hk.1.1, ⟨hk.2, hk.1.2⟩⟩))), bel⟩)
        ·skip
         refine Kd.R_lit_step Kd.string _ 9 ?hg (N := 39) ?hd (xs := ([a1] : List ByteArray)) (inner := [.string a1]) (ok := fun _ => True) (okp := fun _ => True) ?hr ?hp (fun _ hk => hk) trivial (Below.refl _ _) (Nat.le_refl _) (by simp) ?_; (case hd => rfl); (case hg => rfl); (case hr => first | (go_simp; done) | (go_simp; rfl)); (case hp => exact (Reps.one (show Kd.M Kd.string _ _ _ a1 [.string a1] from rfl) (Reps.none _ _)))
         intro v136 w21 ho22 hb hg_ hnew_; clear hg_ hnew_
         (first | rw [← Ny135.out] at ho22 | (simp only [Int.reduceToNat] at ho22; rw [← Ny135.out] at ho22) | (simp only [Int.toNat_natCast] at ho22; rw [← Ny135.out] at ho22))
         replace HO_0 := am (Kd.V_elder' (vq HO_0.out) (Kd.R_base ho22) hb); replace HO131 := am (Kd.V_elder' (vq HO131.out) (Kd.R_base ho22) hb); replace HO145 := am (Kd.V_elder' (vq HO145.out) (Kd.R_base ho22) hb); have HO137 := am (Kd.R_lower (Kd.R_newM (M := fun k_ => (w.heap.size ≤ k_)) ho22 (below_size bel) (fun k_ h_ => h_)) (below_size bel)); replace HB := am (below_step bel hb); clear hb ho22
         refine hK.out _ _ trivial (fun hHeld => ?_)
         clear hK K
         refine norm_ (a' := ?_) ?_ ?_
         rotate_left
         ·show Act.put _ (some 39) _ = _
          simp only [Act.put, List.setIfInBounds_toArray, List.set_cons_zero, List.set_cons_succ, i64_w, i32_w]
          rfl
         refine on1 0 33 (fun K hK => ?_)
         refine Kd.R_lit_step Kd.string _ 9 ?hg (N := 33) ?hd (xs := ([] : List ByteArray)) (inner := []) (ok := fun _ => True) (okp := fun _ => True) ?hr ?hp (fun _ hk => hk) trivial (Below.refl _ _) (Nat.le_refl _) (by simp) ?_; (case hd => rfl); (case hg => rfl); (case hr => first | (go_simp; done) | (go_simp; rfl)); (case hp => exact (Reps.none _ _))
         intro v125 w23 ho24 hb hg_ hnew_; clear hg_ hnew_
         (first | rw [← Ny124.out] at ho24 | (simp only [Int.reduceToNat] at ho24; rw [← Ny124.out] at ho24) | (simp only [Int.toNat_natCast] at ho24; rw [← Ny124.out] at ho24))
         replace HO_0 := am (Kd.V_elder' (vq HO_0.out) (Kd.R_base ho24) hb); replace HO131 := am (Kd.V_elder' (vq HO131.out) (Kd.R_base ho24) hb); replace HO145 := am (Kd.V_elder' (vq HO145.out) (Kd.R_base ho24) hb); have HO126 := am (Kd.R_lower (Kd.R_new' (Kd.R_newM (M := fun k_ => (w.heap.size ≤ k_)) ho24 (below_size bel) (fun k_ h_ => h_)) (Kd.R_lt (rq HO137.out))) (below_size bel)); replace HO137 := am (Kd.R_elder' (rq HO137.out) (Kd.R_base ho24) hb); replace HB := am (below_step bel hb); clear hb ho24
         refine hK.out _ _ trivial (fun hHeld => ?_)
         clear hK K
         refine norm_ (a' := ?_) ?_ ?_
         rotate_left
         ·show Act.put _ (some 33) _ = _
          simp only [Act.put, List.setIfInBounds_toArray, List.set_cons_zero, List.set_cons_succ, i64_w, i32_w]
          rfl
         refine on1 4 37 (fun K hK => ?_)
         refine Kd.R_append_rows_step Kd.string (w0 := w) w.heap.size (by rfl) (.tmp 33) (.tmp 36) 49 9 (.string ⟨#[]⟩) 16 rfl Tryz.underlying49 info9 rfl (by decide) (by omega) v125 y124 y127 _ _ _ (fun k_ => (w.heap.size ≤ k_) ∧ some k_ ≠ (v136 : Value).ownBlock) (fun _ => False) rfl rfl ?aO ?aR (fun _ _ h => h) (fun _ h => h.elim) ?aF ?aB ?aS ?aL ?_
         (case aR => exact cq (Kd.V_reads' HO131.out).2.2); (case aB => exact bel); (case aF => exact (fun k_ hk => ⟨(Nat.le_trans (below_size bel) hk), Kd.fresh' (Kd.R_lt (rq HO137.out)) k_ hk⟩)); (case aO => exact (rq (Kd.R_mono HO126.out (fun _ hk => ⟨hk.1.1, hk.2⟩)))); (case aS => exact (below_size bel)); (case aL => have := LMc13.out; omega); intro v133 w25 ho hb hg hat; rw [← Ny132.out] at ho; replace HO_0 := am (Kd.V_afterv (ok := (fun k_ => (P0_ k_ ∨ w.heap.size ≤ k_) ∧ some k_ ≠ (v136 : Value).ownBlock)) (vq HO_0.out) hg hat); replace HO131 := am (Kd.V_afterv (ok := (fun k_ => (P0_ k_ ∨ w.heap.size ≤ k_) ∧ some k_ ≠ (v136 : Value).ownBlock)) (vq HO131.out) hg hat); replace HO145 := am (Kd.V_afterv (ok := (fun k_ => (P0_ k_ ∨ w.heap.size ≤ k_) ∧ some k_ ≠ (v136 : Value).ownBlock)) (vq HO145.out) hg hat); replace HO137 := am (Kd.R_after (ok := (fun k_ => (w.heap.size ≤ k_))) (rq (Kd.R_mono HO137.out (fun _ hk => ⟨hk.1.1, hk.2⟩))) hg hat); replace HB := am (hb); have HO134 := am (ho); clear HO126; clear ho hb hg hat
         refine hK.out _ _ trivial (fun hHeld => ?_)
         clear hK K
         refine norm_ (a' := ?_) ?_ ?_
         rotate_left
         ·show Act.put _ (some 37) _ = _
          simp only [Act.put, List.setIfInBounds_toArray, List.set_cons_zero, List.set_cons_succ, i64_w, i32_w]
          rfl
         exact norm_ b65_ (hCont (v125, v133, v136) _ ⟨(vq (Kd.V_mono HO131.out (fun _ hk => ⟨hk.1.1, ⟨hk.2, hk.1.2⟩⟩))), (rq HO134.out), (rq HO137.out), (vq (Kd.V_mono HO145.out (fun _ hk => ⟨hk.1.1, ⟨hk.2, hk.1.2⟩⟩))), (vq (Kd.V_mono HO_0.out (fun _ hk => ⟨hk.1.1, ⟨hk.2, hk.1.2⟩⟩))), bel⟩)
       rintro ⟨v125, v133, v136⟩ w26 ⟨h0_, h1_, h2_, h3_, h4_, h5_⟩
       have n0_ : Aside0 (Kd.V Kd.string 9 w26 w.heap.size (fun k_ => (P0_ k_ ∨ w.heap.size ≤ k_) ∧ some k_ ≠ (v133 : Value).ownBlock ∧ some k_ ≠ (v136 : Value).ownBlock) (.slice A0 y127.length c0) y127) := ⟨h0_⟩
       have n1_ : Aside0 (Kd.R Kd.string 9 w26 w.heap.size (fun k_ => (w.heap.size ≤ k_) ∧ some k_ ≠ (v136 : Value).ownBlock) v133 y132) := ⟨h1_⟩
       have n2_ : Aside0 (Kd.R Kd.string 9 w26 w.heap.size (fun k_ => (w.heap.size ≤ k_) ∧ some k_ ≠ (v133 : Value).ownBlock) v136 y135) := ⟨h2_⟩
       have n3_ : Aside0 (Kd.V Kd.string 9 w26 w.heap.size (fun k_ => (P0_ k_ ∨ w.heap.size ≤ k_) ∧ some k_ ≠ (v133 : Value).ownBlock ∧ some k_ ≠ (v136 : Value).ownBlock) (.slice A20 y141.length c20) y141) := ⟨h3_⟩
       have n4_ : Aside0 (Kd.V Kd.string 9 w26 w.heap.size (fun k_ => (P0_ k_ ∨ w.heap.size ≤ k_) ∧ some k_ ≠ (v133 : Value).ownBlock ∧ some k_ ≠ (v136 : Value).ownBlock) (.slice A0 l0.length c0) l0) := ⟨h4_⟩
       have n5_ : Aside0 (Below w.heap.size w w26) := ⟨h5_⟩
       clear HO_0; clear HB; clear h0_ h1_ h2_ h3_ h4_ h5_; have HO131 := n0_; have HO134 := n1_; have HO137 := n2_; have HO145 := n3_; have HO_0 := n4_; have HB := n5_; clear n0_ n1_ n2_ n3_ n4_ n5_; have hHeld := trivial; obtain ⟨Ao28, co28, eo28⟩ := Kd.R_slice HO137.out
       (first | subst eo28 | (injection eo28 with f1_ f2_ f3_; have f4_ := f1_.symm; have f5_ := f3_.symm; clear f1_ f2_ f3_; subst f4_; subst f5_))
       refine norm_ (a' := ?_) ?_ ?_
       rotate_left
       ·simp only [putAll, Act.put, List.setIfInBounds_toArray, List.set_cons_zero, List.set_cons_succ]
        rfl
       refine on1 7 40 (fun K hK => ?_)
       refine Kd.R_append_rows_step Kd.string (w0 := w) w.heap.size (by rfl) (.tmp 37) (.tmp 39) 49 9 (.string ⟨#[]⟩) 16 rfl Tryz.underlying49 info9 rfl (by decide) (by omega) v133 y132 y135 _ _ _ (fun k_ => (w.heap.size ≤ k_) ∧ some k_ ≠ (.slice Ao28 y135.length co28 : Value).ownBlock) (fun _ => False) rfl rfl ?aO ?aR (fun _ _ h => h) (fun _ h => h.elim) ?aF ?aB ?aS ?aL ?_
       (case aR => exact cq (Kd.R_reads' HO137.out).2.2); (case aB => exact bel); (case aF => exact (fun k_ hk => ⟨(Nat.le_trans (below_size bel) hk), Kd.fresh' (Kd.R_lt (rq HO137.out)) k_ hk⟩)); (case aO => exact (rq HO134.out)); (case aS => exact (below_size bel)); (case aL => have := LMc14.out; omega); intro v139 w27 ho hb hg hat; rw [← Ny138.out] at ho; replace HO_0 := am (Kd.V_afterv (ok := (fun k_ => (P0_ k_ ∨ w.heap.size ≤ k_) ∧ some k_ ≠ (.slice Ao28 y135.length co28 : Value).ownBlock)) (vq (Kd.V_mono HO_0.out (fun _ hk => ⟨⟨hk.1, hk.2.2⟩, hk.2.1⟩))) hg hat); replace HO131 := am (Kd.V_afterv (ok := (fun k_ => (P0_ k_ ∨ w.heap.size ≤ k_) ∧ some k_ ≠ (.slice Ao28 y135.length co28 : Value).ownBlock)) (vq (Kd.V_mono HO131.out (fun _ hk => ⟨⟨hk.1, hk.2.2⟩, hk.2.1⟩))) hg hat); replace HO145 := am (Kd.V_afterv (ok := (fun k_ => (P0_ k_ ∨ w.heap.size ≤ k_) ∧ some k_ ≠ (.slice Ao28 y135.length co28 : Value).ownBlock)) (vq (Kd.V_mono HO145.out (fun _ hk => ⟨⟨hk.1, hk.2.2⟩, hk.2.1⟩))) hg hat); replace HO137 := am (Kd.R_after (ok := (fun k_ => (w.heap.size ≤ k_))) (rq HO137.out) hg hat); replace HB := am (hb); have HO140 := am (ho); clear HO134; clear ho hb hg hat
       refine hK.out _ _ trivial (fun hHeld => ?_)
       clear hK K
       refine norm_ (a' := ?_) ?_ ?_
       rotate_left
       ·show Act.put _ (some 40) _ = _
        simp only [Act.put, List.setIfInBounds_toArray, List.set_cons_zero, List.set_cons_succ, i64_w, i32_w]
        rfl
       refine on1 11 44 (fun K hK => ?_)
       refine Kd.R_append_rows_step Kd.string (w0 := w) w.heap.size (by rfl) (.tmp 40) (.tmp 43) 49 9 (.string ⟨#[]⟩) 16 rfl Tryz.underlying49 info9 rfl (by decide) (by omega) v139 y138 y141 _ _ _ (fun k_ => (w.heap.size ≤ k_) ∧ some k_ ≠ (.slice Ao28 y135.length co28 : Value).ownBlock) (fun _ => False) rfl rfl ?aO ?aR (fun _ _ h => h) (fun _ h => h.elim) ?aF ?aB ?aS ?aL ?_
       (case aR => exact cq (Kd.V_reads' HO145.out).2.2); (case aB => exact bel); (case aF => exact (fun k_ hk => ⟨(Nat.le_trans (below_size bel) hk), Kd.fresh' (Kd.R_lt (rq HO137.out)) k_ hk⟩)); (case aO => exact (rq HO140.out)); (case aS => exact (below_size bel)); (case aL => have := LMc17.out; omega); intro v147 w29 ho hb hg hat; rw [← Ny146.out] at ho; replace HO_0 := am (Kd.V_afterv (ok := (fun k_ => (P0_ k_ ∨ w.heap.size ≤ k_) ∧ some k_ ≠ (.slice Ao28 y135.length co28 : Value).ownBlock)) (vq HO_0.out) hg hat); replace HO131 := am (Kd.V_afterv (ok := (fun k_ => (P0_ k_ ∨ w.heap.size ≤ k_) ∧ some k_ ≠ (.slice Ao28 y135.length co28 : Value).ownBlock)) (vq HO131.out) hg hat); replace HO145 := am (Kd.V_afterv (ok := (fun k_ => (P0_ k_ ∨ w.heap.size ≤ k_) ∧ some k_ ≠ (.slice Ao28 y135.length co28 : Value).ownBlock)) (vq HO145.out) hg hat); replace HO137 := am (Kd.R_after (ok := (fun k_ => (w.heap.size ≤ k_))) (rq HO137.out) hg hat); replace HB := am (hb); have HO148 := am (ho); clear HO140; clear ho hb hg hat
       refine hK.out _ _ trivial (fun hHeld => ?_)
       clear hK K
       refine norm_ (a' := ?_) ?_ ?_
       rotate_left
       ·show Act.put _ (some 44) _ = _
        simp only [Act.put, List.setIfInBounds_toArray, List.set_cons_zero, List.set_cons_succ, i64_w, i32_w]
        rfl
       refine pu 12 4 ?_
       refine done_ (done_of HT_.out (by kernel_rfl)) ?_
       try go_wp2
       go_ret
       exact ⟨_, eq_, Kd.V_mono (Kd.R_V (rq (Kd.R_mono HO148.out (fun _ hk => hk.1)))) (fun k_ hk => by first | exact ⟨(.inr (hk.1)), hk.2⟩ | exact (.inr (hk))), bel⟩
-- shrunk

/-! ### spec_l2Has: function 94 -/
def spec_l2Has.l0 : Nat → ByteArray → ByteArray → Int → Option (Bool)
 | 0, _, _, _ => none
 | k + 1, x0, x1, x5 => if x5 < (x0.size : Int) then (if 0 ≤ x5 then (if x5 ≤ (wrap64 (x5 + 1)) then (if (wrap64 (x5 + 1)) ≤ (x0.size : Int) then (if (x0.extract (x5 : Int).toNat ((wrap64 (x5 + 1)) : Int).toNat).toList = x1.toList then (some true) else (spec_l2Has.l0 k x0 x1 (wrap64 (x5 + 1)))) else (none)) else (none)) else (none)) else (some false)
def spec_l2Has.f (k : Nat) (a0 : ByteArray) (a1 : ByteArray) : Option (Bool) := spec_l2Has.l0 k a0 a1 0
theorem spec_l2Has.calls (k : Nat) (a0 : ByteArray) (a1 : ByteArray) (r : Bool) (w : World) (h : spec_l2Has.f k a0 a1 = some r) :
  Calls Tryz.prog 94 #[.string a0, .string a1] w fun e w' => e = .returned (.bool r) ∧ Drawn0 w w' := by
 have H : (spec_l2Has.l0 k a0 a1 0) = some r := h
 clear h
 have H' := am H
 clear H; go_enter Tryz.func94, Tryz.ntmps94; go_wp2
 go_loopg [5] k (fun kq v5 w' => ∃ (x5_1 : Int), v5 = .int .i64 x5_1 ∧ Aside0 (spec_l2Has.l0 kq a0 a1 x5_1 = some r) ∧ Aside0 (kq ≤ k) ∧ Drawn0 w w')
 case atStart => exact ⟨(0), sq, H', ⟨Nat.le_refl _⟩, dr⟩
 case round =>
  clear H'; (try clear p2); obtain ⟨x5_1, rfl, HA, HK1, ⟨m1, rfl⟩⟩ := hrel
  cases gk with
  | zero => exact absurd HA.out (by simp [spec_l2Has.l0])
  | succ k1 =>
   have H := HA.out; clear HA
   simp only [spec_l2Has.l0] at H
   by_cases c3 : x5_1 < (a0.size : Int)
   ·rw [if_pos c3] at H; have c3b0 := decide_eq_true c3; clear c3
    replace H := ip H; obtain ⟨c4, H⟩ := H; have c4b0 := eq_true c4
    have c4b1 : decide (0 ≤ x5_1) = true := decide_eq_true c4
    clear c4
    replace H := ip H; obtain ⟨c5, H⟩ := H; have c5b0 := eq_true c5
    have c5b1 : decide (x5_1 ≤ (wrap64 (x5_1 + 1))) = true := decide_eq_true c5
    replace H := ip H; obtain ⟨c6, H⟩ := H; have c6b0 := eq_true c6
    have c6b1 : decide ((wrap64 (x5_1 + 1)) ≤ (a0.size : Int)) = true := decide_eq_true c6
    by_cases c7 : (a0.extract (x5_1 : Int).toNat ((wrap64 (x5_1 + 1)) : Int).toNat).toList = a1.toList
    ·rw [if_pos c7] at H
     have c7b0 : ((a0.extract (x5_1 : Int).toNat ((wrap64 (x5_1 + 1)) : Int).toNat).toList == a1.toList) = true := beq_iff_eq.mpr c7
     have c7b1 : ((a0.extract (x5_1 : Int).toNat ((wrap64 (x5_1 + 1)) : Int).toNat).toList != a1.toList) = false := bne_eq_false_iff_eq.mpr c7
     clear c7; obtain rfl := Option.some.inj H; go_wp2; go_ret
     exact ⟨sq, dr⟩
    rw [if_neg c7] at H
    have c7b0 : ((a0.extract (x5_1 : Int).toNat ((wrap64 (x5_1 + 1)) : Int).toNat).toList == a1.toList) = false := beq_eq_false_iff_ne.mpr c7
    have c7b1 : ((a0.extract (x5_1 : Int).toNat ((wrap64 (x5_1 + 1)) : Int).toNat).toList != a1.toList) = true := bne_iff_ne.mpr c7
    have H' := am H
    clear H; go_wp2
    go_roundg k1
    case measure => have := HK1.out; omega
    case rel => exact ⟨(wrap64 (x5_1 + 1)), sq, H', ⟨b63_⟩, dr⟩
   rw [if_neg c3] at H; have c3b0 := decide_eq_false c3; clear c3; obtain rfl := Option.some.inj H; go_wp2; go_ret
   exact ⟨sq, dr⟩

/-! ### spec_l2Do: function 95 -/
def spec_l2Do.f (k : Nat) (a0_0 : ByteArray) (a0_1 : Bool) (a0_2 : ByteArray) (a0_3 : ByteArray) (a0_4 : ByteArray) (a1 : ByteArray) : Option (ByteArray × Bool) := if a0_1 = true then ((spec_l2Begins.f a1 a0_4).bind fun t150 => (if t150 = true then (if 0 ≤ (a0_2.size : Int) then (if (a0_2.size : Int) ≤ (a1.size : Int) then (if a0_3.size + (a1.extract a0_2.size a1.size).size ≤ 9223372036854775807 then ((spec_l1Word.f k (a0_3 ++ (a1.extract a0_2.size a1.size))).bind fun t151 => (some (a0_3 ++ (a1.extract a0_2.size a1.size), t151))) else (none)) else (none)) else (none)) else (some ((⟨#[]⟩ : ByteArray), false)))) else ((spec_l2Ends.f a1 a0_4).bind fun t152 => (if t152 = true then (if 0 ≤ (wrap64 ((a1.size : Int) - (a0_2.size : Int))) then (if (wrap64 ((a1.size : Int) - (a0_2.size : Int))) ≤ (a1.size : Int) then (if (a1.extract 0 ((wrap64 ((a1.size : Int) - (a0_2.size : Int))) : Int).toNat).size + a0_3.size ≤ 9223372036854775807 then ((spec_l1Word.f k ((a1.extract 0 ((wrap64 ((a1.size : Int) - (a0_2.size : Int))) : Int).toNat) ++ a0_3)).bind fun t153 => (some ((a1.extract 0 ((wrap64 ((a1.size : Int) - (a0_2.size : Int))) : Int).toNat) ++ a0_3, t153))) else (none)) else (none)) else (none)) else (some ((⟨#[]⟩ : ByteArray), false))))
theorem spec_l2Do.calls (k : Nat) (a0_0 : ByteArray) (a0_1 : Bool) (a0_2 : ByteArray) (a0_3 : ByteArray) (a0_4 : ByteArray) (a1 : ByteArray) (r1 : ByteArray) (r2 : Bool) (w : World) (h : spec_l2Do.f k a0_0 a0_1 a0_2 a0_3 a0_4 a1 = some (r1, r2)) :
  Calls Tryz.prog 95 #[.agg #[.string a0_0, .bool a0_1, .string a0_2, .string a0_3, .string a0_4], .string a1] w fun e w' => e = .returned (.tuple #[.string r1, .bool r2]) ∧ Below w.heap.size w w' := by
 have hu82 := Tryz.underlying82; have HB := am (Below.refl w.heap.size w)
 have H : (if a0_1 = true then ((spec_l2Begins.f a1 a0_4).bind fun t150 => (if t150 = true then (if 0 ≤ (a0_2.size : Int) then (if (a0_2.size : Int) ≤ (a1.size : Int) then (if a0_3.size + (a1.extract a0_2.size a1.size).size ≤ 9223372036854775807 then ((spec_l1Word.f k (a0_3 ++ (a1.extract a0_2.size a1.size))).bind fun t151 => (some (a0_3 ++ (a1.extract a0_2.size a1.size), t151))) else (none)) else (none)) else (none)) else (some ((⟨#[]⟩ : ByteArray), false)))) else ((spec_l2Ends.f a1 a0_4).bind fun t152 => (if t152 = true then (if 0 ≤ (wrap64 ((a1.size : Int) - (a0_2.size : Int))) then (if (wrap64 ((a1.size : Int) - (a0_2.size : Int))) ≤ (a1.size : Int) then (if (a1.extract 0 ((wrap64 ((a1.size : Int) - (a0_2.size : Int))) : Int).toNat).size + a0_3.size ≤ 9223372036854775807 then ((spec_l1Word.f k ((a1.extract 0 ((wrap64 ((a1.size : Int) - (a0_2.size : Int))) : Int).toNat) ++ a0_3)).bind fun t153 => (some ((a1.extract 0 ((wrap64 ((a1.size : Int) - (a0_2.size : Int))) : Int).toNat) ++ a0_3, t153))) else (none)) else (none)) else (none)) else (some ((⟨#[]⟩ : ByteArray), false))))) = some (r1, r2) := h
 clear h
 by_cases c3 : a0_1 = true
 ·subst c3
  have H1 : ((spec_l2Begins.f a1 a0_4).bind fun t150 => (if t150 = true then (if 0 ≤ (a0_2.size : Int) then (if (a0_2.size : Int) ≤ (a1.size : Int) then (if a0_3.size + (a1.extract a0_2.size a1.size).size ≤ 9223372036854775807 then ((spec_l1Word.f k (a0_3 ++ (a1.extract a0_2.size a1.size))).bind fun t151 => (some (a0_3 ++ (a1.extract a0_2.size a1.size), t151))) else (none)) else (none)) else (none)) else (some ((⟨#[]⟩ : ByteArray), false)))) = some (r1, r2) := b32_
  replace H := H1; clear H1
  replace H := bs H; obtain ⟨t150, A40, H⟩ := H; replace H : (if t150 = true then (if 0 ≤ (a0_2.size : Int) then (if (a0_2.size : Int) ≤ (a1.size : Int) then (if a0_3.size + (a1.extract a0_2.size a1.size).size ≤ 9223372036854775807 then ((spec_l1Word.f k (a0_3 ++ (a1.extract a0_2.size a1.size))).bind fun t151 => (some (a0_3 ++ (a1.extract a0_2.size a1.size), t151))) else (none)) else (none)) else (none)) else (some ((⟨#[]⟩ : ByteArray), false))) = some (r1, r2) := H; have A4 := Aside0.mk A40; clear A40
  by_cases c5 : t150 = true
  ·subst c5
   have H1 : (if 0 ≤ (a0_2.size : Int) then (if (a0_2.size : Int) ≤ (a1.size : Int) then (if a0_3.size + (a1.extract a0_2.size a1.size).size ≤ 9223372036854775807 then ((spec_l1Word.f k (a0_3 ++ (a1.extract a0_2.size a1.size))).bind fun t151 => (some (a0_3 ++ (a1.extract a0_2.size a1.size), t151))) else (none)) else (none)) else (none)) = some (r1, r2) := b32_
   replace H := H1; clear H1
   replace H := ip H; obtain ⟨c6, H⟩ := H; have c6b0 := eq_true c6
   have c6b1 : decide (0 ≤ (a0_2.size : Int)) = true := decide_eq_true c6
   clear c6
   replace H := ip H; obtain ⟨c7, H⟩ := H; have c7b0 := eq_true c7
   have c7b9 : (a0_2.size ≤ a1.size) = True := eq_true (by omega)
   have c7b6 : decide (a0_2.size ≤ a1.size) = true := decide_eq_true (by omega)
   have c7b1 : decide ((a0_2.size : Int) ≤ (a1.size : Int)) = true := decide_eq_true c7
   clear c7
   replace H := ip H; obtain ⟨c8, H⟩ := H; have c8b0 := eq_true c8; have c8b5 := c8
   try simp at c8b5
   try have c8b4 := eq_false (Nat.not_lt.2 c8b5)
   try have c8b3 : (9223372036854775807 < a0_3.size + (a1.size - a0_2.size)) = False := by
         have h_ := c8
         simp only [ByteArray.size_append, ByteArray.size_extract] at h_
         exact eq_false (by omega)
   have c8b1 : decide (a0_3.size + (a1.extract a0_2.size a1.size).size ≤ 9223372036854775807) = true := decide_eq_true c8
   try have c8b2 : (9223372036854775807 < a0_3.size + (a1.extract a0_2.size a1.size).size) = False := eq_false (Nat.not_lt.2 c8)
   replace H := bs H; obtain ⟨t151, A90, H⟩ := H; replace H : (some (a0_3 ++ (a1.extract a0_2.size a1.size), t151)) = some (r1, r2) := H; have A9 := Aside0.mk A90; clear A90
   simp only [Option.some.injEq, Prod.mk.injEq] at H
   obtain ⟨rfl, rfl⟩ := H; go_enter Tryz.func95, Tryz.ntmps95
   go_wp2_with (first | ((with_reducible refine gate_dst (N := 2) rfl ?_); refine bx 2 (cs := #[.string a0_0, .bool true, .string a0_2, .string a0_3, .string a0_4]) (t := 82) ?_; intro gb149 hg w10 hbox hb; have BK149 := am (hbox); have GW149 := am ((b19_ : w.heap.size ≤ gb149)); have GE149 := am ((b19_ : w.heap.size ≤ gb149)); replace HB := am (below_step bel hb); clear hb hbox hg; have hcz11_0 := bc BK149.out 0; have hcz11_1 := bc BK149.out 1; have hcz11_2 := bc BK149.out 2; have hcz11_3 := bc BK149.out 3; have hcz11_4 := bc BK149.out 4; have hfz11_0 := bf BK149.out 0; have hfz11_1 := bf BK149.out 1; have hfz11_2 := bf BK149.out 2; have hfz11_3 := bf BK149.out 3; have hfz11_4 := bf BK149.out 4) | (go_at_call 92; (with_reducible refine (spec_l2Begins.calls a1 a0_4 true _ A4.out).mono ?_); rintro e w' ⟨rfl, ⟨nd, rfl⟩⟩; (try first | exact ⟨rfl, _, World.drewN_drewN _ _ _⟩ | exact ⟨rfl, _, Eq.trans (World.drewN_drewN _ _ _) (congrArg (World.drewN _) (Nat.add_assoc _ _ _))⟩)) | (go_at_call 71; (with_reducible refine (spec_l1Word.calls k (a0_3 ++ (a1.extract a0_2.size a1.size)) t151 _ A9.out).mono ?_); rintro e w' ⟨rfl, ⟨nd, rfl⟩⟩; (try first | exact ⟨rfl, _, World.drewN_drewN _ _ _⟩ | exact ⟨rfl, _, Eq.trans (World.drewN_drewN _ _ _) (congrArg (World.drewN _) (Nat.add_assoc _ _ _))⟩)))
   repeat (go_quiet (first | ((with_reducible refine gate_dst (N := 2) rfl ?_); refine bx 2 (cs := #[.string a0_0, .bool true, .string a0_2, .string a0_3, .string a0_4]) (t := 82) ?_; intro gb149 hg w10 hbox hb; have BK149 := am (hbox); have GW149 := am ((b19_ : w.heap.size ≤ gb149)); have GE149 := am ((b19_ : w.heap.size ≤ gb149)); replace HB := am (below_step bel hb); clear hb hbox hg; have hcz11_0 := bc BK149.out 0; have hcz11_1 := bc BK149.out 1; have hcz11_2 := bc BK149.out 2; have hcz11_3 := bc BK149.out 3; have hcz11_4 := bc BK149.out 4; have hfz11_0 := bf BK149.out 0; have hfz11_1 := bf BK149.out 1; have hfz11_2 := bf BK149.out 2; have hfz11_3 := bf BK149.out 3; have hfz11_4 := bf BK149.out 4) | (go_at_call 92; (with_reducible refine (spec_l2Begins.calls a1 a0_4 true _ A4.out).mono ?_); rintro e w' ⟨rfl, ⟨nd, rfl⟩⟩; (try first | exact ⟨rfl, _, World.drewN_drewN _ _ _⟩ | exact ⟨rfl, _, Eq.trans (World.drewN_drewN _ _ _) (congrArg (World.drewN _) (Nat.add_assoc _ _ _))⟩)) | (go_at_call 71; (with_reducible refine (spec_l1Word.calls k (a0_3 ++ (a1.extract a0_2.size a1.size)) t151 _ A9.out).mono ?_); rintro e w' ⟨rfl, ⟨nd, rfl⟩⟩; (try first | exact ⟨rfl, _, World.drewN_drewN _ _ _⟩ | exact ⟨rfl, _, Eq.trans (World.drewN_drewN _ _ _) (congrArg (World.drewN _) (Nat.add_assoc _ _ _))⟩))); try go_wp2_with (first | ((with_reducible refine gate_dst (N := 2) rfl ?_); refine bx 2 (cs := #[.string a0_0, .bool true, .string a0_2, .string a0_3, .string a0_4]) (t := 82) ?_; intro gb149 hg w10 hbox hb; have BK149 := am (hbox); have GW149 := am ((b19_ : w.heap.size ≤ gb149)); have GE149 := am ((b19_ : w.heap.size ≤ gb149)); replace HB := am (below_step bel hb); clear hb hbox hg; have hcz11_0 := bc BK149.out 0; have hcz11_1 := bc BK149.out 1; have hcz11_2 := bc BK149.out 2; have hcz11_3 := bc BK149.out 3; have hcz11_4 := bc BK149.out 4; have hfz11_0 := bf BK149.out 0; have hfz11_1 := bf BK149.out 1; have hfz11_2 := bf BK149.out 2; have hfz11_3 := bf BK149.out 3; have hfz11_4 := bf BK149.out 4) | (go_at_call 92; (with_reducible refine (spec_l2Begins.calls a1 a0_4 true _ A4.out).mono ?_); rintro e w' ⟨rfl, ⟨nd, rfl⟩⟩; (try first | exact ⟨rfl, _, World.drewN_drewN _ _ _⟩ | exact ⟨rfl, _, Eq.trans (World.drewN_drewN _ _ _) (congrArg (World.drewN _) (Nat.add_assoc _ _ _))⟩)) | (go_at_call 71; (with_reducible refine (spec_l1Word.calls k (a0_3 ++ (a1.extract a0_2.size a1.size)) t151 _ A9.out).mono ?_); rintro e w' ⟨rfl, ⟨nd, rfl⟩⟩; (try first | exact ⟨rfl, _, World.drewN_drewN _ _ _⟩ | exact ⟨rfl, _, Eq.trans (World.drewN_drewN _ _ _) (congrArg (World.drewN _) (Nat.add_assoc _ _ _))⟩))))
   go_ret2
   exact ⟨eq_, bel1 GE149.out⟩
  replace c5 := Bool.eq_false_iff.mpr c5; subst c5
  have H1 : (some ((⟨#[]⟩ : ByteArray), false)) = some (r1, r2) := b13_
  replace H := H1; clear H1
  simp only [Option.some.injEq, Prod.mk.injEq] at H
  obtain ⟨rfl, rfl⟩ := H; go_enter Tryz.func95, Tryz.ntmps95
  go_wp2_with (first | ((with_reducible refine gate_dst (N := 2) rfl ?_); refine bx 2 (cs := #[.string a0_0, .bool true, .string a0_2, .string a0_3, .string a0_4]) (t := 82) ?_; intro gb149 hg w12 hbox hb; have BK149 := am (hbox); have GW149 := am ((b19_ : w.heap.size ≤ gb149)); have GE149 := am ((b19_ : w.heap.size ≤ gb149)); replace HB := am (below_step bel hb); clear hb hbox hg; have hcz13_0 := bc BK149.out 0; have hcz13_1 := bc BK149.out 1; have hcz13_2 := bc BK149.out 2; have hcz13_3 := bc BK149.out 3; have hcz13_4 := bc BK149.out 4; have hfz13_0 := bf BK149.out 0; have hfz13_1 := bf BK149.out 1; have hfz13_2 := bf BK149.out 2; have hfz13_3 := bf BK149.out 3; have hfz13_4 := bf BK149.out 4) | (go_at_call 92; (with_reducible refine (spec_l2Begins.calls a1 a0_4 false _ A4.out).mono ?_); rintro e w' ⟨rfl, ⟨nd, rfl⟩⟩; (try first | exact ⟨rfl, _, World.drewN_drewN _ _ _⟩ | exact ⟨rfl, _, Eq.trans (World.drewN_drewN _ _ _) (congrArg (World.drewN _) (Nat.add_assoc _ _ _))⟩)))
  repeat (go_quiet (first | ((with_reducible refine gate_dst (N := 2) rfl ?_); refine bx 2 (cs := #[.string a0_0, .bool true, .string a0_2, .string a0_3, .string a0_4]) (t := 82) ?_; intro gb149 hg w12 hbox hb; have BK149 := am (hbox); have GW149 := am ((b19_ : w.heap.size ≤ gb149)); have GE149 := am ((b19_ : w.heap.size ≤ gb149)); replace HB := am (below_step bel hb); clear hb hbox hg; have hcz13_0 := bc BK149.out 0; have hcz13_1 := bc BK149.out 1; have hcz13_2 := bc BK149.out 2; have hcz13_3 := bc BK149.out 3; have hcz13_4 := bc BK149.out 4; have hfz13_0 := bf BK149.out 0; have hfz13_1 := bf BK149.out 1; have hfz13_2 := bf BK149.out 2; have hfz13_3 := bf BK149.out 3; have hfz13_4 := bf BK149.out 4) | (go_at_call 92; (with_reducible refine (spec_l2Begins.calls a1 a0_4 false _ A4.out).mono ?_); rintro e w' ⟨rfl, ⟨nd, rfl⟩⟩; (try first | exact ⟨rfl, _, World.drewN_drewN _ _ _⟩ | exact ⟨rfl, _, Eq.trans (World.drewN_drewN _ _ _) (congrArg (World.drewN _) (Nat.add_assoc _ _ _))⟩))); try go_wp2_with (first | ((with_reducible refine gate_dst (N := 2) rfl ?_); refine bx 2 (cs := #[.string a0_0, .bool true, .string a0_2, .string a0_3, .string a0_4]) (t := 82) ?_; intro gb149 hg w12 hbox hb; have BK149 := am (hbox); have GW149 := am ((b19_ : w.heap.size ≤ gb149)); have GE149 := am ((b19_ : w.heap.size ≤ gb149)); replace HB := am (below_step bel hb); clear hb hbox hg; have hcz13_0 := bc BK149.out 0; have hcz13_1 := bc BK149.out 1; have hcz13_2 := bc BK149.out 2; have hcz13_3 := bc BK149.out 3; have hcz13_4 := bc BK149.out 4; have hfz13_0 := bf BK149.out 0; have hfz13_1 := bf BK149.out 1; have hfz13_2 := bf BK149.out 2; have hfz13_3 := bf BK149.out 3; have hfz13_4 := bf BK149.out 4) | (go_at_call 92; (with_reducible refine (spec_l2Begins.calls a1 a0_4 false _ A4.out).mono ?_); rintro e w' ⟨rfl, ⟨nd, rfl⟩⟩; (try first | exact ⟨rfl, _, World.drewN_drewN _ _ _⟩ | exact ⟨rfl, _, Eq.trans (World.drewN_drewN _ _ _) (congrArg (World.drewN _) (Nat.add_assoc _ _ _))⟩))))
  go_ret2
  exact ⟨eq_, bel1 GE149.out⟩
 replace c3 := Bool.eq_false_iff.mpr c3; subst c3
 have H1 : ((spec_l2Ends.f a1 a0_4).bind fun t152 => (if t152 = true then (if 0 ≤ (wrap64 ((a1.size : Int) - (a0_2.size : Int))) then (if (wrap64 ((a1.size : Int) - (a0_2.size : Int))) ≤ (a1.size : Int) then (if (a1.extract 0 ((wrap64 ((a1.size : Int) - (a0_2.size : Int))) : Int).toNat).size + a0_3.size ≤ 9223372036854775807 then ((spec_l1Word.f k ((a1.extract 0 ((wrap64 ((a1.size : Int) - (a0_2.size : Int))) : Int).toNat) ++ a0_3)).bind fun t153 => (some ((a1.extract 0 ((wrap64 ((a1.size : Int) - (a0_2.size : Int))) : Int).toNat) ++ a0_3, t153))) else (none)) else (none)) else (none)) else (some ((⟨#[]⟩ : ByteArray), false)))) = some (r1, r2) := b13_
 replace H := H1; clear H1
 replace H := bs H; obtain ⟨t152, A140, H⟩ := H; replace H : (if t152 = true then (if 0 ≤ (wrap64 ((a1.size : Int) - (a0_2.size : Int))) then (if (wrap64 ((a1.size : Int) - (a0_2.size : Int))) ≤ (a1.size : Int) then (if (a1.extract 0 ((wrap64 ((a1.size : Int) - (a0_2.size : Int))) : Int).toNat).size + a0_3.size ≤ 9223372036854775807 then ((spec_l1Word.f k ((a1.extract 0 ((wrap64 ((a1.size : Int) - (a0_2.size : Int))) : Int).toNat) ++ a0_3)).bind fun t153 => (some ((a1.extract 0 ((wrap64 ((a1.size : Int) - (a0_2.size : Int))) : Int).toNat) ++ a0_3, t153))) else (none)) else (none)) else (none)) else (some ((⟨#[]⟩ : ByteArray), false))) = some (r1, r2) := H; have A14 := Aside0.mk A140; clear A140
 by_cases c15 : t152 = true
 ·subst c15
  have H1 : (if 0 ≤ (wrap64 ((a1.size : Int) - (a0_2.size : Int))) then (if (wrap64 ((a1.size : Int) - (a0_2.size : Int))) ≤ (a1.size : Int) then (if (a1.extract 0 ((wrap64 ((a1.size : Int) - (a0_2.size : Int))) : Int).toNat).size + a0_3.size ≤ 9223372036854775807 then ((spec_l1Word.f k ((a1.extract 0 ((wrap64 ((a1.size : Int) - (a0_2.size : Int))) : Int).toNat) ++ a0_3)).bind fun t153 => (some ((a1.extract 0 ((wrap64 ((a1.size : Int) - (a0_2.size : Int))) : Int).toNat) ++ a0_3, t153))) else (none)) else (none)) else (none)) = some (r1, r2) := b32_
  replace H := H1; clear H1
  obtain ⟨ji16, hji16⟩ : ∃ j_ : Int, (wrap64 ((a1.size : Int) - (a0_2.size : Int))) = j_ := ⟨_, rfl⟩
  replace H : (if 0 ≤ (ji16) then (if (ji16) ≤ (a1.size : Int) then (if (a1.extract 0 ((ji16) : Int).toNat).size + a0_3.size ≤ 9223372036854775807 then ((spec_l1Word.f k ((a1.extract 0 ((ji16) : Int).toNat) ++ a0_3)).bind fun t153 => (some ((a1.extract 0 ((ji16) : Int).toNat) ++ a0_3, t153))) else (none)) else (none)) else (none)) = some (r1, r2) := by first | (rw [hji16] at H; exact H) | (simp only [hji16] at H ⊢; exact H)
  (try rw [hji16] at A14)
  have hji16w : (IntKind.i64.wrap ((a1.size : Int) - (a0_2.size : Int))) = ji16 := (i64_w _).trans hji16
  replace H := ip H; obtain ⟨c17, H⟩ := H; have c17b0 := eq_true c17
  have c17b1 : decide (0 ≤ (ji16)) = true := decide_eq_true c17
  clear c17
  replace H := ip H; obtain ⟨c18, H⟩ := H; have c18b0 := eq_true c18
  have c18b1 : decide ((ji16) ≤ (a1.size : Int)) = true := decide_eq_true c18
  clear c18
  replace H := ip H; obtain ⟨c19, H⟩ := H; have c19b0 := eq_true c19; have c19b5 := c19
  try simp at c19b5
  try have c19b4 := eq_false (Nat.not_lt.2 c19b5)
  try have c19b3 : (9223372036854775807 < ((ji16) : Int).toNat + a0_3.size) = False := by
        have h_ := c19
        simp only [ByteArray.size_append, ByteArray.size_extract] at h_
        have g0_ : ((ji16)) ≤ (a1.size : Int) := of_decide_eq_true ad
        exact eq_false (by omega)
  have c19b1 : decide ((a1.extract 0 ((ji16) : Int).toNat).size + a0_3.size ≤ 9223372036854775807) = true := decide_eq_true c19
  try have c19b2 : (9223372036854775807 < (a1.extract 0 ((ji16) : Int).toNat).size + a0_3.size) = False := eq_false (Nat.not_lt.2 c19)
  replace H := bs H; obtain ⟨t153, A200, H⟩ := H; replace H : (some ((a1.extract 0 ((ji16) : Int).toNat) ++ a0_3, t153)) = some (r1, r2) := H; have A20 := Aside0.mk A200; clear A200
  simp only [Option.some.injEq, Prod.mk.injEq] at H
  obtain ⟨rfl, rfl⟩ := H; go_enter Tryz.func95, Tryz.ntmps95
  go_wp2_with (first | ((with_reducible refine gate_dst (N := 2) rfl ?_); refine bx 2 (cs := #[.string a0_0, .bool false, .string a0_2, .string a0_3, .string a0_4]) (t := 82) ?_; intro gb149 hg w21 hbox hb; have BK149 := am (hbox); have GW149 := am ((b19_ : w.heap.size ≤ gb149)); have GE149 := am ((b19_ : w.heap.size ≤ gb149)); replace HB := am (below_step bel hb); clear hb hbox hg; have hcz22_0 := bc BK149.out 0; have hcz22_1 := bc BK149.out 1; have hcz22_2 := bc BK149.out 2; have hcz22_3 := bc BK149.out 3; have hcz22_4 := bc BK149.out 4; have hfz22_0 := bf BK149.out 0; have hfz22_1 := bf BK149.out 1; have hfz22_2 := bf BK149.out 2; have hfz22_3 := bf BK149.out 3; have hfz22_4 := bf BK149.out 4) | (go_at_call 93; (with_reducible refine (spec_l2Ends.calls a1 a0_4 true _ A14.out).mono ?_); rintro e w' ⟨rfl, ⟨nd, rfl⟩⟩; (try first | exact ⟨rfl, _, World.drewN_drewN _ _ _⟩ | exact ⟨rfl, _, Eq.trans (World.drewN_drewN _ _ _) (congrArg (World.drewN _) (Nat.add_assoc _ _ _))⟩)) | (go_at_call 71; (with_reducible refine (spec_l1Word.calls k ((a1.extract 0 ((ji16) : Int).toNat) ++ a0_3) t153 _ A20.out).mono ?_); rintro e w' ⟨rfl, ⟨nd, rfl⟩⟩; (try first | exact ⟨rfl, _, World.drewN_drewN _ _ _⟩ | exact ⟨rfl, _, Eq.trans (World.drewN_drewN _ _ _) (congrArg (World.drewN _) (Nat.add_assoc _ _ _))⟩)))
  repeat (go_quiet (first | ((with_reducible refine gate_dst (N := 2) rfl ?_); refine bx 2 (cs := #[.string a0_0, .bool false, .string a0_2, .string a0_3, .string a0_4]) (t := 82) ?_; intro gb149 hg w21 hbox hb; have BK149 := am (hbox); have GW149 := am ((b19_ : w.heap.size ≤ gb149)); have GE149 := am ((b19_ : w.heap.size ≤ gb149)); replace HB := am (below_step bel hb); clear hb hbox hg; have hcz22_0 := bc BK149.out 0; have hcz22_1 := bc BK149.out 1; have hcz22_2 := bc BK149.out 2; have hcz22_3 := bc BK149.out 3; have hcz22_4 := bc BK149.out 4; have hfz22_0 := bf BK149.out 0; have hfz22_1 := bf BK149.out 1; have hfz22_2 := bf BK149.out 2; have hfz22_3 := bf BK149.out 3; have hfz22_4 := bf BK149.out 4) | (go_at_call 93; (with_reducible refine (spec_l2Ends.calls a1 a0_4 true _ A14.out).mono ?_); rintro e w' ⟨rfl, ⟨nd, rfl⟩⟩; (try first | exact ⟨rfl, _, World.drewN_drewN _ _ _⟩ | exact ⟨rfl, _, Eq.trans (World.drewN_drewN _ _ _) (congrArg (World.drewN _) (Nat.add_assoc _ _ _))⟩)) | (go_at_call 71; (with_reducible refine (spec_l1Word.calls k ((a1.extract 0 ((ji16) : Int).toNat) ++ a0_3) t153 _ A20.out).mono ?_); rintro e w' ⟨rfl, ⟨nd, rfl⟩⟩; (try first | exact ⟨rfl, _, World.drewN_drewN _ _ _⟩ | exact ⟨rfl, _, Eq.trans (World.drewN_drewN _ _ _) (congrArg (World.drewN _) (Nat.add_assoc _ _ _))⟩))); try go_wp2_with (first | ((with_reducible refine gate_dst (N := 2) rfl ?_); refine bx 2 (cs := #[.string a0_0, .bool false, .string a0_2, .string a0_3, .string a0_4]) (t := 82) ?_; intro gb149 hg w21 hbox hb; have BK149 := am (hbox); have GW149 := am ((b19_ : w.heap.size ≤ gb149)); have GE149 := am ((b19_ : w.heap.size ≤ gb149)); replace HB := am (below_step bel hb); clear hb hbox hg; have hcz22_0 := bc BK149.out 0; have hcz22_1 := bc BK149.out 1; have hcz22_2 := bc BK149.out 2; have hcz22_3 := bc BK149.out 3; have hcz22_4 := bc BK149.out 4; have hfz22_0 := bf BK149.out 0; have hfz22_1 := bf BK149.out 1; have hfz22_2 := bf BK149.out 2; have hfz22_3 := bf BK149.out 3; have hfz22_4 := bf BK149.out 4) | (go_at_call 93; (with_reducible refine (spec_l2Ends.calls a1 a0_4 true _ A14.out).mono ?_); rintro e w' ⟨rfl, ⟨nd, rfl⟩⟩; (try first | exact ⟨rfl, _, World.drewN_drewN _ _ _⟩ | exact ⟨rfl, _, Eq.trans (World.drewN_drewN _ _ _) (congrArg (World.drewN _) (Nat.add_assoc _ _ _))⟩)) | (go_at_call 71; (with_reducible refine (spec_l1Word.calls k ((a1.extract 0 ((ji16) : Int).toNat) ++ a0_3) t153 _ A20.out).mono ?_); rintro e w' ⟨rfl, ⟨nd, rfl⟩⟩; (try first | exact ⟨rfl, _, World.drewN_drewN _ _ _⟩ | exact ⟨rfl, _, Eq.trans (World.drewN_drewN _ _ _) (congrArg (World.drewN _) (Nat.add_assoc _ _ _))⟩))))
  go_ret2
  exact ⟨by first | rfl | (simp [errW_none, errW_some] <;> rfl) | (simp only [← hji16]; first | rfl | (simp [errW_none, errW_some] <;> rfl)) | (simp [*, errW_none, errW_some] <;> rfl), bel1 GE149.out⟩
 replace c15 := Bool.eq_false_iff.mpr c15; subst c15
 have H1 : (some ((⟨#[]⟩ : ByteArray), false)) = some (r1, r2) := b13_
 replace H := H1; clear H1
 simp only [Option.some.injEq, Prod.mk.injEq] at H
 obtain ⟨rfl, rfl⟩ := H; go_enter Tryz.func95, Tryz.ntmps95
 go_wp2_with (first | ((with_reducible refine gate_dst (N := 2) rfl ?_); refine bx 2 (cs := #[.string a0_0, .bool false, .string a0_2, .string a0_3, .string a0_4]) (t := 82) ?_; intro gb149 hg w23 hbox hb; have BK149 := am (hbox); have GW149 := am ((b19_ : w.heap.size ≤ gb149)); have GE149 := am ((b19_ : w.heap.size ≤ gb149)); replace HB := am (below_step bel hb); clear hb hbox hg; have hcz24_0 := bc BK149.out 0; have hcz24_1 := bc BK149.out 1; have hcz24_2 := bc BK149.out 2; have hcz24_3 := bc BK149.out 3; have hcz24_4 := bc BK149.out 4; have hfz24_0 := bf BK149.out 0; have hfz24_1 := bf BK149.out 1; have hfz24_2 := bf BK149.out 2; have hfz24_3 := bf BK149.out 3; have hfz24_4 := bf BK149.out 4) | (go_at_call 93; (with_reducible refine (spec_l2Ends.calls a1 a0_4 false _ A14.out).mono ?_); rintro e w' ⟨rfl, ⟨nd, rfl⟩⟩; (try first | exact ⟨rfl, _, World.drewN_drewN _ _ _⟩ | exact ⟨rfl, _, Eq.trans (World.drewN_drewN _ _ _) (congrArg (World.drewN _) (Nat.add_assoc _ _ _))⟩)))
 repeat (go_quiet (first | ((with_reducible refine gate_dst (N := 2) rfl ?_); refine bx 2 (cs := #[.string a0_0, .bool false, .string a0_2, .string a0_3, .string a0_4]) (t := 82) ?_; intro gb149 hg w23 hbox hb; have BK149 := am (hbox); have GW149 := am ((b19_ : w.heap.size ≤ gb149)); have GE149 := am ((b19_ : w.heap.size ≤ gb149)); replace HB := am (below_step bel hb); clear hb hbox hg; have hcz24_0 := bc BK149.out 0; have hcz24_1 := bc BK149.out 1; have hcz24_2 := bc BK149.out 2; have hcz24_3 := bc BK149.out 3; have hcz24_4 := bc BK149.out 4; have hfz24_0 := bf BK149.out 0; have hfz24_1 := bf BK149.out 1; have hfz24_2 := bf BK149.out 2; have hfz24_3 := bf BK149.out 3; have hfz24_4 := bf BK149.out 4) | (go_at_call 93; (with_reducible refine (spec_l2Ends.calls a1 a0_4 false _ A14.out).mono ?_); rintro e w' ⟨rfl, ⟨nd, rfl⟩⟩; (try first | exact ⟨rfl, _, World.drewN_drewN _ _ _⟩ | exact ⟨rfl, _, Eq.trans (World.drewN_drewN _ _ _) (congrArg (World.drewN _) (Nat.add_assoc _ _ _))⟩))); try go_wp2_with (first | ((with_reducible refine gate_dst (N := 2) rfl ?_); refine bx 2 (cs := #[.string a0_0, .bool false, .string a0_2, .string a0_3, .string a0_4]) (t := 82) ?_; intro gb149 hg w23 hbox hb; have BK149 := am (hbox); have GW149 := am ((b19_ : w.heap.size ≤ gb149)); have GE149 := am ((b19_ : w.heap.size ≤ gb149)); replace HB := am (below_step bel hb); clear hb hbox hg; have hcz24_0 := bc BK149.out 0; have hcz24_1 := bc BK149.out 1; have hcz24_2 := bc BK149.out 2; have hcz24_3 := bc BK149.out 3; have hcz24_4 := bc BK149.out 4; have hfz24_0 := bf BK149.out 0; have hfz24_1 := bf BK149.out 1; have hfz24_2 := bf BK149.out 2; have hfz24_3 := bf BK149.out 3; have hfz24_4 := bf BK149.out 4) | (go_at_call 93; (with_reducible refine (spec_l2Ends.calls a1 a0_4 false _ A14.out).mono ?_); rintro e w' ⟨rfl, ⟨nd, rfl⟩⟩; (try first | exact ⟨rfl, _, World.drewN_drewN _ _ _⟩ | exact ⟨rfl, _, Eq.trans (World.drewN_drewN _ _ _) (congrArg (World.drewN _) (Nat.add_assoc _ _ _))⟩))))
 go_ret2
 exact ⟨eq_, bel1 GE149.out⟩
-- shrunk

/-! ### spec_l2One: function 73 -/
mutual
def spec_l2One.l0 : Nat → List (S82) → ByteArray → Bool → List ByteArray → List ByteArray → Int → Option (List ByteArray)
 | 0, _, _, _, _, _, _ => none
 | k + 1, x0, x1, x2, x3, x9, x10 => if x10 < (x0.length : Int) then (if 0 ≤ x10 then (if (((rd_T82 x0 x10).f1) != x2) = true then (spec_l2One.j1 k x0 x1 x2 x3 x9 x10 true) else ((spec_l2Has.f k x1 ((rd_T82 x0 x10).f0)).bind fun t162 => (spec_l2One.j1 k x0 x1 x2 x3 x9 x10 (!t162)))) else (none)) else (some x9)
def spec_l2One.j1 : Nat → List (S82) → ByteArray → Bool → List ByteArray → List ByteArray → Int → Bool → Option (List ByteArray)
 | 0, _, _, _, _, _, _, _ => none
 | k + 1, x0, x1, x2, x3, x9, x10, x39 => if x39 = true then (spec_l2One.l0 k x0 x1 x2 x3 x9 (wrap64 (x10 + 1))) else (spec_l2One.l1 k x0 x1 x2 x3 x9 x10 0)
def spec_l2One.l1 : Nat → List (S82) → ByteArray → Bool → List ByteArray → List ByteArray → Int → Int → Option (List ByteArray)
 | 0, _, _, _, _, _, _, _ => none
 | k + 1, x0, x1, x2, x3, x9, x10, x11 => if x11 < (x3.length : Int) then (if 0 ≤ x10 then (if x10 < (x0.length : Int) then (if 0 ≤ x11 then ((spec_l2Do.f k ((rd_T82 x0 x10).f0) ((rd_T82 x0 x10).f1) ((rd_T82 x0 x10).f2) ((rd_T82 x0 x10).f3) ((rd_T82 x0 x10).f4) (rdOf ByteArray.empty x3 x11)).bind fun bt165 => (if bt165.2 = true then ((spec_l1Put.f k x9 bt165.1).bind fun t167 => (spec_l2One.l1 k x0 x1 x2 x3 t167 x10 (wrap64 (x11 + 1)))) else (spec_l2One.l1 k x0 x1 x2 x3 x9 x10 (wrap64 (x11 + 1))))) else (none)) else (none)) else (none)) else (spec_l2One.l0 k x0 x1 x2 x3 x9 (wrap64 (x10 + 1)))
end
def spec_l2One.f (k : Nat) (l0 : List (S82)) (a1 : ByteArray) (a2 : Bool) (l3 : List ByteArray) : Option (List ByteArray) := (some (([] : List ByteArray) : List ByteArray)).bind fun y154 => (if y154.length + l3.length < 8796093022208 then (spec_l2One.l0 k l0 a1 a2 l3 (y154 ++ l3) 0) else (none))
def spec_l2One.T9 : Bool × List (List Nat × List Nat) := (true, [([], []), ([], []), ([0, 1], [0, 1]), ([2], [2]), ([], []), ([], []), ([4, 5], [4, 5]), ([6], [6]), ([3, 7], [3, 7]), ([8], [8]), ([9], [9]), ([9], [9]), ([10, 8, 0, 1, 2, 3, 4, 5, 6, 7, 8, 9, 10], [10]), ([11, 12, 0, 1, 2, 3, 4, 5, 6, 7, 8, 9, 10, 11, 12], [11])])
def spec_l2One.B9 : List Nat := [0, 0, 3, 7, 0, 0, 48, 112, 255, 511, 1023, 1023, 2047, 8191]
theorem spec_l2One.tab9 : rtab .any (opsOf Tryz.f73 9) = spec_l2One.T9 := by kernel_rfl
theorem spec_l2One.bits9 : waitsOk spec_l2One.T9.2 spec_l2One.B9 = true := by kernel_rfl
theorem spec_l2One.calls (k : Nat) (A0 : Option Addr) (c0 : Nat) (l0 : List (S82)) (a1 : ByteArray) (a2 : Bool) (A3 : Option Addr) (c3 : Nat) (l3 : List ByteArray) (r : List ByteArray) (w : World) (hr0 : Kd.C k82 w A0 l0.length l0) (hc0 : l0.length ≤ c0) (hr3 : Kd.C Kd.string w A3 l3.length l3) (hc3 : l3.length ≤ c3) (h : spec_l2One.f k l0 a1 a2 l3 = some r) :
  Calls Tryz.prog 73 #[.slice A0 l0.length c0, .string a1, .bool a2, .slice A3 l3.length c3] w fun e w' => ∃ v0_ : Value, e = .returned (v0_) ∧ Kd.V Kd.string 9 w' w.heap.size (fun k_ => (w.heap.size ≤ k_)) v0_ r ∧ Below w.heap.size w w' := by
 have hu82 := Tryz.underlying82; have HR0 := am hr0; have HC0 := am hc0; clear hr0 hc0; have HR3 := am hr3; have HC3 := am hc3; clear hr3 hc3; have HB := am (Below.refl w.heap.size w)
 have H : ((some (([] : List ByteArray) : List ByteArray)).bind fun y154 => (if y154.length + l3.length < 8796093022208 then (spec_l2One.l0 k l0 a1 a2 l3 (y154 ++ l3) 0) else (none))) = some r := h
 clear h; obtain ⟨y154, hy154⟩ : ∃ y_ : List ByteArray, y_ = (([] : List ByteArray)) := ⟨_, rfl⟩
 replace H : (if y154.length + l3.length < 8796093022208 then (spec_l2One.l0 k l0 a1 a2 l3 (y154 ++ l3) 0) else (none)) = some r := by first | (rw [hy154]; with_reducible exact H) | (have H2_ := bm H; rw [hy154]; with_reducible exact H2_) | (with_reducible exact bm H) | with_reducible exact H | (rw [hy154]; exact H) | exact H
 have Ny154 := am hy154; clear hy154
 replace H := ip H; obtain ⟨c5, H⟩ := H; have LMc5 := Aside0.mk c5; clear c5; obtain ⟨y157, hy157⟩ : ∃ y_ : List ByteArray, y_ = (y154 ++ l3) := ⟨_, rfl⟩
 replace H : (spec_l2One.l0 k l0 a1 a2 l3 y157 0) = some r := by first | (rw [hy157]; with_reducible exact H) | (have H2_ := bm H; rw [hy157]; with_reducible exact H2_) | (with_reducible exact bm H) | with_reducible exact H | (rw [hy157]; exact H) | exact H
 have Ny157 := am hy157; clear hy157
 have H' := am H
 clear H; go_enter Tryz.func73, Tryz.ntmps73
 go_wp2_with (first | ((with_reducible refine gate_dst (N := 14) rfl ?_); refine Kd.R_lit Kd.string _ 9 ?hg (N := 14) ?hd (xs := ([] : List ByteArray)) (inner := []) (ok := fun _ => True) (okp := fun _ => True) ?hr ?hp (fun _ hk => hk) trivial (Below.refl _ _) (Nat.le_refl _) (by simp) ?_; (case hd => rfl); (case hg => rfl); (case hr => first | (go_simp; done) | (go_simp; rfl)); (case hp => exact (Reps.none _ _)); intro v155 w6 ho7 hb hg_ hnew_; clear hg_ hnew_; (first | rw [← Ny154.out] at ho7 | (simp only [Int.reduceToNat] at ho7; rw [← Ny154.out] at ho7) | (simp only [Int.toNat_natCast] at ho7; rw [← Ny154.out] at ho7)); have HO156 := am (Kd.R_lower (Kd.R_newM (M := fun k_ => (w.heap.size ≤ k_)) ho7 (below_size bel) (fun k_ h_ => h_)) (below_size bel)); replace HB := am (below_step bel hb); clear hb ho7) | ((with_reducible refine gate_builtin (b := .append) (xs := #[.tmp 14, .tmp 15]) rfl ?_); at_builtin; refine Kd.R_append_rows Kd.string (w0 := w) w.heap.size rfl (.tmp 14) (.tmp 15) 49 9 (.string ⟨#[]⟩) 16 rfl Tryz.underlying49 info9 rfl (by decide) (by omega) v155 y154 l3 _ _ _ (fun k_ => (w.heap.size ≤ k_)) (fun _ => False) rfl rfl ?aO ?aR (fun _ _ h => h) (fun _ h => h.elim) ?aF ?aB ?aS ?aL ?_; (case aR => exact cq (Kd.C_below HR3.out HB.out)); (case aB => exact bel); (case aF => exact (fun k_ hk => (Nat.le_trans (below_size bel) hk))); (case aO => exact (rq (Kd.R_mono HO156.out (fun _ hk => hk.1)))); (case aS => exact (below_size bel)); (case aL => have := LMc5.out; omega); intro v158 w8 ho hb hg hat; rw [← Ny157.out] at ho; replace HB := am (hb); have HO159 := am (ho); clear HO156; clear ho hb hg hat))
 go_loopg [9, 10] k (fun kq v9 v10 w' => ∃ (x9_1 : List ByteArray) (x10_1 : Int), v10 = .int .i64 x10_1 ∧ Aside0 (spec_l2One.l0 kq l0 a1 a2 l3 x9_1 x10_1 = some r) ∧ Aside0 (kq ≤ k) ∧ Aside0 (Kd.V Kd.string 9 w' w.heap.size (fun k_ => (w.heap.size ≤ k_)) v9 x9_1) ∧ Aside0 (Below w.heap.size w w'))
 case atStart => exact ⟨(y157), (0), sq, H', ⟨Nat.le_refl _⟩, ⟨Kd.R_V (rq HO159.out)⟩, ⟨bel⟩⟩
 case round =>
  clear H'; (try clear p2); (try clear c3); (try clear c5); (try clear c7); obtain ⟨x9_1, x10_1, rfl, HA, HK1, HO_9, HB⟩ := hrel
  cases gk with
  | zero => exact absurd HA.out (by simp [spec_l2One.l0])
  | succ k1 =>
   have H := HA.out; clear HA
   simp only [spec_l2One.l0] at H
   by_cases c9 : x10_1 < (l0.length : Int)
   ·rw [if_pos c9] at H; have c9b0 := decide_eq_true c9; clear c9; have HC10 := am H; clear H
    go_upto_region 5 with (fail)
    go_cut [39] (fun v39 wc => ∃ (kq : Nat) (x39_9 : Bool), v39 = .bool x39_9 ∧ Aside0 (spec_l2One.j1 kq l0 a1 a2 l3 x9_1 x10_1 x39_9 = some r) ∧ Aside0 (kq ≤ k1) ∧ Aside0 (Kd.V Kd.string 9 wc w.heap.size (fun k_ => (w.heap.size ≤ k_)) u9 x9_1) ∧ Aside0 (Below w.heap.size w wc))
    case first =>
     have H := HC10.out; clear HC10
     replace H := it H; obtain ⟨c11b0, H⟩ := H
     (first | rw [c11b0] | (simp only [i64_w, i32_w]; rw [c11b0]) | skip)
     by_cases c12 : (((rd_T82 l0 x10_1).f1) != a2) = true
     ·rw [if_pos c12] at H
      have c12b0 : (((rd_T82 l0 x10_1).f1) != a2) = true := c12
      (try (have c12b1 : decide (((rd_T82 l0 x10_1).f1) = a2) = false := by simpa using c12))
      (try (have c12b2 : (((rd_T82 l0 x10_1).f1) == a2) = false := by simpa using c12))
      (try (have c12b3 : ¬ (((rd_T82 l0 x10_1).f1) = a2) := by simpa using c12))
      clear c12
      have H' := am H
      clear H
      have p160 : 0 ≤ (x10_1 : Int) := of_decide_eq_true ad
      have q160 : x10_1 < (l0.length : Int) := of_decide_eq_true ad
      obtain ⟨ad160, e160, hx160_0, hx160_1, hx160_2, hx160_3, hx160_4⟩ := at_T82 HR0.out x10_1 p160 q160
      cases e160
      replace hx160_0 := kp HB.out hx160_0; replace hx160_1 := kp HB.out hx160_1; replace hx160_2 := kp HB.out hx160_2; replace hx160_3 := kp HB.out hx160_3; replace hx160_4 := kp HB.out hx160_4; replace p160 := eq_true p160; replace q160 := eq_true q160; go_wp2
      go_meet
      case rel => exact ⟨_, (true), sq, H', ⟨b61_⟩, ⟨vq HO_9.out⟩, ⟨bel⟩⟩
     rw [if_neg c12] at H
     have c12b0 : (((rd_T82 l0 x10_1).f1) != a2) = false := by simpa using c12
     (try (have c12b1 : decide (((rd_T82 l0 x10_1).f1) = a2) = true := by simpa using c12))
     (try (have c12b2 : (((rd_T82 l0 x10_1).f1) == a2) = true := by simpa using c12))
     clear c12; replace H := bs H; obtain ⟨t162, A130, H⟩ := H; replace H : (spec_l2One.j1 k1 l0 a1 a2 l3 x9_1 x10_1 (!t162)) = some r := H; have A13 := Aside0.mk A130; clear A130
     have H' := am H
     clear H
     have p160 : 0 ≤ (x10_1 : Int) := of_decide_eq_true ad
     have q160 : x10_1 < (l0.length : Int) := of_decide_eq_true ad
     obtain ⟨ad160, e160, hx160_0, hx160_1, hx160_2, hx160_3, hx160_4⟩ := at_T82 HR0.out x10_1 p160 q160
     cases e160
     replace hx160_0 := kp HB.out hx160_0; replace hx160_1 := kp HB.out hx160_1; replace hx160_2 := kp HB.out hx160_2; replace hx160_3 := kp HB.out hx160_3; replace hx160_4 := kp HB.out hx160_4; replace p160 := eq_true p160; replace q160 := eq_true q160
     have p161 : 0 ≤ (x10_1 : Int) := of_decide_eq_true ad
     have q161 : x10_1 < (l0.length : Int) := of_decide_eq_true ad
     obtain ⟨ad161, e161, hx161_0, hx161_1, hx161_2, hx161_3, hx161_4⟩ := at_T82 HR0.out x10_1 p161 q161
     obtain rfl : ad160 = ad161 := (by injection e161)
     replace hx161_0 := kp HB.out hx161_0; replace hx161_1 := kp HB.out hx161_1; replace hx161_2 := kp HB.out hx161_2; replace hx161_3 := kp HB.out hx161_3; replace hx161_4 := kp HB.out hx161_4; replace p161 := eq_true p161; replace q161 := eq_true q161
     go_wp2_with (first | (go_at_call 94; (with_reducible refine (spec_l2Has.calls k1 a1 ((rd_T82 l0 x10_1).f0) t162 _ A13.out).mono ?_); rintro e w' ⟨rfl, ⟨nd, rfl⟩⟩))
     go_meet
     case rel => exact ⟨_, (!t162), sq, H', ⟨b61_⟩, ⟨vq HO_9.out⟩, ⟨bel⟩⟩
    case rest =>
     clear HC10; (try clear c1); (try clear p1); (try clear q1); (try clear hx1); (try clear p2); (try clear c3); (try clear c5); (try clear c7); (try clear c9); (try clear c9b0); (try clear c11); (try clear c11b0); (try clear c12); (try clear c12b0); (try clear c12b1); (try clear c12b2); (try clear hx160_0); (try clear hx160_1); (try clear hx160_2); (try clear hx160_3); (try clear hx160_4); (try clear hx161_0); (try clear hx161_1); (try clear hx161_2); (try clear hx161_3); (try clear hx161_4); (try clear p160); (try clear p161); (try clear p2); (try clear q160); (try clear q161); obtain ⟨kq, x39_9, rfl, HA, HJ9, HO_9, HB⟩ := hcut
     cases kq with
     | zero => exact absurd HA.out (by simp [spec_l2One.j1])
     | succ kj9 =>
      have H := HA.out; clear HA
      simp only [spec_l2One.j1] at H
      by_cases c14 : x39_9 = true
      ·subst c14
       have H1 : (spec_l2One.l0 kj9 l0 a1 a2 l3 x9_1 (wrap64 (x10_1 + 1))) = some r := b32_
       replace H := H1; clear H1
       have H' := am H
       clear H; go_wp2
       go_roundg kj9
       case measure => have := HK1.out; have := HJ9.out; omega
       case rel => exact ⟨(x9_1), (wrap64 (x10_1 + 1)), sq, H', ⟨by have := HK1.out; have := HJ9.out; omega⟩, ⟨vq HO_9.out⟩, ⟨bel⟩⟩
      replace c14 := Bool.eq_false_iff.mpr c14; subst c14
      have H1 : (spec_l2One.l1 kj9 l0 a1 a2 l3 x9_1 x10_1 0) = some r := b13_
      replace H := H1; clear H1
      have H' := am H
      clear H; go_wp2
      go_loopg [9, 11] kj9 (fun kq v9 v11 w' => ∃ (x9_3 : List ByteArray) (x11_3 : Int), v11 = .int .i64 x11_3 ∧ Aside0 (spec_l2One.l1 kq l0 a1 a2 l3 x9_3 x10_1 x11_3 = some r) ∧ Aside0 (kq ≤ kj9) ∧ Aside0 (Kd.V Kd.string 9 w' w.heap.size (fun k_ => (w.heap.size ≤ k_)) v9 x9_3) ∧ Aside0 (Below w.heap.size w w'))
      case atStart => exact ⟨(x9_1), (0), sq, H', ⟨Nat.le_refl _⟩, ⟨vq HO_9.out⟩, ⟨bel⟩⟩
      case round =>
       clear H'; (try clear c1); (try clear p1); (try clear q1); (try clear hx1); (try clear p2); (try clear c3); (try clear c5); (try clear p6); (try clear c7); (try clear c9); (try clear c9b0); (try clear c11); (try clear c11b0); (try clear c12); (try clear c12b0); (try clear c12b1); (try clear c12b2); (try clear c14); (try clear hx160_0); (try clear hx160_1); (try clear hx160_2); (try clear hx160_3); (try clear hx160_4); (try clear hx161_0); (try clear hx161_1); (try clear hx161_2); (try clear hx161_3); (try clear hx161_4); (try clear p1); (try clear p160); (try clear p161); (try clear p2); (try clear q1); (try clear q160); (try clear q161); obtain ⟨x9_3, x11_3, rfl, HA, HK3, HO_9, HB⟩ := hrel
       cases gk with
       | zero => exact absurd HA.out (by simp [spec_l2One.l1])
       | succ k3 =>
        have H := HA.out; clear HA
        simp only [spec_l2One.l1] at H
        by_cases c15 : x11_3 < (l3.length : Int)
        ·rw [if_pos c15] at H; have c15b0 := decide_eq_true c15; clear c15
         replace H := it H; obtain ⟨c16b0, H⟩ := H
         replace H := it H; obtain ⟨c17b0, H⟩ := H
         replace H := it H; obtain ⟨c18b0, H⟩ := H; replace H := bs H; obtain ⟨⟨t165, t166⟩, A190, H⟩ := H; replace H : (if t166 = true then ((spec_l1Put.f k3 x9_3 t165).bind fun t167 => (spec_l2One.l1 k3 l0 a1 a2 l3 t167 x10_1 (wrap64 (x11_3 + 1)))) else (spec_l2One.l1 k3 l0 a1 a2 l3 x9_3 x10_1 (wrap64 (x11_3 + 1)))) = some r := H; have A19 := Aside0.mk A190; clear A190
         by_cases c20 : t166 = true
         ·subst c20
          have H1 : ((spec_l1Put.f k3 x9_3 t165).bind fun t167 => (spec_l2One.l1 k3 l0 a1 a2 l3 t167 x10_1 (wrap64 (x11_3 + 1)))) = some r := b32_
          replace H := H1; clear H1
          replace H := bs H; obtain ⟨t167, A210, H⟩ := H; replace H : (spec_l2One.l1 k3 l0 a1 a2 l3 t167 x10_1 (wrap64 (x11_3 + 1))) = some r := H; have A21 := Aside0.mk A210; clear A210
          have H' := am H
          clear H
          try go_wp2
          replace HO_9 := am (Kd.V_drew HO_9.out); replace HB := am (below_drew1 HB.out)
          have p163 : 0 ≤ (x10_1 : Int) := of_decide_eq_true ad
          have q163 : x10_1 < (l0.length : Int) := of_decide_eq_true ad
          obtain ⟨ad163, e163, hx163_0, hx163_1, hx163_2, hx163_3, hx163_4⟩ := at_T82 HR0.out x10_1 p163 q163; have hw163_4 := hx163_4; have hw163_3 := hx163_3; have hw163_2 := hx163_2; have hw163_1 := hx163_1; have hw163_0 := hx163_0
          cases e163
          replace hx163_0 := kp HB.out hx163_0; replace hx163_1 := kp HB.out hx163_1; replace hx163_2 := kp HB.out hx163_2; replace hx163_3 := kp HB.out hx163_3; replace hx163_4 := kp HB.out hx163_4; replace p163 := eq_true p163; replace q163 := eq_true q163
          have p164 : 0 ≤ (x11_3 : Int) := of_decide_eq_true ad
          have q164 : x11_3 < (l3.length : Int) := of_decide_eq_true ad
          obtain ⟨ad164, e164, hx164_0⟩ := Kd.at_string HR3.out x11_3 p164 q164; have hw164_0 := hx164_0
          cases e164
          replace hx164_0 := kp HB.out hx164_0; replace p164 := eq_true p164; replace q164 := eq_true q164
          refine st (n := 14) (S := fun w' => w'.cell? (ad163.add ((x10_1).toNat * 5)) = some (.string ((rd_T82 l0 x10_1).f0)) ∧ w'.cell? ⟨(ad163.add ((x10_1).toNat * 5)).block, (ad163.add ((x10_1).toNat * 5)).off + 1, none⟩ = some (.bool ((rd_T82 l0 x10_1).f1)) ∧ w'.cell? ⟨(ad163.add ((x10_1).toNat * 5)).block, (ad163.add ((x10_1).toNat * 5)).off + 2, none⟩ = some (.string ((rd_T82 l0 x10_1).f2)) ∧ w'.cell? ⟨(ad163.add ((x10_1).toNat * 5)).block, (ad163.add ((x10_1).toNat * 5)).off + 3, none⟩ = some (.string ((rd_T82 l0 x10_1).f3)) ∧ w'.cell? ⟨(ad163.add ((x10_1).toNat * 5)).block, (ad163.add ((x10_1).toNat * 5)).off + 4, none⟩ = some (.string ((rd_T82 l0 x10_1).f4)) ∧ w'.cell? (ad164.add (x11_3).toNat) = some (.string (rdOf ByteArray.empty l3 x11_3))) (ds := []) ⟨(kp HB.out hw163_0), (kp HB.out hw163_1), (kp HB.out hw163_2), (kp HB.out hw163_3), (kp HB.out hw163_4), (kp HB.out hw164_0)⟩ (fun hHeld => ?_); refine with_tabW spec_l2One.tab9 spec_l2One.bits9 (fun HT_ HW_ => ?_)
          generalize wr.drew = w22 at HO_9 HB hx163_0 hx163_1 hx163_2 hx163_3 hx163_4 hx164_0 hHeld ⊢
          refine pu 0 47 ?_
          refine pu 1 48 ?_
          refine pu 2 49 ?_
          refine pu 4 51 ?_
          refine pu 5 52 ?_
          refine pu 6 53 ?_
          refine tk6 3 50 hHeld ?_
          refine tk6 7 54 hHeld ?_
          refine on1 8 55 (fun K hK => ?_)
          refine goes_ Tryz.func95 (by kernel_rfl) rfl #[.agg #[.string ((rd_T82 l0 x10_1).f0), .bool ((rd_T82 l0 x10_1).f1), .string ((rd_T82 l0 x10_1).f2), .string ((rd_T82 l0 x10_1).f3), .string ((rd_T82 l0 x10_1).f4)], .string (rdOf ByteArray.empty l3 x11_3)] (by rfl) rfl rfl mq ?_
          with_reducible refine (spec_l2Do.calls k3 ((rd_T82 l0 x10_1).f0) ((rd_T82 l0 x10_1).f1) ((rd_T82 l0 x10_1).f2) ((rd_T82 l0 x10_1).f3) ((rd_T82 l0 x10_1).f4) (rdOf ByteArray.empty l3 x11_3) t165 true _ A19.out).mono ?_
          rintro e w23 ⟨rfl, hb⟩
          refine ⟨_, rfl, ?_⟩
          replace HO_9 := am (Kd.V_below (vq HO_9.out) hb); replace HB := am (below_step bel hb)
          (try clear hb)
          (try clear hb2)
          (try clear hk)
          (try clear hi)
          refine hK.out _ _ ⟨(kp HB.out hw163_0), (kp HB.out hw163_1), (kp HB.out hw163_2), (kp HB.out hw163_3), (kp HB.out hw163_4), (kp HB.out hw164_0)⟩ (fun hHeld => ?_)
          clear hK K
          refine norm_ (a' := ?_) ?_ ?_
          rotate_left
          ·show Act.put _ (some 55) _ = _
           simp only [Act.put, List.setIfInBounds_toArray, List.set_cons_zero, List.set_cons_succ, i64_w, i32_w]
           rfl
          refine pu 9 46 ?_
          refine pu 10 56 ?_
          refine pu 11 57 ?_
          refine pu 12 12 ?_
          refine pu 13 13 ?_
          refine done_ (done_of HT_.out (by kernel_rfl)) ?_
          obtain ⟨Ao24, co24, eo24⟩ := Kd.V_slice HO_9.out; subst eo24
          try go_wp2_with (first | ((with_reducible refine gate_callee (f := 49) rfl ?_); refine goesL_ (some 61) rfl rfl Tryz.func49 (by kernel_rfl) rfl #[.slice Ao24 x9_3.length co24, .string t165] rfl mq ?_; (with_reducible refine (spec_l1Put.calls k3 (fun k_ => (w.heap.size ≤ k_)) _ _ x9_3 t165 t167 _ ?side1 A21.out).mono ?_); (case side1 => exact HO_9.out); rintro e w25 ⟨v168, rfl, ho0, hb⟩; refine ⟨_, rfl, ?_⟩; replace HO_9 := am (Kd.V_below (vq HO_9.out) hb); have HO169 := am (Kd.V_lower (Kd.V_mono (ok' := fun k_ => (w.heap.size ≤ k_)) ho0 (fun k_ hk_ => Or.elim hk_ (fun hs_ => hs_) (fun hn_ => (Nat.le_trans (below_size bel) hn_)))) (below_size bel)); replace HB := am (below_step bel hb); (try clear hb); (try clear hb2); (try clear hk); (try clear hi); (try clear ho0)))
          go_roundg k3
          case measure => have := HK1.out; have := HJ9.out; have := HK3.out; omega
          case rel => exact ⟨(t167), (wrap64 (x11_3 + 1)), sq, H', ⟨by have := HK1.out; have := HJ9.out; have := HK3.out; omega⟩, ⟨vq HO169.out⟩, ⟨bel⟩⟩
         replace c20 := Bool.eq_false_iff.mpr c20; subst c20
         have H1 : (spec_l2One.l1 k3 l0 a1 a2 l3 x9_3 x10_1 (wrap64 (x11_3 + 1))) = some r := b13_
         replace H := H1; clear H1
         have H' := am H
         clear H
         try go_wp2
         replace HO_9 := am (Kd.V_drew HO_9.out); replace HB := am (below_drew1 HB.out)
         have p163 : 0 ≤ (x10_1 : Int) := of_decide_eq_true ad
         have q163 : x10_1 < (l0.length : Int) := of_decide_eq_true ad
         obtain ⟨ad163, e163, hx163_0, hx163_1, hx163_2, hx163_3, hx163_4⟩ := at_T82 HR0.out x10_1 p163 q163; have hw163_4 := hx163_4; have hw163_3 := hx163_3; have hw163_2 := hx163_2; have hw163_1 := hx163_1; have hw163_0 := hx163_0
         cases e163
         replace hx163_0 := kp HB.out hx163_0; replace hx163_1 := kp HB.out hx163_1; replace hx163_2 := kp HB.out hx163_2; replace hx163_3 := kp HB.out hx163_3; replace hx163_4 := kp HB.out hx163_4; replace p163 := eq_true p163; replace q163 := eq_true q163
         have p164 : 0 ≤ (x11_3 : Int) := of_decide_eq_true ad
         have q164 : x11_3 < (l3.length : Int) := of_decide_eq_true ad
         obtain ⟨ad164, e164, hx164_0⟩ := Kd.at_string HR3.out x11_3 p164 q164; have hw164_0 := hx164_0
         cases e164
         replace hx164_0 := kp HB.out hx164_0; replace p164 := eq_true p164; replace q164 := eq_true q164
         refine st (n := 14) (S := fun w' => w'.cell? (ad163.add ((x10_1).toNat * 5)) = some (.string ((rd_T82 l0 x10_1).f0)) ∧ w'.cell? ⟨(ad163.add ((x10_1).toNat * 5)).block, (ad163.add ((x10_1).toNat * 5)).off + 1, none⟩ = some (.bool ((rd_T82 l0 x10_1).f1)) ∧ w'.cell? ⟨(ad163.add ((x10_1).toNat * 5)).block, (ad163.add ((x10_1).toNat * 5)).off + 2, none⟩ = some (.string ((rd_T82 l0 x10_1).f2)) ∧ w'.cell? ⟨(ad163.add ((x10_1).toNat * 5)).block, (ad163.add ((x10_1).toNat * 5)).off + 3, none⟩ = some (.string ((rd_T82 l0 x10_1).f3)) ∧ w'.cell? ⟨(ad163.add ((x10_1).toNat * 5)).block, (ad163.add ((x10_1).toNat * 5)).off + 4, none⟩ = some (.string ((rd_T82 l0 x10_1).f4)) ∧ w'.cell? (ad164.add (x11_3).toNat) = some (.string (rdOf ByteArray.empty l3 x11_3))) (ds := []) ⟨(kp HB.out hw163_0), (kp HB.out hw163_1), (kp HB.out hw163_2), (kp HB.out hw163_3), (kp HB.out hw163_4), (kp HB.out hw164_0)⟩ (fun hHeld => ?_); refine with_tabW spec_l2One.tab9 spec_l2One.bits9 (fun HT_ HW_ => ?_)
         generalize wr.drew = w26 at HO_9 HB hx163_0 hx163_1 hx163_2 hx163_3 hx163_4 hx164_0 hHeld ⊢
         refine pu 0 47 ?_
         refine pu 1 48 ?_
         refine pu 2 49 ?_
         refine pu 4 51 ?_
         refine pu 5 52 ?_
         refine pu 6 53 ?_
         refine tk6 3 50 hHeld ?_
         refine tk6 7 54 hHeld ?_
         refine on1 8 55 (fun K hK => ?_)
         refine goes_ Tryz.func95 (by kernel_rfl) rfl #[.agg #[.string ((rd_T82 l0 x10_1).f0), .bool ((rd_T82 l0 x10_1).f1), .string ((rd_T82 l0 x10_1).f2), .string ((rd_T82 l0 x10_1).f3), .string ((rd_T82 l0 x10_1).f4)], .string (rdOf ByteArray.empty l3 x11_3)] (by rfl) rfl rfl mq ?_
         with_reducible refine (spec_l2Do.calls k3 ((rd_T82 l0 x10_1).f0) ((rd_T82 l0 x10_1).f1) ((rd_T82 l0 x10_1).f2) ((rd_T82 l0 x10_1).f3) ((rd_T82 l0 x10_1).f4) (rdOf ByteArray.empty l3 x11_3) t165 false _ A19.out).mono ?_
         rintro e w27 ⟨rfl, hb⟩
         refine ⟨_, rfl, ?_⟩
         replace HO_9 := am (Kd.V_below (vq HO_9.out) hb); replace HB := am (below_step bel hb)
         (try clear hb)
         (try clear hb2)
         (try clear hk)
         (try clear hi)
         refine hK.out _ _ ⟨(kp HB.out hw163_0), (kp HB.out hw163_1), (kp HB.out hw163_2), (kp HB.out hw163_3), (kp HB.out hw163_4), (kp HB.out hw164_0)⟩ (fun hHeld => ?_)
         clear hK K
         refine norm_ (a' := ?_) ?_ ?_
         rotate_left
         ·show Act.put _ (some 55) _ = _
          simp only [Act.put, List.setIfInBounds_toArray, List.set_cons_zero, List.set_cons_succ, i64_w, i32_w]
          rfl
         refine pu 9 46 ?_
         refine pu 10 56 ?_
         refine pu 11 57 ?_
         refine pu 12 12 ?_
         refine pu 13 13 ?_
         refine done_ (done_of HT_.out (by kernel_rfl)) ?_
         try go_wp2
         go_roundg k3
         case measure => have := HK1.out; have := HJ9.out; have := HK3.out; omega
         case rel => exact ⟨(x9_3), (wrap64 (x11_3 + 1)), sq, H', ⟨by have := HK1.out; have := HJ9.out; have := HK3.out; omega⟩, ⟨vq HO_9.out⟩, ⟨bel⟩⟩
        rw [if_neg c15] at H; have c15b0 := decide_eq_false c15; clear c15
        have H' := am H
        clear H; go_wp2
        go_roundg k3
        case measure => have := HK1.out; have := HJ9.out; have := HK3.out; omega
        case rel => exact ⟨(x9_3), (wrap64 (x10_1 + 1)), sq, H', ⟨by have := HK1.out; have := HJ9.out; have := HK3.out; omega⟩, ⟨vq HO_9.out⟩, ⟨bel⟩⟩
   rw [if_neg c9] at H; have c9b0 := decide_eq_false c9; clear c9; obtain rfl := Option.some.inj H; go_wp2; go_ret
   exact ⟨_, eq_, by (with_reducible repeat (first | apply Kd.V_alloc | apply Kd.V_drewN | apply Kd.V_drew)); exact HO_9.out, bel⟩
-- shrunk

/-! ### spec_l2Forms: function 48 -/
def spec_l2Forms.f (k : Nat) (l0 : List (S82)) (a1_0 : ByteArray) (a1_1 : ByteArray) : Option (List ByteArray) := (spec_l2One.f k l0 a1_1 false (([a1_0] : List ByteArray))).bind fun t174 => ((spec_l2One.f k l0 a1_1 true t174).bind fun t177 => (some t177))
def spec_l2Forms.T1 : Bool × List (List Nat × List Nat) := (true, [([], []), ([], []), ([1], [1]), ([], []), ([], []), ([4], [4]), ([], []), ([6], [6]), ([7], [7]), ([3, 5, 8], [3, 5, 8]), ([0, 2, 9, 9], [0, 2, 9]), ([10, 10, 0, 1, 2, 3, 4, 5, 6, 7, 8, 9, 10], [10])])
def spec_l2Forms.B1 : List Nat := [0, 0, 2, 0, 0, 16, 0, 64, 192, 504, 1023, 2047]
theorem spec_l2Forms.tab1 : rtab .any (opsOf Tryz.f48 1) = spec_l2Forms.T1 := by kernel_rfl
theorem spec_l2Forms.bits1 : waitsOk spec_l2Forms.T1.2 spec_l2Forms.B1 = true := by kernel_rfl
theorem spec_l2Forms.calls (k : Nat) (A0 : Option Addr) (c0 : Nat) (l0 : List (S82)) (a1_0 : ByteArray) (a1_1 : ByteArray) (r : List ByteArray) (w : World) (hr0 : Kd.C k82 w A0 l0.length l0) (hc0 : l0.length ≤ c0) (h : spec_l2Forms.f k l0 a1_0 a1_1 = some r) :
  Calls Tryz.prog 48 #[.slice A0 l0.length c0, .agg #[.string a1_0, .string a1_1]] w fun e w' => ∃ v0_ : Value, e = .returned (v0_) ∧ Kd.V Kd.string 9 w' w.heap.size (fun k_ => (w.heap.size ≤ k_)) v0_ r ∧ Below w.heap.size w w' := by
 have hu78 := Tryz.underlying78; have HR0 := am hr0; have HC0 := am hc0; clear hr0 hc0; have HB := am (Below.refl w.heap.size w)
 have H : ((spec_l2One.f k l0 a1_1 false (([a1_0] : List ByteArray))).bind fun t174 => ((spec_l2One.f k l0 a1_1 true t174).bind fun t177 => (some t177))) = some r := h
 clear h; obtain ⟨y171, hy171⟩ : ∃ y_ : List ByteArray, y_ = (([a1_0] : List ByteArray)) := ⟨_, rfl⟩
 replace H : ((spec_l2One.f k l0 a1_1 false y171).bind fun t174 => ((spec_l2One.f k l0 a1_1 true t174).bind fun t177 => (some t177))) = some r := by first | (rw [hy171]; with_reducible exact H) | (have H2_ := bm H; rw [hy171]; with_reducible exact H2_) | (with_reducible exact bm H) | with_reducible exact H | (rw [hy171]; exact H) | exact H
 have Ny171 := am hy171; clear hy171; replace H := bs H; obtain ⟨t174, A30, H⟩ := H; replace H : ((spec_l2One.f k l0 a1_1 true t174).bind fun t177 => (some t177)) = some r := H; have A3 := Aside0.mk A30; clear A30; replace H := bs H; obtain ⟨t177, A40, H⟩ := H; replace H : (some t177) = some r := H; have A4 := Aside0.mk A40; clear A40; obtain rfl := Option.some.inj H; go_enter Tryz.func48, Tryz.ntmps48
 try go_wp2_with (first | ((with_reducible refine gate_dst (N := 3) rfl ?_); refine bx 3 (cs := #[.string a1_0, .string a1_1]) (t := 78) ?_; intro gb170 hg w5 hbox hb; have BK170 := am (hbox); have GW170 := am ((b19_ : w.heap.size ≤ gb170)); have GE170 := am ((b19_ : w.heap.size ≤ gb170)); replace HB := am (below_step bel hb); clear hb hbox hg))
 replace BK170 := am (blk_drew BK170.out); replace HB := am (below_drew1 HB.out)
 refine st (n := 12) (S := fun w' => w'.cell? ⟨gb170, 0, none⟩ = some (.string a1_0) ∧ w'.cell? ⟨gb170, 1, none⟩ = some (.string a1_1)) (ds := []) ⟨(blk_cell BK170.out 0).trans rfl, (blk_cell BK170.out 1).trans rfl⟩ (fun hHeld => ?_); refine with_tabW spec_l2Forms.tab1 spec_l2Forms.bits1 (fun HT_ HW_ => ?_)
 generalize w5.drew = w6 at BK170 HB hHeld ⊢
 refine pu 0 5 ?_
 refine pu 1 6 ?_
 refine pu 3 8 ?_
 refine pu 4 9 ?_
 refine pu 6 11 ?_
 refine tk2 2 7 hHeld ?_
 refine tk2 5 10 hHeld ?_
 refine tk2 7 12 hHeld ?_
 refine on1 8 13 (fun K hK => ?_)
 refine Kd.R_lit_step Kd.string _ 9 ?hg (N := 13) ?hd (xs := ([a1_0] : List ByteArray)) (inner := [.string a1_0]) (ok := fun _ => True) (okp := fun _ => True) ?hr ?hp (fun _ hk => hk) trivial (Below.refl _ _) (Nat.le_refl _) (by simp) ?_; (case hd => rfl); (case hg => rfl); (case hr => first | (go_simp; done) | (go_simp; rfl)); (case hp => exact (Reps.one (show Kd.M Kd.string _ _ _ a1_0 [.string a1_0] from rfl) (Reps.none _ _)))
 intro v172 w7 ho8 hb hg_ hnew_; clear hg_ hnew_
 (first | rw [← Ny171.out] at ho8 | (simp only [Int.reduceToNat] at ho8; rw [← Ny171.out] at ho8) | (simp only [Int.toNat_natCast] at ho8; rw [← Ny171.out] at ho8))
 have HO173 := am (Kd.R_lower (Kd.R_newM (M := fun k_ => (w.heap.size ≤ k_)) ho8 (below_size (bel1 GE170.out)) (fun k_ h_ => h_)) (below_size (bel1 GE170.out))); replace BK170 := am (blk_below (g := gb170) (o := .cells #[.string a1_0, .string a1_1] 78 (0, 0)) (bq BK170.out) hb); replace HB := am (below_step (bel1 GE170.out) hb); clear hb ho8; obtain ⟨Ao9, co9, eo9⟩ := Kd.R_slice HO173.out
 (first | subst eo9 | (injection eo9 with f1_ f2_ f3_; have f4_ := f1_.symm; have f5_ := f3_.symm; clear f1_ f2_ f3_; subst f4_; subst f5_))
 refine hK.out _ _ ⟨(blk_cell BK170.out 0).trans rfl, (blk_cell BK170.out 1).trans rfl⟩ (fun hHeld => ?_)
 clear hK K
 refine norm_ (a' := ?_) ?_ ?_
 rotate_left
 ·show Act.put _ (some 13) _ = _
  simp only [Act.put, List.setIfInBounds_toArray, List.set_cons_zero, List.set_cons_succ, i64_w, i32_w]
  rfl
 refine on1 9 14 (fun K hK => ?_)
 refine goes_ Tryz.func73 (by kernel_rfl) rfl #[.slice A0 l0.length c0, .string a1_1, .bool false, .slice Ao9 y171.length co9] (by rfl) rfl rfl mq ?_
 with_reducible refine (spec_l2One.calls k _ _ l0 a1_1 false _ _ y171 t174 _ ?side1 ?side2 ?side3 ?side4 A3.out).mono ?_
 (case side1 => exact cq (Kd.C_below HR0.out HB.out)); (case side2 => exact HC0.out); (case side3 => exact cq (Kd.R_reads' HO173.out).2.2); (case side4 => exact (Kd.R_reads' HO173.out).2.1)
 rintro e w10 ⟨v175, rfl, ho0, hb⟩
 refine ⟨_, rfl, ?_⟩
 have HO176 := am (Kd.V_lower (Kd.V_mono (ok' := fun k_ => (w.heap.size ≤ k_) ∧ some k_ ≠ (.slice Ao9 y171.length co9 : Value).ownBlock ∧ k_ ≠ gb170) ho0 (fun k_ hk_ => ⟨(Nat.le_trans (below_size (bel1 GE170.out)) hk_), (Kd.fresh' (Kd.R_lt (rq HO173.out)) k_ hk_), (Kd.freshB (g := gb170) (o := .cells #[.string a1_0, .string a1_1] 78 (0, 0)) (bq BK170.out) k_ hk_)⟩)) (below_size (bel1 GE170.out))); replace HO173 := am (Kd.R_below (rq HO173.out) hb); replace BK170 := am (blk_below (g := gb170) (o := .cells #[.string a1_0, .string a1_1] 78 (0, 0)) (bq BK170.out) hb); replace HB := am (below_step (bel1 GE170.out) hb)
 (try clear hb)
 (try clear hb2)
 (try clear hk)
 (try clear hi)
 (try clear ho0)
 obtain ⟨Ao11, co11, eo11⟩ := Kd.V_slice HO176.out
 (first | subst eo11 | (injection eo11 with f1_ f2_ f3_; have f4_ := f1_.symm; have f5_ := f3_.symm; clear f1_ f2_ f3_; subst f4_; subst f5_))
 refine hK.out _ _ ⟨(blk_cell BK170.out 0).trans rfl, (blk_cell BK170.out 1).trans rfl⟩ (fun hHeld => ?_)
 clear hK K
 refine norm_ (a' := ?_) ?_ ?_
 rotate_left
 ·show Act.put _ (some 14) _ = _
  simp only [Act.put, List.setIfInBounds_toArray, List.set_cons_zero, List.set_cons_succ, i64_w, i32_w]
  rfl
 refine on1 10 15 (fun K hK => ?_)
 refine goes_ Tryz.func73 (by kernel_rfl) rfl #[.slice A0 l0.length c0, .string a1_1, .bool true, .slice Ao11 t174.length co11] (by rfl) rfl rfl mq ?_
 with_reducible refine (spec_l2One.calls k _ _ l0 a1_1 true _ _ t174 t177 _ ?side1 ?side2 ?side3 ?side4 A4.out).mono ?_
 (case side1 => exact cq (Kd.C_below HR0.out HB.out)); (case side2 => exact HC0.out); (case side3 => exact cq (Kd.V_reads' HO176.out).2.2); (case side4 => exact (Kd.V_reads' HO176.out).2.1)
 rintro e w12 ⟨v178, rfl, ho0, hb⟩
 refine ⟨_, rfl, ?_⟩
 replace HO176 := am (Kd.V_below (vq HO176.out) hb); have HO179 := am (Kd.V_lower (Kd.V_mono (ok' := fun k_ => (w.heap.size ≤ k_) ∧ some k_ ≠ (.slice Ao9 y171.length co9 : Value).ownBlock ∧ k_ ≠ gb170) ho0 (fun k_ hk_ => ⟨(Nat.le_trans (below_size (bel1 GE170.out)) hk_), (Kd.fresh' (Kd.R_lt (rq HO173.out)) k_ hk_), (Kd.freshB (g := gb170) (o := .cells #[.string a1_0, .string a1_1] 78 (0, 0)) (bq BK170.out) k_ hk_)⟩)) (below_size (bel1 GE170.out))); replace HO173 := am (Kd.R_below (rq HO173.out) hb); replace BK170 := am (blk_below (g := gb170) (o := .cells #[.string a1_0, .string a1_1] 78 (0, 0)) (bq BK170.out) hb); replace HB := am (below_step (bel1 GE170.out) hb)
 (try clear hb)
 (try clear hb2)
 (try clear hk)
 (try clear hi)
 (try clear ho0)
 refine hK.out _ _ ⟨(blk_cell BK170.out 0).trans rfl, (blk_cell BK170.out 1).trans rfl⟩ (fun hHeld => ?_)
 clear hK K
 refine norm_ (a' := ?_) ?_ ?_
 rotate_left
 ·show Act.put _ (some 15) _ = _
  simp only [Act.put, List.setIfInBounds_toArray, List.set_cons_zero, List.set_cons_succ, i64_w, i32_w]
  rfl
 refine pu 11 4 ?_
 refine done_ (done_of HT_.out (by kernel_rfl)) ?_
 try go_wp2
 go_ret
 exact ⟨_, eq_, by (with_reducible repeat (first | apply Kd.V_alloc | apply Kd.V_drewN | apply Kd.V_drew)); exact Kd.V_mono HO179.out (fun _ hk => hk.1), bel1 GE170.out⟩

/-! ### spec_l2Words: function 20 -/
mutual
def spec_l2Words.l0 : Nat → List ByteArray → Int → List (S82) → List (S78) → Option (List ByteArray)
 | 0, _, _, _, _ => none
 | k + 1, x3, x4, x181000, x181001 => if x4 < (x181001.length : Int) then (if 0 ≤ x4 then ((spec_l2Forms.f k x181000 ((rd_T78 x181001 x4).f0) ((rd_T78 x181001 x4).f1)).bind fun t185 => (spec_l2Words.l1 k x3 x4 t185 0 x181000 x181001)) else (none)) else (some x3)
def spec_l2Words.l1 : Nat → List ByteArray → Int → List ByteArray → Int → List (S82) → List (S78) → Option (List ByteArray)
 | 0, _, _, _, _, _, _ => none
 | k + 1, x3, x4, x5, x6, x181000, x181001 => if x6 < (x5.length : Int) then (if 0 ≤ x6 then ((spec_l1Put.f k x3 (rdOf ByteArray.empty x5 x6)).bind fun t189 => (spec_l2Words.l1 k t189 x4 x5 (wrap64 (x6 + 1)) x181000 x181001)) else (none)) else (spec_l2Words.l0 k x3 (wrap64 (x4 + 1)) x181000 x181001)
end
def spec_l2Words.f (k : Nat) (l0_0 : List (S82)) (l0_1 : List (S78)) : Option (List ByteArray) := spec_l2Words.l0 k (([] : List ByteArray)) 0 l0_0 l0_1
def spec_l2Words.T5 : Bool × List (List Nat × List Nat) := (true, [([], []), ([0], [0]), ([], []), ([2], [2]), ([], []), ([3, 4], [3, 4]), ([5], [5]), ([1, 6], [1, 6]), ([7, 7, 0, 1, 2, 3, 4, 5, 6, 7], [7])])
def spec_l2Words.B5 : List Nat := [0, 1, 0, 4, 0, 28, 60, 127, 255]
theorem spec_l2Words.tab5 : rtab .any (opsOf Tryz.f20 5) = spec_l2Words.T5 := by kernel_rfl
theorem spec_l2Words.bits5 : waitsOk spec_l2Words.T5.2 spec_l2Words.B5 = true := by kernel_rfl
theorem spec_l2Words.calls (k : Nat) (A0_0 : Option Addr) (c0_0 : Nat) (l0_0 : List (S82)) (A0_1 : Option Addr) (c0_1 : Nat) (l0_1 : List (S78)) (r : List ByteArray) (w : World) (hr0_0 : Kd.C k82 w A0_0 l0_0.length l0_0) (hc0_0 : l0_0.length ≤ c0_0) (hr0_1 : Kd.C k78 w A0_1 l0_1.length l0_1) (hc0_1 : l0_1.length ≤ c0_1) (h : spec_l2Words.f k l0_0 l0_1 = some r) :
  Calls Tryz.prog 20 #[.agg #[.slice A0_0 l0_0.length c0_0, .slice A0_1 l0_1.length c0_1]] w fun e w' => ∃ v0_ : Value, e = .returned (v0_) ∧ Kd.V Kd.string 9 w' w.heap.size (fun k_ => (w.heap.size ≤ k_)) v0_ r ∧ Below w.heap.size w w' := by
 have hu32 := Tryz.underlying32; have hu78 := Tryz.underlying78; have HR0_0 := am hr0_0; have HC0_0 := am hc0_0; clear hr0_0 hc0_0; have HR0_1 := am hr0_1; have HC0_1 := am hc0_1; clear hr0_1 hc0_1; have HB := am (Below.refl w.heap.size w)
 have H : (spec_l2Words.l0 k (([] : List ByteArray)) 0 l0_0 l0_1) = some r := h
 clear h; obtain ⟨y181, hy181⟩ : ∃ y_ : List ByteArray, y_ = (([] : List ByteArray)) := ⟨_, rfl⟩
 replace H : (spec_l2Words.l0 k y181 0 l0_0 l0_1) = some r := by first | (rw [hy181]; with_reducible exact H) | (have H2_ := bm H; rw [hy181]; with_reducible exact H2_) | (with_reducible exact bm H) | with_reducible exact H | (rw [hy181]; exact H) | exact H
 have Ny181 := am hy181; clear hy181
 have H' := am H
 clear H; go_enter Tryz.func20, Tryz.ntmps20
 go_wp2_with (first | ((with_reducible refine gate_dst (N := 1) rfl ?_); refine bx 1 (cs := #[.slice A0_0 l0_0.length c0_0, .slice A0_1 l0_1.length c0_1]) (t := 32) ?_; intro gb180 hg w2 hbox hb; have BK180 := am (hbox); have GW180 := am ((b19_ : w.heap.size ≤ gb180)); have GE180 := am ((b19_ : w.heap.size ≤ gb180)); replace HB := am (below_step bel hb); clear hb hbox hg) | ((with_reducible refine gate_dst (N := 7) rfl ?_); refine Kd.R_lit Kd.string _ 9 ?hg (N := 7) ?hd (xs := ([] : List ByteArray)) (inner := []) (ok := fun _ => True) (okp := fun _ => True) ?hr ?hp (fun _ hk => hk) trivial (Below.refl _ _) (Nat.le_refl _) (by simp) ?_; (case hd => rfl); (case hg => rfl); (case hr => first | (go_simp; done) | (go_simp; rfl)); (case hp => exact (Reps.none _ _)); intro v182 w3 ho4 hb hg_ hnew_; clear hg_ hnew_; (first | rw [← Ny181.out] at ho4 | (simp only [Int.reduceToNat] at ho4; rw [← Ny181.out] at ho4) | (simp only [Int.toNat_natCast] at ho4; rw [← Ny181.out] at ho4)); have HO183 := am (Kd.R_lower (Kd.R_newM (M := fun k_ => (w.heap.size ≤ k_)) ho4 (below_size (bel1 GE180.out)) (fun k_ h_ => h_)) (below_size (bel1 GE180.out))); replace BK180 := am (blk_below (g := gb180) (o := .cells #[.slice A0_0 l0_0.length c0_0, .slice A0_1 l0_1.length c0_1] 32 (0, 0)) (bq BK180.out) hb); replace HB := am (below_step (bel1 GE180.out) hb); clear hb ho4))
 go_loopg [3, 4] k (fun kq v3 v4 w' => ∃ (x3_1 : List ByteArray) (x4_1 : Int), v4 = .int .i64 x4_1 ∧ Aside0 (spec_l2Words.l0 kq x3_1 x4_1 l0_0 l0_1 = some r) ∧ Aside0 (kq ≤ k) ∧ Aside0 (Kd.V Kd.string 9 w' w.heap.size (fun k_ => (w.heap.size ≤ k_) ∧ k_ ≠ gb180) v3 x3_1) ∧ Aside0 (w'.heap[gb180]? = some (.cells #[(.slice A0_0 l0_0.length c0_0), (.slice A0_1 l0_1.length c0_1)] 32 (0, 0))) ∧ Aside0 (Below w.heap.size w w'))
 case atStart => exact ⟨(y181), (0), sq, H', ⟨Nat.le_refl _⟩, ⟨Kd.R_V (rq (Kd.R_mono (Kd.R_types HO183.out BK180.out (by decide)) (fun _ hk => ⟨hk.1.1, hk.2⟩)))⟩, ⟨bq BK180.out⟩, ⟨bel1 GE180.out⟩⟩
 case round =>
  clear H'; (try clear c2); (try clear p2); obtain ⟨x3_1, x4_1, rfl, HA, HK1, HO_3, BK180, HB⟩ := hrel
  cases gk with
  | zero => exact absurd HA.out (by simp [spec_l2Words.l0])
  | succ k1 =>
   have H := HA.out; clear HA
   simp only [spec_l2Words.l0] at H
   by_cases c5 : x4_1 < (l0_1.length : Int)
   ·rw [if_pos c5] at H; have c5b0 := decide_eq_true c5; clear c5
    replace H := it H; obtain ⟨c6b0, H⟩ := H; replace H := bs H; obtain ⟨t185, A70, H⟩ := H; replace H : (spec_l2Words.l1 k1 x3_1 x4_1 t185 0 l0_0 l0_1) = some r := H; have A7 := Aside0.mk A70; clear A70
    have H' := am H
    clear H; have hcz8_0 := bc BK180.out 0; have hcz8_1 := bc BK180.out 1; have hfz8_0 := bf BK180.out 0; have hfz8_1 := bf BK180.out 1
    try go_wp2
    replace HO_3 := am (Kd.V_drew HO_3.out); replace BK180 := am (blk_drew BK180.out); replace HB := am (below_drew1 HB.out)
    have p184 : 0 ≤ (x4_1 : Int) := of_decide_eq_true ad
    have q184 : x4_1 < (l0_1.length : Int) := of_decide_eq_true ad
    obtain ⟨ad184, e184, hx184_0, hx184_1⟩ := at_T78 HR0_1.out x4_1 p184 q184; have hw184_1 := hx184_1; have hw184_0 := hx184_0
    cases e184
    replace hx184_0 := kp HB.out hx184_0; replace hx184_1 := kp HB.out hx184_1; replace p184 := eq_true p184; replace q184 := eq_true q184
    refine st (n := 9) (S := fun w' => w'.cell? ⟨gb180, 0, none⟩ = some (.slice A0_0 l0_0.length c0_0) ∧ w'.cell? ⟨gb180, 1, none⟩ = some (.slice (some ad184) l0_1.length c0_1) ∧ w'.cell? (ad184.add ((x4_1).toNat * 2)) = some (.string ((rd_T78 l0_1 x4_1).f0)) ∧ w'.cell? ⟨(ad184.add ((x4_1).toNat * 2)).block, (ad184.add ((x4_1).toNat * 2)).off + 1, none⟩ = some (.string ((rd_T78 l0_1 x4_1).f1))) (ds := []) ⟨(blk_cell BK180.out 0).trans rfl, (blk_cell BK180.out 1).trans rfl, (kp HB.out hw184_0), (kp HB.out hw184_1)⟩ (fun hHeld => ?_); refine with_tabW spec_l2Words.tab5 spec_l2Words.bits5 (fun HT_ HW_ => ?_)
    generalize wr.drew = w9 at HO_3 BK180 HB hx184_0 hx184_1 hHeld ⊢
    refine pu 0 15 ?_
    refine pu 2 17 ?_
    refine pu 4 19 ?_
    refine tk4 1 16 hHeld ?_
    refine tk4 3 18 hHeld ?_
    refine pu 5 20 ?_
    refine tk4 6 21 hHeld ?_
    refine on1 7 22 (fun K hK => ?_)
    refine goes_ Tryz.func48 (by kernel_rfl) rfl #[.slice A0_0 l0_0.length c0_0, .agg #[.string ((rd_T78 l0_1 x4_1).f0), .string ((rd_T78 l0_1 x4_1).f1)]] (by rfl) rfl rfl mq ?_
    with_reducible refine (spec_l2Forms.calls k1 _ _ l0_0 ((rd_T78 l0_1 x4_1).f0) ((rd_T78 l0_1 x4_1).f1) t185 _ ?side1 ?side2 A7.out).mono ?_
    (case side1 => exact cq (Kd.C_below HR0_0.out HB.out)); (case side2 => exact HC0_0.out)
    rintro e w10 ⟨v186, rfl, ho0, hb⟩
    refine ⟨_, rfl, ?_⟩
    replace HO_3 := am (Kd.V_below (vq HO_3.out) hb); have HO187 := am (Kd.V_lower (Kd.V_mono (ok' := fun k_ => (w.heap.size ≤ k_) ∧ k_ ≠ gb180) ho0 (fun k_ hk_ => ⟨(Nat.le_trans (below_size (bel1 GE180.out)) hk_), (Kd.freshB (g := gb180) (o := .cells #[.slice A0_0 l0_0.length c0_0, .slice (some ad184) l0_1.length c0_1] 32 (0, 0)) (bq BK180.out) k_ hk_)⟩)) (below_size (bel1 GE180.out))); replace BK180 := am (blk_below (g := gb180) (o := .cells #[.slice A0_0 l0_0.length c0_0, .slice (some ad184) l0_1.length c0_1] 32 (0, 0)) (bq BK180.out) hb); replace HB := am (below_step (bel1 GE180.out) hb)
    (try clear hb)
    (try clear hb2)
    (try clear hk)
    (try clear hi)
    (try clear ho0)
    refine hK.out _ _ ⟨(blk_cell BK180.out 0).trans rfl, (blk_cell BK180.out 1).trans rfl, (kp HB.out hw184_0), (kp HB.out hw184_1)⟩ (fun hHeld => ?_)
    clear hK K
    refine norm_ (a' := ?_) ?_ ?_
    rotate_left
    ·show Act.put _ (some 22) _ = _
     simp only [Act.put, List.setIfInBounds_toArray, List.set_cons_zero, List.set_cons_succ, i64_w, i32_w]
     rfl
    refine pu 8 5 ?_
    refine done_ (done_of HT_.out (by kernel_rfl)) ?_
    try go_wp2
    go_loopg [3, 6] k1 (fun kq v3 v6 w' => ∃ (x3_2 : List ByteArray) (x6_2 : Int), v6 = .int .i64 x6_2 ∧ Aside0 (spec_l2Words.l1 kq x3_2 x4_1 t185 x6_2 l0_0 l0_1 = some r) ∧ Aside0 (kq ≤ k1) ∧ Aside0 (Kd.V Kd.string 9 w' w.heap.size (fun k_ => (w.heap.size ≤ k_) ∧ k_ ≠ gb180) v3 x3_2) ∧ Aside0 (Kd.V Kd.string 9 w' w.heap.size (fun k_ => (w.heap.size ≤ k_) ∧ k_ ≠ gb180) v186 t185) ∧ Aside0 (w'.heap[gb180]? = some (.cells #[(.slice A0_0 l0_0.length c0_0), (.slice (some ad184) l0_1.length c0_1)] 32 (0, 0))) ∧ Aside0 (Below w.heap.size w w'))
    case atStart => exact ⟨(x3_1), (0), sq, H', ⟨Nat.le_refl _⟩, ⟨vq HO_3.out⟩, ⟨vq HO187.out⟩, ⟨bq BK180.out⟩, ⟨bel1 GE180.out⟩⟩
    case round =>
     clear H'; (try clear p1); (try clear q1); (try clear hx1); (try clear c2); (try clear p2); (try clear c4); (try clear c5); (try clear c5b0); (try clear c6); (try clear c6b0); (try clear hcz8_0); (try clear hcz8_1); (try clear hfz8_0); (try clear hfz8_1); (try clear hx184_0); (try clear hx184_1); (try clear p184); (try clear p2); (try clear q184); obtain ⟨x3_2, x6_2, rfl, HA, HK2, HO_3, HO_5, BK180, HB⟩ := hrel
     cases gk with
     | zero => exact absurd HA.out (by simp [spec_l2Words.l1])
     | succ k2 =>
      have H := HA.out; clear HA
      simp only [spec_l2Words.l1] at H
      by_cases c11 : x6_2 < (t185.length : Int)
      ·rw [if_pos c11] at H; have c11b0 := decide_eq_true c11; clear c11
       replace H := it H; obtain ⟨c12b0, H⟩ := H; replace H := bs H; obtain ⟨t189, A130, H⟩ := H; replace H : (spec_l2Words.l1 k2 t189 x4_1 t185 (wrap64 (x6_2 + 1)) l0_0 l0_1) = some r := H; have A13 := Aside0.mk A130; clear A130
       have H' := am H
       clear H; obtain ⟨Ao14, co14, eo14⟩ := Kd.V_slice HO_5.out; subst eo14
       have p188 : 0 ≤ (x6_2 : Int) := of_decide_eq_true ad
       have q188 : x6_2 < (t185.length : Int) := of_decide_eq_true ad
       obtain ⟨ad188, e188, hx188_0⟩ := Kd.at_string (Kd.V_reads' HO_5.out).2.2 x6_2 p188 q188
       cases e188
       replace p188 := eq_true p188; replace q188 := eq_true q188; obtain ⟨Ao15, co15, eo15⟩ := Kd.V_slice HO_3.out; subst eo15
       go_wp2_with (first | ((with_reducible refine gate_callee (f := 49) rfl ?_); refine goesL_ (some 34) rfl rfl Tryz.func49 (by kernel_rfl) rfl #[.slice Ao15 x3_2.length co15, .string (rdOf ByteArray.empty t185 x6_2)] rfl mq ?_; (with_reducible refine (spec_l1Put.calls k2 (fun k_ => ((w.heap.size ≤ k_) ∧ k_ ≠ gb180)) _ _ x3_2 (rdOf ByteArray.empty t185 x6_2) t189 _ ?side1 A13.out).mono ?_); (case side1 => exact HO_3.out); rintro e w16 ⟨v190, rfl, ho0, hb⟩; refine ⟨_, rfl, ?_⟩; replace HO_3 := am (Kd.V_below (vq HO_3.out) hb); replace HO_5 := am (Kd.V_below (vq HO_5.out) hb); have HO191 := am (Kd.V_lower (Kd.V_mono (ok' := fun k_ => (w.heap.size ≤ k_) ∧ k_ ≠ gb180) ho0 (fun k_ hk_ => ⟨Or.elim hk_ (fun hs_ => hs_.1) (fun hn_ => (Nat.le_trans (below_size (bel1 GE180.out)) hn_)), Or.elim hk_ (fun hs_ => hs_.2) (fun hn_ => (Kd.freshB (g := gb180) (o := .cells #[.slice A0_0 l0_0.length c0_0, .slice (some ad184) l0_1.length c0_1] 32 (0, 0)) (bq BK180.out) k_ hn_))⟩)) (below_size (bel1 GE180.out))); replace BK180 := am (blk_below (g := gb180) (o := .cells #[.slice A0_0 l0_0.length c0_0, .slice (some ad184) l0_1.length c0_1] 32 (0, 0)) (bq BK180.out) hb); replace HB := am (below_step (bel1 GE180.out) hb); (try clear hb); (try clear hb2); (try clear hk); (try clear hi); (try clear ho0)))
       go_roundg k2
       case measure => have := HK1.out; have := HK2.out; omega
       case rel => exact ⟨(t189), (wrap64 (x6_2 + 1)), sq, H', ⟨b71_⟩, ⟨vq HO191.out⟩, ⟨vq HO_5.out⟩, ⟨bq BK180.out⟩, ⟨bel1 GE180.out⟩⟩
      rw [if_neg c11] at H; have c11b0 := decide_eq_false c11; clear c11
      have H' := am H
      clear H; obtain ⟨Ao17, co17, eo17⟩ := Kd.V_slice HO_5.out; subst eo17; go_wp2
      go_roundg k2
      case measure => have := HK1.out; have := HK2.out; omega
      case rel => exact ⟨(x3_2), (wrap64 (x4_1 + 1)), sq, H', ⟨b71_⟩, ⟨vq HO_3.out⟩, ⟨bq BK180.out⟩, ⟨bel1 GE180.out⟩⟩
   rw [if_neg c5] at H; have c5b0 := decide_eq_false c5; clear c5; obtain rfl := Option.some.inj H; have hcz18_0 := bc BK180.out 0; have hcz18_1 := bc BK180.out 1; have hfz18_0 := bf BK180.out 0; have hfz18_1 := bf BK180.out 1; go_wp2; go_ret
   exact ⟨_, eq_, by (with_reducible repeat (first | apply Kd.V_alloc | apply Kd.V_drewN | apply Kd.V_drew)); exact Kd.V_mono HO_3.out (fun _ hk => hk.1), bel1 GE180.out⟩

/-! ### spec_l4Letter: function 21 -/
def spec_l4Letter.f (a0 : Int) : Option (Bool) := if a0 ≥ 97 then (if a0 ≤ 122 then (some true) else (if a0 ≥ 65 then (some (decide (a0 ≤ 90))) else (some false))) else (if a0 ≥ 65 then (some (decide (a0 ≤ 90))) else (some false))
theorem spec_l4Letter.calls (a0 : Int) (r : Bool) (w : World) (h : spec_l4Letter.f a0 = some r) :
  Calls Tryz.prog 21 #[.int .u8 a0] w fun e w' => e = .returned (.bool r) ∧ Drawn0 w w' := by
 have H : (if a0 ≥ 97 then (if a0 ≤ 122 then (some true) else (if a0 ≥ 65 then (some (decide (a0 ≤ 90))) else (some false))) else (if a0 ≥ 65 then (some (decide (a0 ≤ 90))) else (some false))) = some r := h
 clear h
 by_cases c2 : a0 ≥ 97
 ·rw [if_pos c2] at H; have c2b0 := decide_eq_true c2; clear c2
  by_cases c3 : a0 ≤ 122
  ·rw [if_pos c3] at H; have c3b0 := decide_eq_true c3; clear c3; obtain rfl := Option.some.inj H; go_enter Tryz.func21, Tryz.ntmps21; go_wp2; go_ret
   exact ⟨sq, dr⟩
  rw [if_neg c3] at H; have c3b0 := decide_eq_false c3; clear c3
  by_cases c4 : a0 ≥ 65
  ·rw [if_pos c4] at H; have c4b0 := decide_eq_true c4; clear c4; obtain rfl := Option.some.inj H; go_enter Tryz.func21, Tryz.ntmps21; go_wp2; go_ret
   exact ⟨sq, dr⟩
  rw [if_neg c4] at H; have c4b0 := decide_eq_false c4; clear c4; obtain rfl := Option.some.inj H; go_enter Tryz.func21, Tryz.ntmps21; go_wp2; go_ret
  exact ⟨sq, dr⟩
 rw [if_neg c2] at H; have c2b0 := decide_eq_false c2; clear c2
 by_cases c5 : a0 ≥ 65
 ·rw [if_pos c5] at H; have c5b0 := decide_eq_true c5; clear c5; obtain rfl := Option.some.inj H; go_enter Tryz.func21, Tryz.ntmps21; go_wp2; go_ret
  exact ⟨sq, dr⟩
 rw [if_neg c5] at H; have c5b0 := decide_eq_false c5; clear c5; obtain rfl := Option.some.inj H; go_enter Tryz.func21, Tryz.ntmps21; go_wp2; go_ret
 exact ⟨sq, dr⟩

/-! ### spec_l4Small: function 22 -/
/-- A great letter told small. -/
def spec_l4Small.low (x : Int) : Int := if 65 ≤ x ∧ x ≤ 90 then x + 32 else x
def spec_l4Small.f (a0 : ByteArray) : Option ByteArray := if a0.size ≤ 1000000000 then some (strOfNums ((bytesOf a0).map spec_l4Small.low)) else none
def spec_l4Small.at_ (xs : List Int) (i j : Nat) : Int := if j < i then spec_l4Small.low (xs.getD j 0) else xs.getD j 0
def spec_l4Small.St (w W : World) (g n : Nat) (xs : List Int) (i : Nat) : Prop :=
 (∀ j, j < n → W.cell? ⟨g, j, none⟩ = some (.int .u8 (spec_l4Small.at_ xs i j)) ∧ W.frozen? ⟨g, j, none⟩ = false) ∧ w.heap.size ≤ g ∧ Below w.heap.size w W
theorem spec_l4Small.start (w : World) (s : ByteArray) : spec_l4Small.St w (Go.Lib.bytesWorld w 5 s) w.heap.size s.size (bytesOf s) 0 := by
 refine ⟨fun j hj => ⟨?_, ?_⟩, Nat.le_refl _, ?_⟩
 ·rw [Go.Lib.bytesWorld_cell w 5 s j hj]
  have hl : s.data.toList.length = s.size := data_length s
  simp only [spec_l4Small.at_, Nat.not_lt_zero, if_false, bytesOf, List.getD_eq_getElem?_getD, List.getElem?_map, List.getElem?_eq_getElem (show j < s.data.toList.length by omega), Option.map_some, Option.getD_some]
 ·have h1 := Go.Lib.bytesWorld_at_new w 5 s
  have h2 : s.size ≤ (Go.Lib.bytesCells w 5 s).size := by simp [Go.Lib.bytesCells]
  simp only [World.frozen?, h1]
  simp
  omega
 ·exact ⟨rfl, rfl, rfl, by rw [Go.Lib.bytesWorld_size]; omega, fun k hk => Go.Lib.bytesWorld_at_old w 5 s k hk⟩
theorem spec_l4Small.keep {w W : World} {g n : Nat} {xs : List Int} {i : Nat} (h : spec_l4Small.St w W g n xs i) (hx : spec_l4Small.low (xs.getD i 0) = xs.getD i 0) : spec_l4Small.St w W g n xs (i + 1) := by
 refine ⟨fun j hj => ⟨?_, (h.1 j hj).2⟩, h.2⟩
 rw [(h.1 j hj).1]
 unfold spec_l4Small.at_
 by_cases c : j = i
 ·subst c
  rw [if_neg (Nat.lt_irrefl _), if_pos (Nat.lt_succ_self _), hx]
 ·by_cases c2 : j < i
  ·rw [if_pos c2, if_pos (by omega)]
  rw [if_neg c2, if_neg (by omega)]
theorem spec_l4Small.put {w W : World} {g n : Nat} {xs : List Int} {i : Nat} (h : spec_l4Small.St w W g n xs i) (hi : i < n) : spec_l4Small.St w (W.setCell ⟨g, i, none⟩ (.int .u8 (spec_l4Small.low (xs.getD i 0)))) g n xs (i + 1) := by
 have hc := (h.1 i hi).1
 refine ⟨fun j hj => ?_, h.2.1, below_set h.2.2 h.2.1⟩
 by_cases c : j = i
 ·subst c
  refine ⟨?_, ?_⟩
  ·rw [World.cell?_setCell_same _ _ _ hc]
   unfold spec_l4Small.at_
   rw [if_pos (Nat.lt_succ_self _)]
  ·rw [World.frozen?_setCell]
   exact (h.1 j hj).2
 ·refine ⟨?_, ?_⟩
  ·rw [World.cell?_setCell_other _ _ _ _ (by intro e; injection e with _ e _; exact c e.symm), (h.1 j hj).1]
   unfold spec_l4Small.at_
   by_cases c2 : j < i
   ·rw [if_pos c2, if_pos (by omega)]
   rw [if_neg c2, if_neg (by omega)]
  ·rw [World.frozen?_setCell]
   exact (h.1 j hj).2
theorem spec_l4Small.calls (a0 : ByteArray) (r : ByteArray) (w : World) (h : spec_l4Small.f a0 = some r) :
  Calls Tryz.prog 22 #[.string a0] w fun e w' => e = .returned (.string r) ∧ Below w.heap.size w w' := by
 unfold spec_l4Small.f at h
 split at h
 case isFalse => cases h
 rename_i hz; obtain rfl := Option.some.inj h; clear h; have HZ := am hz; clear hz; have hc := Go.Lib.run_convert_string_bytes (P := Tryz.prog) w 9 39 5 a0 Tryz.underlying9 Tryz.underlying39 Tryz.underlying5; go_enter Tryz.func22, Tryz.ntmps22; go_wp2; clear hc; have HS := am (spec_l4Small.start w a0)
 generalize Go.Lib.bytesWorld w 5 a0 = w1 at HS ⊢
 generalize grownCap w a0.size 0 5 = cap
 generalize hg : w.heap.size = g at HS ⊢
 have hl : (bytesOf a0).length = a0.size := bytesOf_length a0
 have HL := am hl; clear hl
 go_loopg [4] a0.size (fun kq v4 W => ∃ (i : Nat), v4 = .int .i64 (i : Int) ∧ Aside0 (i + kq = a0.size) ∧ Aside0 (spec_l4Small.St w W g a0.size (bytesOf a0) i))
 case atStart => exact ⟨0, rfl, ⟨by omega⟩, HS⟩
 case round =>
  clear HS; obtain ⟨i, rfl, HI, HS⟩ := hrel; have hsz := HZ.out
  cases gk with
  | zero =>
   have hi := HI.out
   have c3b0 : decide ((i : Int) < (a0.size : Int)) = false := decide_eq_false (by omega)
   have hv := run_convert_bytes_arg (P := Tryz.prog) wr 39 5 Tryz.underlying39 Tryz.underlying5 g 0 a0.size cap ((bytesOf a0).map spec_l4Small.low) (by rw [List.length_map]; exact HL.out) (fun j hj => by
    have e1 := (HS.out.1 j hj).1
    rw [Nat.zero_add, e1]
    have hlt : j < (bytesOf a0).length := by rw [HL.out]; exact hj
    have : j < i := by omega
    simp [spec_l4Small.at_, this, List.getD_eq_getElem?_getD, hlt]) 9 Tryz.underlying9
   have c3b1 : decide (i < a0.size) = false := decide_eq_false (by omega)
   have c3b2 : (i < a0.size) = False := eq_false (by omega)
   clear hi hsz; go_wp2; go_ret
   exact ⟨rfl, HS.out.2.2⟩
  | succ k1 =>
   have hi := HI.out
   have hil : i < a0.size := by omega
   have c3b0 : decide ((i : Int) < (a0.size : Int)) = true := decide_eq_true (by omega)
   have c3b1 : decide (i < a0.size) = true := decide_eq_true hil
   have p5 := eq_true (show 0 ≤ ((i : Nat) : Int) by omega)
   have q5 := eq_true (show ((i : Nat) : Int) < (a0.size : Int) by omega)
   obtain ⟨hx0, hf0⟩ := HS.out.1 i hil
   have ea : spec_l4Small.at_ (bytesOf a0) i i = (bytesOf a0).getD i 0 := by unfold spec_l4Small.at_; rw [if_neg (Nat.lt_irrefl _)]
   rw [ea] at hx0
   have e3 : wrap64 ((i : Int) + 1) = ((i + 1 : Nat) : Int) := by unfold wrap64; omega
   have HIL := am hil
   generalize hx : (bytesOf a0).getD i 0 = x at hx0
   have HX := am hx; clear ea hil hi hsz hx
   by_cases c1 : 65 ≤ x
   ·have c1b : decide (x ≥ 65) = true := decide_eq_true c1
    by_cases c2 : x ≤ 90
    ·have c2b : decide (x ≤ 90) = true := decide_eq_true c2
     have hu : IntKind.u8.wrap (x + 32) = x + 32 := by show (x + 32) % 256 = _; omega
     have hlow : spec_l4Small.low ((bytesOf a0).getD i 0) = x + 32 := by rw [HX.out]; unfold spec_l4Small.low; rw [if_pos ⟨c1, c2⟩]
     have HN := am (spec_l4Small.put HS.out HIL.out); rw [hlow] at HN; clear hlow c1 c2; go_wp2
     go_roundg k1
     case measure => omega
     case rel => exact ⟨i + 1, by rw [e3], ⟨by have := HI.out; omega⟩, HN⟩
    have c2b : decide (x ≤ 90) = false := decide_eq_false c2
    have HN := am (spec_l4Small.keep HS.out (by rw [HX.out]; unfold spec_l4Small.low; rw [if_neg (fun h => c2 h.2)]))
    clear c1 c2; go_wp2
    go_roundg k1
    case measure => omega
    case rel => exact ⟨i + 1, by rw [e3], ⟨by have := HI.out; omega⟩, HN⟩
   have c1b : decide (x ≥ 65) = false := decide_eq_false c1
   have HN := am (spec_l4Small.keep HS.out (by rw [HX.out]; unfold spec_l4Small.low; rw [if_neg (fun h => c1 h.1)]))
   clear c1; go_wp2
   go_roundg k1
   case measure => omega
   case rel => exact ⟨i + 1, by rw [e3], ⟨by have := HI.out; omega⟩, HN⟩

/-! ### spec_l2In: function 23 -/
def spec_l2In.l0 : Nat → List ByteArray → ByteArray → Int → Option (Bool)
 | 0, _, _, _ => none
 | k + 1, x0, x1, x5 => if x5 < (x0.length : Int) then (if 0 ≤ x5 then (if (rdOf ByteArray.empty x0 x5).toList = x1.toList then (some true) else (spec_l2In.l0 k x0 x1 (wrap64 (x5 + 1)))) else (none)) else (some false)
def spec_l2In.f (k : Nat) (l0 : List ByteArray) (a1 : ByteArray) : Option (Bool) := spec_l2In.l0 k l0 a1 0
theorem spec_l2In.calls (k : Nat) (A0 : Option Addr) (c0 : Nat) (l0 : List ByteArray) (a1 : ByteArray) (r : Bool) (w : World) (hr0 : Kd.C Kd.string w A0 l0.length l0) (hc0 : l0.length ≤ c0) (h : spec_l2In.f k l0 a1 = some r) :
  Calls Tryz.prog 23 #[.slice A0 l0.length c0, .string a1] w fun e w' => e = .returned (.bool r) ∧ Drawn0 w w' := by
 have HR0 := am hr0; have HC0 := am hc0; clear hr0 hc0
 have H : (spec_l2In.l0 k l0 a1 0) = some r := h
 clear h
 have H' := am H
 clear H; go_enter Tryz.func23, Tryz.ntmps23; go_wp2
 go_loopg [5] k (fun kq v5 w' => ∃ (x5_1 : Int), v5 = .int .i64 x5_1 ∧ Aside0 (spec_l2In.l0 kq l0 a1 x5_1 = some r) ∧ Aside0 (kq ≤ k) ∧ Drawn0 w w')
 case atStart => exact ⟨(0), sq, H', ⟨Nat.le_refl _⟩, dr⟩
 case round =>
  clear H'; (try clear c2); (try clear p2); obtain ⟨x5_1, rfl, HA, HK1, ⟨m1, rfl⟩⟩ := hrel
  cases gk with
  | zero => exact absurd HA.out (by simp [spec_l2In.l0])
  | succ k1 =>
   have H := HA.out; clear HA
   simp only [spec_l2In.l0] at H
   by_cases c3 : x5_1 < (l0.length : Int)
   ·rw [if_pos c3] at H; have c3b0 := decide_eq_true c3; clear c3
    replace H := it H; obtain ⟨c4b0, H⟩ := H
    by_cases c5 : (rdOf ByteArray.empty l0 x5_1).toList = a1.toList
    ·rw [if_pos c5] at H
     have c5b0 : ((rdOf ByteArray.empty l0 x5_1).toList == a1.toList) = true := beq_iff_eq.mpr c5
     have c5b1 : ((rdOf ByteArray.empty l0 x5_1).toList != a1.toList) = false := bne_eq_false_iff_eq.mpr c5
     clear c5; obtain rfl := Option.some.inj H
     have p192 : 0 ≤ (x5_1 : Int) := of_decide_eq_true ad
     have q192 : x5_1 < (l0.length : Int) := of_decide_eq_true ad
     obtain ⟨ad192, e192, hx192_0⟩ := Kd.at_string HR0.out x5_1 p192 q192
     cases e192
     replace p192 := eq_true p192; replace q192 := eq_true q192; go_wp2; go_ret
     exact ⟨sq, dr⟩
    rw [if_neg c5] at H
    have c5b0 : ((rdOf ByteArray.empty l0 x5_1).toList == a1.toList) = false := beq_eq_false_iff_ne.mpr c5
    have c5b1 : ((rdOf ByteArray.empty l0 x5_1).toList != a1.toList) = true := bne_iff_ne.mpr c5
    have H' := am H
    clear H
    have p192 : 0 ≤ (x5_1 : Int) := of_decide_eq_true ad
    have q192 : x5_1 < (l0.length : Int) := of_decide_eq_true ad
    obtain ⟨ad192, e192, hx192_0⟩ := Kd.at_string HR0.out x5_1 p192 q192
    cases e192
    replace p192 := eq_true p192; replace q192 := eq_true q192; go_wp2
    go_roundg k1
    case measure => have := HK1.out; omega
    case rel => exact ⟨(wrap64 (x5_1 + 1)), sq, H', ⟨b63_⟩, dr⟩
   rw [if_neg c3] at H; have c3b0 := decide_eq_false c3; clear c3; obtain rfl := Option.some.inj H; go_wp2; go_ret
   exact ⟨sq, dr⟩
end Go.Proofs.YtfpmfaelodfecaaGreatDoor.QFnCheck
