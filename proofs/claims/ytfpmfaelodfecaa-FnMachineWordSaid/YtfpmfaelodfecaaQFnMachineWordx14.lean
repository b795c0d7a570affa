import Derived.Test.YtfpmfaelodfecaaQFnMachineWordx0
import Derived.Test.YtfpmfaelodfecaaVMSh2
namespace Go.Proofs.Ytfpmfaelodfecaa.QFnMachineWord
open Go.RowKit Go.Proofs.YtfpmfaelodfecaaW.PrintWords Go.Proofs.YtfpmfaelodfecaaW.PrintLast Go.Proofs.YtfpmfaelodfecaaW.PrintMore Go.Proofs.Ytfpmfaelodfecaa.Sh
attribute [local go_sem] max2_int min2_int max_two min_two max_three min_three max_four min_four   -- for this text's walks alone
set_option linter.unusedVariables false
set_option linter.unusedSimpArgs false
-- shrunk

/-! ### spec_l3Long: function 204 -/
def spec_l3Long.l0 : Nat → List ByteArray → Int → Int → Option (Int)
 | 0, _, _, _ => none
 | k + 1, x0, x3, x4 => if x4 < (x0.length : Int) then (if 0 ≤ x4 then (if ((rdOf ByteArray.empty x0 x4).size : Int) > x3 then (spec_l3Long.l0 k x0 ((rdOf ByteArray.empty x0 x4).size : Int) (wrap64 (x4 + 1))) else (spec_l3Long.l0 k x0 x3 (wrap64 (x4 + 1)))) else (none)) else (some x3)
def spec_l3Long.f (k : Nat) (l0 : List ByteArray) : Option (Int) := spec_l3Long.l0 k l0 0 0
set_option maxHeartbeats 8000000 in
set_option maxRecDepth 100000 in
theorem spec_l3Long.calls (k : Nat) (A0 : Option Addr) (c0 : Nat) (l0 : List ByteArray) (r : Int) (w : World) (hr0 : Kd.C Kd.string w A0 l0.length l0) (hc0 : l0.length ≤ c0) (h : spec_l3Long.f k l0 = some r) :
  Calls Try.prog 204 #[.slice A0 l0.length c0] w fun e w' => e = .returned (.int .i64 r) ∧ Drawn0 w w' := by
 have HR0 := am hr0; have HC0 := am hc0; clear hr0 hc0
 have H : (spec_l3Long.l0 k l0 0 0) = some r := h
 clear h
 have H' := am H
 clear H; go_enter Try.func204, Try.ntmps204; go_wp2
 go_loopg [3, 4] k (fun kq v3 v4 w' => ∃ (x3_1 : Int) (x4_1 : Int), v3 = .int .i64 x3_1 ∧ v4 = .int .i64 x4_1 ∧ Aside0 (spec_l3Long.l0 kq l0 x3_1 x4_1 = some r) ∧ Aside0 (kq ≤ k) ∧ Drawn0 w w')
 case atStart => exact ⟨(0), (0), sq, sq, H', ⟨Nat.le_refl _⟩, dr⟩
 case round =>
  clear H'; obtain ⟨x3_1, x4_1, rfl, rfl, HA, HK1, ⟨m1, rfl⟩⟩ := hrel
  cases gk with
  | zero => exact absurd HA.out (by simp [spec_l3Long.l0])
  | succ k1 =>
   have H := HA.out; clear HA
   simp only [spec_l3Long.l0] at H
   by_cases c2 : x4_1 < (l0.length : Int)
   ·rw [if_pos c2] at H; have c2b0 := decide_eq_true c2; clear c2
    by_cases c3 : 0 ≤ x4_1
    ·rw [if_pos c3] at H; have c3b0 := decide_eq_true c3; clear c3
     by_cases c4 : ((rdOf ByteArray.empty l0 x4_1).size : Int) > x3_1
     ·rw [if_pos c4] at H; have c4b0 := decide_eq_true c4; clear c4
      have H' := am H
      clear H
      have p360 : 0 ≤ (x4_1 : Int) := of_decide_eq_true ad
      have q360 : x4_1 < (l0.length : Int) := of_decide_eq_true ad
      obtain ⟨ad360, e360, hx360_0⟩ := Kd.at_string HR0.out x4_1 p360 q360
      cases e360
      replace p360 := eq_true p360; replace q360 := eq_true q360
      have p361 : 0 ≤ (x4_1 : Int) := of_decide_eq_true ad
      have q361 : x4_1 < (l0.length : Int) := of_decide_eq_true ad
      obtain ⟨ad361, e361, hx361_0⟩ := Kd.at_string HR0.out x4_1 p361 q361
      obtain rfl : ad360 = ad361 := (by injection e361)
      replace p361 := eq_true p361; replace q361 := eq_true q361; go_wp2
      go_roundg k1
      case measure => have := HK1.out; omega
      case rel => exact ⟨(((rdOf ByteArray.empty l0 x4_1).size : Int)), (wrap64 (x4_1 + 1)), sq, sq, H', ⟨b61_⟩, dr⟩
     ·rw [if_neg c4] at H; have c4b0 := decide_eq_false c4; clear c4
      have H' := am H
      clear H
      have p360 : 0 ≤ (x4_1 : Int) := of_decide_eq_true ad
      have q360 : x4_1 < (l0.length : Int) := of_decide_eq_true ad
      obtain ⟨ad360, e360, hx360_0⟩ := Kd.at_string HR0.out x4_1 p360 q360
      cases e360
      replace p360 := eq_true p360; replace q360 := eq_true q360; go_wp2
      go_roundg k1
      case measure => have := HK1.out; omega
      case rel => exact ⟨(x3_1), (wrap64 (x4_1 + 1)), sq, sq, H', ⟨b61_⟩, dr⟩
    ·rw [if_neg c3] at H
     exact absurd H (by simp)
   ·rw [if_neg c2] at H; have c2b0 := decide_eq_false c2; clear c2; obtain rfl := Option.some.inj H; go_wp2; go_ret
    exact ⟨sq, dr⟩

/-! ### spec_l3Less: function 202 -/
mutual
def spec_l3Less.l0 : Nat → List ByteArray → List ByteArray → Int → Option (Bool)
 | 0, _, _, _ => none
 | k + 1, x0, x1, x5 => if x5 < (x0.length : Int) then (spec_l3Less.j1 k x0 x1 x5 (decide (x5 < (x1.length : Int)))) else (spec_l3Less.j1 k x0 x1 x5 false)
def spec_l3Less.j1 : Nat → List ByteArray → List ByteArray → Int → Bool → Option (Bool)
 | 0, _, _, _, _ => none
 | k + 1, x0, x1, x5, x25 => if x25 = true then (if 0 ≤ x5 then (if x5 < (x0.length : Int) then (if x5 < (x1.length : Int) then (if (rdOf ByteArray.empty x0 x5).toList = (rdOf ByteArray.empty x1 x5).toList then (spec_l3Less.l0 k x0 x1 (wrap64 (x5 + 1))) else (some (Op.bytesLess ((rdOf ByteArray.empty x0 x5).toList) ((rdOf ByteArray.empty x1 x5).toList)))) else (none)) else (none)) else (none)) else (some (decide ((x0.length : Int) < (x1.length : Int))))
end
def spec_l3Less.f (k : Nat) (l0 : List ByteArray) (l1 : List ByteArray) : Option (Bool) := (spec_l3Long.f k l0).bind fun t362 => ((spec_l3Long.f k l1).bind fun t363 => (if t362 = t363 then (spec_l3Less.l0 k l0 l1 0) else ((spec_l3Long.f k l0).bind fun t364 => ((spec_l3Long.f k l1).bind fun t365 => (some (decide (t364 > t365)))))))
set_option maxHeartbeats 8000000 in
set_option maxRecDepth 100000 in
theorem spec_l3Less.calls (k : Nat) (A0 : Option Addr) (c0 : Nat) (l0 : List ByteArray) (A1 : Option Addr) (c1 : Nat) (l1 : List ByteArray) (r : Bool) (w : World) (hr0 : Kd.C Kd.string w A0 l0.length l0) (hc0 : l0.length ≤ c0) (hr1 : Kd.C Kd.string w A1 l1.length l1) (hc1 : l1.length ≤ c1) (h : spec_l3Less.f k l0 l1 = some r) :
  Calls Try.prog 202 #[.slice A0 l0.length c0, .slice A1 l1.length c1] w fun e w' => e = .returned (.bool r) ∧ Drawn0 w w' := by
 have HR0 := am hr0; have HC0 := am hc0; clear hr0 hc0; have HR1 := am hr1; have HC1 := am hc1; clear hr1 hc1
 have H : ((spec_l3Long.f k l0).bind fun t362 => ((spec_l3Long.f k l1).bind fun t363 => (if t362 = t363 then (spec_l3Less.l0 k l0 l1 0) else ((spec_l3Long.f k l0).bind fun t364 => ((spec_l3Long.f k l1).bind fun t365 => (some (decide (t364 > t365)))))))) = some r := h
 clear h; replace H := Option.bind_eq_some_iff.mp H; obtain ⟨t362, A30, H⟩ := H; replace H : ((spec_l3Long.f k l1).bind fun t363 => (if t362 = t363 then (spec_l3Less.l0 k l0 l1 0) else ((spec_l3Long.f k l0).bind fun t364 => ((spec_l3Long.f k l1).bind fun t365 => (some (decide (t364 > t365))))))) = some r := H; have A3 := Aside0.mk A30; clear A30; replace H := Option.bind_eq_some_iff.mp H; obtain ⟨t363, A40, H⟩ := H; replace H : (if t362 = t363 then (spec_l3Less.l0 k l0 l1 0) else ((spec_l3Long.f k l0).bind fun t364 => ((spec_l3Long.f k l1).bind fun t365 => (some (decide (t364 > t365)))))) = some r := H; have A4 := Aside0.mk A40; clear A40
 by_cases c5 : t362 = t363
 ·rw [if_pos c5] at H
  have c5b0 : (t362 == t363) = true := beq_iff_eq.mpr c5
  have c5b1 : (t362 != t363) = false := bne_eq_false_iff_eq.mpr c5
  clear c5
  have H' := am H
  clear H; go_enter Try.func202, Try.ntmps202
  go_wp2_with (first | (go_at_call 204; (with_reducible refine (spec_l3Long.calls k _ _ l0 t362 _ ?side1 ?side2 A3.out).mono ?_); (case side1 => repeat (first | exact HR0.out | (with_reducible refine Kd.C_alloc ?_ _) | (with_reducible refine Kd.C_drewN ?_ _) | (with_reducible refine Kd.C_drew ?_))); (case side2 => exact HC0.out); rintro e w' ⟨rfl, ⟨nd, rfl⟩⟩; (try first | exact ⟨rfl, _, World.drewN_drewN _ _ _⟩ | exact ⟨rfl, _, Eq.trans (World.drewN_drewN _ _ _) (congrArg (World.drewN _) (Nat.add_assoc _ _ _))⟩)) | (go_at_call 204; (with_reducible refine (spec_l3Long.calls k _ _ l1 t363 _ ?side1 ?side2 A4.out).mono ?_); (case side1 => repeat (first | exact HR1.out | (with_reducible refine Kd.C_alloc ?_ _) | (with_reducible refine Kd.C_drewN ?_ _) | (with_reducible refine Kd.C_drew ?_))); (case side2 => exact HC1.out); rintro e w' ⟨rfl, ⟨nd, rfl⟩⟩; (try first | exact ⟨rfl, _, World.drewN_drewN _ _ _⟩ | exact ⟨rfl, _, Eq.trans (World.drewN_drewN _ _ _) (congrArg (World.drewN _) (Nat.add_assoc _ _ _))⟩)))
  repeat (go_quiet (first | (go_at_call 204; (with_reducible refine (spec_l3Long.calls k _ _ l0 t362 _ ?side1 ?side2 A3.out).mono ?_); (case side1 => repeat (first | exact HR0.out | (with_reducible refine Kd.C_alloc ?_ _) | (with_reducible refine Kd.C_drewN ?_ _) | (with_reducible refine Kd.C_drew ?_))); (case side2 => exact HC0.out); rintro e w' ⟨rfl, ⟨nd, rfl⟩⟩; (try first | exact ⟨rfl, _, World.drewN_drewN _ _ _⟩ | exact ⟨rfl, _, Eq.trans (World.drewN_drewN _ _ _) (congrArg (World.drewN _) (Nat.add_assoc _ _ _))⟩)) | (go_at_call 204; (with_reducible refine (spec_l3Long.calls k _ _ l1 t363 _ ?side1 ?side2 A4.out).mono ?_); (case side1 => repeat (first | exact HR1.out | (with_reducible refine Kd.C_alloc ?_ _) | (with_reducible refine Kd.C_drewN ?_ _) | (with_reducible refine Kd.C_drew ?_))); (case side2 => exact HC1.out); rintro e w' ⟨rfl, ⟨nd, rfl⟩⟩; (try first | exact ⟨rfl, _, World.drewN_drewN _ _ _⟩ | exact ⟨rfl, _, Eq.trans (World.drewN_drewN _ _ _) (congrArg (World.drewN _) (Nat.add_assoc _ _ _))⟩))); try go_wp2_with (first | (go_at_call 204; (with_reducible refine (spec_l3Long.calls k _ _ l0 t362 _ ?side1 ?side2 A3.out).mono ?_); (case side1 => repeat (first | exact HR0.out | (with_reducible refine Kd.C_alloc ?_ _) | (with_reducible refine Kd.C_drewN ?_ _) | (with_reducible refine Kd.C_drew ?_))); (case side2 => exact HC0.out); rintro e w' ⟨rfl, ⟨nd, rfl⟩⟩; (try first | exact ⟨rfl, _, World.drewN_drewN _ _ _⟩ | exact ⟨rfl, _, Eq.trans (World.drewN_drewN _ _ _) (congrArg (World.drewN _) (Nat.add_assoc _ _ _))⟩)) | (go_at_call 204; (with_reducible refine (spec_l3Long.calls k _ _ l1 t363 _ ?side1 ?side2 A4.out).mono ?_); (case side1 => repeat (first | exact HR1.out | (with_reducible refine Kd.C_alloc ?_ _) | (with_reducible refine Kd.C_drewN ?_ _) | (with_reducible refine Kd.C_drew ?_))); (case side2 => exact HC1.out); rintro e w' ⟨rfl, ⟨nd, rfl⟩⟩; (try first | exact ⟨rfl, _, World.drewN_drewN _ _ _⟩ | exact ⟨rfl, _, Eq.trans (World.drewN_drewN _ _ _) (congrArg (World.drewN _) (Nat.add_assoc _ _ _))⟩))))
  go_loopg [5] k (fun kq v5 w' => ∃ (x5_1 : Int), v5 = .int .i64 x5_1 ∧ Aside0 (spec_l3Less.l0 kq l0 l1 x5_1 = some r) ∧ Aside0 (kq ≤ k) ∧ Drawn0 w w')
  case atStart => exact ⟨(0), sq, H', ⟨Nat.le_refl _⟩, dr⟩
  case round =>
   clear H'; (try clear c1); (try clear c2); (try clear p2); (try clear c5); (try clear c5b0); (try clear c5b1); obtain ⟨x5_1, rfl, HA, HK1, ⟨m1, rfl⟩⟩ := hrel
   cases gk with
   | zero => exact absurd HA.out (by simp [spec_l3Less.l0])
   | succ k1 =>
    have H := HA.out; clear HA
    simp only [spec_l3Less.l0] at H
    have HC6 := am H; clear H
    go_upto_region 4 with (fail)
    repeat (go_quiet (fail); go_upto_region 4 with (fail))
    go_cut [25] (fun v25 wc => ∃ (kq : Nat) (x25_5 : Bool), v25 = .bool x25_5 ∧ Aside0 (spec_l3Less.j1 kq l0 l1 x5_1 x25_5 = some r) ∧ Aside0 (kq ≤ k1) ∧ Drawn0 w wc)
    case first =>
     have H := HC6.out; clear HC6
     by_cases c7 : x5_1 < (l0.length : Int)
     ·rw [if_pos c7] at H; have c7b0 := decide_eq_true c7; clear c7
      (first | rw [c7b0] | (simp only [i64_w, i32_w]; rw [c7b0]) | skip)
      have H' := am H
      clear H; go_wp2
      repeat (go_quiet (fail); try go_wp2)
      go_meet
      case rel => exact ⟨_, (decide (x5_1 < (l1.length : Int))), sq, H', ⟨b24_⟩, dr⟩
     ·rw [if_neg c7] at H; have c7b0 := decide_eq_false c7; clear c7
      (first | rw [c7b0] | (simp only [i64_w, i32_w]; rw [c7b0]) | skip)
      have H' := am H
      clear H; go_wp2
      repeat (go_quiet (fail); try go_wp2)
      go_meet
      case rel => exact ⟨_, (false), sq, H', ⟨b24_⟩, dr⟩
    case rest =>
     clear HC6; (try clear c1); (try clear c2); (try clear p2); (try clear c5); (try clear c5b0); (try clear c5b1); (try clear c7); (try clear c7b0); (try clear p2); obtain ⟨kq, x25_5, rfl, HA, HJ5, ⟨mc5, rfl⟩⟩ := hcut
     cases kq with
     | zero => exact absurd HA.out (by simp [spec_l3Less.j1])
     | succ kj5 =>
      have H := HA.out; clear HA
      simp only [spec_l3Less.j1] at H
      by_cases c8 : x25_5 = true
      ·subst c8
       have H1 : (if 0 ≤ x5_1 then (if x5_1 < (l0.length : Int) then (if x5_1 < (l1.length : Int) then (if (rdOf ByteArray.empty l0 x5_1).toList = (rdOf ByteArray.empty l1 x5_1).toList then (spec_l3Less.l0 kj5 l0 l1 (wrap64 (x5_1 + 1))) else (some (Op.bytesLess ((rdOf ByteArray.empty l0 x5_1).toList) ((rdOf ByteArray.empty l1 x5_1).toList)))) else (none)) else (none)) else (none)) = some r := b20_
       replace H := H1; clear H1
       by_cases c9 : 0 ≤ x5_1
       ·rw [if_pos c9] at H; have c9b0 := decide_eq_true c9; clear c9
        by_cases c10 : x5_1 < (l0.length : Int)
        ·rw [if_pos c10] at H; have c10b0 := decide_eq_true c10; clear c10
         by_cases c11 : x5_1 < (l1.length : Int)
         ·rw [if_pos c11] at H; have c11b0 := decide_eq_true c11; clear c11
          by_cases c12 : (rdOf ByteArray.empty l0 x5_1).toList = (rdOf ByteArray.empty l1 x5_1).toList
          ·rw [if_pos c12] at H
           have c12b0 : ((rdOf ByteArray.empty l0 x5_1).toList == (rdOf ByteArray.empty l1 x5_1).toList) = true := beq_iff_eq.mpr c12
           have c12b1 : ((rdOf ByteArray.empty l0 x5_1).toList != (rdOf ByteArray.empty l1 x5_1).toList) = false := bne_eq_false_iff_eq.mpr c12
           clear c12
           have H' := am H
           clear H
           have p366 : 0 ≤ (x5_1 : Int) := of_decide_eq_true ad
           have q366 : x5_1 < (l0.length : Int) := of_decide_eq_true ad
           obtain ⟨ad366, e366, hx366_0⟩ := Kd.at_string HR0.out x5_1 p366 q366
           cases e366
           replace p366 := eq_true p366; replace q366 := eq_true q366
           have p367 : 0 ≤ (x5_1 : Int) := of_decide_eq_true ad
           have q367 : x5_1 < (l1.length : Int) := of_decide_eq_true ad
           obtain ⟨ad367, e367, hx367_0⟩ := Kd.at_string HR1.out x5_1 p367 q367
           cases e367
           replace p367 := eq_true p367; replace q367 := eq_true q367; go_wp2
           repeat (go_quiet (fail); try go_wp2)
           go_roundg kj5
           case measure => have := HK1.out; have := HJ5.out; omega
           case rel => exact ⟨(wrap64 (x5_1 + 1)), sq, H', ⟨by have := HK1.out; have := HJ5.out; omega⟩, dr⟩
          ·rw [if_neg c12] at H
           have c12b0 : ((rdOf ByteArray.empty l0 x5_1).toList == (rdOf ByteArray.empty l1 x5_1).toList) = false := beq_eq_false_iff_ne.mpr c12
           have c12b1 : ((rdOf ByteArray.empty l0 x5_1).toList != (rdOf ByteArray.empty l1 x5_1).toList) = true := bne_iff_ne.mpr c12
           obtain rfl := Option.some.inj H
           have p366 : 0 ≤ (x5_1 : Int) := of_decide_eq_true ad
           have q366 : x5_1 < (l0.length : Int) := of_decide_eq_true ad
           obtain ⟨ad366, e366, hx366_0⟩ := Kd.at_string HR0.out x5_1 p366 q366
           cases e366
           replace p366 := eq_true p366; replace q366 := eq_true q366
           have p367 : 0 ≤ (x5_1 : Int) := of_decide_eq_true ad
           have q367 : x5_1 < (l1.length : Int) := of_decide_eq_true ad
           obtain ⟨ad367, e367, hx367_0⟩ := Kd.at_string HR1.out x5_1 p367 q367
           cases e367
           replace p367 := eq_true p367; replace q367 := eq_true q367
           have p368 : 0 ≤ (x5_1 : Int) := of_decide_eq_true ad
           have q368 : x5_1 < (l0.length : Int) := of_decide_eq_true ad
           obtain ⟨ad368, e368, hx368_0⟩ := Kd.at_string HR0.out x5_1 p368 q368
           obtain rfl : ad366 = ad368 := (by injection e368)
           replace p368 := eq_true p368; replace q368 := eq_true q368
           have p369 : 0 ≤ (x5_1 : Int) := of_decide_eq_true ad
           have q369 : x5_1 < (l1.length : Int) := of_decide_eq_true ad
           obtain ⟨ad369, e369, hx369_0⟩ := Kd.at_string HR1.out x5_1 p369 q369
           obtain rfl : ad367 = ad369 := (by injection e369)
           replace p369 := eq_true p369; replace q369 := eq_true q369; go_wp2
           repeat (go_quiet (fail); try go_wp2)
           go_ret
           exact ⟨sq, dr⟩
         ·rw [if_neg c11] at H
          exact absurd H (by simp)
        ·rw [if_neg c10] at H
         exact absurd H (by simp)
       ·rw [if_neg c9] at H
        exact absurd H (by simp)
      ·replace c8 := Bool.eq_false_iff.mpr c8; subst c8
       have H1 : (some (decide ((l0.length : Int) < (l1.length : Int)))) = some r := b6_
       replace H := H1; clear H1
       obtain rfl := Option.some.inj H; go_wp2
       repeat (go_quiet (fail); try go_wp2)
       go_ret
       exact ⟨sq, dr⟩
 ·rw [if_neg c5] at H
  have c5b0 : (t362 == t363) = false := beq_eq_false_iff_ne.mpr c5
  have c5b1 : (t362 != t363) = true := bne_iff_ne.mpr c5
  replace H := Option.bind_eq_some_iff.mp H; obtain ⟨t364, A130, H⟩ := H; replace H : ((spec_l3Long.f k l1).bind fun t365 => (some (decide (t364 > t365)))) = some r := H; have A13 := Aside0.mk A130; clear A130
  have same_t364 : t364 = t362 := Option.some.inj (A13.out.symm.trans A3.out)
  replace H := Option.bind_eq_some_iff.mp H; obtain ⟨t365, A140, H⟩ := H; replace H : (some (decide (t364 > t365))) = some r := H; have A14 := Aside0.mk A140; clear A140
  have same_t365 : t365 = t363 := Option.some.inj (A14.out.symm.trans A4.out)
  obtain rfl := Option.some.inj H; go_enter Try.func202, Try.ntmps202
  go_wp2_with (first | (go_at_call 204; (with_reducible refine (spec_l3Long.calls k _ _ l0 t362 _ ?side1 ?side2 A3.out).mono ?_); (case side1 => repeat (first | exact HR0.out | (with_reducible refine Kd.C_alloc ?_ _) | (with_reducible refine Kd.C_drewN ?_ _) | (with_reducible refine Kd.C_drew ?_))); (case side2 => exact HC0.out); rintro e w' ⟨rfl, ⟨nd, rfl⟩⟩; (try first | exact ⟨rfl, _, World.drewN_drewN _ _ _⟩ | exact ⟨rfl, _, Eq.trans (World.drewN_drewN _ _ _) (congrArg (World.drewN _) (Nat.add_assoc _ _ _))⟩)) | (go_at_call 204; (with_reducible refine (spec_l3Long.calls k _ _ l1 t363 _ ?side1 ?side2 A4.out).mono ?_); (case side1 => repeat (first | exact HR1.out | (with_reducible refine Kd.C_alloc ?_ _) | (with_reducible refine Kd.C_drewN ?_ _) | (with_reducible refine Kd.C_drew ?_))); (case side2 => exact HC1.out); rintro e w' ⟨rfl, ⟨nd, rfl⟩⟩; (try first | exact ⟨rfl, _, World.drewN_drewN _ _ _⟩ | exact ⟨rfl, _, Eq.trans (World.drewN_drewN _ _ _) (congrArg (World.drewN _) (Nat.add_assoc _ _ _))⟩)) | (go_at_call 204; (with_reducible refine (spec_l3Long.calls k _ _ l0 t364 _ ?side1 ?side2 A13.out).mono ?_); (case side1 => repeat (first | exact HR0.out | (with_reducible refine Kd.C_alloc ?_ _) | (with_reducible refine Kd.C_drewN ?_ _) | (with_reducible refine Kd.C_drew ?_))); (case side2 => exact HC0.out); rintro e w' ⟨rfl, ⟨nd, rfl⟩⟩; (try first | exact ⟨rfl, _, World.drewN_drewN _ _ _⟩ | exact ⟨rfl, _, Eq.trans (World.drewN_drewN _ _ _) (congrArg (World.drewN _) (Nat.add_assoc _ _ _))⟩)) | (go_at_call 204; (with_reducible refine (spec_l3Long.calls k _ _ l1 t365 _ ?side1 ?side2 A14.out).mono ?_); (case side1 => repeat (first | exact HR1.out | (with_reducible refine Kd.C_alloc ?_ _) | (with_reducible refine Kd.C_drewN ?_ _) | (with_reducible refine Kd.C_drew ?_))); (case side2 => exact HC1.out); rintro e w' ⟨rfl, ⟨nd, rfl⟩⟩; (try first | exact ⟨rfl, _, World.drewN_drewN _ _ _⟩ | exact ⟨rfl, _, Eq.trans (World.drewN_drewN _ _ _) (congrArg (World.drewN _) (Nat.add_assoc _ _ _))⟩)))
  repeat (go_quiet (first | (go_at_call 204; (with_reducible refine (spec_l3Long.calls k _ _ l0 t362 _ ?side1 ?side2 A3.out).mono ?_); (case side1 => repeat (first | exact HR0.out | (with_reducible refine Kd.C_alloc ?_ _) | (with_reducible refine Kd.C_drewN ?_ _) | (with_reducible refine Kd.C_drew ?_))); (case side2 => exact HC0.out); rintro e w' ⟨rfl, ⟨nd, rfl⟩⟩; (try first | exact ⟨rfl, _, World.drewN_drewN _ _ _⟩ | exact ⟨rfl, _, Eq.trans (World.drewN_drewN _ _ _) (congrArg (World.drewN _) (Nat.add_assoc _ _ _))⟩)) | (go_at_call 204; (with_reducible refine (spec_l3Long.calls k _ _ l1 t363 _ ?side1 ?side2 A4.out).mono ?_); (case side1 => repeat (first | exact HR1.out | (with_reducible refine Kd.C_alloc ?_ _) | (with_reducible refine Kd.C_drewN ?_ _) | (with_reducible refine Kd.C_drew ?_))); (case side2 => exact HC1.out); rintro e w' ⟨rfl, ⟨nd, rfl⟩⟩; (try first | exact ⟨rfl, _, World.drewN_drewN _ _ _⟩ | exact ⟨rfl, _, Eq.trans (World.drewN_drewN _ _ _) (congrArg (World.drewN _) (Nat.add_assoc _ _ _))⟩)) | (go_at_call 204; (with_reducible refine (spec_l3Long.calls k _ _ l0 t364 _ ?side1 ?side2 A13.out).mono ?_); (case side1 => repeat (first | exact HR0.out | (with_reducible refine Kd.C_alloc ?_ _) | (with_reducible refine Kd.C_drewN ?_ _) | (with_reducible refine Kd.C_drew ?_))); (case side2 => exact HC0.out); rintro e w' ⟨rfl, ⟨nd, rfl⟩⟩; (try first | exact ⟨rfl, _, World.drewN_drewN _ _ _⟩ | exact ⟨rfl, _, Eq.trans (World.drewN_drewN _ _ _) (congrArg (World.drewN _) (Nat.add_assoc _ _ _))⟩)) | (go_at_call 204; (with_reducible refine (spec_l3Long.calls k _ _ l1 t365 _ ?side1 ?side2 A14.out).mono ?_); (case side1 => repeat (first | exact HR1.out | (with_reducible refine Kd.C_alloc ?_ _) | (with_reducible refine Kd.C_drewN ?_ _) | (with_reducible refine Kd.C_drew ?_))); (case side2 => exact HC1.out); rintro e w' ⟨rfl, ⟨nd, rfl⟩⟩; (try first | exact ⟨rfl, _, World.drewN_drewN _ _ _⟩ | exact ⟨rfl, _, Eq.trans (World.drewN_drewN _ _ _) (congrArg (World.drewN _) (Nat.add_assoc _ _ _))⟩))); try go_wp2_with (first | (go_at_call 204; (with_reducible refine (spec_l3Long.calls k _ _ l0 t362 _ ?side1 ?side2 A3.out).mono ?_); (case side1 => repeat (first | exact HR0.out | (with_reducible refine Kd.C_alloc ?_ _) | (with_reducible refine Kd.C_drewN ?_ _) | (with_reducible refine Kd.C_drew ?_))); (case side2 => exact HC0.out); rintro e w' ⟨rfl, ⟨nd, rfl⟩⟩; (try first | exact ⟨rfl, _, World.drewN_drewN _ _ _⟩ | exact ⟨rfl, _, Eq.trans (World.drewN_drewN _ _ _) (congrArg (World.drewN _) (Nat.add_assoc _ _ _))⟩)) | (go_at_call 204; (with_reducible refine (spec_l3Long.calls k _ _ l1 t363 _ ?side1 ?side2 A4.out).mono ?_); (case side1 => repeat (first | exact HR1.out | (with_reducible refine Kd.C_alloc ?_ _) | (with_reducible refine Kd.C_drewN ?_ _) | (with_reducible refine Kd.C_drew ?_))); (case side2 => exact HC1.out); rintro e w' ⟨rfl, ⟨nd, rfl⟩⟩; (try first | exact ⟨rfl, _, World.drewN_drewN _ _ _⟩ | exact ⟨rfl, _, Eq.trans (World.drewN_drewN _ _ _) (congrArg (World.drewN _) (Nat.add_assoc _ _ _))⟩)) | (go_at_call 204; (with_reducible refine (spec_l3Long.calls k _ _ l0 t364 _ ?side1 ?side2 A13.out).mono ?_); (case side1 => repeat (first | exact HR0.out | (with_reducible refine Kd.C_alloc ?_ _) | (with_reducible refine Kd.C_drewN ?_ _) | (with_reducible refine Kd.C_drew ?_))); (case side2 => exact HC0.out); rintro e w' ⟨rfl, ⟨nd, rfl⟩⟩; (try first | exact ⟨rfl, _, World.drewN_drewN _ _ _⟩ | exact ⟨rfl, _, Eq.trans (World.drewN_drewN _ _ _) (congrArg (World.drewN _) (Nat.add_assoc _ _ _))⟩)) | (go_at_call 204; (with_reducible refine (spec_l3Long.calls k _ _ l1 t365 _ ?side1 ?side2 A14.out).mono ?_); (case side1 => repeat (first | exact HR1.out | (with_reducible refine Kd.C_alloc ?_ _) | (with_reducible refine Kd.C_drewN ?_ _) | (with_reducible refine Kd.C_drew ?_))); (case side2 => exact HC1.out); rintro e w' ⟨rfl, ⟨nd, rfl⟩⟩; (try first | exact ⟨rfl, _, World.drewN_drewN _ _ _⟩ | exact ⟨rfl, _, Eq.trans (World.drewN_drewN _ _ _) (congrArg (World.drewN _) (Nat.add_assoc _ _ _))⟩))))
  go_ret
  exact ⟨sq, dr⟩

end Go.Proofs.Ytfpmfaelodfecaa.QFnMachineWord
