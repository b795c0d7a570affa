import Derived.Test.YtedfcehhgbeibaaQFnBookKnowsx0
import Derived.Test.YtedfcehhgbeibaaQFnBookKnowsx1
import Derived.Test.YtedfcehhgbeibaaQFnBookKnowsx8
import Derived.Test.YtedfcehhgbeibaaVMSh2
namespace Go.Proofs.Ytedfcehhgbeibaa.QFnBookKnows
open Go.RowKit Go.Proofs.YtedfcehhgbeibaaW.PrintWords Go.Proofs.YtedfcehhgbeibaaW.PrintLast Go.Proofs.YtedfcehhgbeibaaW.PrintMore Go.Proofs.Ytedfcehhgbeibaa.Sh
attribute [local go_sem] max2_int min2_int max_two min_two max_three min_three max_four min_four   -- for this text's walks alone
set_option linter.unusedVariables false
set_option linter.unusedSimpArgs false
-- shrunk

attribute [local go_sem high] eqA44
/-! ### spec_l2Affixes: function 53 -/
mutual
def spec_l2Affixes.l0 : Nat → List (S44) → Int → Option (Bool)
 | 0, _, _ => none
 | k + 1, x0, x3 => if x3 < (x0.length : Int) then (if 0 ≤ x3 then ((spec_AffixOk.f k ((rd_T44 x0 x3).f0) ((rd_T44 x0 x3).f1) ((rd_T44 x0 x3).f2) ((rd_T44 x0 x3).f3) ((rd_T44 x0 x3).f4)).bind fun t206 => (if t206 = true then (spec_l2Affixes.l1 k x0 x3 0) else (some false))) else (none)) else (some (decide ((x0.length : Int) ≤ 8)))
def spec_l2Affixes.l1 : Nat → List (S44) → Int → Int → Option (Bool)
 | 0, _, _, _ => none
 | k + 1, x0, x3, x4 => if x4 < x3 then (if 0 ≤ x4 then (if x4 < (x0.length : Int) then (if 0 ≤ x3 then (if x3 < (x0.length : Int) then (if ((((rd_T44 x0 x4).f0).toList) == (((rd_T44 x0 x3).f0).toList) && (((rd_T44 x0 x4).f1) == ((rd_T44 x0 x3).f1) && ((((rd_T44 x0 x4).f2).toList) == (((rd_T44 x0 x3).f2).toList) && ((((rd_T44 x0 x4).f3).toList) == (((rd_T44 x0 x3).f3).toList) && ((((rd_T44 x0 x4).f4).toList) == (((rd_T44 x0 x3).f4).toList)))))) = true then (some false) else (spec_l2Affixes.l1 k x0 x3 (wrap64 (x4 + 1)))) else (none)) else (none)) else (none)) else (none)) else (spec_l2Affixes.l0 k x0 (wrap64 (x3 + 1)))
end
def spec_l2Affixes.f (k : Nat) (l0 : List (S44)) : Option (Bool) := spec_l2Affixes.l0 k l0 0
theorem spec_l2Affixes.mono_l : ∀ k, (∀ y0 y1, LeO (spec_l2Affixes.l0 k y0 y1) (spec_l2Affixes.l0 (k + 1) y0 y1)) ∧ (∀ y0 y1 y2, LeO (spec_l2Affixes.l1 k y0 y1 y2) (spec_l2Affixes.l1 (k + 1) y0 y1 y2))
 | 0 => ⟨fun _ _ r h => by simp [spec_l2Affixes.l0] at h, fun _ _ _ r h => by simp [spec_l2Affixes.l1] at h⟩
 | k + 1 => by
  obtain ⟨ih0, ih1⟩ := spec_l2Affixes.mono_l k
  refine ⟨?_, ?_⟩
  ·intro y0 y1
   unfold spec_l2Affixes.l0
   repeat' first | (with_reducible first | exact ih0 _ _ | exact ih1 _ _ _ | exact spec_AffixOk.mono _ _ _ _ _ _ | exact LeO.refl _ | exact LeO.none _ | refine LeO.ite ?_ ?_ | refine LeO.bind ?_ (fun _ => ?_)) | exact ih0 _ _ | exact ih1 _ _ _ | exact spec_AffixOk.mono _ _ _ _ _ _ | exact LeO.none _ | refine LeO.ite ?_ ?_ | refine LeO.bind ?_ (fun _ => ?_)
  ·intro y0 y1 y2
   unfold spec_l2Affixes.l1
   repeat' first | (with_reducible first | exact ih0 _ _ | exact ih1 _ _ _ | exact spec_AffixOk.mono _ _ _ _ _ _ | exact LeO.refl _ | exact LeO.none _ | refine LeO.ite ?_ ?_ | refine LeO.bind ?_ (fun _ => ?_)) | exact ih0 _ _ | exact ih1 _ _ _ | exact spec_AffixOk.mono _ _ _ _ _ _ | exact LeO.none _ | refine LeO.ite ?_ ?_ | refine LeO.bind ?_ (fun _ => ?_)
theorem spec_l2Affixes.mono : ∀ a0 k, LeO (spec_l2Affixes.f k a0) (spec_l2Affixes.f (k + 1) a0) := by
 intro a0 k; obtain ⟨ih0, ih1⟩ := spec_l2Affixes.mono_l k
 unfold spec_l2Affixes.f
 repeat' first | (with_reducible first | exact ih0 _ _ | exact ih1 _ _ _ | exact spec_AffixOk.mono _ _ _ _ _ _ | exact LeO.refl _ | exact LeO.none _ | refine LeO.ite ?_ ?_ | refine LeO.bind ?_ (fun _ => ?_)) | exact ih0 _ _ | exact ih1 _ _ _ | exact spec_AffixOk.mono _ _ _ _ _ _ | exact LeO.none _ | refine LeO.ite ?_ ?_ | refine LeO.bind ?_ (fun _ => ?_)
set_option maxHeartbeats 8000000 in
set_option maxRecDepth 100000 in
theorem spec_l2Affixes.calls (k : Nat) (A0 : Option Addr) (c0 : Nat) (l0 : List (S44)) (r : Bool) (w : World) (hr0 : Kd.C k44 w A0 l0.length l0) (hc0 : l0.length ≤ c0) (h : spec_l2Affixes.f k l0 = some r) :
  Calls Try.prog 53 #[.slice A0 l0.length c0] w fun e w' => e = .returned (.bool r) ∧ Below w.heap.size w w' := by
 have hu44 := Try.underlying44; have HR0 := am hr0; have HC0 := am hc0; clear hr0 hc0; have HB := am (Below.refl w.heap.size w)
 have H : (spec_l2Affixes.l0 k l0 0) = some r := h
 clear h
 have H' := am H
 clear H; go_enter Try.func53, Try.ntmps53; go_wp2
 repeat (go_quiet (fail); try go_wp2)
 go_loopg [3] k (fun kq v3 w' => ∃ (x3_1 : Int), v3 = .int .i64 x3_1 ∧ Aside0 (spec_l2Affixes.l0 kq l0 x3_1 = some r) ∧ Aside0 (kq ≤ k) ∧ Aside0 (Below w.heap.size w w'))
 case atStart => exact ⟨(0), sq, H', ⟨Nat.le_refl _⟩, ⟨bel⟩⟩
 case round =>
  clear H'; obtain ⟨x3_1, rfl, HA, HK1, HB⟩ := hrel
  cases gk with
  | zero => exact absurd HA.out (by simp [spec_l2Affixes.l0])
  | succ k1 =>
   have H := HA.out; clear HA
   simp only [spec_l2Affixes.l0] at H
   by_cases c2 : x3_1 < (l0.length : Int)
   ·rw [if_pos c2] at H; have c2b0 := decide_eq_true c2; clear c2
    by_cases c3 : 0 ≤ x3_1
    ·rw [if_pos c3] at H; have c3b0 := decide_eq_true c3; clear c3; replace H := Option.bind_eq_some_iff.mp H; obtain ⟨t206, A40, H⟩ := H; replace H : (if t206 = true then (spec_l2Affixes.l1 k1 l0 x3_1 0) else (some false)) = some r := H; have A4 := Aside0.mk A40; clear A40
     by_cases c5 : t206 = true
     ·subst c5
      have H1 : (spec_l2Affixes.l1 k1 l0 x3_1 0) = some r := b34_
      replace H := H1; clear H1
      have H' := am H
      clear H
      have p205 : 0 ≤ (x3_1 : Int) := of_decide_eq_true ad
      have q205 : x3_1 < (l0.length : Int) := of_decide_eq_true ad
      obtain ⟨ad205, e205, hx205_0, hx205_1, hx205_2, hx205_3, hx205_4⟩ := at_T44 HR0.out x3_1 p205 q205
      cases e205
      replace hx205_0 := kp HB.out hx205_0; replace hx205_1 := kp HB.out hx205_1; replace hx205_2 := kp HB.out hx205_2; replace hx205_3 := kp HB.out hx205_3; replace hx205_4 := kp HB.out hx205_4; replace p205 := eq_true p205; replace q205 := eq_true q205
      go_wp2_with (first | (go_at_call 89; (with_reducible refine (spec_AffixOk.calls k1 ((rd_T44 l0 x3_1).f0) ((rd_T44 l0 x3_1).f1) ((rd_T44 l0 x3_1).f2) ((rd_T44 l0 x3_1).f3) ((rd_T44 l0 x3_1).f4) true _ A4.out).mono ?_); rintro e w6 ⟨rfl, hb⟩; replace HB := am (below_step bel hb); (try clear hb); (try clear hb2); (try clear hk); (try clear hi)))
      repeat (go_quiet (first | (go_at_call 89; (with_reducible refine (spec_AffixOk.calls k1 ((rd_T44 l0 x3_1).f0) ((rd_T44 l0 x3_1).f1) ((rd_T44 l0 x3_1).f2) ((rd_T44 l0 x3_1).f3) ((rd_T44 l0 x3_1).f4) true _ A4.out).mono ?_); rintro e w6 ⟨rfl, hb⟩; replace HB := am (below_step bel hb); (try clear hb); (try clear hb2); (try clear hk); (try clear hi))); try go_wp2_with (first | (go_at_call 89; (with_reducible refine (spec_AffixOk.calls k1 ((rd_T44 l0 x3_1).f0) ((rd_T44 l0 x3_1).f1) ((rd_T44 l0 x3_1).f2) ((rd_T44 l0 x3_1).f3) ((rd_T44 l0 x3_1).f4) true _ A4.out).mono ?_); rintro e w6 ⟨rfl, hb⟩; replace HB := am (below_step bel hb); (try clear hb); (try clear hb2); (try clear hk); (try clear hi))))
      go_loopg [4] k1 (fun kq v4 w' => ∃ (x4_2 : Int), v4 = .int .i64 x4_2 ∧ Aside0 (spec_l2Affixes.l1 kq l0 x3_1 x4_2 = some r) ∧ Aside0 (kq ≤ k1) ∧ Aside0 (Below w.heap.size w w'))
      case atStart => exact ⟨(0), sq, H', ⟨Nat.le_refl _⟩, ⟨bel⟩⟩
      case round =>
       clear H'; (try clear c2); (try clear c2b0); (try clear p2); (try clear q2); (try clear hx2); (try clear c3); (try clear c3b0); (try clear c5); (try clear hx205_0); (try clear hx205_1); (try clear hx205_2); (try clear hx205_3); (try clear hx205_4); (try clear p205); (try clear q205); obtain ⟨x4_2, rfl, HA, HK2, HB⟩ := hrel
       cases gk with
       | zero => exact absurd HA.out (by simp [spec_l2Affixes.l1])
       | succ k2 =>
        have H := HA.out; clear HA
        simp only [spec_l2Affixes.l1] at H
        by_cases c7 : x4_2 < x3_1
        ·rw [if_pos c7] at H; have c7b0 := decide_eq_true c7; clear c7
         by_cases c8 : 0 ≤ x4_2
         ·rw [if_pos c8] at H; have c8b0 := decide_eq_true c8; clear c8
          by_cases c9 : x4_2 < (l0.length : Int)
          ·rw [if_pos c9] at H; have c9b0 := decide_eq_true c9; clear c9
           by_cases c10 : 0 ≤ x3_1
           ·rw [if_pos c10] at H; have c10b0 := decide_eq_true c10; clear c10
            by_cases c11 : x3_1 < (l0.length : Int)
            ·rw [if_pos c11] at H; have c11b0 := decide_eq_true c11; clear c11
             by_cases c12 : ((((rd_T44 l0 x4_2).f0).toList) == (((rd_T44 l0 x3_1).f0).toList) && (((rd_T44 l0 x4_2).f1) == ((rd_T44 l0 x3_1).f1) && ((((rd_T44 l0 x4_2).f2).toList) == (((rd_T44 l0 x3_1).f2).toList) && ((((rd_T44 l0 x4_2).f3).toList) == (((rd_T44 l0 x3_1).f3).toList) && ((((rd_T44 l0 x4_2).f4).toList) == (((rd_T44 l0 x3_1).f4).toList)))))) = true
             ·rw [if_pos c12] at H
              have c12b0 : ((((rd_T44 l0 x4_2).f0).toList) == (((rd_T44 l0 x3_1).f0).toList) && (((rd_T44 l0 x4_2).f1) == ((rd_T44 l0 x3_1).f1) && ((((rd_T44 l0 x4_2).f2).toList) == (((rd_T44 l0 x3_1).f2).toList) && ((((rd_T44 l0 x4_2).f3).toList) == (((rd_T44 l0 x3_1).f3).toList) && ((((rd_T44 l0 x4_2).f4).toList) == (((rd_T44 l0 x3_1).f4).toList)))))) = true := c12
              (try (have c12b1 : decide ((((rd_T44 l0 x4_2).f0).toList) = (((rd_T44 l0 x3_1).f0).toList) && (((rd_T44 l0 x4_2).f1) == ((rd_T44 l0 x3_1).f1) && ((((rd_T44 l0 x4_2).f2).toList) == (((rd_T44 l0 x3_1).f2).toList) && ((((rd_T44 l0 x4_2).f3).toList) == (((rd_T44 l0 x3_1).f3).toList) && ((((rd_T44 l0 x4_2).f4).toList) == (((rd_T44 l0 x3_1).f4).toList)))))) = true := by simpa using c12))
              (try (have c12b2 : ((((rd_T44 l0 x4_2).f0).toList) == (((rd_T44 l0 x3_1).f0).toList) && (((rd_T44 l0 x4_2).f1) == ((rd_T44 l0 x3_1).f1) && ((((rd_T44 l0 x4_2).f2).toList) == (((rd_T44 l0 x3_1).f2).toList) && ((((rd_T44 l0 x4_2).f3).toList) == (((rd_T44 l0 x3_1).f3).toList) && ((((rd_T44 l0 x4_2).f4).toList) == (((rd_T44 l0 x3_1).f4).toList)))))) = true := by simpa using c12))
              clear c12; obtain rfl := Option.some.inj H
              have p207 : 0 ≤ (x4_2 : Int) := of_decide_eq_true ad
              have q207 : x4_2 < (l0.length : Int) := of_decide_eq_true ad
              obtain ⟨ad207, e207, hx207_0, hx207_1, hx207_2, hx207_3, hx207_4⟩ := at_T44 HR0.out x4_2 p207 q207
              obtain rfl : ad205 = ad207 := (by injection e207)
              replace hx207_0 := kp HB.out hx207_0; replace hx207_1 := kp HB.out hx207_1; replace hx207_2 := kp HB.out hx207_2; replace hx207_3 := kp HB.out hx207_3; replace hx207_4 := kp HB.out hx207_4; replace p207 := eq_true p207; replace q207 := eq_true q207
              have p208 : 0 ≤ (x3_1 : Int) := of_decide_eq_true ad
              have q208 : x3_1 < (l0.length : Int) := of_decide_eq_true ad
              obtain ⟨ad208, e208, hx208_0, hx208_1, hx208_2, hx208_3, hx208_4⟩ := at_T44 HR0.out x3_1 p208 q208
              obtain rfl : ad205 = ad208 := (by injection e208)
              replace hx208_0 := kp HB.out hx208_0; replace hx208_1 := kp HB.out hx208_1; replace hx208_2 := kp HB.out hx208_2; replace hx208_3 := kp HB.out hx208_3; replace hx208_4 := kp HB.out hx208_4; replace p208 := eq_true p208; replace q208 := eq_true q208; go_wp2
              repeat (go_quiet (fail); try go_wp2)
              go_ret
              exact ⟨eq_, bel⟩
             ·rw [if_neg c12] at H
              have c12b0 : ((((rd_T44 l0 x4_2).f0).toList) == (((rd_T44 l0 x3_1).f0).toList) && (((rd_T44 l0 x4_2).f1) == ((rd_T44 l0 x3_1).f1) && ((((rd_T44 l0 x4_2).f2).toList) == (((rd_T44 l0 x3_1).f2).toList) && ((((rd_T44 l0 x4_2).f3).toList) == (((rd_T44 l0 x3_1).f3).toList) && ((((rd_T44 l0 x4_2).f4).toList) == (((rd_T44 l0 x3_1).f4).toList)))))) = false := by simpa using c12
              (try (have c12b1 : decide ((((rd_T44 l0 x4_2).f0).toList) = (((rd_T44 l0 x3_1).f0).toList) && (((rd_T44 l0 x4_2).f1) == ((rd_T44 l0 x3_1).f1) && ((((rd_T44 l0 x4_2).f2).toList) == (((rd_T44 l0 x3_1).f2).toList) && ((((rd_T44 l0 x4_2).f3).toList) == (((rd_T44 l0 x3_1).f3).toList) && ((((rd_T44 l0 x4_2).f4).toList) == (((rd_T44 l0 x3_1).f4).toList)))))) = false := by simpa using c12))
              (try (have c12b2 : ((((rd_T44 l0 x4_2).f0).toList) == (((rd_T44 l0 x3_1).f0).toList) && (((rd_T44 l0 x4_2).f1) == ((rd_T44 l0 x3_1).f1) && ((((rd_T44 l0 x4_2).f2).toList) == (((rd_T44 l0 x3_1).f2).toList) && ((((rd_T44 l0 x4_2).f3).toList) == (((rd_T44 l0 x3_1).f3).toList) && ((((rd_T44 l0 x4_2).f4).toList) == (((rd_T44 l0 x3_1).f4).toList)))))) = false := by simpa using c12))
              (try (have c12b3 : ¬ ((((rd_T44 l0 x4_2).f0).toList) = (((rd_T44 l0 x3_1).f0).toList) && (((rd_T44 l0 x4_2).f1) == ((rd_T44 l0 x3_1).f1) && ((((rd_T44 l0 x4_2).f2).toList) == (((rd_T44 l0 x3_1).f2).toList) && ((((rd_T44 l0 x4_2).f3).toList) == (((rd_T44 l0 x3_1).f3).toList) && ((((rd_T44 l0 x4_2).f4).toList) == (((rd_T44 l0 x3_1).f4).toList)))))) := by simpa using c12))
              clear c12
              have H' := am H
              clear H
              have p207 : 0 ≤ (x4_2 : Int) := of_decide_eq_true ad
              have q207 : x4_2 < (l0.length : Int) := of_decide_eq_true ad
              obtain ⟨ad207, e207, hx207_0, hx207_1, hx207_2, hx207_3, hx207_4⟩ := at_T44 HR0.out x4_2 p207 q207
              obtain rfl : ad205 = ad207 := (by injection e207)
              replace hx207_0 := kp HB.out hx207_0; replace hx207_1 := kp HB.out hx207_1; replace hx207_2 := kp HB.out hx207_2; replace hx207_3 := kp HB.out hx207_3; replace hx207_4 := kp HB.out hx207_4; replace p207 := eq_true p207; replace q207 := eq_true q207
              have p208 : 0 ≤ (x3_1 : Int) := of_decide_eq_true ad
              have q208 : x3_1 < (l0.length : Int) := of_decide_eq_true ad
              obtain ⟨ad208, e208, hx208_0, hx208_1, hx208_2, hx208_3, hx208_4⟩ := at_T44 HR0.out x3_1 p208 q208
              obtain rfl : ad205 = ad208 := (by injection e208)
              replace hx208_0 := kp HB.out hx208_0; replace hx208_1 := kp HB.out hx208_1; replace hx208_2 := kp HB.out hx208_2; replace hx208_3 := kp HB.out hx208_3; replace hx208_4 := kp HB.out hx208_4; replace p208 := eq_true p208; replace q208 := eq_true q208; go_wp2
              repeat (go_quiet (fail); try go_wp2)
              go_roundg k2
              case measure => have := HK1.out; have := HK2.out; omega
              case rel => exact ⟨(wrap64 (x4_2 + 1)), sq, H', ⟨b67_⟩, ⟨bel⟩⟩
            ·rw [if_neg c11] at H
             exact absurd H (by simp)
           ·rw [if_neg c10] at H
            exact absurd H (by simp)
          ·rw [if_neg c9] at H
           exact absurd H (by simp)
         ·rw [if_neg c8] at H
          exact absurd H (by simp)
        ·rw [if_neg c7] at H; have c7b0 := decide_eq_false c7; clear c7
         have H' := am H
         clear H; go_wp2
         repeat (go_quiet (fail); try go_wp2)
         go_roundg k2
         case measure => have := HK1.out; have := HK2.out; omega
         case rel => exact ⟨(wrap64 (x3_1 + 1)), sq, H', ⟨b67_⟩, ⟨bel⟩⟩
     ·replace c5 := Bool.eq_false_iff.mpr c5; subst c5
      have H1 : (some false) = some r := b19_
      replace H := H1; clear H1
      obtain rfl := Option.some.inj H
      have p205 : 0 ≤ (x3_1 : Int) := of_decide_eq_true ad
      have q205 : x3_1 < (l0.length : Int) := of_decide_eq_true ad
      obtain ⟨ad205, e205, hx205_0, hx205_1, hx205_2, hx205_3, hx205_4⟩ := at_T44 HR0.out x3_1 p205 q205
      cases e205
      replace hx205_0 := kp HB.out hx205_0; replace hx205_1 := kp HB.out hx205_1; replace hx205_2 := kp HB.out hx205_2; replace hx205_3 := kp HB.out hx205_3; replace hx205_4 := kp HB.out hx205_4; replace p205 := eq_true p205; replace q205 := eq_true q205
      go_wp2_with (first | (go_at_call 89; (with_reducible refine (spec_AffixOk.calls k1 ((rd_T44 l0 x3_1).f0) ((rd_T44 l0 x3_1).f1) ((rd_T44 l0 x3_1).f2) ((rd_T44 l0 x3_1).f3) ((rd_T44 l0 x3_1).f4) false _ A4.out).mono ?_); rintro e w13 ⟨rfl, hb⟩; replace HB := am (below_step bel hb); (try clear hb); (try clear hb2); (try clear hk); (try clear hi)))
      repeat (go_quiet (first | (go_at_call 89; (with_reducible refine (spec_AffixOk.calls k1 ((rd_T44 l0 x3_1).f0) ((rd_T44 l0 x3_1).f1) ((rd_T44 l0 x3_1).f2) ((rd_T44 l0 x3_1).f3) ((rd_T44 l0 x3_1).f4) false _ A4.out).mono ?_); rintro e w13 ⟨rfl, hb⟩; replace HB := am (below_step bel hb); (try clear hb); (try clear hb2); (try clear hk); (try clear hi))); try go_wp2_with (first | (go_at_call 89; (with_reducible refine (spec_AffixOk.calls k1 ((rd_T44 l0 x3_1).f0) ((rd_T44 l0 x3_1).f1) ((rd_T44 l0 x3_1).f2) ((rd_T44 l0 x3_1).f3) ((rd_T44 l0 x3_1).f4) false _ A4.out).mono ?_); rintro e w13 ⟨rfl, hb⟩; replace HB := am (below_step bel hb); (try clear hb); (try clear hb2); (try clear hk); (try clear hi))))
      go_ret
      exact ⟨eq_, bel⟩
    ·rw [if_neg c3] at H
     exact absurd H (by simp)
   ·rw [if_neg c2] at H; have c2b0 := decide_eq_false c2; clear c2; obtain rfl := Option.some.inj H; go_wp2
    repeat (go_quiet (fail); try go_wp2)
    go_ret
    exact ⟨eq_, bel⟩

/-! ### spec_l1Word: function 84 -/
def spec_l1Word.f (k : Nat) (a0 : ByteArray) : Option (Bool) := if (a0.size : Int) > 0 then ((spec_l1Letters.f k a0 12).bind fun t209 => (some t209)) else (some false)
theorem spec_l1Word.mono : ∀ a0 k, LeO (spec_l1Word.f k a0) (spec_l1Word.f (k + 1) a0) := by
 intro a0 k
 unfold spec_l1Word.f
 repeat' first | (with_reducible first | exact spec_l1Letters.mono _ _ _ | exact LeO.refl _ | exact LeO.none _ | refine LeO.ite ?_ ?_ | refine LeO.bind ?_ (fun _ => ?_)) | exact spec_l1Letters.mono _ _ _ | exact LeO.none _ | refine LeO.ite ?_ ?_ | refine LeO.bind ?_ (fun _ => ?_)
set_option maxHeartbeats 8000000 in
set_option maxRecDepth 100000 in
theorem spec_l1Word.calls (k : Nat) (a0 : ByteArray) (r : Bool) (w : World) (h : spec_l1Word.f k a0 = some r) :
  Calls Try.prog 84 #[.string a0] w fun e w' => e = .returned (.bool r) ∧ Drawn0 w w' := by
 have H : (if (a0.size : Int) > 0 then ((spec_l1Letters.f k a0 12).bind fun t209 => (some t209)) else (some false)) = some r := h
 clear h
 by_cases c2 : (a0.size : Int) > 0
 ·rw [if_pos c2] at H; have c2b0 := decide_eq_true c2
  have c2b1 : decide (0 < a0.size) = true := decide_eq_true (by omega)
  clear c2; replace H := Option.bind_eq_some_iff.mp H; obtain ⟨t209, A30, H⟩ := H; replace H : (some t209) = some r := H; have A3 := Aside0.mk A30; clear A30; obtain rfl := Option.some.inj H; go_enter Try.func84, Try.ntmps84
  go_wp2_with (first | (go_at_call 105; (with_reducible refine (spec_l1Letters.calls k a0 12 t209 _ A3.out).mono ?_); rintro e w' ⟨rfl, ⟨nd, rfl⟩⟩))
  go_ret
  exact ⟨sq, dr⟩
 ·rw [if_neg c2] at H; have c2b0 := decide_eq_false c2
  have c2b1 : decide (0 < a0.size) = false := decide_eq_false (by omega)
  clear c2; obtain rfl := Option.some.inj H; go_enter Try.func84, Try.ntmps84; go_wp2; go_ret
  exact ⟨sq, dr⟩

/-! ### spec_l2Entry: function 54 -/
def spec_l2Entry.l0 : Nat → Int → ByteArray → ByteArray → Option (Bool)
 | 0, _, _, _ => none
 | k + 1, x3, x211000, x211001 => if x3 < (x211001.size : Int) then (if 0 ≤ x3 then (if x3 ≤ (wrap64 (x3 + 1)) then (if (wrap64 (x3 + 1)) ≤ (x211001.size : Int) then ((spec_l2Flag.f (x211001.extract (x3 : Int).toNat ((wrap64 (x3 + 1)) : Int).toNat)).bind fun t211 => (if t211 = true then (if x3 > 0 then (if 0 ≤ (wrap64 (x3 - 1)) then (if (wrap64 (x3 - 1)) < (x211001.size : Int) then (if (bt x211001 (wrap64 (x3 - 1))) ≥ (bt x211001 x3) then (some false) else (spec_l2Entry.l0 k (wrap64 (x3 + 1)) x211000 x211001)) else (none)) else (none)) else (spec_l2Entry.l0 k (wrap64 (x3 + 1)) x211000 x211001)) else (some false))) else (none)) else (none)) else (none)) else ((spec_l1Word.f k x211000).bind fun t212 => (if t212 = true then (some (decide ((x211001.size : Int) ≤ 4))) else (some false)))
def spec_l2Entry.f (k : Nat) (a0_0 : ByteArray) (a0_1 : ByteArray) : Option (Bool) := spec_l2Entry.l0 k 0 a0_0 a0_1
theorem spec_l2Entry.mono_l : ∀ k, (∀ y0 y1 y2, LeO (spec_l2Entry.l0 k y0 y1 y2) (spec_l2Entry.l0 (k + 1) y0 y1 y2))
 | 0 => fun _ _ _ r h => by simp [spec_l2Entry.l0] at h
 | k + 1 => by
  have ih0 := spec_l2Entry.mono_l k
  ·intro y0 y1 y2
   unfold spec_l2Entry.l0
   repeat' first | (with_reducible first | exact ih0 _ _ _ | exact spec_l1Word.mono _ _ | exact LeO.refl _ | exact LeO.none _ | refine LeO.ite ?_ ?_ | refine LeO.bind ?_ (fun _ => ?_)) | exact ih0 _ _ _ | exact spec_l1Word.mono _ _ | exact LeO.none _ | refine LeO.ite ?_ ?_ | refine LeO.bind ?_ (fun _ => ?_)
theorem spec_l2Entry.mono : ∀ a0 a1 k, LeO (spec_l2Entry.f k a0 a1) (spec_l2Entry.f (k + 1) a0 a1) := by
 intro a0 a1 k; have ih0 := spec_l2Entry.mono_l k
 unfold spec_l2Entry.f
 repeat' first | (with_reducible first | exact ih0 _ _ _ | exact spec_l1Word.mono _ _ | exact LeO.refl _ | exact LeO.none _ | refine LeO.ite ?_ ?_ | refine LeO.bind ?_ (fun _ => ?_)) | exact ih0 _ _ _ | exact spec_l1Word.mono _ _ | exact LeO.none _ | refine LeO.ite ?_ ?_ | refine LeO.bind ?_ (fun _ => ?_)
set_option maxHeartbeats 8000000 in
set_option maxRecDepth 100000 in
theorem spec_l2Entry.calls (k : Nat) (a0_0 : ByteArray) (a0_1 : ByteArray) (r : Bool) (w : World) (h : spec_l2Entry.f k a0_0 a0_1 = some r) :
  Calls Try.prog 54 #[.agg #[.string a0_0, .string a0_1]] w fun e w' => e = .returned (.bool r) ∧ Below w.heap.size w w' := by
 have hu31 := Try.underlying31; have HB := am (Below.refl w.heap.size w)
 have H : (spec_l2Entry.l0 k 0 a0_0 a0_1) = some r := h
 clear h
 have H' := am H
 clear H; go_enter Try.func54, Try.ntmps54
 go_wp2_with (first | ((with_reducible refine gate_dst (N := 1) rfl ?_); (try (refine gate_guard (by rfl) ?_; dsimp only)); refine bx 1 (cs := #[.string a0_0, .string a0_1]) (t := 31) ?_; intro gb210 hg w2 hbox hb; have BK210 := am (hbox); have GW210 := am ((b15_ : w.heap.size ≤ gb210)); have GE210 := am ((b15_ : w.heap.size ≤ gb210)); replace HB := am (below_step bel hb); clear hb hbox hg))
 repeat (go_quiet (first | ((with_reducible refine gate_dst (N := 1) rfl ?_); (try (refine gate_guard (by rfl) ?_; dsimp only)); refine bx 1 (cs := #[.string a0_0, .string a0_1]) (t := 31) ?_; intro gb210 hg w2 hbox hb; have BK210 := am (hbox); have GW210 := am ((b15_ : w.heap.size ≤ gb210)); have GE210 := am ((b15_ : w.heap.size ≤ gb210)); replace HB := am (below_step bel hb); clear hb hbox hg)); try go_wp2_with (first | ((with_reducible refine gate_dst (N := 1) rfl ?_); (try (refine gate_guard (by rfl) ?_; dsimp only)); refine bx 1 (cs := #[.string a0_0, .string a0_1]) (t := 31) ?_; intro gb210 hg w2 hbox hb; have BK210 := am (hbox); have GW210 := am ((b15_ : w.heap.size ≤ gb210)); have GE210 := am ((b15_ : w.heap.size ≤ gb210)); replace HB := am (below_step bel hb); clear hb hbox hg)))
 go_loopg [3] k (fun kq v3 w' => ∃ (x3_1 : Int), v3 = .int .i64 x3_1 ∧ Aside0 (spec_l2Entry.l0 kq x3_1 a0_0 a0_1 = some r) ∧ Aside0 (kq ≤ k) ∧ Aside0 (w'.heap[gb210]? = some (.cells #[.string a0_0, .string a0_1] 31 (0, 0))) ∧ Aside0 (Below w.heap.size w w'))
 case atStart => exact ⟨(0), sq, H', ⟨Nat.le_refl _⟩, ⟨bq BK210.out⟩, ⟨bel1 GE210.out⟩⟩
 case round =>
  clear H'; (try clear p2); obtain ⟨x3_1, rfl, HA, HK1, BK210, HB⟩ := hrel
  cases gk with
  | zero => exact absurd HA.out (by simp [spec_l2Entry.l0])
  | succ k1 =>
   have H := HA.out; clear HA
   simp only [spec_l2Entry.l0] at H
   by_cases c3 : x3_1 < (a0_1.size : Int)
   ·rw [if_pos c3] at H; have c3b0 := decide_eq_true c3; clear c3
    by_cases c4 : 0 ≤ x3_1
    ·rw [if_pos c4] at H; have c4b0 := eq_true c4
     have c4b1 : decide (0 ≤ x3_1) = true := decide_eq_true c4
     clear c4
     by_cases c5 : x3_1 ≤ (wrap64 (x3_1 + 1))
     ·rw [if_pos c5] at H; have c5b0 := eq_true c5
      have c5b1 : decide (x3_1 ≤ (wrap64 (x3_1 + 1))) = true := decide_eq_true c5
      by_cases c6 : (wrap64 (x3_1 + 1)) ≤ (a0_1.size : Int)
      ·rw [if_pos c6] at H; have c6b0 := eq_true c6
       have c6b1 : decide ((wrap64 (x3_1 + 1)) ≤ (a0_1.size : Int)) = true := decide_eq_true c6
       replace H := Option.bind_eq_some_iff.mp H; obtain ⟨t211, A70, H⟩ := H; replace H : (if t211 = true then (if x3_1 > 0 then (if 0 ≤ (wrap64 (x3_1 - 1)) then (if (wrap64 (x3_1 - 1)) < (a0_1.size : Int) then (if (bt a0_1 (wrap64 (x3_1 - 1))) ≥ (bt a0_1 x3_1) then (some false) else (spec_l2Entry.l0 k1 (wrap64 (x3_1 + 1)) a0_0 a0_1)) else (none)) else (none)) else (spec_l2Entry.l0 k1 (wrap64 (x3_1 + 1)) a0_0 a0_1)) else (some false)) = some r := H; have A7 := Aside0.mk A70; clear A70
       by_cases c8 : t211 = true
       ·subst c8
        have H1 : (if x3_1 > 0 then (if 0 ≤ (wrap64 (x3_1 - 1)) then (if (wrap64 (x3_1 - 1)) < (a0_1.size : Int) then (if (bt a0_1 (wrap64 (x3_1 - 1))) ≥ (bt a0_1 x3_1) then (some false) else (spec_l2Entry.l0 k1 (wrap64 (x3_1 + 1)) a0_0 a0_1)) else (none)) else (none)) else (spec_l2Entry.l0 k1 (wrap64 (x3_1 + 1)) a0_0 a0_1)) = some r := b34_
        replace H := H1; clear H1
        by_cases c9 : x3_1 > 0
        ·rw [if_pos c9] at H; have c9b0 := decide_eq_true c9; clear c9; obtain ⟨ji10, hji10⟩ : ∃ j_ : Int, (wrap64 (x3_1 - 1)) = j_ := ⟨_, rfl⟩
         replace H : (if 0 ≤ (ji10) then (if (ji10) < (a0_1.size : Int) then (if (bt a0_1 (ji10)) ≥ (bt a0_1 x3_1) then (some false) else (spec_l2Entry.l0 k1 (wrap64 (x3_1 + 1)) a0_0 a0_1)) else (none)) else (none)) = some r := by first | (rw [hji10] at H; exact H) | (simp only [hji10] at H ⊢; exact H)
         (try rw [hji10] at A7)
         have hji10w : (IntKind.i64.wrap (x3_1 - 1)) = ji10 := (i64_w _).trans hji10
         by_cases c11 : 0 ≤ (ji10)
         ·rw [if_pos c11] at H; have c11b0 := decide_eq_true c11; clear c11
          by_cases c12 : (ji10) < (a0_1.size : Int)
          ·rw [if_pos c12] at H; have c12b0 := decide_eq_true c12; clear c12
           by_cases c15 : (bt a0_1 (ji10)) ≥ (bt a0_1 x3_1)
           ·rw [if_pos c15] at H; have c15b0 := decide_eq_true c15; clear c15; obtain rfl := Option.some.inj H; have hcz16_0 := bc BK210.out 0; have hcz16_1 := bc BK210.out 1; have hfz16_0 := bf BK210.out 0; have hfz16_1 := bf BK210.out 1
            try have p13 : 0 ≤ ((ji10) : Int) := of_decide_eq_true ad
            try have q13 : (ji10) < (a0_1.size : Int) := of_decide_eq_true ad
            try have hx13 := bt_at a0_1 (ji10)
            try replace p13 := eq_true p13
            try replace q13 := eq_true q13
            try have p14 : 0 ≤ (x3_1 : Int) := of_decide_eq_true ad
            try have q14 : x3_1 < (a0_1.size : Int) := of_decide_eq_true ad
            try have hx14 := bt_at a0_1 x3_1
            try replace p14 := eq_true p14
            try replace q14 := eq_true q14
            go_wp2_with (first | (go_at_call 90; (with_reducible refine (spec_l2Flag.calls (a0_1.extract (x3_1 : Int).toNat ((wrap64 (x3_1 + 1)) : Int).toNat) true _ A7.out).mono ?_); rintro e w' ⟨rfl, ⟨nd, rfl⟩⟩; first | exact ⟨rfl, _, World.drewN_drewN _ _ _⟩ | exact ⟨rfl, _, Eq.trans (World.drewN_drewN _ _ _) (congrArg (World.drewN _) (Nat.add_assoc _ _ _))⟩ | (have p13 : 0 ≤ ((ji10) : Int) := of_decide_eq_true ad; have q13 : (ji10) < (a0_1.size : Int) := of_decide_eq_true ad; have hx13 := bt_at a0_1 (ji10); replace p13 := eq_true p13; replace q13 := eq_true q13; have p14 : 0 ≤ (x3_1 : Int) := of_decide_eq_true ad; have q14 : x3_1 < (a0_1.size : Int) := of_decide_eq_true ad; have hx14 := bt_at a0_1 x3_1; replace p14 := eq_true p14; replace q14 := eq_true q14)))
            repeat (go_quiet (first | (go_at_call 90; (with_reducible refine (spec_l2Flag.calls (a0_1.extract (x3_1 : Int).toNat ((wrap64 (x3_1 + 1)) : Int).toNat) true _ A7.out).mono ?_); rintro e w' ⟨rfl, ⟨nd, rfl⟩⟩; first | exact ⟨rfl, _, World.drewN_drewN _ _ _⟩ | exact ⟨rfl, _, Eq.trans (World.drewN_drewN _ _ _) (congrArg (World.drewN _) (Nat.add_assoc _ _ _))⟩ | (have p13 : 0 ≤ ((ji10) : Int) := of_decide_eq_true ad; have q13 : (ji10) < (a0_1.size : Int) := of_decide_eq_true ad; have hx13 := bt_at a0_1 (ji10); replace p13 := eq_true p13; replace q13 := eq_true q13; have p14 : 0 ≤ (x3_1 : Int) := of_decide_eq_true ad; have q14 : x3_1 < (a0_1.size : Int) := of_decide_eq_true ad; have hx14 := bt_at a0_1 x3_1; replace p14 := eq_true p14; replace q14 := eq_true q14))); try go_wp2_with (first | (go_at_call 90; (with_reducible refine (spec_l2Flag.calls (a0_1.extract (x3_1 : Int).toNat ((wrap64 (x3_1 + 1)) : Int).toNat) true _ A7.out).mono ?_); rintro e w' ⟨rfl, ⟨nd, rfl⟩⟩; first | exact ⟨rfl, _, World.drewN_drewN _ _ _⟩ | exact ⟨rfl, _, Eq.trans (World.drewN_drewN _ _ _) (congrArg (World.drewN _) (Nat.add_assoc _ _ _))⟩ | (have p13 : 0 ≤ ((ji10) : Int) := of_decide_eq_true ad; have q13 : (ji10) < (a0_1.size : Int) := of_decide_eq_true ad; have hx13 := bt_at a0_1 (ji10); replace p13 := eq_true p13; replace q13 := eq_true q13; have p14 : 0 ≤ (x3_1 : Int) := of_decide_eq_true ad; have q14 : x3_1 < (a0_1.size : Int) := of_decide_eq_true ad; have hx14 := bt_at a0_1 x3_1; replace p14 := eq_true p14; replace q14 := eq_true q14))))
            go_ret
            exact ⟨by first | rfl | (simp [errW_none, errW_some] <;> rfl) | (simp only [← hji10]; first | rfl | (simp [errW_none, errW_some] <;> rfl)) | (simp [*, errW_none, errW_some] <;> rfl), bel1 GE210.out⟩
           ·rw [if_neg c15] at H; have c15b0 := decide_eq_false c15; clear c15
            have H' := am H
            clear H; have hcz17_0 := bc BK210.out 0; have hcz17_1 := bc BK210.out 1; have hfz17_0 := bf BK210.out 0; have hfz17_1 := bf BK210.out 1
            try have p13 : 0 ≤ ((ji10) : Int) := of_decide_eq_true ad
            try have q13 : (ji10) < (a0_1.size : Int) := of_decide_eq_true ad
            try have hx13 := bt_at a0_1 (ji10)
            try replace p13 := eq_true p13
            try replace q13 := eq_true q13
            try have p14 : 0 ≤ (x3_1 : Int) := of_decide_eq_true ad
            try have q14 : x3_1 < (a0_1.size : Int) := of_decide_eq_true ad
            try have hx14 := bt_at a0_1 x3_1
            try replace p14 := eq_true p14
            try replace q14 := eq_true q14
            go_wp2_with (first | (go_at_call 90; (with_reducible refine (spec_l2Flag.calls (a0_1.extract (x3_1 : Int).toNat ((wrap64 (x3_1 + 1)) : Int).toNat) true _ A7.out).mono ?_); rintro e w' ⟨rfl, ⟨nd, rfl⟩⟩; first | exact ⟨rfl, _, World.drewN_drewN _ _ _⟩ | exact ⟨rfl, _, Eq.trans (World.drewN_drewN _ _ _) (congrArg (World.drewN _) (Nat.add_assoc _ _ _))⟩ | (have p13 : 0 ≤ ((ji10) : Int) := of_decide_eq_true ad; have q13 : (ji10) < (a0_1.size : Int) := of_decide_eq_true ad; have hx13 := bt_at a0_1 (ji10); replace p13 := eq_true p13; replace q13 := eq_true q13; have p14 : 0 ≤ (x3_1 : Int) := of_decide_eq_true ad; have q14 : x3_1 < (a0_1.size : Int) := of_decide_eq_true ad; have hx14 := bt_at a0_1 x3_1; replace p14 := eq_true p14; replace q14 := eq_true q14)))
            repeat (go_quiet (first | (go_at_call 90; (with_reducible refine (spec_l2Flag.calls (a0_1.extract (x3_1 : Int).toNat ((wrap64 (x3_1 + 1)) : Int).toNat) true _ A7.out).mono ?_); rintro e w' ⟨rfl, ⟨nd, rfl⟩⟩; first | exact ⟨rfl, _, World.drewN_drewN _ _ _⟩ | exact ⟨rfl, _, Eq.trans (World.drewN_drewN _ _ _) (congrArg (World.drewN _) (Nat.add_assoc _ _ _))⟩ | (have p13 : 0 ≤ ((ji10) : Int) := of_decide_eq_true ad; have q13 : (ji10) < (a0_1.size : Int) := of_decide_eq_true ad; have hx13 := bt_at a0_1 (ji10); replace p13 := eq_true p13; replace q13 := eq_true q13; have p14 : 0 ≤ (x3_1 : Int) := of_decide_eq_true ad; have q14 : x3_1 < (a0_1.size : Int) := of_decide_eq_true ad; have hx14 := bt_at a0_1 x3_1; replace p14 := eq_true p14; replace q14 := eq_true q14))); try go_wp2_with (first | (go_at_call 90; (with_reducible refine (spec_l2Flag.calls (a0_1.extract (x3_1 : Int).toNat ((wrap64 (x3_1 + 1)) : Int).toNat) true _ A7.out).mono ?_); rintro e w' ⟨rfl, ⟨nd, rfl⟩⟩; first | exact ⟨rfl, _, World.drewN_drewN _ _ _⟩ | exact ⟨rfl, _, Eq.trans (World.drewN_drewN _ _ _) (congrArg (World.drewN _) (Nat.add_assoc _ _ _))⟩ | (have p13 : 0 ≤ ((ji10) : Int) := of_decide_eq_true ad; have q13 : (ji10) < (a0_1.size : Int) := of_decide_eq_true ad; have hx13 := bt_at a0_1 (ji10); replace p13 := eq_true p13; replace q13 := eq_true q13; have p14 : 0 ≤ (x3_1 : Int) := of_decide_eq_true ad; have q14 : x3_1 < (a0_1.size : Int) := of_decide_eq_true ad; have hx14 := bt_at a0_1 x3_1; replace p14 := eq_true p14; replace q14 := eq_true q14))))
            go_roundg k1
            case measure => have := HK1.out; omega
            case rel => exact ⟨(wrap64 (x3_1 + 1)), sq, H', ⟨b62_⟩, ⟨bq BK210.out⟩, ⟨bel1 GE210.out⟩⟩
          ·rw [if_neg c12] at H
           exact absurd H (by simp)
         ·rw [if_neg c11] at H
          exact absurd H (by simp)
        ·rw [if_neg c9] at H; have c9b0 := decide_eq_false c9; clear c9
         have H' := am H
         clear H; have hcz18_0 := bc BK210.out 0; have hcz18_1 := bc BK210.out 1; have hfz18_0 := bf BK210.out 0; have hfz18_1 := bf BK210.out 1
         go_wp2_with (first | (go_at_call 90; (with_reducible refine (spec_l2Flag.calls (a0_1.extract (x3_1 : Int).toNat ((wrap64 (x3_1 + 1)) : Int).toNat) true _ A7.out).mono ?_); rintro e w' ⟨rfl, ⟨nd, rfl⟩⟩; (try first | exact ⟨rfl, _, World.drewN_drewN _ _ _⟩ | exact ⟨rfl, _, Eq.trans (World.drewN_drewN _ _ _) (congrArg (World.drewN _) (Nat.add_assoc _ _ _))⟩)))
         repeat (go_quiet (first | (go_at_call 90; (with_reducible refine (spec_l2Flag.calls (a0_1.extract (x3_1 : Int).toNat ((wrap64 (x3_1 + 1)) : Int).toNat) true _ A7.out).mono ?_); rintro e w' ⟨rfl, ⟨nd, rfl⟩⟩; (try first | exact ⟨rfl, _, World.drewN_drewN _ _ _⟩ | exact ⟨rfl, _, Eq.trans (World.drewN_drewN _ _ _) (congrArg (World.drewN _) (Nat.add_assoc _ _ _))⟩))); try go_wp2_with (first | (go_at_call 90; (with_reducible refine (spec_l2Flag.calls (a0_1.extract (x3_1 : Int).toNat ((wrap64 (x3_1 + 1)) : Int).toNat) true _ A7.out).mono ?_); rintro e w' ⟨rfl, ⟨nd, rfl⟩⟩; (try first | exact ⟨rfl, _, World.drewN_drewN _ _ _⟩ | exact ⟨rfl, _, Eq.trans (World.drewN_drewN _ _ _) (congrArg (World.drewN _) (Nat.add_assoc _ _ _))⟩))))
         go_roundg k1
         case measure => have := HK1.out; omega
         case rel => exact ⟨(wrap64 (x3_1 + 1)), sq, H', ⟨b62_⟩, ⟨bq BK210.out⟩, ⟨bel1 GE210.out⟩⟩
       ·replace c8 := Bool.eq_false_iff.mpr c8; subst c8
        have H1 : (some false) = some r := b19_
        replace H := H1; clear H1
        obtain rfl := Option.some.inj H; have hcz19_0 := bc BK210.out 0; have hcz19_1 := bc BK210.out 1; have hfz19_0 := bf BK210.out 0; have hfz19_1 := bf BK210.out 1
        go_wp2_with (first | (go_at_call 90; (with_reducible refine (spec_l2Flag.calls (a0_1.extract (x3_1 : Int).toNat ((wrap64 (x3_1 + 1)) : Int).toNat) false _ A7.out).mono ?_); rintro e w' ⟨rfl, ⟨nd, rfl⟩⟩; (try first | exact ⟨rfl, _, World.drewN_drewN _ _ _⟩ | exact ⟨rfl, _, Eq.trans (World.drewN_drewN _ _ _) (congrArg (World.drewN _) (Nat.add_assoc _ _ _))⟩)))
        repeat (go_quiet (first | (go_at_call 90; (with_reducible refine (spec_l2Flag.calls (a0_1.extract (x3_1 : Int).toNat ((wrap64 (x3_1 + 1)) : Int).toNat) false _ A7.out).mono ?_); rintro e w' ⟨rfl, ⟨nd, rfl⟩⟩; (try first | exact ⟨rfl, _, World.drewN_drewN _ _ _⟩ | exact ⟨rfl, _, Eq.trans (World.drewN_drewN _ _ _) (congrArg (World.drewN _) (Nat.add_assoc _ _ _))⟩))); try go_wp2_with (first | (go_at_call 90; (with_reducible refine (spec_l2Flag.calls (a0_1.extract (x3_1 : Int).toNat ((wrap64 (x3_1 + 1)) : Int).toNat) false _ A7.out).mono ?_); rintro e w' ⟨rfl, ⟨nd, rfl⟩⟩; (try first | exact ⟨rfl, _, World.drewN_drewN _ _ _⟩ | exact ⟨rfl, _, Eq.trans (World.drewN_drewN _ _ _) (congrArg (World.drewN _) (Nat.add_assoc _ _ _))⟩))))
        go_ret
        exact ⟨eq_, bel1 GE210.out⟩
      ·rw [if_neg c6] at H
       exact absurd H (by simp)
     ·rw [if_neg c5] at H
      exact absurd H (by simp)
    ·rw [if_neg c4] at H
     exact absurd H (by simp)
   ·rw [if_neg c3] at H; have c3b0 := decide_eq_false c3; clear c3; replace H := Option.bind_eq_some_iff.mp H; obtain ⟨t212, A200, H⟩ := H; replace H : (if t212 = true then (some (decide ((a0_1.size : Int) ≤ 4))) else (some false)) = some r := H; have A20 := Aside0.mk A200; clear A200
    by_cases c21 : t212 = true
    ·subst c21
     have H1 : (some (decide ((a0_1.size : Int) ≤ 4))) = some r := b34_
     replace H := H1; clear H1
     obtain rfl := Option.some.inj H; have hcz22_0 := bc BK210.out 0; have hcz22_1 := bc BK210.out 1; have hfz22_0 := bf BK210.out 0; have hfz22_1 := bf BK210.out 1
     go_wp2_with (first | (go_at_call 84; (with_reducible refine (spec_l1Word.calls k1 a0_0 true _ A20.out).mono ?_); rintro e w' ⟨rfl, ⟨nd, rfl⟩⟩; (try first | exact ⟨rfl, _, World.drewN_drewN _ _ _⟩ | exact ⟨rfl, _, Eq.trans (World.drewN_drewN _ _ _) (congrArg (World.drewN _) (Nat.add_assoc _ _ _))⟩)))
     repeat (go_quiet (first | (go_at_call 84; (with_reducible refine (spec_l1Word.calls k1 a0_0 true _ A20.out).mono ?_); rintro e w' ⟨rfl, ⟨nd, rfl⟩⟩; (try first | exact ⟨rfl, _, World.drewN_drewN _ _ _⟩ | exact ⟨rfl, _, Eq.trans (World.drewN_drewN _ _ _) (congrArg (World.drewN _) (Nat.add_assoc _ _ _))⟩))); try go_wp2_with (first | (go_at_call 84; (with_reducible refine (spec_l1Word.calls k1 a0_0 true _ A20.out).mono ?_); rintro e w' ⟨rfl, ⟨nd, rfl⟩⟩; (try first | exact ⟨rfl, _, World.drewN_drewN _ _ _⟩ | exact ⟨rfl, _, Eq.trans (World.drewN_drewN _ _ _) (congrArg (World.drewN _) (Nat.add_assoc _ _ _))⟩))))
     go_ret
     exact ⟨eq_, bel1 GE210.out⟩
    ·replace c21 := Bool.eq_false_iff.mpr c21; subst c21
     have H1 : (some false) = some r := b19_
     replace H := H1; clear H1
     obtain rfl := Option.some.inj H; have hcz23_0 := bc BK210.out 0; have hcz23_1 := bc BK210.out 1; have hfz23_0 := bf BK210.out 0; have hfz23_1 := bf BK210.out 1
     go_wp2_with (first | (go_at_call 84; (with_reducible refine (spec_l1Word.calls k1 a0_0 false _ A20.out).mono ?_); rintro e w' ⟨rfl, ⟨nd, rfl⟩⟩; (try first | exact ⟨rfl, _, World.drewN_drewN _ _ _⟩ | exact ⟨rfl, _, Eq.trans (World.drewN_drewN _ _ _) (congrArg (World.drewN _) (Nat.add_assoc _ _ _))⟩)))
     repeat (go_quiet (first | (go_at_call 84; (with_reducible refine (spec_l1Word.calls k1 a0_0 false _ A20.out).mono ?_); rintro e w' ⟨rfl, ⟨nd, rfl⟩⟩; (try first | exact ⟨rfl, _, World.drewN_drewN _ _ _⟩ | exact ⟨rfl, _, Eq.trans (World.drewN_drewN _ _ _) (congrArg (World.drewN _) (Nat.add_assoc _ _ _))⟩))); try go_wp2_with (first | (go_at_call 84; (with_reducible refine (spec_l1Word.calls k1 a0_0 false _ A20.out).mono ?_); rintro e w' ⟨rfl, ⟨nd, rfl⟩⟩; (try first | exact ⟨rfl, _, World.drewN_drewN _ _ _⟩ | exact ⟨rfl, _, Eq.trans (World.drewN_drewN _ _ _) (congrArg (World.drewN _) (Nat.add_assoc _ _ _))⟩))))
     go_ret
     exact ⟨eq_, bel1 GE210.out⟩

end Go.Proofs.Ytedfcehhgbeibaa.QFnBookKnows
