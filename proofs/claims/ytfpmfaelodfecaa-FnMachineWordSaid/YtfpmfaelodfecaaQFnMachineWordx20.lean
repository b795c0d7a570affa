import Derived.Test.YtfpmfaelodfecaaQFnMachineWordx0
import Derived.Test.YtfpmfaelodfecaaQFnMachineWordx18
import Derived.Test.YtfpmfaelodfecaaQFnMachineWordx19
import Derived.Test.YtfpmfaelodfecaaVMSh2
namespace Go.Proofs.Ytfpmfaelodfecaa.QFnMachineWord
open Go.RowKit Go.Proofs.YtfpmfaelodfecaaW.PrintWords Go.Proofs.YtfpmfaelodfecaaW.PrintLast Go.Proofs.YtfpmfaelodfecaaW.PrintMore Go.Proofs.Ytfpmfaelodfecaa.Sh
attribute [local go_sem] max2_int min2_int max_two min_two max_three min_three max_four min_four   -- for this text's walks alone
set_option linter.unusedVariables false
set_option linter.unusedSimpArgs false
-- shrunk

/-! ### spec_MachineOk: function 34 -/
mutual
def spec_MachineOk.l0 : Nat → List (S94) → Int → Option (Bool)
 | 0, _, _ => none
 | k + 1, x0, x3 => if x3 < (x0.length : Int) then (spec_MachineOk.l1 k x0 x3 0) else ((spec_l1In.f (x0.length : Int) 1 400).bind fun t519 => (if t519 = true then ((spec_l3Deep.f k x0).bind fun t520 => (some (decide (t520 ≤ 12)))) else (some false)))
def spec_MachineOk.l1 : Nat → List (S94) → Int → Int → Option (Bool)
 | 0, _, _, _ => none
 | k + 1, x0, x3, x4 => if 0 ≤ x3 then (if x3 < (x0.length : Int) then (if x4 < (((rd_T94 x0 x3).f1).length : Int) then (if 0 ≤ x4 then ((spec_l1In.f ((rd_T100 ((rd_T94 x0 x3).f1) x4).f0) 97 122).bind fun t527 => (if t527 = true then ((spec_l1In.f ((rd_T100 ((rd_T94 x0 x3).f1) x4).f1) (wrap64 (x3 + 1)) (wrap64 ((x0.length : Int) - 1))).bind fun t528 => (if t528 = true then (if x4 > 0 then (if 0 ≤ (wrap64 (x4 - 1)) then (if (wrap64 (x4 - 1)) < (((rd_T94 x0 x3).f1).length : Int) then (if ((rd_T100 ((rd_T94 x0 x3).f1) (wrap64 (x4 - 1))).f0) ≥ ((rd_T100 ((rd_T94 x0 x3).f1) x4).f0) then (some false) else (spec_MachineOk.l1 k x0 x3 (wrap64 (x4 + 1)))) else (none)) else (none)) else (spec_MachineOk.l1 k x0 x3 (wrap64 (x4 + 1)))) else (some false))) else (some false))) else (none)) else (if x3 > 0 then (if ((rd_T94 x0 x3).f0 = true) then (spec_MachineOk.l0 k x0 (wrap64 (x3 + 1))) else (if (((rd_T94 x0 x3).f1).length : Int) = 0 then (some false) else (spec_MachineOk.l0 k x0 (wrap64 (x3 + 1))))) else (spec_MachineOk.l0 k x0 (wrap64 (x3 + 1))))) else (none)) else (none)
end
def spec_MachineOk.f (k : Nat) (l0 : List (S94)) : Option (Bool) := spec_MachineOk.l0 k l0 0
def spec_MachineOk.T8 : Bool × List (List Nat × List Nat) := (true, [([], []), ([0], [0]), ([1], [1]), ([2], [2]), ([3, 2], [3]), ([4], [4]), ([5, 4], [4, 5]), ([4], [4]), ([7, 4], [4, 7]), ([4], [4]), ([9, 4], [4, 9]), ([10, 4], [4, 10]), ([6, 8, 11, 4, 4], [4, 6, 8, 11]), ([12, 4], [4, 12]), ([4, 13], [4, 13]), ([14, 12], [14]), ([15], [15]), ([16, 15], [15, 16]), ([17, 15, 15], [15, 17]), ([18], [18]), ([18], [18]), ([19, 20, 18], [18, 19, 20]), ([21, 18], [18, 21]), ([22, 18], [18, 22]), ([18], [18]), ([24, 18], [18, 24]), ([23, 25, 18], [18, 23, 25]), ([26, 18], [18, 26]), ([27, 18], [18, 27]), ([18], [18]), ([29, 18], [18, 29]), ([28, 30, 18], [18, 28, 30]), ([18, 31, 15], [15, 18, 31]), ([15, 32], [15, 32])])
def spec_MachineOk.B8 : List Nat := [0, 1, 3, 7, 15, 31, 63, 31, 159, 31, 543, 1567, 4095, 8191, 16383, 32767, 65535, 131071, 262143, 524287, 524287, 2097151, 4194303, 8388607, 524287, 17301503, 67108863, 134217727, 268435455, 524287, 537395199, 2147483647, 4294967295, 8589934591]
theorem spec_MachineOk.tab8 : rtab .any (opsOf Try.f34 8) = spec_MachineOk.T8 := by kernel_rfl
theorem spec_MachineOk.bits8 : waitsOk spec_MachineOk.T8.2 spec_MachineOk.B8 = true := by kernel_rfl
set_option maxHeartbeats 8000000 in
set_option maxRecDepth 100000 in
theorem spec_MachineOk.calls (k : Nat) (A0 : Option Addr) (c0 : Nat) (l0 : List (S94)) (r : Bool) (w : World) (hr0 : Kd.C k94 w A0 l0.length l0) (hc0 : l0.length ≤ c0) (h : spec_MachineOk.f k l0 = some r) :
  Calls Try.prog 34 #[.slice A0 l0.length c0] w fun e w' => e = .returned (.bool r) ∧ Below w.heap.size w w' := by
 have hu100 := Try.underlying100; have HR0 := am hr0; have HC0 := am hc0; clear hr0 hc0; have HB := am (Below.refl w.heap.size w)
 have H : (spec_MachineOk.l0 k l0 0) = some r := h
 clear h
 have H' := am H
 clear H; go_enter Try.func34, Try.ntmps34; go_wp2
 go_loopg [3] k (fun kq v3 w' => ∃ (x3_1 : Int), v3 = .int .i64 x3_1 ∧ Aside0 (spec_MachineOk.l0 kq l0 x3_1 = some r) ∧ Aside0 (kq ≤ k) ∧ Aside0 (Below w.heap.size w w'))
 case atStart => exact ⟨(0), sq, H', ⟨Nat.le_refl _⟩, ⟨bel⟩⟩
 case round =>
  clear H'; obtain ⟨x3_1, rfl, HA, HK1, HB⟩ := hrel
  cases gk with
  | zero => exact absurd HA.out (by simp [spec_MachineOk.l0])
  | succ k1 =>
   have H := HA.out; clear HA
   simp only [spec_MachineOk.l0] at H
   by_cases c2 : x3_1 < (l0.length : Int)
   ·rw [if_pos c2] at H; have c2b0 := decide_eq_true c2; clear c2
    have H' := am H
    clear H; go_wp2
    go_loopg [4] k1 (fun kq v4 w' => ∃ (x4_2 : Int), v4 = .int .i64 x4_2 ∧ Aside0 (spec_MachineOk.l1 kq l0 x3_1 x4_2 = some r) ∧ Aside0 (kq ≤ k1) ∧ Aside0 (Below w.heap.size w w'))
    case atStart => exact ⟨(0), sq, H', ⟨Nat.le_refl _⟩, ⟨bel⟩⟩
    case round =>
     clear H'; (try clear c2); (try clear c2b0); (try clear p2); obtain ⟨x4_2, rfl, HA, HK2, HB⟩ := hrel
     cases gk with
     | zero => exact absurd HA.out (by simp [spec_MachineOk.l1])
     | succ k2 =>
      have H := HA.out; clear HA
      simp only [spec_MachineOk.l1] at H
      by_cases c3 : 0 ≤ x3_1
      ·rw [if_pos c3] at H; have c3b0 := decide_eq_true c3; clear c3
       by_cases c4 : x3_1 < (l0.length : Int)
       ·rw [if_pos c4] at H; have c4b0 := decide_eq_true c4; clear c4
        by_cases c5 : x4_2 < (((rd_T94 l0 x3_1).f1).length : Int)
        ·rw [if_pos c5] at H; have c5b0 := decide_eq_true c5; clear c5
         by_cases c6 : 0 ≤ x4_2
         ·rw [if_pos c6] at H; have c6b0 := decide_eq_true c6; clear c6; replace H := Option.bind_eq_some_iff.mp H; obtain ⟨t527, A70, H⟩ := H; replace H : (if t527 = true then ((spec_l1In.f ((rd_T100 ((rd_T94 l0 x3_1).f1) x4_2).f1) (wrap64 (x3_1 + 1)) (wrap64 ((l0.length : Int) - 1))).bind fun t528 => (if t528 = true then (if x4_2 > 0 then (if 0 ≤ (wrap64 (x4_2 - 1)) then (if (wrap64 (x4_2 - 1)) < (((rd_T94 l0 x3_1).f1).length : Int) then (if ((rd_T100 ((rd_T94 l0 x3_1).f1) (wrap64 (x4_2 - 1))).f0) ≥ ((rd_T100 ((rd_T94 l0 x3_1).f1) x4_2).f0) then (some false) else (spec_MachineOk.l1 k2 l0 x3_1 (wrap64 (x4_2 + 1)))) else (none)) else (none)) else (spec_MachineOk.l1 k2 l0 x3_1 (wrap64 (x4_2 + 1)))) else (some false))) else (some false)) = some r := H; have A7 := Aside0.mk A70; clear A70
          by_cases c8 : t527 = true
          ·subst c8
           have H1 : ((spec_l1In.f ((rd_T100 ((rd_T94 l0 x3_1).f1) x4_2).f1) (wrap64 (x3_1 + 1)) (wrap64 ((l0.length : Int) - 1))).bind fun t528 => (if t528 = true then (if x4_2 > 0 then (if 0 ≤ (wrap64 (x4_2 - 1)) then (if (wrap64 (x4_2 - 1)) < (((rd_T94 l0 x3_1).f1).length : Int) then (if ((rd_T100 ((rd_T94 l0 x3_1).f1) (wrap64 (x4_2 - 1))).f0) ≥ ((rd_T100 ((rd_T94 l0 x3_1).f1) x4_2).f0) then (some false) else (spec_MachineOk.l1 k2 l0 x3_1 (wrap64 (x4_2 + 1)))) else (none)) else (none)) else (spec_MachineOk.l1 k2 l0 x3_1 (wrap64 (x4_2 + 1)))) else (some false))) = some r := b20_
           replace H := H1; clear H1
           replace H := Option.bind_eq_some_iff.mp H; obtain ⟨t528, A90, H⟩ := H; replace H : (if t528 = true then (if x4_2 > 0 then (if 0 ≤ (wrap64 (x4_2 - 1)) then (if (wrap64 (x4_2 - 1)) < (((rd_T94 l0 x3_1).f1).length : Int) then (if ((rd_T100 ((rd_T94 l0 x3_1).f1) (wrap64 (x4_2 - 1))).f0) ≥ ((rd_T100 ((rd_T94 l0 x3_1).f1) x4_2).f0) then (some false) else (spec_MachineOk.l1 k2 l0 x3_1 (wrap64 (x4_2 + 1)))) else (none)) else (none)) else (spec_MachineOk.l1 k2 l0 x3_1 (wrap64 (x4_2 + 1)))) else (some false)) = some r := H; have A9 := Aside0.mk A90; clear A90
           by_cases c10 : t528 = true
           ·subst c10
            have H1 : (if x4_2 > 0 then (if 0 ≤ (wrap64 (x4_2 - 1)) then (if (wrap64 (x4_2 - 1)) < (((rd_T94 l0 x3_1).f1).length : Int) then (if ((rd_T100 ((rd_T94 l0 x3_1).f1) (wrap64 (x4_2 - 1))).f0) ≥ ((rd_T100 ((rd_T94 l0 x3_1).f1) x4_2).f0) then (some false) else (spec_MachineOk.l1 k2 l0 x3_1 (wrap64 (x4_2 + 1)))) else (none)) else (none)) else (spec_MachineOk.l1 k2 l0 x3_1 (wrap64 (x4_2 + 1)))) = some r := b20_
            replace H := H1; clear H1
            by_cases c11 : x4_2 > 0
            ·rw [if_pos c11] at H; have c11b0 := decide_eq_true c11; clear c11; obtain ⟨ji12, hji12⟩ : ∃ j_ : Int, (wrap64 (x4_2 - 1)) = j_ := ⟨_, rfl⟩
             replace H : (if 0 ≤ (ji12) then (if (ji12) < (((rd_T94 l0 x3_1).f1).length : Int) then (if ((rd_T100 ((rd_T94 l0 x3_1).f1) (ji12)).f0) ≥ ((rd_T100 ((rd_T94 l0 x3_1).f1) x4_2).f0) then (some false) else (spec_MachineOk.l1 k2 l0 x3_1 (wrap64 (x4_2 + 1)))) else (none)) else (none)) = some r := by first | (rw [hji12] at H; exact H) | (simp only [hji12] at H ⊢; exact H)
             (try rw [hji12] at A7)
             (try rw [hji12] at A9)
             have hji12w : (IntKind.i64.wrap (x4_2 - 1)) = ji12 := (i64_w _).trans hji12
             by_cases c13 : 0 ≤ (ji12)
             ·rw [if_pos c13] at H; have c13b0 := decide_eq_true c13; clear c13
              by_cases c14 : (ji12) < (((rd_T94 l0 x3_1).f1).length : Int)
              ·rw [if_pos c14] at H; have c14b0 := decide_eq_true c14; clear c14
               by_cases c15 : ((rd_T100 ((rd_T94 l0 x3_1).f1) (ji12)).f0) ≥ ((rd_T100 ((rd_T94 l0 x3_1).f1) x4_2).f0)
               ·rw [if_pos c15] at H; have c15b0 := decide_eq_true c15; clear c15; obtain rfl := Option.some.inj H
                have p521 : 0 ≤ (x3_1 : Int) := of_decide_eq_true ad
                have q521 : x3_1 < (l0.length : Int) := of_decide_eq_true ad
                obtain ⟨ad521, A521_1, c521_1, e521, hx521_0, hx521_1, hl521_1, hi521_1⟩ := at_T94 HR0.out x3_1 p521 q521
                cases e521
                replace hx521_0 := kp HB.out hx521_0; replace hx521_1 := kp HB.out hx521_1; have HR521_1 := am hi521_1; have HC521_1 := am hl521_1; clear hi521_1 hl521_1; replace p521 := eq_true p521; replace q521 := eq_true q521
                have p524 : 0 ≤ (x3_1 : Int) := of_decide_eq_true ad
                have q524 : x3_1 < (l0.length : Int) := of_decide_eq_true ad
                obtain ⟨ad524, A524_1, c524_1, e524, hx524_0, hx524_1, hl524_1, hi524_1⟩ := at_T94 HR0.out x3_1 p524 q524
                obtain rfl : ad521 = ad524 := (by injection e524)
                replace hx524_0 := kp HB.out hx524_0; replace hx524_1 := kp HB.out hx524_1; have HR524_1 := am hi524_1; have HC524_1 := am hl524_1; clear hi524_1 hl524_1; replace p524 := eq_true p524; replace q524 := eq_true q524; have ea_ := Option.some.inj (hx521_1.symm.trans hx524_1)
                injection ea_ with ea_ en_ ec_
                subst ea_; subst ec_; clear en_
                have p525 : 0 ≤ (x4_2 : Int) := of_decide_eq_true ad
                have q525 : x4_2 < (((rd_T94 l0 x3_1).f1).length : Int) := of_decide_eq_true ad
                obtain ⟨ad525, e525, hx525_0, hx525_1⟩ := at_T100 HR524_1.out x4_2 p525 q525
                cases e525
                replace hx525_0 := kp HB.out hx525_0; replace hx525_1 := kp HB.out hx525_1; replace p525 := eq_true p525; replace q525 := eq_true q525
                try go_wp2_with (first | ((with_reducible refine gate_dst (N := 5) rfl ?_); (try (refine gate_guard (by rfl) ?_; dsimp only)); refine bx 5 (cs := #[.int .i64 0, .int .i64 0]) (t := 100) ?_; intro gb526 hg w16 hbox hb; have BK526 := am (hbox); have GW526 := am ((b13_ : w.heap.size ≤ gb526)); have GE526 := am ((b13_ : w.heap.size ≤ gb526)); replace HB := am (below_step bel hb); clear hb hbox hg; have hcz17_0 := bc BK526.out 0; have hcz17_1 := bc BK526.out 1; have hfz17_0 := bf BK526.out 0; have hfz17_1 := bf BK526.out 1))
                have n0_ : Aside0 (((w16.setCell ⟨gb526, 0, none⟩ (.int .i64 ((rd_T100 ((rd_T94 l0 x3_1).f1) x4_2).f0))).setCell ⟨gb526, 1, none⟩ (.int .i64 ((rd_T100 ((rd_T94 l0 x3_1).f1) x4_2).f1))).heap[gb526]? = some (.cells #[.int .i64 ((rd_T100 ((rd_T94 l0 x3_1).f1) x4_2).f0), .int .i64 ((rd_T100 ((rd_T94 l0 x3_1).f1) x4_2).f1)] 100 (0, 0))) := ⟨b9_⟩
                have n1_ : Aside0 (Below w.heap.size w ((w16.setCell ⟨gb526, 0, none⟩ (.int .i64 ((rd_T100 ((rd_T94 l0 x3_1).f1) x4_2).f0))).setCell ⟨gb526, 1, none⟩ (.int .i64 ((rd_T100 ((rd_T94 l0 x3_1).f1) x4_2).f1)))) := ⟨bel1 GE526.out⟩
                (try clear BK526)
                (try clear HB)
                generalize ((w16.setCell ⟨gb526, 0, none⟩ (.int .i64 ((rd_T100 ((rd_T94 l0 x3_1).f1) x4_2).f0))).setCell ⟨gb526, 1, none⟩ (.int .i64 ((rd_T100 ((rd_T94 l0 x3_1).f1) x4_2).f1))) = w18 at n0_ n1_ ⊢
                have BK526 := n0_; have HB := n1_; clear n0_ n1_; replace BK526 := am (blk_drew BK526.out); replace HB := am (below_drew1 HB.out)
                have p529 : 0 ≤ (x3_1 : Int) := of_decide_eq_true ad
                have q529 : x3_1 < (l0.length : Int) := of_decide_eq_true ad
                obtain ⟨ad529, A529_1, c529_1, e529, hx529_0, hx529_1, hl529_1, hi529_1⟩ := at_T94 HR0.out x3_1 p529 q529; have hw529_1 := hx529_1; have hw529_0 := hx529_0
                obtain rfl : ad521 = ad529 := (by injection e529)
                replace hx529_0 := kp HB.out hx529_0; replace hx529_1 := kp HB.out hx529_1; have HR529_1 := am hi529_1; have HC529_1 := am hl529_1; clear hi529_1 hl529_1; replace p529 := eq_true p529; replace q529 := eq_true q529
                have p530 : 0 ≤ ((ji12) : Int) := of_decide_eq_true ad
                have q530 : (ji12) < (((rd_T94 l0 x3_1).f1).length : Int) := of_decide_eq_true ad
                obtain ⟨ad530, e530, hx530_0, hx530_1⟩ := at_T100 HR529_1.out (ji12) p530 q530; have hw530_1 := hx530_1; have hw530_0 := hx530_0
                cases e530
                replace hx530_0 := kp HB.out hx530_0; replace hx530_1 := kp HB.out hx530_1; replace p530 := eq_true p530; replace q530 := eq_true q530
                refine st (n := 34) (S := fun w' => w'.cell? ⟨gb526, 0, none⟩ = some (.int .i64 ((rd_T100 ((rd_T94 l0 x3_1).f1) x4_2).f0)) ∧ w'.cell? ⟨gb526, 1, none⟩ = some (.int .i64 ((rd_T100 ((rd_T94 l0 x3_1).f1) x4_2).f1)) ∧ w'.cell? (ad521.add ((x3_1).toNat * 2)) = some (.bool ((rd_T94 l0 x3_1).f0)) ∧ w'.cell? ⟨(ad521.add ((x3_1).toNat * 2)).block, (ad521.add ((x3_1).toNat * 2)).off + 1, none⟩ = some (.slice (some ad530) ((rd_T94 l0 x3_1).f1).length c529_1) ∧ w'.cell? (ad530.add (((ji12)).toNat * 2)) = some (.int .i64 ((rd_T100 ((rd_T94 l0 x3_1).f1) (ji12)).f0)) ∧ w'.cell? ⟨(ad530.add (((ji12)).toNat * 2)).block, (ad530.add (((ji12)).toNat * 2)).off + 1, none⟩ = some (.int .i64 ((rd_T100 ((rd_T94 l0 x3_1).f1) (ji12)).f1))) (ds := []) ⟨(blk_cell BK526.out 0).trans rfl, (blk_cell BK526.out 1).trans rfl, (kp HB.out hw529_0), (kp HB.out hw529_1), (kp HB.out hw530_0), (kp HB.out hw530_1)⟩ (fun hHeld => ?_); refine with_tabW spec_MachineOk.tab8 spec_MachineOk.bits8 (fun HT_ HW_ => ?_)
                generalize w18.drew = w19 at BK526 HB HR529_1 hx529_0 hx529_1 hx530_0 hx530_1 hHeld ⊢
                refine pu 0 30 ?_
                refine tk6 1 31 hHeld ?_
                refine on1 2 32 (fun K hK => ?_)
                refine goes_ Try.func78 (by kernel_rfl) rfl #[.int .i64 ((rd_T100 ((rd_T94 l0 x3_1).f1) x4_2).f0), .int .i64 97, .int .i64 122] (by rfl) rfl rfl mq ?_
                with_reducible refine (spec_l1In.calls ((rd_T100 ((rd_T94 l0 x3_1).f1) x4_2).f0) 97 122 true _ A7.out).mono ?_
                rintro e w' ⟨rfl, ⟨nd, rfl⟩⟩
                refine ⟨_, rfl, ?_⟩
                refine hK.out _ _ ⟨(blk_cell BK526.out 0).trans rfl, (blk_cell BK526.out 1).trans rfl, (kp HB.out hw529_0), (kp HB.out hw529_1), (kp HB.out hw530_0), (kp HB.out hw530_1)⟩ (fun hHeld => ?_)
                clear hK K
                refine norm_ (a' := ?_) ?_ ?_
                rotate_left
                ·show Act.put _ (some 32) _ = _
                 simp only [Act.put, List.setIfInBounds_toArray, List.set_cons_zero, List.set_cons_succ, i64_w, i32_w]
                 rfl
                refine pu 3 33 ?_
                refine pu 4 34 ?_
                refine pu 5 35 ?_
                refine pu 7 37 ?_
                refine pu 8 38 ?_
                refine pu 9 39 ?_
                refine pu 10 40 ?_
                refine pu 11 41 ?_
                refine tk6 6 36 hHeld ?_
                refine on1 12 42 (fun K hK => ?_)
                refine goes_ Try.func78 (by kernel_rfl) rfl #[.int .i64 ((rd_T100 ((rd_T94 l0 x3_1).f1) x4_2).f1), .int .i64 (wrap64 (x3_1 + 1)), .int .i64 (wrap64 ((l0.length : Int) - 1))] (by rfl) rfl rfl mq ?_
                with_reducible refine (spec_l1In.calls ((rd_T100 ((rd_T94 l0 x3_1).f1) x4_2).f1) (wrap64 (x3_1 + 1)) (wrap64 ((l0.length : Int) - 1)) true _ A9.out).mono ?_
                rintro e w' ⟨rfl, ⟨nd, rfl⟩⟩
                refine ⟨_, rfl, ?_⟩
                refine hK.out _ _ ⟨(blk_cell BK526.out 0).trans rfl, (blk_cell BK526.out 1).trans rfl, (kp HB.out hw529_0), (kp HB.out hw529_1), (kp HB.out hw530_0), (kp HB.out hw530_1)⟩ (fun hHeld => ?_)
                clear hK K
                refine norm_ (a' := ?_) ?_ ?_
                rotate_left
                ·show Act.put _ (some 42) _ = _
                 simp only [Act.put, List.setIfInBounds_toArray, List.set_cons_zero, List.set_cons_succ, i64_w, i32_w]
                 rfl
                refine pu 13 43 ?_
                refine pu 14 44 ?_
                refine pu 15 45 ?_
                refine pu 16 46 ?_
                refine pu 17 47 ?_
                refine pu 18 48 ?_
                refine pu 19 49 ?_
                refine pu 20 50 ?_
                refine pu 21 51 ?_
                refine pu 22 52 ?_
                refine pu 24 54 ?_
                refine pu 25 55 ?_
                refine pu 29 59 ?_
                refine tk6 23 53 hHeld ?_
                refine pu 26 56 ?_
                refine pu 27 57 ?_
                refine tk6 28 58 hHeld ?_
                refine tk6 30 60 hHeld ?_
                refine pu 31 61 ?_
                refine pu 32 62 ?_
                refine pu 33 63 ?_
                refine done_ (done_of HT_.out (by kernel_rfl)) ?_
                try go_wp2
                go_ret
                exact ⟨by first | rfl | (simp [errW_none, errW_some] <;> rfl) | (simp only [← hji12]; first | rfl | (simp [errW_none, errW_some] <;> rfl)) | (simp [*, errW_none, errW_some] <;> rfl), bel1 GE526.out⟩
               ·rw [if_neg c15] at H; have c15b0 := decide_eq_false c15; clear c15
                have H' := am H
                clear H
                have p521 : 0 ≤ (x3_1 : Int) := of_decide_eq_true ad
                have q521 : x3_1 < (l0.length : Int) := of_decide_eq_true ad
                obtain ⟨ad521, A521_1, c521_1, e521, hx521_0, hx521_1, hl521_1, hi521_1⟩ := at_T94 HR0.out x3_1 p521 q521
                cases e521
                replace hx521_0 := kp HB.out hx521_0; replace hx521_1 := kp HB.out hx521_1; have HR521_1 := am hi521_1; have HC521_1 := am hl521_1; clear hi521_1 hl521_1; replace p521 := eq_true p521; replace q521 := eq_true q521
                have p524 : 0 ≤ (x3_1 : Int) := of_decide_eq_true ad
                have q524 : x3_1 < (l0.length : Int) := of_decide_eq_true ad
                obtain ⟨ad524, A524_1, c524_1, e524, hx524_0, hx524_1, hl524_1, hi524_1⟩ := at_T94 HR0.out x3_1 p524 q524
                obtain rfl : ad521 = ad524 := (by injection e524)
                replace hx524_0 := kp HB.out hx524_0; replace hx524_1 := kp HB.out hx524_1; have HR524_1 := am hi524_1; have HC524_1 := am hl524_1; clear hi524_1 hl524_1; replace p524 := eq_true p524; replace q524 := eq_true q524; have ea_ := Option.some.inj (hx521_1.symm.trans hx524_1)
                injection ea_ with ea_ en_ ec_
                subst ea_; subst ec_; clear en_
                have p525 : 0 ≤ (x4_2 : Int) := of_decide_eq_true ad
                have q525 : x4_2 < (((rd_T94 l0 x3_1).f1).length : Int) := of_decide_eq_true ad
                obtain ⟨ad525, e525, hx525_0, hx525_1⟩ := at_T100 HR524_1.out x4_2 p525 q525
                cases e525
                replace hx525_0 := kp HB.out hx525_0; replace hx525_1 := kp HB.out hx525_1; replace p525 := eq_true p525; replace q525 := eq_true q525
                try go_wp2_with (first | ((with_reducible refine gate_dst (N := 5) rfl ?_); (try (refine gate_guard (by rfl) ?_; dsimp only)); refine bx 5 (cs := #[.int .i64 0, .int .i64 0]) (t := 100) ?_; intro gb526 hg w20 hbox hb; have BK526 := am (hbox); have GW526 := am ((b13_ : w.heap.size ≤ gb526)); have GE526 := am ((b13_ : w.heap.size ≤ gb526)); replace HB := am (below_step bel hb); clear hb hbox hg; have hcz21_0 := bc BK526.out 0; have hcz21_1 := bc BK526.out 1; have hfz21_0 := bf BK526.out 0; have hfz21_1 := bf BK526.out 1))
                have n0_ : Aside0 (((w20.setCell ⟨gb526, 0, none⟩ (.int .i64 ((rd_T100 ((rd_T94 l0 x3_1).f1) x4_2).f0))).setCell ⟨gb526, 1, none⟩ (.int .i64 ((rd_T100 ((rd_T94 l0 x3_1).f1) x4_2).f1))).heap[gb526]? = some (.cells #[.int .i64 ((rd_T100 ((rd_T94 l0 x3_1).f1) x4_2).f0), .int .i64 ((rd_T100 ((rd_T94 l0 x3_1).f1) x4_2).f1)] 100 (0, 0))) := ⟨b9_⟩
                have n1_ : Aside0 (Below w.heap.size w ((w20.setCell ⟨gb526, 0, none⟩ (.int .i64 ((rd_T100 ((rd_T94 l0 x3_1).f1) x4_2).f0))).setCell ⟨gb526, 1, none⟩ (.int .i64 ((rd_T100 ((rd_T94 l0 x3_1).f1) x4_2).f1)))) := ⟨bel1 GE526.out⟩
                (try clear BK526)
                (try clear HB)
                generalize ((w20.setCell ⟨gb526, 0, none⟩ (.int .i64 ((rd_T100 ((rd_T94 l0 x3_1).f1) x4_2).f0))).setCell ⟨gb526, 1, none⟩ (.int .i64 ((rd_T100 ((rd_T94 l0 x3_1).f1) x4_2).f1))) = w22 at n0_ n1_ ⊢
                have BK526 := n0_; have HB := n1_; clear n0_ n1_; replace BK526 := am (blk_drew BK526.out); replace HB := am (below_drew1 HB.out)
                have p529 : 0 ≤ (x3_1 : Int) := of_decide_eq_true ad
                have q529 : x3_1 < (l0.length : Int) := of_decide_eq_true ad
                obtain ⟨ad529, A529_1, c529_1, e529, hx529_0, hx529_1, hl529_1, hi529_1⟩ := at_T94 HR0.out x3_1 p529 q529; have hw529_1 := hx529_1; have hw529_0 := hx529_0
                obtain rfl : ad521 = ad529 := (by injection e529)
                replace hx529_0 := kp HB.out hx529_0; replace hx529_1 := kp HB.out hx529_1; have HR529_1 := am hi529_1; have HC529_1 := am hl529_1; clear hi529_1 hl529_1; replace p529 := eq_true p529; replace q529 := eq_true q529
                have p530 : 0 ≤ ((ji12) : Int) := of_decide_eq_true ad
                have q530 : (ji12) < (((rd_T94 l0 x3_1).f1).length : Int) := of_decide_eq_true ad
                obtain ⟨ad530, e530, hx530_0, hx530_1⟩ := at_T100 HR529_1.out (ji12) p530 q530; have hw530_1 := hx530_1; have hw530_0 := hx530_0
                cases e530
                replace hx530_0 := kp HB.out hx530_0; replace hx530_1 := kp HB.out hx530_1; replace p530 := eq_true p530; replace q530 := eq_true q530
                refine st (n := 34) (S := fun w' => w'.cell? ⟨gb526, 0, none⟩ = some (.int .i64 ((rd_T100 ((rd_T94 l0 x3_1).f1) x4_2).f0)) ∧ w'.cell? ⟨gb526, 1, none⟩ = some (.int .i64 ((rd_T100 ((rd_T94 l0 x3_1).f1) x4_2).f1)) ∧ w'.cell? (ad521.add ((x3_1).toNat * 2)) = some (.bool ((rd_T94 l0 x3_1).f0)) ∧ w'.cell? ⟨(ad521.add ((x3_1).toNat * 2)).block, (ad521.add ((x3_1).toNat * 2)).off + 1, none⟩ = some (.slice (some ad530) ((rd_T94 l0 x3_1).f1).length c529_1) ∧ w'.cell? (ad530.add (((ji12)).toNat * 2)) = some (.int .i64 ((rd_T100 ((rd_T94 l0 x3_1).f1) (ji12)).f0)) ∧ w'.cell? ⟨(ad530.add (((ji12)).toNat * 2)).block, (ad530.add (((ji12)).toNat * 2)).off + 1, none⟩ = some (.int .i64 ((rd_T100 ((rd_T94 l0 x3_1).f1) (ji12)).f1))) (ds := []) ⟨(blk_cell BK526.out 0).trans rfl, (blk_cell BK526.out 1).trans rfl, (kp HB.out hw529_0), (kp HB.out hw529_1), (kp HB.out hw530_0), (kp HB.out hw530_1)⟩ (fun hHeld => ?_); refine with_tabW spec_MachineOk.tab8 spec_MachineOk.bits8 (fun HT_ HW_ => ?_)
                generalize w22.drew = w23 at BK526 HB HR529_1 hx529_0 hx529_1 hx530_0 hx530_1 hHeld ⊢
                refine pu 0 30 ?_
                refine tk6 1 31 hHeld ?_
                refine on1 2 32 (fun K hK => ?_)
                refine goes_ Try.func78 (by kernel_rfl) rfl #[.int .i64 ((rd_T100 ((rd_T94 l0 x3_1).f1) x4_2).f0), .int .i64 97, .int .i64 122] (by rfl) rfl rfl mq ?_
                with_reducible refine (spec_l1In.calls ((rd_T100 ((rd_T94 l0 x3_1).f1) x4_2).f0) 97 122 true _ A7.out).mono ?_
                rintro e w' ⟨rfl, ⟨nd, rfl⟩⟩
                refine ⟨_, rfl, ?_⟩
                refine hK.out _ _ ⟨(blk_cell BK526.out 0).trans rfl, (blk_cell BK526.out 1).trans rfl, (kp HB.out hw529_0), (kp HB.out hw529_1), (kp HB.out hw530_0), (kp HB.out hw530_1)⟩ (fun hHeld => ?_)
                clear hK K
                refine norm_ (a' := ?_) ?_ ?_
                rotate_left
                ·show Act.put _ (some 32) _ = _
                 simp only [Act.put, List.setIfInBounds_toArray, List.set_cons_zero, List.set_cons_succ, i64_w, i32_w]
                 rfl
                refine pu 3 33 ?_
                refine pu 4 34 ?_
                refine pu 5 35 ?_
                refine pu 7 37 ?_
                refine pu 8 38 ?_
                refine pu 9 39 ?_
                refine pu 10 40 ?_
                refine pu 11 41 ?_
                refine tk6 6 36 hHeld ?_
                refine on1 12 42 (fun K hK => ?_)
                refine goes_ Try.func78 (by kernel_rfl) rfl #[.int .i64 ((rd_T100 ((rd_T94 l0 x3_1).f1) x4_2).f1), .int .i64 (wrap64 (x3_1 + 1)), .int .i64 (wrap64 ((l0.length : Int) - 1))] (by rfl) rfl rfl mq ?_
                with_reducible refine (spec_l1In.calls ((rd_T100 ((rd_T94 l0 x3_1).f1) x4_2).f1) (wrap64 (x3_1 + 1)) (wrap64 ((l0.length : Int) - 1)) true _ A9.out).mono ?_
                rintro e w' ⟨rfl, ⟨nd, rfl⟩⟩
                refine ⟨_, rfl, ?_⟩
                refine hK.out _ _ ⟨(blk_cell BK526.out 0).trans rfl, (blk_cell BK526.out 1).trans rfl, (kp HB.out hw529_0), (kp HB.out hw529_1), (kp HB.out hw530_0), (kp HB.out hw530_1)⟩ (fun hHeld => ?_)
                clear hK K
                refine norm_ (a' := ?_) ?_ ?_
                rotate_left
                ·show Act.put _ (some 42) _ = _
                 simp only [Act.put, List.setIfInBounds_toArray, List.set_cons_zero, List.set_cons_succ, i64_w, i32_w]
                 rfl
                refine pu 13 43 ?_
                refine pu 14 44 ?_
                refine pu 15 45 ?_
                refine pu 16 46 ?_
                refine pu 17 47 ?_
                refine pu 18 48 ?_
                refine pu 19 49 ?_
                refine pu 20 50 ?_
                refine pu 21 51 ?_
                refine pu 22 52 ?_
                refine pu 24 54 ?_
                refine pu 25 55 ?_
                refine pu 29 59 ?_
                refine tk6 23 53 hHeld ?_
                refine pu 26 56 ?_
                refine pu 27 57 ?_
                refine tk6 28 58 hHeld ?_
                refine tk6 30 60 hHeld ?_
                refine pu 31 61 ?_
                refine pu 32 62 ?_
                refine pu 33 63 ?_
                refine done_ (done_of HT_.out (by kernel_rfl)) ?_
                try go_wp2
                go_roundg k2
                case measure => have := HK1.out; have := HK2.out; omega
                case rel => exact ⟨(wrap64 (x4_2 + 1)), sq, H', ⟨b27_⟩, ⟨bel1 GE526.out⟩⟩
              ·rw [if_neg c14] at H
               exact absurd H (by simp)
             ·rw [if_neg c13] at H
              exact absurd H (by simp)
            ·rw [if_neg c11] at H; have c11b0 := decide_eq_false c11; clear c11
             have H' := am H
             clear H
             have p521 : 0 ≤ (x3_1 : Int) := of_decide_eq_true ad
             have q521 : x3_1 < (l0.length : Int) := of_decide_eq_true ad
             obtain ⟨ad521, A521_1, c521_1, e521, hx521_0, hx521_1, hl521_1, hi521_1⟩ := at_T94 HR0.out x3_1 p521 q521
             cases e521
             replace hx521_0 := kp HB.out hx521_0; replace hx521_1 := kp HB.out hx521_1; have HR521_1 := am hi521_1; have HC521_1 := am hl521_1; clear hi521_1 hl521_1; replace p521 := eq_true p521; replace q521 := eq_true q521
             have p524 : 0 ≤ (x3_1 : Int) := of_decide_eq_true ad
             have q524 : x3_1 < (l0.length : Int) := of_decide_eq_true ad
             obtain ⟨ad524, A524_1, c524_1, e524, hx524_0, hx524_1, hl524_1, hi524_1⟩ := at_T94 HR0.out x3_1 p524 q524
             obtain rfl : ad521 = ad524 := (by injection e524)
             replace hx524_0 := kp HB.out hx524_0; replace hx524_1 := kp HB.out hx524_1; have HR524_1 := am hi524_1; have HC524_1 := am hl524_1; clear hi524_1 hl524_1; replace p524 := eq_true p524; replace q524 := eq_true q524; have ea_ := Option.some.inj (hx521_1.symm.trans hx524_1)
             injection ea_ with ea_ en_ ec_
             subst ea_; subst ec_; clear en_
             have p525 : 0 ≤ (x4_2 : Int) := of_decide_eq_true ad
             have q525 : x4_2 < (((rd_T94 l0 x3_1).f1).length : Int) := of_decide_eq_true ad
             obtain ⟨ad525, e525, hx525_0, hx525_1⟩ := at_T100 HR524_1.out x4_2 p525 q525
             cases e525
             replace hx525_0 := kp HB.out hx525_0; replace hx525_1 := kp HB.out hx525_1; replace p525 := eq_true p525; replace q525 := eq_true q525
             try go_wp2_with (first | ((with_reducible refine gate_dst (N := 5) rfl ?_); (try (refine gate_guard (by rfl) ?_; dsimp only)); refine bx 5 (cs := #[.int .i64 0, .int .i64 0]) (t := 100) ?_; intro gb526 hg w24 hbox hb; have BK526 := am (hbox); have GW526 := am ((b13_ : w.heap.size ≤ gb526)); have GE526 := am ((b13_ : w.heap.size ≤ gb526)); replace HB := am (below_step bel hb); clear hb hbox hg; have hcz25_0 := bc BK526.out 0; have hcz25_1 := bc BK526.out 1; have hfz25_0 := bf BK526.out 0; have hfz25_1 := bf BK526.out 1))
             have n0_ : Aside0 (((w24.setCell ⟨gb526, 0, none⟩ (.int .i64 ((rd_T100 ((rd_T94 l0 x3_1).f1) x4_2).f0))).setCell ⟨gb526, 1, none⟩ (.int .i64 ((rd_T100 ((rd_T94 l0 x3_1).f1) x4_2).f1))).heap[gb526]? = some (.cells #[.int .i64 ((rd_T100 ((rd_T94 l0 x3_1).f1) x4_2).f0), .int .i64 ((rd_T100 ((rd_T94 l0 x3_1).f1) x4_2).f1)] 100 (0, 0))) := ⟨b9_⟩
             have n1_ : Aside0 (Below w.heap.size w ((w24.setCell ⟨gb526, 0, none⟩ (.int .i64 ((rd_T100 ((rd_T94 l0 x3_1).f1) x4_2).f0))).setCell ⟨gb526, 1, none⟩ (.int .i64 ((rd_T100 ((rd_T94 l0 x3_1).f1) x4_2).f1)))) := ⟨bel1 GE526.out⟩
             (try clear BK526)
             (try clear HB)
             generalize ((w24.setCell ⟨gb526, 0, none⟩ (.int .i64 ((rd_T100 ((rd_T94 l0 x3_1).f1) x4_2).f0))).setCell ⟨gb526, 1, none⟩ (.int .i64 ((rd_T100 ((rd_T94 l0 x3_1).f1) x4_2).f1))) = w26 at n0_ n1_ ⊢
             have BK526 := n0_; have HB := n1_; clear n0_ n1_; replace BK526 := am (blk_drew BK526.out); replace HB := am (below_drew1 HB.out)
             refine st (n := 34) (S := fun w' => w'.cell? ⟨gb526, 0, none⟩ = some (.int .i64 ((rd_T100 ((rd_T94 l0 x3_1).f1) x4_2).f0)) ∧ w'.cell? ⟨gb526, 1, none⟩ = some (.int .i64 ((rd_T100 ((rd_T94 l0 x3_1).f1) x4_2).f1))) (ds := []) ⟨(blk_cell BK526.out 0).trans rfl, (blk_cell BK526.out 1).trans rfl⟩ (fun hHeld => ?_); refine with_tabW spec_MachineOk.tab8 spec_MachineOk.bits8 (fun HT_ HW_ => ?_)
             generalize w26.drew = w27 at BK526 HB hHeld ⊢
             refine pu 0 30 ?_
             refine tk2 1 31 hHeld ?_
             refine on1 2 32 (fun K hK => ?_)
             refine goes_ Try.func78 (by kernel_rfl) rfl #[.int .i64 ((rd_T100 ((rd_T94 l0 x3_1).f1) x4_2).f0), .int .i64 97, .int .i64 122] (by rfl) rfl rfl mq ?_
             with_reducible refine (spec_l1In.calls ((rd_T100 ((rd_T94 l0 x3_1).f1) x4_2).f0) 97 122 true _ A7.out).mono ?_
             rintro e w' ⟨rfl, ⟨nd, rfl⟩⟩
             refine ⟨_, rfl, ?_⟩
             refine hK.out _ _ ⟨(blk_cell BK526.out 0).trans rfl, (blk_cell BK526.out 1).trans rfl⟩ (fun hHeld => ?_)
             clear hK K
             refine norm_ (a' := ?_) ?_ ?_
             rotate_left
             ·show Act.put _ (some 32) _ = _
              simp only [Act.put, List.setIfInBounds_toArray, List.set_cons_zero, List.set_cons_succ, i64_w, i32_w]
              rfl
             refine pu 3 33 ?_
             refine pu 4 34 ?_
             refine pu 5 35 ?_
             refine pu 7 37 ?_
             refine pu 8 38 ?_
             refine pu 9 39 ?_
             refine pu 10 40 ?_
             refine pu 11 41 ?_
             refine tk2 6 36 hHeld ?_
             refine on1 12 42 (fun K hK => ?_)
             refine goes_ Try.func78 (by kernel_rfl) rfl #[.int .i64 ((rd_T100 ((rd_T94 l0 x3_1).f1) x4_2).f1), .int .i64 (wrap64 (x3_1 + 1)), .int .i64 (wrap64 ((l0.length : Int) - 1))] (by rfl) rfl rfl mq ?_
             with_reducible refine (spec_l1In.calls ((rd_T100 ((rd_T94 l0 x3_1).f1) x4_2).f1) (wrap64 (x3_1 + 1)) (wrap64 ((l0.length : Int) - 1)) true _ A9.out).mono ?_
             rintro e w' ⟨rfl, ⟨nd, rfl⟩⟩
             refine ⟨_, rfl, ?_⟩
             refine hK.out _ _ ⟨(blk_cell BK526.out 0).trans rfl, (blk_cell BK526.out 1).trans rfl⟩ (fun hHeld => ?_)
             clear hK K
             refine norm_ (a' := ?_) ?_ ?_
             rotate_left
             ·show Act.put _ (some 42) _ = _
              simp only [Act.put, List.setIfInBounds_toArray, List.set_cons_zero, List.set_cons_succ, i64_w, i32_w]
              rfl
             refine pu 13 43 ?_
             refine pu 14 44 ?_
             refine pu 15 45 ?_
             refine pu 16 46 ?_
             refine pu 17 47 ?_
             refine pu 18 48 ?_
             refine puu 19 49 ?_
             refine puu 20 50 ?_
             refine puu 21 51 ?_
             refine puu 22 52 ?_
             refine puu 23 53 ?_
             refine puu 24 54 ?_
             refine puu 25 55 ?_
             refine puu 26 56 ?_
             refine puu 27 57 ?_
             refine puu 28 58 ?_
             refine puu 29 59 ?_
             refine puu 30 60 ?_
             refine puu 31 61 ?_
             refine pu 32 62 ?_
             refine pu 33 63 ?_
             refine done_ (done_of HT_.out (by kernel_rfl)) ?_
             try go_wp2
             go_roundg k2
             case measure => have := HK1.out; have := HK2.out; omega
             case rel => exact ⟨(wrap64 (x4_2 + 1)), sq, H', ⟨b27_⟩, ⟨bel1 GE526.out⟩⟩
           ·replace c10 := Bool.eq_false_iff.mpr c10; subst c10
            have H1 : (some false) = some r := b6_
            replace H := H1; clear H1
            obtain rfl := Option.some.inj H
            have p521 : 0 ≤ (x3_1 : Int) := of_decide_eq_true ad
            have q521 : x3_1 < (l0.length : Int) := of_decide_eq_true ad
            obtain ⟨ad521, A521_1, c521_1, e521, hx521_0, hx521_1, hl521_1, hi521_1⟩ := at_T94 HR0.out x3_1 p521 q521
            cases e521
            replace hx521_0 := kp HB.out hx521_0; replace hx521_1 := kp HB.out hx521_1; have HR521_1 := am hi521_1; have HC521_1 := am hl521_1; clear hi521_1 hl521_1; replace p521 := eq_true p521; replace q521 := eq_true q521
            have p524 : 0 ≤ (x3_1 : Int) := of_decide_eq_true ad
            have q524 : x3_1 < (l0.length : Int) := of_decide_eq_true ad
            obtain ⟨ad524, A524_1, c524_1, e524, hx524_0, hx524_1, hl524_1, hi524_1⟩ := at_T94 HR0.out x3_1 p524 q524
            obtain rfl : ad521 = ad524 := (by injection e524)
            replace hx524_0 := kp HB.out hx524_0; replace hx524_1 := kp HB.out hx524_1; have HR524_1 := am hi524_1; have HC524_1 := am hl524_1; clear hi524_1 hl524_1; replace p524 := eq_true p524; replace q524 := eq_true q524; have ea_ := Option.some.inj (hx521_1.symm.trans hx524_1)
            injection ea_ with ea_ en_ ec_
            subst ea_; subst ec_; clear en_
            have p525 : 0 ≤ (x4_2 : Int) := of_decide_eq_true ad
            have q525 : x4_2 < (((rd_T94 l0 x3_1).f1).length : Int) := of_decide_eq_true ad
            obtain ⟨ad525, e525, hx525_0, hx525_1⟩ := at_T100 HR524_1.out x4_2 p525 q525
            cases e525
            replace hx525_0 := kp HB.out hx525_0; replace hx525_1 := kp HB.out hx525_1; replace p525 := eq_true p525; replace q525 := eq_true q525
            try go_wp2_with (first | ((with_reducible refine gate_dst (N := 5) rfl ?_); (try (refine gate_guard (by rfl) ?_; dsimp only)); refine bx 5 (cs := #[.int .i64 0, .int .i64 0]) (t := 100) ?_; intro gb526 hg w28 hbox hb; have BK526 := am (hbox); have GW526 := am ((b13_ : w.heap.size ≤ gb526)); have GE526 := am ((b13_ : w.heap.size ≤ gb526)); replace HB := am (below_step bel hb); clear hb hbox hg; have hcz29_0 := bc BK526.out 0; have hcz29_1 := bc BK526.out 1; have hfz29_0 := bf BK526.out 0; have hfz29_1 := bf BK526.out 1))
            have n0_ : Aside0 (((w28.setCell ⟨gb526, 0, none⟩ (.int .i64 ((rd_T100 ((rd_T94 l0 x3_1).f1) x4_2).f0))).setCell ⟨gb526, 1, none⟩ (.int .i64 ((rd_T100 ((rd_T94 l0 x3_1).f1) x4_2).f1))).heap[gb526]? = some (.cells #[.int .i64 ((rd_T100 ((rd_T94 l0 x3_1).f1) x4_2).f0), .int .i64 ((rd_T100 ((rd_T94 l0 x3_1).f1) x4_2).f1)] 100 (0, 0))) := ⟨b9_⟩
            have n1_ : Aside0 (Below w.heap.size w ((w28.setCell ⟨gb526, 0, none⟩ (.int .i64 ((rd_T100 ((rd_T94 l0 x3_1).f1) x4_2).f0))).setCell ⟨gb526, 1, none⟩ (.int .i64 ((rd_T100 ((rd_T94 l0 x3_1).f1) x4_2).f1)))) := ⟨bel1 GE526.out⟩
            (try clear BK526)
            (try clear HB)
            generalize ((w28.setCell ⟨gb526, 0, none⟩ (.int .i64 ((rd_T100 ((rd_T94 l0 x3_1).f1) x4_2).f0))).setCell ⟨gb526, 1, none⟩ (.int .i64 ((rd_T100 ((rd_T94 l0 x3_1).f1) x4_2).f1))) = w30 at n0_ n1_ ⊢
            have BK526 := n0_; have HB := n1_; clear n0_ n1_; replace BK526 := am (blk_drew BK526.out); replace HB := am (below_drew1 HB.out)
            refine st (n := 34) (S := fun w' => w'.cell? ⟨gb526, 0, none⟩ = some (.int .i64 ((rd_T100 ((rd_T94 l0 x3_1).f1) x4_2).f0)) ∧ w'.cell? ⟨gb526, 1, none⟩ = some (.int .i64 ((rd_T100 ((rd_T94 l0 x3_1).f1) x4_2).f1))) (ds := []) ⟨(blk_cell BK526.out 0).trans rfl, (blk_cell BK526.out 1).trans rfl⟩ (fun hHeld => ?_); refine with_tabW spec_MachineOk.tab8 spec_MachineOk.bits8 (fun HT_ HW_ => ?_)
            generalize w30.drew = w31 at BK526 HB hHeld ⊢
            refine pu 0 30 ?_
            refine tk2 1 31 hHeld ?_
            refine on1 2 32 (fun K hK => ?_)
            refine goes_ Try.func78 (by kernel_rfl) rfl #[.int .i64 ((rd_T100 ((rd_T94 l0 x3_1).f1) x4_2).f0), .int .i64 97, .int .i64 122] (by rfl) rfl rfl mq ?_
            with_reducible refine (spec_l1In.calls ((rd_T100 ((rd_T94 l0 x3_1).f1) x4_2).f0) 97 122 true _ A7.out).mono ?_
            rintro e w' ⟨rfl, ⟨nd, rfl⟩⟩
            refine ⟨_, rfl, ?_⟩
            refine hK.out _ _ ⟨(blk_cell BK526.out 0).trans rfl, (blk_cell BK526.out 1).trans rfl⟩ (fun hHeld => ?_)
            clear hK K
            refine norm_ (a' := ?_) ?_ ?_
            rotate_left
            ·show Act.put _ (some 32) _ = _
             simp only [Act.put, List.setIfInBounds_toArray, List.set_cons_zero, List.set_cons_succ, i64_w, i32_w]
             rfl
            refine pu 3 33 ?_
            refine pu 4 34 ?_
            refine pu 5 35 ?_
            refine pu 7 37 ?_
            refine pu 8 38 ?_
            refine pu 9 39 ?_
            refine pu 10 40 ?_
            refine pu 11 41 ?_
            refine tk2 6 36 hHeld ?_
            refine on1 12 42 (fun K hK => ?_)
            refine goes_ Try.func78 (by kernel_rfl) rfl #[.int .i64 ((rd_T100 ((rd_T94 l0 x3_1).f1) x4_2).f1), .int .i64 (wrap64 (x3_1 + 1)), .int .i64 (wrap64 ((l0.length : Int) - 1))] (by rfl) rfl rfl mq ?_
            with_reducible refine (spec_l1In.calls ((rd_T100 ((rd_T94 l0 x3_1).f1) x4_2).f1) (wrap64 (x3_1 + 1)) (wrap64 ((l0.length : Int) - 1)) false _ A9.out).mono ?_
            rintro e w' ⟨rfl, ⟨nd, rfl⟩⟩
            refine ⟨_, rfl, ?_⟩
            refine hK.out _ _ ⟨(blk_cell BK526.out 0).trans rfl, (blk_cell BK526.out 1).trans rfl⟩ (fun hHeld => ?_)
            clear hK K
            refine norm_ (a' := ?_) ?_ ?_
            rotate_left
            ·show Act.put _ (some 42) _ = _
             simp only [Act.put, List.setIfInBounds_toArray, List.set_cons_zero, List.set_cons_succ, i64_w, i32_w]
             rfl
            refine pu 13 43 ?_
            refine pu 14 44 ?_
            refine pu 15 45 ?_
            refine puu 16 46 ?_
            refine puu 17 47 ?_
            refine puu 18 48 ?_
            refine puu 19 49 ?_
            refine puu 20 50 ?_
            refine puu 21 51 ?_
            refine puu 22 52 ?_
            refine puu 23 53 ?_
            refine puu 24 54 ?_
            refine puu 25 55 ?_
            refine puu 26 56 ?_
            refine puu 27 57 ?_
            refine puu 28 58 ?_
            refine puu 29 59 ?_
            refine puu 30 60 ?_
            refine puu 31 61 ?_
            refine puu 32 62 ?_
            refine pu 33 63 ?_
            refine done_ (done_of HT_.out (by kernel_rfl)) ?_
            try go_wp2
            go_ret
            exact ⟨eq_, bel1 GE526.out⟩
          ·replace c8 := Bool.eq_false_iff.mpr c8; subst c8
           have H1 : (some false) = some r := b6_
           replace H := H1; clear H1
           obtain rfl := Option.some.inj H
           have p521 : 0 ≤ (x3_1 : Int) := of_decide_eq_true ad
           have q521 : x3_1 < (l0.length : Int) := of_decide_eq_true ad
           obtain ⟨ad521, A521_1, c521_1, e521, hx521_0, hx521_1, hl521_1, hi521_1⟩ := at_T94 HR0.out x3_1 p521 q521
           cases e521
           replace hx521_0 := kp HB.out hx521_0; replace hx521_1 := kp HB.out hx521_1; have HR521_1 := am hi521_1; have HC521_1 := am hl521_1; clear hi521_1 hl521_1; replace p521 := eq_true p521; replace q521 := eq_true q521
           have p524 : 0 ≤ (x3_1 : Int) := of_decide_eq_true ad
           have q524 : x3_1 < (l0.length : Int) := of_decide_eq_true ad
           obtain ⟨ad524, A524_1, c524_1, e524, hx524_0, hx524_1, hl524_1, hi524_1⟩ := at_T94 HR0.out x3_1 p524 q524
           obtain rfl : ad521 = ad524 := (by injection e524)
           replace hx524_0 := kp HB.out hx524_0; replace hx524_1 := kp HB.out hx524_1; have HR524_1 := am hi524_1; have HC524_1 := am hl524_1; clear hi524_1 hl524_1; replace p524 := eq_true p524; replace q524 := eq_true q524; have ea_ := Option.some.inj (hx521_1.symm.trans hx524_1)
           injection ea_ with ea_ en_ ec_
           subst ea_; subst ec_; clear en_
           have p525 : 0 ≤ (x4_2 : Int) := of_decide_eq_true ad
           have q525 : x4_2 < (((rd_T94 l0 x3_1).f1).length : Int) := of_decide_eq_true ad
           obtain ⟨ad525, e525, hx525_0, hx525_1⟩ := at_T100 HR524_1.out x4_2 p525 q525
           cases e525
           replace hx525_0 := kp HB.out hx525_0; replace hx525_1 := kp HB.out hx525_1; replace p525 := eq_true p525; replace q525 := eq_true q525
           try go_wp2_with (first | ((with_reducible refine gate_dst (N := 5) rfl ?_); (try (refine gate_guard (by rfl) ?_; dsimp only)); refine bx 5 (cs := #[.int .i64 0, .int .i64 0]) (t := 100) ?_; intro gb526 hg w32 hbox hb; have BK526 := am (hbox); have GW526 := am ((b13_ : w.heap.size ≤ gb526)); have GE526 := am ((b13_ : w.heap.size ≤ gb526)); replace HB := am (below_step bel hb); clear hb hbox hg; have hcz33_0 := bc BK526.out 0; have hcz33_1 := bc BK526.out 1; have hfz33_0 := bf BK526.out 0; have hfz33_1 := bf BK526.out 1))
           have n0_ : Aside0 (((w32.setCell ⟨gb526, 0, none⟩ (.int .i64 ((rd_T100 ((rd_T94 l0 x3_1).f1) x4_2).f0))).setCell ⟨gb526, 1, none⟩ (.int .i64 ((rd_T100 ((rd_T94 l0 x3_1).f1) x4_2).f1))).heap[gb526]? = some (.cells #[.int .i64 ((rd_T100 ((rd_T94 l0 x3_1).f1) x4_2).f0), .int .i64 ((rd_T100 ((rd_T94 l0 x3_1).f1) x4_2).f1)] 100 (0, 0))) := ⟨b9_⟩
           have n1_ : Aside0 (Below w.heap.size w ((w32.setCell ⟨gb526, 0, none⟩ (.int .i64 ((rd_T100 ((rd_T94 l0 x3_1).f1) x4_2).f0))).setCell ⟨gb526, 1, none⟩ (.int .i64 ((rd_T100 ((rd_T94 l0 x3_1).f1) x4_2).f1)))) := ⟨bel1 GE526.out⟩
           (try clear BK526)
           (try clear HB)
           generalize ((w32.setCell ⟨gb526, 0, none⟩ (.int .i64 ((rd_T100 ((rd_T94 l0 x3_1).f1) x4_2).f0))).setCell ⟨gb526, 1, none⟩ (.int .i64 ((rd_T100 ((rd_T94 l0 x3_1).f1) x4_2).f1))) = w34 at n0_ n1_ ⊢
           have BK526 := n0_; have HB := n1_; clear n0_ n1_; replace BK526 := am (blk_drew BK526.out); replace HB := am (below_drew1 HB.out)
           refine st (n := 34) (S := fun w' => w'.cell? ⟨gb526, 0, none⟩ = some (.int .i64 ((rd_T100 ((rd_T94 l0 x3_1).f1) x4_2).f0)) ∧ w'.cell? ⟨gb526, 1, none⟩ = some (.int .i64 ((rd_T100 ((rd_T94 l0 x3_1).f1) x4_2).f1))) (ds := []) ⟨(blk_cell BK526.out 0).trans rfl, (blk_cell BK526.out 1).trans rfl⟩ (fun hHeld => ?_); refine with_tabW spec_MachineOk.tab8 spec_MachineOk.bits8 (fun HT_ HW_ => ?_)
           generalize w34.drew = w35 at BK526 HB hHeld ⊢
           refine pu 0 30 ?_
           refine tk2 1 31 hHeld ?_
           refine on1 2 32 (fun K hK => ?_)
           refine goes_ Try.func78 (by kernel_rfl) rfl #[.int .i64 ((rd_T100 ((rd_T94 l0 x3_1).f1) x4_2).f0), .int .i64 97, .int .i64 122] (by rfl) rfl rfl mq ?_
           with_reducible refine (spec_l1In.calls ((rd_T100 ((rd_T94 l0 x3_1).f1) x4_2).f0) 97 122 false _ A7.out).mono ?_
           rintro e w' ⟨rfl, ⟨nd, rfl⟩⟩
           refine ⟨_, rfl, ?_⟩
           refine hK.out _ _ ⟨(blk_cell BK526.out 0).trans rfl, (blk_cell BK526.out 1).trans rfl⟩ (fun hHeld => ?_)
           clear hK K
           refine norm_ (a' := ?_) ?_ ?_
           rotate_left
           ·show Act.put _ (some 32) _ = _
            simp only [Act.put, List.setIfInBounds_toArray, List.set_cons_zero, List.set_cons_succ, i64_w, i32_w]
            rfl
           refine pu 3 33 ?_
           refine pu 4 34 ?_
           refine puu 5 35 ?_
           refine puu 6 36 ?_
           refine puu 7 37 ?_
           refine puu 8 38 ?_
           refine puu 9 39 ?_
           refine puu 10 40 ?_
           refine puu 11 41 ?_
           refine puu 12 42 ?_
           refine puu 13 43 ?_
           refine pu 14 44 ?_
           refine pu 15 45 ?_
           refine puu 16 46 ?_
           refine puu 17 47 ?_
           refine puu 18 48 ?_
           refine puu 19 49 ?_
           refine puu 20 50 ?_
           refine puu 21 51 ?_
           refine puu 22 52 ?_
           refine puu 23 53 ?_
           refine puu 24 54 ?_
           refine puu 25 55 ?_
           refine puu 26 56 ?_
           refine puu 27 57 ?_
           refine puu 28 58 ?_
           refine puu 29 59 ?_
           refine puu 30 60 ?_
           refine puu 31 61 ?_
           refine puu 32 62 ?_
           refine pu 33 63 ?_
           refine done_ (done_of HT_.out (by kernel_rfl)) ?_
           try go_wp2
           go_ret
           exact ⟨eq_, bel1 GE526.out⟩
         ·rw [if_neg c6] at H
          exact absurd H (by simp)
        ·rw [if_neg c5] at H; have c5b0 := decide_eq_false c5; clear c5
         by_cases c36 : x3_1 > 0
         ·rw [if_pos c36] at H; have c36b0 := decide_eq_true c36; clear c36; obtain ⟨bq37, hbq37⟩ : ∃ b_ : Bool, b_ = ((rd_T94 l0 x3_1).f0) := ⟨_, rfl⟩
          replace H : (if (bq37 = true) then (spec_MachineOk.l0 k2 l0 (wrap64 (x3_1 + 1))) else (if (((rd_T94 l0 x3_1).f1).length : Int) = 0 then (some false) else (spec_MachineOk.l0 k2 l0 (wrap64 (x3_1 + 1))))) = some r := by rw [← hbq37] at H; exact H
          have Nbq37 := am hbq37; clear hbq37
          by_cases c38 : (bq37 = true)
          ·subst c38
           (try rw [← Nbq37.out] at hx524_0)
           (try rw [← Nbq37.out])
           have H1 : (spec_MachineOk.l0 k2 l0 (wrap64 (x3_1 + 1))) = some r := b20_
           replace H := H1; clear H1
           have H' := am H
           clear H
           have p521 : 0 ≤ (x3_1 : Int) := of_decide_eq_true ad
           have q521 : x3_1 < (l0.length : Int) := of_decide_eq_true ad
           obtain ⟨ad521, A521_1, c521_1, e521, hx521_0, hx521_1, hl521_1, hi521_1⟩ := at_T94 HR0.out x3_1 p521 q521
           (try rw [← Nbq37.out] at hx521_0)
           cases e521
           replace hx521_0 := kp HB.out hx521_0; replace hx521_1 := kp HB.out hx521_1; have HR521_1 := am hi521_1; have HC521_1 := am hl521_1; clear hi521_1 hl521_1; replace p521 := eq_true p521; replace q521 := eq_true q521
           have p522 : 0 ≤ (x3_1 : Int) := of_decide_eq_true ad
           have q522 : x3_1 < (l0.length : Int) := of_decide_eq_true ad
           obtain ⟨ad522, A522_1, c522_1, e522, hx522_0, hx522_1, hl522_1, hi522_1⟩ := at_T94 HR0.out x3_1 p522 q522
           (try rw [← Nbq37.out] at hx522_0)
           obtain rfl : ad521 = ad522 := (by injection e522)
           replace hx522_0 := kp HB.out hx522_0; replace hx522_1 := kp HB.out hx522_1; have HR522_1 := am hi522_1; have HC522_1 := am hl522_1; clear hi522_1 hl522_1; replace p522 := eq_true p522; replace q522 := eq_true q522; have ea_ := Option.some.inj (hx521_1.symm.trans hx522_1)
           injection ea_ with ea_ en_ ec_
           subst ea_; subst ec_; clear en_; go_wp2
           go_roundg k2
           case measure => have := HK1.out; have := HK2.out; omega
           case rel => (try rw [← Nbq37.out]); exact ⟨(wrap64 (x3_1 + 1)), sq, H', ⟨b27_⟩, ⟨bel⟩⟩
          ·replace c38 := Bool.eq_false_iff.mpr c38; subst c38
           (try rw [← Nbq37.out] at hx524_0)
           (try rw [← Nbq37.out])
           have H1 : (if (((rd_T94 l0 x3_1).f1).length : Int) = 0 then (some false) else (spec_MachineOk.l0 k2 l0 (wrap64 (x3_1 + 1)))) = some r := b6_
           replace H := H1; clear H1
           by_cases c39 : (((rd_T94 l0 x3_1).f1).length : Int) = 0
           ·rw [if_pos c39] at H
            have c39b0 : ((((rd_T94 l0 x3_1).f1).length : Int) == 0) = true := beq_iff_eq.mpr c39
            have c39b1 : ((((rd_T94 l0 x3_1).f1).length : Int) != 0) = false := bne_eq_false_iff_eq.mpr c39
            clear c39; obtain rfl := Option.some.inj H
            have p521 : 0 ≤ (x3_1 : Int) := of_decide_eq_true ad
            have q521 : x3_1 < (l0.length : Int) := of_decide_eq_true ad
            obtain ⟨ad521, A521_1, c521_1, e521, hx521_0, hx521_1, hl521_1, hi521_1⟩ := at_T94 HR0.out x3_1 p521 q521
            (try rw [← Nbq37.out] at hx521_0)
            cases e521
            replace hx521_0 := kp HB.out hx521_0; replace hx521_1 := kp HB.out hx521_1; have HR521_1 := am hi521_1; have HC521_1 := am hl521_1; clear hi521_1 hl521_1; replace p521 := eq_true p521; replace q521 := eq_true q521
            have p522 : 0 ≤ (x3_1 : Int) := of_decide_eq_true ad
            have q522 : x3_1 < (l0.length : Int) := of_decide_eq_true ad
            obtain ⟨ad522, A522_1, c522_1, e522, hx522_0, hx522_1, hl522_1, hi522_1⟩ := at_T94 HR0.out x3_1 p522 q522
            (try rw [← Nbq37.out] at hx522_0)
            obtain rfl : ad521 = ad522 := (by injection e522)
            replace hx522_0 := kp HB.out hx522_0; replace hx522_1 := kp HB.out hx522_1; have HR522_1 := am hi522_1; have HC522_1 := am hl522_1; clear hi522_1 hl522_1; replace p522 := eq_true p522; replace q522 := eq_true q522; have ea_ := Option.some.inj (hx521_1.symm.trans hx522_1)
            injection ea_ with ea_ en_ ec_
            subst ea_; subst ec_; clear en_
            have p523 : 0 ≤ (x3_1 : Int) := of_decide_eq_true ad
            have q523 : x3_1 < (l0.length : Int) := of_decide_eq_true ad
            obtain ⟨ad523, A523_1, c523_1, e523, hx523_0, hx523_1, hl523_1, hi523_1⟩ := at_T94 HR0.out x3_1 p523 q523
            (try rw [← Nbq37.out] at hx523_0)
            obtain rfl : ad521 = ad523 := (by injection e523)
            replace hx523_0 := kp HB.out hx523_0; replace hx523_1 := kp HB.out hx523_1; have HR523_1 := am hi523_1; have HC523_1 := am hl523_1; clear hi523_1 hl523_1; replace p523 := eq_true p523; replace q523 := eq_true q523; have ea_ := Option.some.inj (hx521_1.symm.trans hx523_1)
            injection ea_ with ea_ en_ ec_
            subst ea_; subst ec_; clear en_; go_wp2; go_ret
            exact ⟨eq_, bel⟩
           ·rw [if_neg c39] at H
            have c39b0 : ((((rd_T94 l0 x3_1).f1).length : Int) == 0) = false := beq_eq_false_iff_ne.mpr c39
            have c39b1 : ((((rd_T94 l0 x3_1).f1).length : Int) != 0) = true := bne_iff_ne.mpr c39
            have c39b2 : ¬ (((rd_T94 l0 x3_1).f1) = []) := fun h_ => c39 (by rw [h_]; rfl)
            have H' := am H
            clear H
            have p521 : 0 ≤ (x3_1 : Int) := of_decide_eq_true ad
            have q521 : x3_1 < (l0.length : Int) := of_decide_eq_true ad
            obtain ⟨ad521, A521_1, c521_1, e521, hx521_0, hx521_1, hl521_1, hi521_1⟩ := at_T94 HR0.out x3_1 p521 q521
            (try rw [← Nbq37.out] at hx521_0)
            cases e521
            replace hx521_0 := kp HB.out hx521_0; replace hx521_1 := kp HB.out hx521_1; have HR521_1 := am hi521_1; have HC521_1 := am hl521_1; clear hi521_1 hl521_1; replace p521 := eq_true p521; replace q521 := eq_true q521
            have p522 : 0 ≤ (x3_1 : Int) := of_decide_eq_true ad
            have q522 : x3_1 < (l0.length : Int) := of_decide_eq_true ad
            obtain ⟨ad522, A522_1, c522_1, e522, hx522_0, hx522_1, hl522_1, hi522_1⟩ := at_T94 HR0.out x3_1 p522 q522
            (try rw [← Nbq37.out] at hx522_0)
            obtain rfl : ad521 = ad522 := (by injection e522)
            replace hx522_0 := kp HB.out hx522_0; replace hx522_1 := kp HB.out hx522_1; have HR522_1 := am hi522_1; have HC522_1 := am hl522_1; clear hi522_1 hl522_1; replace p522 := eq_true p522; replace q522 := eq_true q522; have ea_ := Option.some.inj (hx521_1.symm.trans hx522_1)
            injection ea_ with ea_ en_ ec_
            subst ea_; subst ec_; clear en_
            have p523 : 0 ≤ (x3_1 : Int) := of_decide_eq_true ad
            have q523 : x3_1 < (l0.length : Int) := of_decide_eq_true ad
            obtain ⟨ad523, A523_1, c523_1, e523, hx523_0, hx523_1, hl523_1, hi523_1⟩ := at_T94 HR0.out x3_1 p523 q523
            (try rw [← Nbq37.out] at hx523_0)
            obtain rfl : ad521 = ad523 := (by injection e523)
            replace hx523_0 := kp HB.out hx523_0; replace hx523_1 := kp HB.out hx523_1; have HR523_1 := am hi523_1; have HC523_1 := am hl523_1; clear hi523_1 hl523_1; replace p523 := eq_true p523; replace q523 := eq_true q523; have ea_ := Option.some.inj (hx521_1.symm.trans hx523_1)
            injection ea_ with ea_ en_ ec_
            subst ea_; subst ec_; clear en_; go_wp2
            go_roundg k2
            case measure => have := HK1.out; have := HK2.out; omega
            case rel => (try rw [← Nbq37.out]); exact ⟨(wrap64 (x3_1 + 1)), sq, H', ⟨b27_⟩, ⟨bel⟩⟩
         ·rw [if_neg c36] at H; have c36b0 := decide_eq_false c36; clear c36
          have H' := am H
          clear H
          have p521 : 0 ≤ (x3_1 : Int) := of_decide_eq_true ad
          have q521 : x3_1 < (l0.length : Int) := of_decide_eq_true ad
          obtain ⟨ad521, A521_1, c521_1, e521, hx521_0, hx521_1, hl521_1, hi521_1⟩ := at_T94 HR0.out x3_1 p521 q521
          cases e521
          replace hx521_0 := kp HB.out hx521_0; replace hx521_1 := kp HB.out hx521_1; have HR521_1 := am hi521_1; have HC521_1 := am hl521_1; clear hi521_1 hl521_1; replace p521 := eq_true p521; replace q521 := eq_true q521; go_wp2
          go_roundg k2
          case measure => have := HK1.out; have := HK2.out; omega
          case rel => exact ⟨(wrap64 (x3_1 + 1)), sq, H', ⟨b27_⟩, ⟨bel⟩⟩
       ·rw [if_neg c4] at H
        exact absurd H (by simp)
      ·rw [if_neg c3] at H
       exact absurd H (by simp)
   ·rw [if_neg c2] at H; have c2b0 := decide_eq_false c2; clear c2; replace H := Option.bind_eq_some_iff.mp H; obtain ⟨t519, A400, H⟩ := H; replace H : (if t519 = true then ((spec_l3Deep.f k1 l0).bind fun t520 => (some (decide (t520 ≤ 12)))) else (some false)) = some r := H; have A40 := Aside0.mk A400; clear A400
    by_cases c41 : t519 = true
    ·subst c41
     have H1 : ((spec_l3Deep.f k1 l0).bind fun t520 => (some (decide (t520 ≤ 12)))) = some r := b20_
     replace H := H1; clear H1
     replace H := Option.bind_eq_some_iff.mp H; obtain ⟨t520, A420, H⟩ := H; replace H : (some (decide (t520 ≤ 12))) = some r := H; have A42 := Aside0.mk A420; clear A420; obtain rfl := Option.some.inj H
     go_wp2_with (first | ((with_reducible refine gate_callee (f := 78) rfl ?_); refine goesL_ (some 85) rfl rfl Try.func78 (by kernel_rfl) rfl #[.int .i64 (l0.length : Int), .int .i64 1, .int .i64 400] rfl mq ?_; (with_reducible refine (spec_l1In.calls (l0.length : Int) 1 400 true _ A40.out).mono ?_); rintro e w' ⟨rfl, ⟨nd, rfl⟩⟩; refine ⟨_, rfl, ?_⟩) | (go_at_call 79; (with_reducible refine (spec_l3Deep.calls k1 _ _ l0 t520 _ ?side1 ?side2 A42.out).mono ?_); (case side1 => exact cq (Kd.C_below HR0.out bel)); (case side2 => exact HC0.out); rintro e w43 ⟨rfl, hb⟩; replace HB := am (below_step bel hb); (try clear hb); (try clear hb2); (try clear hk); (try clear hi)))
     go_ret
     exact ⟨eq_, bel⟩
    ·replace c41 := Bool.eq_false_iff.mpr c41; subst c41
     have H1 : (some false) = some r := b6_
     replace H := H1; clear H1
     obtain rfl := Option.some.inj H
     go_wp2_with (first | ((with_reducible refine gate_callee (f := 78) rfl ?_); refine goesL_ (some 85) rfl rfl Try.func78 (by kernel_rfl) rfl #[.int .i64 (l0.length : Int), .int .i64 1, .int .i64 400] rfl mq ?_; (with_reducible refine (spec_l1In.calls (l0.length : Int) 1 400 false _ A40.out).mono ?_); rintro e w' ⟨rfl, ⟨nd, rfl⟩⟩; refine ⟨_, rfl, ?_⟩))
     go_ret
     exact ⟨eq_, bel⟩

end Go.Proofs.Ytfpmfaelodfecaa.QFnMachineWord
