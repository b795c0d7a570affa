import Derived.Test.YtpljfjbhlboffaaQFnMachineDropx0
import Derived.Test.YtpljfjbhlboffaaVMSh2
import Derived.Test.YtpljfjbhlboffaaQFnMachineDropx6
namespace Go.Proofs.Ytpljfjbhlboffaa.QFnMachineDrop
open Go.RowKit Go.Proofs.YtpljfjbhlboffaaW.PrintWords Go.Proofs.YtpljfjbhlboffaaW.PrintLast Go.Proofs.YtpljfjbhlboffaaW.PrintMore Go.Proofs.Ytpljfjbhlboffaa.Sh
attribute [local go_sem] max2_int min2_int max_two min_two max_three min_three max_four min_four
set_option linter.unusedVariables false
set_option linter.unusedSimpArgs false
set_option maxHeartbeats 8000000
set_option maxRecDepth 100000
-- shrunk

attribute [local go_sem high] eqA49
/-! ### laws_mdMachine: function 16 -/
mutual
def laws_mdMachine.l0 : Nat → List (S45) → List (S45) → Int → Option (Bool)
 | 0, _, _, _ => none
 | k + 1, x0, x1, x5 => if x5 < (x0.length : Int) then (if 0 ≤ x5 then (if x5 < (x1.length : Int) then (if (((rd_T45 x0 x5).f0) != ((rd_T45 x1 x5).f0)) = true then (laws_mdMachine.j1 k x0 x1 x5 true) else (laws_mdMachine.j1 k x0 x1 x5 ((((rd_T45 x0 x5).f1).length : Int) != (((rd_T45 x1 x5).f1).length : Int)))) else (none)) else (none)) else (some true)
def laws_mdMachine.j1 : Nat → List (S45) → List (S45) → Int → Bool → Option (Bool)
 | 0, _, _, _, _ => none
 | k + 1, x0, x1, x5, x43 => if x43 = true then (some false) else (laws_mdMachine.l1 k x0 x1 x5 0)
def laws_mdMachine.l1 : Nat → List (S45) → List (S45) → Int → Int → Option (Bool)
 | 0, _, _, _, _ => none
 | k + 1, x0, x1, x5, x6 => if 0 ≤ x5 then (if x5 < (x0.length : Int) then (if x6 < (((rd_T45 x0 x5).f1).length : Int) then (if 0 ≤ x6 then (if x5 < (x1.length : Int) then (if x6 < (((rd_T45 x1 x5).f1).length : Int) then (if (!(((rd_T49 ((rd_T45 x0 x5).f1) x6).f0) == ((rd_T49 ((rd_T45 x1 x5).f1) x6).f0)) || (!(((rd_T49 ((rd_T45 x0 x5).f1) x6).f1) == ((rd_T49 ((rd_T45 x1 x5).f1) x6).f1)))) = true then (some false) else (laws_mdMachine.l1 k x0 x1 x5 (wrap64 (x6 + 1)))) else (none)) else (none)) else (none)) else (laws_mdMachine.l0 k x0 x1 (wrap64 (x5 + 1)))) else (none)) else (none)
end
def laws_mdMachine.f (k : Nat) (l0 : List (S45)) (l1 : List (S45)) : Option (Bool) := if (l0.length : Int) = (l1.length : Int) then (laws_mdMachine.l0 k l0 l1 0) else (some false)
theorem laws_mdMachine.calls (k : Nat) (A0 : Option Addr) (c0 : Nat) (l0 : List (S45)) (A1 : Option Addr) (c1 : Nat) (l1 : List (S45)) (r : Bool) (w : World) (hr0 : Kd.C k45 w A0 l0.length l0) (hc0 : l0.length ≤ c0) (hr1 : Kd.C k45 w A1 l1.length l1) (hc1 : l1.length ≤ c1) (h : laws_mdMachine.f k l0 l1 = some r) :
  Calls Try.prog 16 #[.slice A0 l0.length c0, .slice A1 l1.length c1] w fun e w' => e = .returned (.bool r) ∧ Drawn0 w w' := by
 have hu49 := Try.underlying49; have HR0 := am hr0; have HC0 := am hc0; clear hr0 hc0; have HR1 := am hr1; have HC1 := am hc1; clear hr1 hc1
 have H : (if (l0.length : Int) = (l1.length : Int) then (laws_mdMachine.l0 k l0 l1 0) else (some false)) = some r := h
 clear h
 by_cases c3 : (l0.length : Int) = (l1.length : Int)
 ·rw [if_pos c3] at H
  have c3b0 : ((l0.length : Int) == (l1.length : Int)) = true := beq_iff_eq.mpr c3
  have c3b1 : ((l0.length : Int) != (l1.length : Int)) = false := bne_eq_false_iff_eq.mpr c3
  have c3b2 : (l0.length == l1.length) = true := b83_
  clear c3
  have H' := am H
  clear H; go_enter Try.func16, Try.ntmps16; go_wp2
  repeat (go_quiet (fail); try go_wp2)
  go_loopg [5] k (fun kq v5 w' => ∃ (x5_1 : Int), v5 = .int .i64 x5_1 ∧ Aside0 (laws_mdMachine.l0 kq l0 l1 x5_1 = some r) ∧ Aside0 (kq ≤ k) ∧ Drawn0 w w')
  case atStart => exact ⟨(0), sq, H', ⟨Nat.le_refl _⟩, dr⟩
  case round =>
   clear H'; (try clear c1); (try clear p2); (try clear c3); (try clear c3b0); (try clear c3b1); (try clear c3b2); obtain ⟨x5_1, rfl, HA, HK1, ⟨m1, rfl⟩⟩ := hrel
   cases gk with
   | zero => exact absurd HA.out (by simp [laws_mdMachine.l0])
   | succ k1 =>
    have H := HA.out; clear HA; simp only [laws_mdMachine.l0] at H
    by_cases c4 : x5_1 < (l0.length : Int)
    ·rw [if_pos c4] at H; have c4b0 := decide_eq_true c4; clear c4; have HC5 := am H; clear H
     go_upto_region 6 with (fail)
     repeat (go_quiet (fail); go_upto_region 6 with (fail))
     go_cut [43] (fun v43 wc => ∃ (kq : Nat) (x43_4 : Bool), v43 = .bool x43_4 ∧ Aside0 (laws_mdMachine.j1 kq l0 l1 x5_1 x43_4 = some r) ∧ Aside0 (kq ≤ k1) ∧ Drawn0 w wc)
     case first =>
      have H := HC5.out; clear HC5; replace H := it H; obtain ⟨c6b0, H⟩ := H
      (first | rw [c6b0] | (simp only [i64_w, i32_w]; rw [c6b0]) | skip)
      replace H := it H; obtain ⟨c7b0, H⟩ := H
      by_cases c8 : (((rd_T45 l0 x5_1).f0) != ((rd_T45 l1 x5_1).f0)) = true
      ·rw [if_pos c8] at H
       have c8b0 : (((rd_T45 l0 x5_1).f0) != ((rd_T45 l1 x5_1).f0)) = true := c8
       (try (have c8b1 : decide (((rd_T45 l0 x5_1).f0) = ((rd_T45 l1 x5_1).f0)) = false := by simpa using c8))
       (try (have c8b2 : (((rd_T45 l0 x5_1).f0) == ((rd_T45 l1 x5_1).f0)) = false := by simpa using c8))
       (try (have c8b3 : ¬ (((rd_T45 l0 x5_1).f0) = ((rd_T45 l1 x5_1).f0)) := by simpa using c8))
       clear c8
       have H' := am H
       clear H
       have p422 : 0 ≤ (x5_1 : Int) := of_decide_eq_true ad
       have q422 : x5_1 < (l0.length : Int) := of_decide_eq_true ad
       obtain ⟨ad422, A422_1, c422_1, e422, hx422_0, hx422_1, hl422_1, hi422_1⟩ := at_T45 HR0.out x5_1 p422 q422; cases e422; have HR422_1 := am hi422_1; have HC422_1 := am hl422_1; clear hi422_1 hl422_1; replace p422 := eq_true p422; replace q422 := eq_true q422
       have p423 : 0 ≤ (x5_1 : Int) := of_decide_eq_true ad
       have q423 : x5_1 < (l1.length : Int) := of_decide_eq_true ad
       obtain ⟨ad423, A423_1, c423_1, e423, hx423_0, hx423_1, hl423_1, hi423_1⟩ := at_T45 HR1.out x5_1 p423 q423; cases e423
       have HR423_1 := am hi423_1; have HC423_1 := am hl423_1; clear hi423_1 hl423_1; replace p423 := eq_true p423; replace q423 := eq_true q423; go_wp2
       repeat (go_quiet (fail); try go_wp2)
       go_meet
       case rel => exact ⟨_, (true), sq, H', ⟨b26_⟩, dr⟩
      rw [if_neg c8] at H
      have c8b0 : (((rd_T45 l0 x5_1).f0) != ((rd_T45 l1 x5_1).f0)) = false := by simpa using c8
      (try (have c8b1 : decide (((rd_T45 l0 x5_1).f0) = ((rd_T45 l1 x5_1).f0)) = true := by simpa using c8))
      (try (have c8b2 : (((rd_T45 l0 x5_1).f0) == ((rd_T45 l1 x5_1).f0)) = true := by simpa using c8))
      clear c8
      have H' := am H
      clear H
      have p422 : 0 ≤ (x5_1 : Int) := of_decide_eq_true ad
      have q422 : x5_1 < (l0.length : Int) := of_decide_eq_true ad
      obtain ⟨ad422, A422_1, c422_1, e422, hx422_0, hx422_1, hl422_1, hi422_1⟩ := at_T45 HR0.out x5_1 p422 q422; cases e422; have HR422_1 := am hi422_1; have HC422_1 := am hl422_1; clear hi422_1 hl422_1; replace p422 := eq_true p422; replace q422 := eq_true q422
      have p423 : 0 ≤ (x5_1 : Int) := of_decide_eq_true ad
      have q423 : x5_1 < (l1.length : Int) := of_decide_eq_true ad
      obtain ⟨ad423, A423_1, c423_1, e423, hx423_0, hx423_1, hl423_1, hi423_1⟩ := at_T45 HR1.out x5_1 p423 q423; cases e423; have HR423_1 := am hi423_1; have HC423_1 := am hl423_1; clear hi423_1 hl423_1; replace p423 := eq_true p423; replace q423 := eq_true q423
      have p424 : 0 ≤ (x5_1 : Int) := of_decide_eq_true ad
      have q424 : x5_1 < (l0.length : Int) := of_decide_eq_true ad
      obtain ⟨ad424, A424_1, c424_1, e424, hx424_0, hx424_1, hl424_1, hi424_1⟩ := at_T45 HR0.out x5_1 p424 q424
      obtain rfl : ad422 = ad424 := (by injection e424)
      have HR424_1 := am hi424_1; have HC424_1 := am hl424_1; clear hi424_1 hl424_1; replace p424 := eq_true p424; replace q424 := eq_true q424; have ea_ := Option.some.inj (hx422_1.symm.trans hx424_1)
      injection ea_ with ea_ en_ ec_
      subst ea_; subst ec_; clear en_
      have p425 : 0 ≤ (x5_1 : Int) := of_decide_eq_true ad
      have q425 : x5_1 < (l1.length : Int) := of_decide_eq_true ad
      obtain ⟨ad425, A425_1, c425_1, e425, hx425_0, hx425_1, hl425_1, hi425_1⟩ := at_T45 HR1.out x5_1 p425 q425
      obtain rfl : ad423 = ad425 := (by injection e425)
      have HR425_1 := am hi425_1; have HC425_1 := am hl425_1; clear hi425_1 hl425_1; replace p425 := eq_true p425; replace q425 := eq_true q425; have ea_ := Option.some.inj (hx423_1.symm.trans hx425_1)
      injection ea_ with ea_ en_ ec_
      subst ea_; subst ec_; clear en_; go_wp2
      repeat (go_quiet (fail); try go_wp2)
      go_meet
      case rel => exact ⟨_, (((((rd_T45 l0 x5_1).f1).length : Int) != (((rd_T45 l1 x5_1).f1).length : Int))), sq, H', ⟨b26_⟩, dr⟩
     case rest =>
      clear HC5; (try clear c1); (try clear p2); (try clear c3); (try clear c3b0); (try clear c3b1); (try clear c3b2); (try clear c4); (try clear c4b0); (try clear p4); (try clear q4); (try clear hx4); (try clear c6); (try clear c6b0); (try clear c7); (try clear c7b0); (try clear c8); (try clear c8b0); (try clear c8b1); (try clear c8b2); (try clear hx422_0); (try clear hx422_1); (try clear hx423_0); (try clear hx423_1); (try clear hx424_0); (try clear hx424_1); (try clear hx425_0); (try clear hx425_1); (try clear p2); (try clear p422); (try clear p423); (try clear p424); (try clear p425); (try clear q422); (try clear q423); (try clear q424); (try clear q425); obtain ⟨kq, x43_4, rfl, HA, HJ4, ⟨mc4, rfl⟩⟩ := hcut
      cases kq with
      | zero => exact absurd HA.out (by simp [laws_mdMachine.j1])
      | succ kj4 =>
       have H := HA.out; clear HA; simp only [laws_mdMachine.j1] at H
       by_cases c9 : x43_4 = true
       ·subst c9
        rw [if_pos rfl] at H
        obtain rfl := Option.some.inj H; go_wp2
        repeat (go_quiet (fail); try go_wp2)
        go_ret
        exact ⟨sq, dr⟩
       replace c9 := Bool.eq_false_iff.mpr c9; subst c9
       rw [if_neg Bool.false_ne_true] at H
       have H' := am H
       clear H; go_wp2
       repeat (go_quiet (fail); try go_wp2)
       go_loopg [6] kj4 (fun kq v6 w' => ∃ (x6_3 : Int), v6 = .int .i64 x6_3 ∧ Aside0 (laws_mdMachine.l1 kq l0 l1 x5_1 x6_3 = some r) ∧ Aside0 (kq ≤ kj4) ∧ Drawn0 w w')
       case atStart => exact ⟨(0), sq, H', ⟨Nat.le_refl _⟩, dr⟩
       case round =>
        clear H'; (try clear c1); (try clear p2); (try clear c3); (try clear c3b0); (try clear c3b1); (try clear c3b2); (try clear c4); (try clear c4b0); (try clear p4); (try clear q4); (try clear hx4); (try clear c6); (try clear c6b0); (try clear c7); (try clear c7b0); (try clear c8); (try clear c8b0); (try clear c8b1); (try clear c8b2); (try clear c9); (try clear hx422_0); (try clear hx422_1); (try clear hx423_0); (try clear hx423_1); (try clear hx424_0); (try clear hx424_1); (try clear hx425_0); (try clear hx425_1); (try clear p2); (try clear p4); (try clear p422); (try clear p423); (try clear p424); (try clear p425); (try clear q4); (try clear q422); (try clear q423); (try clear q424); (try clear q425); obtain ⟨x6_3, rfl, HA, HK3, ⟨m3, rfl⟩⟩ := hrel
        cases gk with
        | zero => exact absurd HA.out (by simp [laws_mdMachine.l1])
        | succ k3 =>
         have H := HA.out; clear HA; simp only [laws_mdMachine.l1] at H; replace H := it H; obtain ⟨c10b0, H⟩ := H; replace H := it H; obtain ⟨c11b0, H⟩ := H
         by_cases c12 : x6_3 < (((rd_T45 l0 x5_1).f1).length : Int)
         ·rw [if_pos c12] at H; have c12b0 := decide_eq_true c12; clear c12
          replace H := it H; obtain ⟨c13b0, H⟩ := H; replace H := it H; obtain ⟨c14b0, H⟩ := H; replace H := it H; obtain ⟨c15b0, H⟩ := H
          by_cases c16 : (!(((rd_T49 ((rd_T45 l0 x5_1).f1) x6_3).f0) == ((rd_T49 ((rd_T45 l1 x5_1).f1) x6_3).f0)) || (!(((rd_T49 ((rd_T45 l0 x5_1).f1) x6_3).f1) == ((rd_T49 ((rd_T45 l1 x5_1).f1) x6_3).f1)))) = true
          ·rw [if_pos c16] at H
           have c16b0 : (!(((rd_T49 ((rd_T45 l0 x5_1).f1) x6_3).f0) == ((rd_T49 ((rd_T45 l1 x5_1).f1) x6_3).f0)) || (!(((rd_T49 ((rd_T45 l0 x5_1).f1) x6_3).f1) == ((rd_T49 ((rd_T45 l1 x5_1).f1) x6_3).f1)))) = true := c16
           clear c16; obtain rfl := Option.some.inj H
           have p426 : 0 ≤ (x5_1 : Int) := of_decide_eq_true ad
           have q426 : x5_1 < (l0.length : Int) := of_decide_eq_true ad
           obtain ⟨ad426, A426_1, c426_1, e426, hx426_0, hx426_1, hl426_1, hi426_1⟩ := at_T45 HR0.out x5_1 p426 q426; cases e426; have HR426_1 := am hi426_1; have HC426_1 := am hl426_1; clear hi426_1 hl426_1; replace p426 := eq_true p426; replace q426 := eq_true q426
           have p427 : 0 ≤ (x5_1 : Int) := of_decide_eq_true ad
           have q427 : x5_1 < (l0.length : Int) := of_decide_eq_true ad
           obtain ⟨ad427, A427_1, c427_1, e427, hx427_0, hx427_1, hl427_1, hi427_1⟩ := at_T45 HR0.out x5_1 p427 q427
           obtain rfl : ad426 = ad427 := (by injection e427)
           have HR427_1 := am hi427_1; have HC427_1 := am hl427_1; clear hi427_1 hl427_1; replace p427 := eq_true p427; replace q427 := eq_true q427; have ea_ := Option.some.inj (hx426_1.symm.trans hx427_1)
           injection ea_ with ea_ en_ ec_
           subst ea_; subst ec_; clear en_
           have p428 : 0 ≤ (x6_3 : Int) := of_decide_eq_true ad
           have q428 : x6_3 < (((rd_T45 l0 x5_1).f1).length : Int) := of_decide_eq_true ad
           obtain ⟨ad428, e428, hx428_0, hx428_1⟩ := at_T49 HR427_1.out x6_3 p428 q428; cases e428; replace p428 := eq_true p428; replace q428 := eq_true q428
           have p429 : 0 ≤ (x5_1 : Int) := of_decide_eq_true ad
           have q429 : x5_1 < (l1.length : Int) := of_decide_eq_true ad
           obtain ⟨ad429, A429_1, c429_1, e429, hx429_0, hx429_1, hl429_1, hi429_1⟩ := at_T45 HR1.out x5_1 p429 q429; cases e429; have HR429_1 := am hi429_1; have HC429_1 := am hl429_1; clear hi429_1 hl429_1; replace p429 := eq_true p429; replace q429 := eq_true q429
           have p430 : 0 ≤ (x6_3 : Int) := of_decide_eq_true ad
           have q430 : x6_3 < (((rd_T45 l1 x5_1).f1).length : Int) := of_decide_eq_true ad
           obtain ⟨ad430, e430, hx430_0, hx430_1⟩ := at_T49 HR429_1.out x6_3 p430 q430; cases e430
           replace p430 := eq_true p430; replace q430 := eq_true q430; go_wp2
           repeat (go_quiet (fail); try go_wp2)
           go_ret
           exact ⟨sq, dr⟩
          rw [if_neg c16] at H
          have c16b0 : (!(((rd_T49 ((rd_T45 l0 x5_1).f1) x6_3).f0) == ((rd_T49 ((rd_T45 l1 x5_1).f1) x6_3).f0)) || (!(((rd_T49 ((rd_T45 l0 x5_1).f1) x6_3).f1) == ((rd_T49 ((rd_T45 l1 x5_1).f1) x6_3).f1)))) = false := by simpa using c16
          clear c16
          have H' := am H
          clear H
          have p426 : 0 ≤ (x5_1 : Int) := of_decide_eq_true ad
          have q426 : x5_1 < (l0.length : Int) := of_decide_eq_true ad
          obtain ⟨ad426, A426_1, c426_1, e426, hx426_0, hx426_1, hl426_1, hi426_1⟩ := at_T45 HR0.out x5_1 p426 q426; cases e426; have HR426_1 := am hi426_1; have HC426_1 := am hl426_1; clear hi426_1 hl426_1; replace p426 := eq_true p426; replace q426 := eq_true q426
          have p427 : 0 ≤ (x5_1 : Int) := of_decide_eq_true ad
          have q427 : x5_1 < (l0.length : Int) := of_decide_eq_true ad
          obtain ⟨ad427, A427_1, c427_1, e427, hx427_0, hx427_1, hl427_1, hi427_1⟩ := at_T45 HR0.out x5_1 p427 q427
          obtain rfl : ad426 = ad427 := (by injection e427)
          have HR427_1 := am hi427_1; have HC427_1 := am hl427_1; clear hi427_1 hl427_1; replace p427 := eq_true p427; replace q427 := eq_true q427; have ea_ := Option.some.inj (hx426_1.symm.trans hx427_1)
          injection ea_ with ea_ en_ ec_
          subst ea_; subst ec_; clear en_
          have p428 : 0 ≤ (x6_3 : Int) := of_decide_eq_true ad
          have q428 : x6_3 < (((rd_T45 l0 x5_1).f1).length : Int) := of_decide_eq_true ad
          obtain ⟨ad428, e428, hx428_0, hx428_1⟩ := at_T49 HR427_1.out x6_3 p428 q428; cases e428; replace p428 := eq_true p428; replace q428 := eq_true q428
          have p429 : 0 ≤ (x5_1 : Int) := of_decide_eq_true ad
          have q429 : x5_1 < (l1.length : Int) := of_decide_eq_true ad
          obtain ⟨ad429, A429_1, c429_1, e429, hx429_0, hx429_1, hl429_1, hi429_1⟩ := at_T45 HR1.out x5_1 p429 q429; cases e429; have HR429_1 := am hi429_1; have HC429_1 := am hl429_1; clear hi429_1 hl429_1; replace p429 := eq_true p429; replace q429 := eq_true q429
          have p430 : 0 ≤ (x6_3 : Int) := of_decide_eq_true ad
          have q430 : x6_3 < (((rd_T45 l1 x5_1).f1).length : Int) := of_decide_eq_true ad
          obtain ⟨ad430, e430, hx430_0, hx430_1⟩ := at_T49 HR429_1.out x6_3 p430 q430; cases e430
          replace p430 := eq_true p430; replace q430 := eq_true q430; go_wp2
          repeat (go_quiet (fail); try go_wp2)
          go_roundg k3
          case measure => have := HK1.out; have := HJ4.out; have := HK3.out; omega
          case rel => exact ⟨(wrap64 (x6_3 + 1)), sq, H', ⟨by have := HK1.out; have := HJ4.out; have := HK3.out; omega⟩, dr⟩
         rw [if_neg c12] at H; have c12b0 := decide_eq_false c12; clear c12
         have H' := am H
         clear H
         have p426 : 0 ≤ (x5_1 : Int) := of_decide_eq_true ad
         have q426 : x5_1 < (l0.length : Int) := of_decide_eq_true ad
         obtain ⟨ad426, A426_1, c426_1, e426, hx426_0, hx426_1, hl426_1, hi426_1⟩ := at_T45 HR0.out x5_1 p426 q426; cases e426
         have HR426_1 := am hi426_1; have HC426_1 := am hl426_1; clear hi426_1 hl426_1; replace p426 := eq_true p426; replace q426 := eq_true q426; go_wp2
         repeat (go_quiet (fail); try go_wp2)
         go_roundg k3
         case measure => have := HK1.out; have := HJ4.out; have := HK3.out; omega
         case rel => exact ⟨(wrap64 (x5_1 + 1)), sq, H', ⟨by have := HK1.out; have := HJ4.out; have := HK3.out; omega⟩, dr⟩
    rw [if_neg c4] at H; have c4b0 := decide_eq_false c4; clear c4; obtain rfl := Option.some.inj H; go_wp2
    repeat (go_quiet (fail); try go_wp2)
    go_ret
    exact ⟨sq, dr⟩
 rw [if_neg c3] at H
 have c3b0 : ((l0.length : Int) == (l1.length : Int)) = false := beq_eq_false_iff_ne.mpr c3
 have c3b1 : ((l0.length : Int) != (l1.length : Int)) = true := bne_iff_ne.mpr c3
 have c3b2 : (l0.length == l1.length) = false := b83_
 obtain rfl := Option.some.inj H; go_enter Try.func16, Try.ntmps16; go_wp2
 repeat (go_quiet (fail); try go_wp2)
 go_ret
 exact ⟨sq, dr⟩
-- shrunk

/-! ### impl_MachineOk: function 20 -/
mutual
def impl_MachineOk.l0 : Nat → List (S45) → List Int → Int → Option (Bool)
 | 0, _, _, _ => none
 | k + 1, x0, x3, x4 => if x4 ≥ 0 then (if 0 ≤ x4 then (if x4 < (x0.length : Int) then (if x4 > 0 then (if ((rd_T45 x0 x4).f0 = true) then (impl_MachineOk.j1 k x0 x3 x4 false ((rd_T45 x0 x4).f0) ((rd_T45 x0 x4).f1)) else (impl_MachineOk.j1 k x0 x3 x4 ((((rd_T45 x0 x4).f1).length : Int) == 0) ((rd_T45 x0 x4).f0) ((rd_T45 x0 x4).f1))) else (impl_MachineOk.j1 k x0 x3 x4 false ((rd_T45 x0 x4).f0) ((rd_T45 x0 x4).f1))) else (none)) else (none)) else (if 0 < (x3.length : Int) then (some (decide ((rd x3 0) ≤ 12))) else (none))
def impl_MachineOk.j1 : Nat → List (S45) → List Int → Int → Bool → Bool → List (S49) → Option (Bool)
 | 0, _, _, _, _, _, _ => none
 | k + 1, x0, x3, x4, x38, x438000, x438001 => if x38 = true then (some false) else (if 0 ≤ x4 then (if x4 < (x3.length : Int) then ((some (x3.set (x4 : Int).toNat (-1) : List Int)).bind fun y438 => (if x438000 = true then (impl_MachineOk.j2 k x0 (y438.set (x4 : Int).toNat 0) x4 x438000 x438001) else (impl_MachineOk.j2 k x0 y438 x4 x438000 x438001))) else (none)) else (none))
def impl_MachineOk.j2 : Nat → List (S45) → List Int → Int → Bool → List (S49) → Option (Bool)
 | 0, _, _, _, _, _ => none
 | k + 1, x0, x3, x4, x438000, x438001 => impl_MachineOk.l1 k x0 x3 x4 x438001 (x438001.length : Int) 0 x438000 x438001
def impl_MachineOk.l1 : Nat → List (S45) → List Int → Int → List (S49) → Int → Int → Bool → List (S49) → Option (Bool)
 | 0, _, _, _, _, _, _, _, _ => none
 | k + 1, x0, x3, x4, x48, x49, x50, x438000, x438001 => if x50 < x49 then (if 0 ≤ x50 then (if x50 < (x48.length : Int) then ((impl_within.f ((rd_T49 x48 x50).f0) 97 122).bind fun t442 => (if t442 = true then (if x50 > 0 then (if 0 ≤ (wrap64 (x50 - 1)) then (if (wrap64 (x50 - 1)) < (x438001.length : Int) then (if ((rd_T49 x438001 (wrap64 (x50 - 1))).f0) ≥ ((rd_T49 x48 x50).f0) then (impl_MachineOk.j4 k x0 x3 x4 x48 x49 x50 true x438000 x438001 ((rd_T49 x48 x50).f0) ((rd_T49 x48 x50).f1)) else ((impl_within.f ((rd_T49 x48 x50).f1) (wrap64 (x4 + 1)) (wrap64 ((x0.length : Int) - 1))).bind fun t444 => (impl_MachineOk.j4 k x0 x3 x4 x48 x49 x50 (!t444) x438000 x438001 ((rd_T49 x48 x50).f0) ((rd_T49 x48 x50).f1)))) else (none)) else (none)) else ((impl_within.f ((rd_T49 x48 x50).f1) (wrap64 (x4 + 1)) (wrap64 ((x0.length : Int) - 1))).bind fun t445 => (impl_MachineOk.j4 k x0 x3 x4 x48 x49 x50 (!t445) x438000 x438001 ((rd_T49 x48 x50).f0) ((rd_T49 x48 x50).f1)))) else (impl_MachineOk.j4 k x0 x3 x4 x48 x49 x50 true x438000 x438001 ((rd_T49 x48 x50).f0) ((rd_T49 x48 x50).f1)))) else (none)) else (none)) else (impl_MachineOk.l0 k x0 x3 (wrap64 (x4 - 1)))
def impl_MachineOk.j4 : Nat → List (S45) → List Int → Int → List (S49) → Int → Int → Bool → Bool → List (S49) → Int → Int → Option (Bool)
 | 0, _, _, _, _, _, _, _, _, _, _, _ => none
 | k + 1, x0, x3, x4, x48, x49, x50, x85, x438000, x438001, x442000, x442001 => if x85 = true then (some false) else (if 0 ≤ x442001 then (if x442001 < (x3.length : Int) then (if (rd x3 x442001) ≥ 0 then (if 0 ≤ x4 then (if x4 < (x3.length : Int) then (impl_MachineOk.l1 k x0 (x3.set (x4 : Int).toNat (mx (rd x3 x4) (wrap64 ((rd x3 x442001) + 1)))) x4 x48 x49 (wrap64 (x50 + 1)) x438000 x438001) else (none)) else (none)) else (impl_MachineOk.l1 k x0 x3 x4 x48 x49 (wrap64 (x50 + 1)) x438000 x438001)) else (none)) else (none))
end
def impl_MachineOk.f (k : Nat) (l0 : List (S45)) : Option (Bool) := (impl_within.f (l0.length : Int) 1 400).bind fun t431 => (if t431 = true then (if 0 ≤ (l0.length : Int) then (if l0.length ≤ 35184372088832 then (impl_MachineOk.l0 k l0 (List.replicate l0.length 0) (wrap64 ((l0.length : Int) - 1))) else (none)) else (none)) else (some false))
def impl_MachineOk.T16 : Bool × List (List Nat × List Nat) := (true, [([], []), ([0], [0]), ([1], [1]), ([2], [2]), ([3, 2], [3]), ([4], [4]), ([5, 4], [4, 5]), ([6, 4, 4], [4, 6]), ([7], [7]), ([8, 7], [7, 8]), ([7], [7]), ([10, 7], [7, 10]), ([9, 11, 7], [7, 9, 11]), ([12, 7], [7, 12]), ([13, 7], [7, 13]), ([7], [7]), ([15, 7], [7, 15]), ([14, 16, 7], [7, 14, 16]), ([7, 17, 4], [4, 7, 17]), ([4, 18], [4, 18]), ([19, 7], [19]), ([20], [20]), ([21, 20], [20, 21]), ([20], [20]), ([23, 20], [20, 23]), ([20], [20]), ([25, 20], [20, 25]), ([26, 20], [20, 26]), ([22, 24, 27, 20, 20], [20, 22, 24, 27]), ([28, 20], [20, 28]), ([20, 29], [20, 29])])
def impl_MachineOk.B16 : List Nat := [0, 1, 3, 7, 15, 31, 63, 127, 255, 511, 255, 1279, 4095, 8191, 16383, 255, 33023, 131071, 262143, 524287, 1048575, 2097151, 4194303, 2097151, 10485759, 2097151, 35651583, 102760447, 268435455, 536870911, 1073741823]
theorem impl_MachineOk.tab16 : rtab .any (opsOf Try.f20 16) = impl_MachineOk.T16 := by kernel_rfl
theorem impl_MachineOk.bits16 : waitsOk impl_MachineOk.T16.2 impl_MachineOk.B16 = true := by kernel_rfl
def impl_MachineOk.T19 : Bool × List (List Nat × List Nat) := (true, [([], []), ([], []), ([], []), ([], []), ([2, 3], [2, 3]), ([4], [4]), ([], []), ([], []), ([7], [7]), ([6, 8], [6, 8]), ([9], [9]), ([10], [10]), ([5, 11], [5, 11]), ([0, 1, 0, 1, 2, 3, 4, 5, 6, 7, 8, 9, 10, 11, 12], [0, 1]), ([13, 12, 0, 1, 2, 3, 4, 5, 6, 7, 8, 9, 10, 11, 12], [12, 13])])
def impl_MachineOk.B19 : List Nat := [0, 0, 0, 0, 12, 28, 0, 0, 128, 448, 960, 1984, 4092, 8191, 16383]
theorem impl_MachineOk.tab19 : rtab .any (opsOf Try.f20 19) = impl_MachineOk.T19 := by kernel_rfl
theorem impl_MachineOk.bits19 : waitsOk impl_MachineOk.T19.2 impl_MachineOk.B19 = true := by kernel_rfl
theorem impl_MachineOk.calls (k : Nat) (A0 : Option Addr) (c0 : Nat) (l0 : List (S45)) (r : Bool) (w : World) (hr0 : Kd.C k45 w A0 l0.length l0) (hc0 : l0.length ≤ c0) (h : impl_MachineOk.f k l0 = some r) :
  Calls Try.prog 20 #[.slice A0 l0.length c0] w fun e w' => e = .returned (.bool r) ∧ Below w.heap.size w w' := by
 have hu45 := Try.underlying45; have hu49 := Try.underlying49; have HR0 := am hr0; have HC0 := am hc0; clear hr0 hc0; have HB := am (Below.refl w.heap.size w)
 have H : ((impl_within.f (l0.length : Int) 1 400).bind fun t431 => (if t431 = true then (if 0 ≤ (l0.length : Int) then (if l0.length ≤ 35184372088832 then (impl_MachineOk.l0 k l0 (List.replicate l0.length 0) (wrap64 ((l0.length : Int) - 1))) else (none)) else (none)) else (some false))) = some r := h
 clear h; replace H := bs H; obtain ⟨t431, A20, H⟩ := H; (try dsimp only at H); have A2 := Aside0.mk A20; clear A20
 by_cases c3 : t431 = true
 ·subst c3
  rw [if_pos rfl] at H; replace H := ip H; obtain ⟨c4, H⟩ := H; have c4b0 := eq_true c4
  have c4b1 : decide (0 ≤ (l0.length : Int)) = true := decide_eq_true c4
  clear c4; replace H := ip H; obtain ⟨c5, H⟩ := H; have c5b0 := eq_true c5
  have c5b1 : decide (l0.length ≤ 35184372088832) = true := decide_eq_true c5
  clear c5; obtain ⟨y432, hy432⟩ : ∃ y_ : List Int, y_ = (List.replicate l0.length 0) := ⟨_, rfl⟩
  replace H : (impl_MachineOk.l0 k l0 y432 (wrap64 ((l0.length : Int) - 1))) = some r := by first | (rw [hy432]; with_reducible exact H) | (have H2_ := bm H; rw [hy432]; with_reducible exact H2_) | (with_reducible exact bm H) | with_reducible exact H | (rw [hy432]; exact H) | exact H
  have Ny432 := am hy432; clear hy432
  have H' := am H
  clear H; go_enter Try.func20, Try.ntmps20
  go_wp2_with (first | ((with_reducible refine gate_callee (f := 47) rfl ?_); refine gl 10 Try.func47 #[.int .i64 (l0.length : Int), .int .i64 1, .int .i64 400] ?_; (with_reducible refine (impl_within.calls (l0.length : Int) 1 400 true _ A2.out).mono ?_); rintro e w' ⟨rfl, ⟨nd, rfl⟩⟩; refine ⟨_, rfl, ?_⟩) | ((with_reducible refine gate_dst (N := 14) rfl ?_); (try (refine gate_guard (by rfl) ?_; dsimp only)); refine Kd.R_make (Kd.int .i64) _ 3 rfl (N := 14) rfl 69 _ _ rfl (l0.length : Int) rfl rfl Try.underlying69 (.int .i64 0) 8 info3 rfl (by decide) (by omega) 0 (ok := fun _ => True) (okp := fun _ => True) rfl (fun _ hk => hk) trivial (of_decide_eq_true ad) (Nat.le_trans (Nat.mul_le_mul_right _ (of_decide_eq_true ad : (l0.length : Int).toNat ≤ 35184372088832)) (by omega)) (Below.refl _ _) (Nat.le_refl _) ?_; intro v433 w6 ho7 hb hg_ hnew_; clear hg_ hnew_; (first | rw [← Ny432.out] at ho7 | (simp only [Int.reduceToNat] at ho7; rw [← Ny432.out] at ho7) | (simp only [Int.toNat_natCast] at ho7; rw [← Ny432.out] at ho7)); have HO434 := am (Kd.R_lower ho7 (below_size bel)); replace HB := am (below_step bel hb); clear hb ho7))
  go_loopg [4] k (fun kq v4 w' => ∃ (x3_1 : List Int) (x4_1 : Int), v4 = .int .i64 x4_1 ∧ Aside0 (impl_MachineOk.l0 kq l0 x3_1 x4_1 = some r) ∧ Aside0 (kq ≤ k) ∧ Aside0 (Kd.R (Kd.int .i64) 3 w' w.heap.size (fun _ => True) v433 x3_1) ∧ Aside0 (Below w.heap.size w w'))
  case atStart => exact ⟨(y432), (wrap64 ((l0.length : Int) - 1)), sq, H', ⟨Nat.le_refl _⟩, ⟨rq HO434.out⟩, ⟨bel⟩⟩
  case round =>
   clear H'; (try clear c2); (try clear p2); (try clear c3); (try clear c4); (try clear c4b0); (try clear c4b1); (try clear c5); (try clear c5b0); (try clear c5b1); (try clear p6); obtain ⟨x3_1, x4_1, rfl, HA, HK1, HO_3, HB⟩ := hrel
   cases gk with
   | zero => exact absurd HA.out (by simp [impl_MachineOk.l0])
   | succ k1 =>
    have H := HA.out; clear HA; simp only [impl_MachineOk.l0] at H
    by_cases c8 : x4_1 ≥ 0
    ·rw [if_pos c8] at H; have c8b0 := decide_eq_true c8; clear c8
     replace H := it H; obtain ⟨c9b0, H⟩ := H; replace H := it H; obtain ⟨c10b0, H⟩ := H; have HC11 := am H; clear H
     have p436 : 0 ≤ (x4_1 : Int) := of_decide_eq_true ad
     have q436 : x4_1 < (l0.length : Int) := of_decide_eq_true ad
     obtain ⟨ad436, A436_1, c436_1, e436, hx436_0, hx436_1, hl436_1, hi436_1⟩ := at_T45 HR0.out x4_1 p436 q436; cases e436; replace hx436_0 := kp HB.out hx436_0; replace hx436_1 := kp HB.out hx436_1; have HR436_1 := am hi436_1; have HC436_1 := am hl436_1; clear hi436_1 hl436_1; replace p436 := eq_true p436; replace q436 := eq_true q436
     go_upto_region 8 with (first | ((with_reducible refine gate_dst (N := 5) rfl ?_); (try (refine gate_guard (by rfl) ?_; dsimp only)); refine bx 5 (cs := #[.bool false, .slice none 0 0]) (t := 45) ?_; intro gb437 hg w12 hbox hb; replace HO_3 := am (Kd.R_below (rq HO_3.out) hb); have BK437 := am (hbox); have GW437 := am ((b19_ : w.heap.size ≤ gb437)); have GE437 := am ((b19_ : w.heap.size ≤ gb437)); replace HB := am (below_step bel hb); clear hb hbox hg; have ⟨hcz13_0, hcz13_1, hfz13_0, hfz13_1⟩ := b2c BK437.out))
     (try simp only [Act.put, List.setIfInBounds_toArray, List.set_cons_zero, List.set_cons_succ])
     go_cut [38] (fun v38 wc => ∃ (kq : Nat) (x38_10 : Bool), v38 = .bool x38_10 ∧ Aside0 (impl_MachineOk.j1 kq l0 x3_1 x4_1 x38_10 ((rd_T45 l0 x4_1).f0) ((rd_T45 l0 x4_1).f1) = some r) ∧ Aside0 (kq ≤ k1) ∧ Aside0 (Kd.R (Kd.int .i64) 3 wc w.heap.size (fun _ => True) v433 x3_1) ∧ Aside0 (wc.heap[gb437]? = some (.cells #[.bool ((rd_T45 l0 x4_1).f0), (.slice A436_1 ((rd_T45 l0 x4_1).f1).length c436_1)] 45 (0, 0))) ∧ Aside0 (Below w.heap.size w wc))
     case first =>
      have H := HC11.out; clear HC11
      by_cases c14 : x4_1 > 0
      ·rw [if_pos c14] at H; have c14b0 := decide_eq_true c14; clear c14
       (first | rw [c14b0] | (simp only [i64_w, i32_w]; rw [c14b0]) | skip)
       obtain ⟨bq15, hbq15⟩ : ∃ b_ : Bool, b_ = ((rd_T45 l0 x4_1).f0) := ⟨_, rfl⟩
       replace H : (if (bq15 = true) then (impl_MachineOk.j1 k1 l0 x3_1 x4_1 false bq15 ((rd_T45 l0 x4_1).f1)) else (impl_MachineOk.j1 k1 l0 x3_1 x4_1 ((((rd_T45 l0 x4_1).f1).length : Int) == 0) bq15 ((rd_T45 l0 x4_1).f1))) = some r := by rw [← hbq15] at H; exact H
       have Nbq15 := am hbq15; clear hbq15
       by_cases c16 : (bq15 = true)
       ·subst c16
        (try rw [← Nbq15.out] at hx436_0)
        (try rw [← Nbq15.out])
        rw [if_pos rfl] at H
        have H' := am H
        clear H; have ⟨hcz17_0, hcz17_1, hfz17_0, hfz17_1⟩ := b2c BK437.out; go_wp2
        go_meet
        case rel => (try rw [← Nbq15.out]); exact ⟨_, (false), sq, H', ⟨b26_⟩, ⟨rq (Kd.R_mono (Kd.R_far (p := ⟨gb437, 1, none⟩) (Kd.R_far (p := ⟨gb437, 0, none⟩) (Kd.R_types HO_3.out BK437.out (by decide)) (fun _ hk => hk.2) (.bool (true))) (fun _ hk => hk.2) (.slice A436_1 ((rd_T45 l0 x4_1).f1).length c436_1)) (fun _ hk => trivial))⟩, ⟨by (with_reducible repeat (first | refine blk_drewN ?_ _ | refine blk_drew ?_ | refine blk_alloc ?_ _)); refine blk_put (cs := #[.bool (true), .slice none 0 0]) ?_ 1 _ rfl; (with_reducible repeat (first | refine blk_drewN ?_ _ | refine blk_drew ?_ | refine blk_alloc ?_ _)); refine blk_put (cs := #[.bool false, .slice none 0 0]) ?_ 0 _ rfl; (with_reducible repeat (first | refine blk_drewN ?_ _ | refine blk_drew ?_ | refine blk_alloc ?_ _)); exact BK437.out⟩, ⟨bel1 GE437.out⟩⟩
       replace c16 := Bool.eq_false_iff.mpr c16; subst c16
       (try rw [← Nbq15.out] at hx436_0)
       (try rw [← Nbq15.out])
       rw [if_neg Bool.false_ne_true] at H
       have H' := am H
       clear H; have ⟨hcz18_0, hcz18_1, hfz18_0, hfz18_1⟩ := b2c BK437.out; go_wp2
       go_meet
       case rel => (try rw [← Nbq15.out]); exact ⟨_, (((((rd_T45 l0 x4_1).f1).length : Int) == 0)), sq, H', ⟨b26_⟩, ⟨rq (Kd.R_mono (Kd.R_far (p := ⟨gb437, 1, none⟩) (Kd.R_far (p := ⟨gb437, 0, none⟩) (Kd.R_types HO_3.out BK437.out (by decide)) (fun _ hk => hk.2) (.bool (false))) (fun _ hk => hk.2) (.slice A436_1 ((rd_T45 l0 x4_1).f1).length c436_1)) (fun _ hk => trivial))⟩, ⟨by (with_reducible repeat (first | refine blk_drewN ?_ _ | refine blk_drew ?_ | refine blk_alloc ?_ _)); refine blk_put (cs := #[.bool (false), .slice none 0 0]) ?_ 1 _ rfl; (with_reducible repeat (first | refine blk_drewN ?_ _ | refine blk_drew ?_ | refine blk_alloc ?_ _)); refine blk_put (cs := #[.bool false, .slice none 0 0]) ?_ 0 _ rfl; (with_reducible repeat (first | refine blk_drewN ?_ _ | refine blk_drew ?_ | refine blk_alloc ?_ _)); exact BK437.out⟩, ⟨bel1 GE437.out⟩⟩
      rw [if_neg c14] at H; have c14b0 := decide_eq_false c14; clear c14
      (first | rw [c14b0] | (simp only [i64_w, i32_w]; rw [c14b0]) | skip)
      have H' := am H
      clear H; go_wp2
      go_meet
      case rel => exact ⟨_, (false), sq, H', ⟨b26_⟩, ⟨rq (Kd.R_mono (Kd.R_far (p := ⟨gb437, 1, none⟩) (Kd.R_far (p := ⟨gb437, 0, none⟩) (Kd.R_types HO_3.out BK437.out (by decide)) (fun _ hk => hk.2) (.bool ((rd_T45 l0 x4_1).f0))) (fun _ hk => hk.2) (.slice A436_1 ((rd_T45 l0 x4_1).f1).length c436_1)) (fun _ hk => trivial))⟩, ⟨by (with_reducible repeat (first | refine blk_drewN ?_ _ | refine blk_drew ?_ | refine blk_alloc ?_ _)); refine blk_put (cs := #[.bool ((rd_T45 l0 x4_1).f0), .slice none 0 0]) ?_ 1 _ rfl; (with_reducible repeat (first | refine blk_drewN ?_ _ | refine blk_drew ?_ | refine blk_alloc ?_ _)); refine blk_put (cs := #[.bool false, .slice none 0 0]) ?_ 0 _ rfl; (with_reducible repeat (first | refine blk_drewN ?_ _ | refine blk_drew ?_ | refine blk_alloc ?_ _)); exact BK437.out⟩, ⟨bel1 GE437.out⟩⟩
     case rest =>
      clear HC11; (try clear c1); (try clear q1); (try clear c2); (try clear p2); (try clear c3); (try clear c4); (try clear c4b0); (try clear c4b1); (try clear p4); (try clear q4); (try clear hx4); (try clear c5); (try clear c5b0); (try clear c5b1); (try clear p6); (try clear c8); (try clear c8b0); (try clear c9); (try clear c9b0); (try clear c10); (try clear c10b0); (try clear c14); (try clear c14b0); (try clear q15); (try clear c16); (try clear hcz13_0); (try clear hcz13_1); (try clear hcz17_0); (try clear hcz17_1); (try clear hcz18_0); (try clear hcz18_1); (try clear hfz13_0); (try clear hfz13_1); (try clear hfz17_0); (try clear hfz17_1); (try clear hfz18_0); (try clear hfz18_1); (try clear hx436_0); (try clear hx436_1); (try clear p2); (try clear p436); (try clear p6); (try clear q436); obtain ⟨kq, x38_10, rfl, HA, HJ10, HO_3, BK437, HB⟩ := hcut
      cases kq with
      | zero => exact absurd HA.out (by simp [impl_MachineOk.j1])
      | succ kj10 =>
       have H := HA.out; clear HA; simp only [impl_MachineOk.j1] at H
       by_cases c19 : x38_10 = true
       ·subst c19
        rw [if_pos rfl] at H
        obtain rfl := Option.some.inj H; go_wp2; go_ret
        exact ⟨eq_, bel1 GE437.out⟩
       replace c19 := Bool.eq_false_iff.mpr c19; subst c19
       rw [if_neg Bool.false_ne_true] at H; replace H := it H; obtain ⟨c20b0, H⟩ := H
       replace H := it H; obtain ⟨c21b0, H⟩ := H; obtain ⟨y438, hy438⟩ : ∃ y_ : List Int, y_ = (x3_1.set (x4_1 : Int).toNat (-1)) := ⟨_, rfl⟩
       replace H : (if ((rd_T45 l0 x4_1).f0) = true then (impl_MachineOk.j2 kj10 l0 (y438.set (x4_1 : Int).toNat 0) x4_1 ((rd_T45 l0 x4_1).f0) ((rd_T45 l0 x4_1).f1)) else (impl_MachineOk.j2 kj10 l0 y438 x4_1 ((rd_T45 l0 x4_1).f0) ((rd_T45 l0 x4_1).f1))) = some r := by first | (rw [hy438]; with_reducible exact H) | (have H2_ := bm H; rw [hy438]; with_reducible exact H2_) | (with_reducible exact bm H) | with_reducible exact H | (rw [hy438]; exact H) | exact H
       have Ny438 := am hy438; clear hy438; have HC23 := am H; clear H
       have p22 : 0 ≤ (x4_1 : Int) := of_decide_eq_true ad
       have q22 : (x4_1 : Int) < ((x3_1.length : Int) : Int) := of_decide_eq_true ad
       obtain ⟨go22, co22, eo22, gb22, gl22, cl22, HG22⟩ := Kd.R_form HO_3.out (by omega)
       (first | cases eo22 | (injection eo22 with ea_ en_ ec_; (first | subst ea_ | (injection ea_ with ea_; subst ea_)); subst ec_; clear en_))
       have GB22 := Aside0.mk gb22; have GG22 := am HG22; clear gb22 gl22 HG22; obtain ⟨hx22_0, hf22_0⟩ := Kd.R_celln 0 HO_3.out (x4_1 : Int) p22 q22; replace p22 := eq_true p22; replace q22 := eq_true q22; have HP24 := Kd.R_putg HO_3.out (x4_1 : Int) (-1)
       go_upto_if 43 with (first | ((with_reducible refine gate_store (t := 3) (p := 41) rfl ?_); refine store_event (t := 3) (p := 41) (v := ?vo_w25) (w1 := (wc.setCell ⟨go22, (x4_1 : Int).toNat, none⟩ (.int .i64 (-1)))) ?hg ?ho ?hn ?hr ?_; (case ho => rfl); (case hg => rfl); (case hn => rfl); (case hr => first | (go_simp; done) | (go_simp; rfl)); intro w25 hw; have hg : wc.grownBy w25 (some go22) := (by rw [hw]; exact HP24.2); have hp_ : Kd.R (Kd.int .i64) 3 w25 w.heap.size (fun _ => True) (.slice (some ⟨go22, 0, none⟩) x3_1.length co22) y438 := (by rw [hw, Ny438.out]; exact HP24.1); clear HP24; replace BK437 := am (blk_grown (g := gb437) (o := .cells #[.bool ((rd_T45 l0 x4_1).f0), .slice A436_1 ((rd_T45 l0 x4_1).f1).length c436_1] 45 (0, 0)) (bq BK437.out) hg (Kd.R_ne HO_3.out BK437.out (by decide))); replace HO_3 := am (hp_); replace HB := am ((by rw [hw]; exact below_set (HB.out) GB22.out : Below w.heap.size w w25)); clear hg hw hp_; have ⟨hcz26_0, hcz26_1, hfz26_0, hfz26_1⟩ := b2c BK437.out))
       (try simp only [Act.put, List.setIfInBounds_toArray, List.set_cons_zero, List.set_cons_succ])
       go_cut [] (fun wc => ∃ (kq : Nat) (x3_22 : List Int), Aside0 (impl_MachineOk.j2 kq l0 x3_22 x4_1 ((rd_T45 l0 x4_1).f0) ((rd_T45 l0 x4_1).f1) = some r) ∧ Aside0 (kq ≤ kj10) ∧ Aside0 (Kd.R (Kd.int .i64) 3 wc w.heap.size (fun _ => True) (.slice (some ⟨go22, 0, none⟩) x3_1.length co22) x3_22) ∧ Aside0 (wc.heap[gb437]? = some (.cells #[.bool ((rd_T45 l0 x4_1).f0), (.slice A436_1 ((rd_T45 l0 x4_1).f1).length c436_1)] 45 (0, 0))) ∧ Aside0 (Below w.heap.size w wc))
       case first =>
        have H := HC23.out; clear HC23
        by_cases c27 : ((rd_T45 l0 x4_1).f0) = true
        ·rw [if_pos c27] at H
         have c27b0 : ((rd_T45 l0 x4_1).f0) = true := c27
         clear c27
         (first | rw [c27b0] | (simp only [i64_w, i32_w]; rw [c27b0]) | skip)
         obtain ⟨y439, hy439⟩ : ∃ y_ : List Int, y_ = (y438.set (x4_1 : Int).toNat 0) := ⟨_, rfl⟩
         replace H : (impl_MachineOk.j2 kj10 l0 y439 x4_1 ((rd_T45 l0 x4_1).f0) ((rd_T45 l0 x4_1).f1)) = some r := by first | (rw [hy439]; with_reducible exact H) | (have H2_ := bm H; rw [hy439]; with_reducible exact H2_) | (with_reducible exact bm H) | with_reducible exact H | (rw [hy439]; exact H) | exact H
         have Ny439 := am hy439; clear hy439
         have H' := am H
         clear H
         have p28 : 0 ≤ (x4_1 : Int) := of_decide_eq_true ad
         have q28 : (x4_1 : Int) < ((x3_1.length : Int) : Int) := of_decide_eq_true ad
         obtain ⟨hx28_0, hf28_0⟩ := Kd.R_celln 0 HO_3.out (x4_1 : Int) p28 q28; replace p28 := eq_true p28; replace q28 := eq_true q28; have HP29 := Kd.R_putg HO_3.out (x4_1 : Int) 0
         go_wp2_with (first | ((with_reducible refine gate_store (t := 3) (p := 46) rfl ?_); refine store_event (t := 3) (p := 46) (v := ?vo_w30) (w1 := (w25.setCell ⟨go22, (x4_1 : Int).toNat, none⟩ (.int .i64 0))) ?hg ?ho ?hn ?hr ?_; (case ho => rfl); (case hg => rfl); (case hn => rfl); (case hr => first | (go_simp; done) | (go_simp; rfl)); intro w30 hw; have hg : w25.grownBy w30 (some go22) := (by rw [hw]; exact HP29.2); have hp_ : Kd.R (Kd.int .i64) 3 w30 w.heap.size (fun _ => True) (.slice (some ⟨go22, 0, none⟩) x3_1.length co22) y439 := (by rw [hw, Ny439.out]; exact HP29.1); clear HP29; replace BK437 := am (blk_grown (g := gb437) (o := .cells #[.bool ((rd_T45 l0 x4_1).f0), .slice A436_1 ((rd_T45 l0 x4_1).f1).length c436_1] 45 (0, 0)) (bq BK437.out) hg (Kd.R_ne HO_3.out BK437.out (by decide))); replace HO_3 := am (hp_); replace HB := am ((by rw [hw]; exact below_set (HB.out) GB22.out : Below w.heap.size w w30)); clear hg hw hp_))
         go_meet
         case rel => exact ⟨_, (y439), H', ⟨by have := HK1.out; have := HJ10.out; first | omega | exact Nat.le_refl _⟩, ⟨rq HO_3.out⟩, ⟨bq BK437.out⟩, ⟨bel1 GE437.out⟩⟩
        rw [if_neg c27] at H
        have c27b0 : ((rd_T45 l0 x4_1).f0) = false := by simpa using c27
        clear c27
        (first | rw [c27b0] | (simp only [i64_w, i32_w]; rw [c27b0]) | skip)
        have H' := am H
        clear H; go_wp2
        go_meet
        case rel => exact ⟨_, (y438), H', ⟨by have := HK1.out; have := HJ10.out; first | omega | exact Nat.le_refl _⟩, ⟨rq HO_3.out⟩, ⟨bq BK437.out⟩, ⟨bel1 GE437.out⟩⟩
       case rest =>
        clear HC23; (try clear c1); (try clear q1); (try clear c2); (try clear p2); (try clear q2); (try clear hx2); (try clear hf2); (try clear c3); (try clear c4); (try clear c4b0); (try clear c4b1); (try clear p4); (try clear q4); (try clear hx4); (try clear c5); (try clear c5b0); (try clear c5b1); (try clear p6); (try clear c8); (try clear c8b0); (try clear c9); (try clear c9b0); (try clear c10); (try clear c10b0); (try clear c14); (try clear c14b0); (try clear q15); (try clear c16); (try clear c19); (try clear c20); (try clear c20b0); (try clear c21); (try clear c21b0); (try clear p22); (try clear q22); (try clear hx22); (try clear hf22); (try clear c27); (try clear c27b0); (try clear p28); (try clear q28); (try clear hx28); (try clear hf28); (try clear hcz13_0); (try clear hcz13_1); (try clear hcz17_0); (try clear hcz17_1); (try clear hcz18_0); (try clear hcz18_1); (try clear hcz26_0); (try clear hcz26_1); (try clear hfz13_0); (try clear hfz13_1); (try clear hfz17_0); (try clear hfz17_1); (try clear hfz18_0); (try clear hfz18_1); (try clear hfz26_0); (try clear hfz26_1); (try clear hx22_0); (try clear hx28_0); (try clear hx436_0); (try clear hx436_1); (try clear p2); (try clear p22); (try clear p28); (try clear p4); (try clear p436); (try clear p6); (try clear q1); (try clear q15); (try clear q22); (try clear q28); (try clear q4); (try clear q436); obtain ⟨kq, x3_22, HA, HJ22, HO_3, BK437, HB⟩ := hcut; have hl3_22 := (Kd.R_reads' HO_3.out).1; rw [hl3_22] at HO_3
        (try simp only [hl3_22])
        (try simp only [hl3_22] at BK437)
        cases kq with
        | zero => exact absurd HA.out (by simp [impl_MachineOk.j2])
        | succ kj22 =>
         have H := HA.out; clear HA; simp only [impl_MachineOk.j2] at H
         have H' := am H
         clear H; have ⟨hcz31_0, hcz31_1, hfz31_0, hfz31_1⟩ := b2c BK437.out; go_wp2
         go_loopg [50] kj22 (fun kq v50 w' => ∃ (x3_4 : List Int) (x50_4 : Int), v50 = .int .i64 x50_4 ∧ Aside0 (impl_MachineOk.l1 kq l0 x3_4 x4_1 ((rd_T45 l0 x4_1).f1) (((rd_T45 l0 x4_1).f1).length : Int) x50_4 ((rd_T45 l0 x4_1).f0) ((rd_T45 l0 x4_1).f1) = some r) ∧ Aside0 (kq ≤ kj22) ∧ Aside0 (Kd.R (Kd.int .i64) 3 w' w.heap.size (fun _ => True) (.slice (some ⟨go22, 0, none⟩) x3_22.length co22) x3_4) ∧ Aside0 (w'.heap[gb437]? = some (.cells #[.bool ((rd_T45 l0 x4_1).f0), (.slice A436_1 ((rd_T45 l0 x4_1).f1).length c436_1)] 45 (0, 0))) ∧ Aside0 (Below w.heap.size w w'))
         case atStart => exact ⟨(x3_22), (0), sq, H', ⟨Nat.le_refl _⟩, ⟨by (try simp only [hl3_22]); (with_reducible repeat (first | apply Kd.R_alloc | apply Kd.R_drewN | apply Kd.R_drew)); exact HO_3.out⟩, ⟨by (try simp only [hl3_22]); (with_reducible repeat (first | refine blk_drewN ?_ _ | refine blk_drew ?_ | refine blk_alloc ?_ _)); exact BK437.out⟩, ⟨bel1 GE437.out⟩⟩
         case round =>
          clear H'; (try clear c1); (try clear q1); (try clear c2); (try clear p2); (try clear q2); (try clear hx2); (try clear hf2); (try clear c3); (try clear c4); (try clear c4b0); (try clear c4b1); (try clear p4); (try clear q4); (try clear hx4); (try clear c5); (try clear c5b0); (try clear c5b1); (try clear p6); (try clear c8); (try clear c8b0); (try clear c9); (try clear c9b0); (try clear c10); (try clear c10b0); (try clear c14); (try clear c14b0); (try clear q15); (try clear c16); (try clear c19); (try clear c20); (try clear c20b0); (try clear c21); (try clear c21b0); (try clear p22); (try clear q22); (try clear hx22); (try clear hf22); (try clear c27); (try clear c27b0); (try clear p28); (try clear q28); (try clear hx28); (try clear hf28); (try clear hcz13_0); (try clear hcz13_1); (try clear hcz17_0); (try clear hcz17_1); (try clear hcz18_0); (try clear hcz18_1); (try clear hcz26_0); (try clear hcz26_1); (try clear hcz31_0); (try clear hcz31_1); (try clear hfz13_0); (try clear hfz13_1); (try clear hfz17_0); (try clear hfz17_1); (try clear hfz18_0); (try clear hfz18_1); (try clear hfz26_0); (try clear hfz26_1); (try clear hfz31_0); (try clear hfz31_1); (try clear hx22_0); (try clear hx28_0); (try clear hx436_0); (try clear hx436_1); (try clear p2); (try clear p22); (try clear p28); (try clear p4); (try clear p436); (try clear p6); (try clear q1); (try clear q15); (try clear q2); (try clear q22); (try clear q28); (try clear q4); (try clear q436); obtain ⟨x3_4, x50_4, rfl, HA, HK4, HO_3, BK437, HB⟩ := hrel; have hl3_4 := (Kd.R_reads' HO_3.out).1; rw [hl3_4] at HO_3
          (try simp only [hl3_4])
          (try simp only [hl3_4] at BK437)
          cases gk with
          | zero => exact absurd HA.out (by simp [impl_MachineOk.l1])
          | succ k4 =>
           have H := HA.out; clear HA; simp only [impl_MachineOk.l1] at H
           by_cases c32 : x50_4 < (((rd_T45 l0 x4_1).f1).length : Int)
           ·rw [if_pos c32] at H; have c32b0 := decide_eq_true c32; clear c32
            replace H := it H; obtain ⟨c33b0, H⟩ := H; replace H := it H; obtain ⟨c34b0, H⟩ := H; have HC35 := am H; clear H
            have p440 : 0 ≤ (x50_4 : Int) := of_decide_eq_true ad
            have q440 : x50_4 < (((rd_T45 l0 x4_1).f1).length : Int) := of_decide_eq_true ad
            obtain ⟨ad440, e440, hx440_0, hx440_1⟩ := at_T49 HR436_1.out x50_4 p440 q440; cases e440; replace hx440_0 := kp HB.out hx440_0; replace hx440_1 := kp HB.out hx440_1; replace p440 := eq_true p440; replace q440 := eq_true q440
            go_upto_region 16 with (first | ((with_reducible refine gate_dst (N := 7) rfl ?_); (try (refine gate_guard (by rfl) ?_; dsimp only)); refine bx 7 (cs := #[.int .i64 0, .int .i64 0]) (t := 49) ?_; intro gb441 hg w36 hbox hb; replace HO_3 := am (Kd.R_below (rq HO_3.out) hb); have BK441 := am (hbox); have GW441 := am ((by rw [hg]; exact (below_size (bel1 GE437.out)) : w.heap.size ≤ gb441)); have GE441 := am ((by rw [hg]; exact (below_size (bel1 GE437.out)) : w.heap.size ≤ gb441)); replace HB := am (below_step (bel1 GE437.out) hb); have NB437_441 := am ((by rw [hg]; exact Nat.ne_of_lt (blk_lt (g := gb437) (o := .cells #[.bool ((rd_T45 l0 x4_1).f0), .slice (some ad440) ((rd_T45 l0 x4_1).f1).length c436_1] 45 (0, 0)) (bq BK437.out)) : gb437 ≠ gb441)); have NB441_437 := am ((by rw [hg]; exact Nat.ne_of_gt (blk_lt (g := gb437) (o := .cells #[.bool ((rd_T45 l0 x4_1).f0), .slice (some ad440) ((rd_T45 l0 x4_1).f1).length c436_1] 45 (0, 0)) (bq BK437.out)) : gb441 ≠ gb437)); replace BK437 := am (blk_below (bq BK437.out) hb); clear hb hbox hg; have hnb37 := NB441_437.out; have hnc37 := NB437_441.out; have ⟨hcz38_0, hcz38_1, hfz38_0, hfz38_1⟩ := b2c BK441.out))
            (try simp only [Act.put, List.setIfInBounds_toArray, List.set_cons_zero, List.set_cons_succ])
            go_cut [85] (fun v85 wc => ∃ (kq : Nat) (x85_34 : Bool), v85 = .bool x85_34 ∧ Aside0 (impl_MachineOk.j4 kq l0 x3_4 x4_1 ((rd_T45 l0 x4_1).f1) (((rd_T45 l0 x4_1).f1).length : Int) x50_4 x85_34 ((rd_T45 l0 x4_1).f0) ((rd_T45 l0 x4_1).f1) ((rd_T49 ((rd_T45 l0 x4_1).f1) x50_4).f0) ((rd_T49 ((rd_T45 l0 x4_1).f1) x50_4).f1) = some r) ∧ Aside0 (kq ≤ k4) ∧ Aside0 (Kd.R (Kd.int .i64) 3 wc w.heap.size (fun _ => True) (.slice (some ⟨go22, 0, none⟩) x3_4.length co22) x3_4) ∧ Aside0 (wc.heap[gb437]? = some (.cells #[.bool ((rd_T45 l0 x4_1).f0), (.slice (some ad440) ((rd_T45 l0 x4_1).f1).length c436_1)] 45 (0, 0))) ∧ Aside0 (wc.heap[gb441]? = some (.cells #[.int .i64 ((rd_T49 ((rd_T45 l0 x4_1).f1) x50_4).f0), .int .i64 ((rd_T49 ((rd_T45 l0 x4_1).f1) x50_4).f1)] 49 (0, 0))) ∧ Aside0 (Below w.heap.size w wc))
            case first =>
             have H := HC35.out; clear HC35; replace H := bs H; obtain ⟨t442, A390, H⟩ := H; (try dsimp only at H); have A39 := Aside0.mk A390; clear A390
             by_cases c40 : t442 = true
             ·subst c40
              rw [if_pos rfl] at H
              by_cases c41 : x50_4 > 0
              ·rw [if_pos c41] at H; have c41b0 := decide_eq_true c41; clear c41
               (first | rw [c41b0] | (simp only [i64_w, i32_w]; rw [c41b0]) | skip)
               obtain ⟨ji42, hji42⟩ : ∃ j_ : Int, (wrap64 (x50_4 - 1)) = j_ := ⟨_, rfl⟩
               replace H : (if 0 ≤ (ji42) then (if (ji42) < (((rd_T45 l0 x4_1).f1).length : Int) then (if ((rd_T49 ((rd_T45 l0 x4_1).f1) (ji42)).f0) ≥ ((rd_T49 ((rd_T45 l0 x4_1).f1) x50_4).f0) then (impl_MachineOk.j4 k4 l0 x3_4 x4_1 ((rd_T45 l0 x4_1).f1) (((rd_T45 l0 x4_1).f1).length : Int) x50_4 true ((rd_T45 l0 x4_1).f0) ((rd_T45 l0 x4_1).f1) ((rd_T49 ((rd_T45 l0 x4_1).f1) x50_4).f0) ((rd_T49 ((rd_T45 l0 x4_1).f1) x50_4).f1)) else ((impl_within.f ((rd_T49 ((rd_T45 l0 x4_1).f1) x50_4).f1) (wrap64 (x4_1 + 1)) (wrap64 ((l0.length : Int) - 1))).bind fun t444 => (impl_MachineOk.j4 k4 l0 x3_4 x4_1 ((rd_T45 l0 x4_1).f1) (((rd_T45 l0 x4_1).f1).length : Int) x50_4 (!t444) ((rd_T45 l0 x4_1).f0) ((rd_T45 l0 x4_1).f1) ((rd_T49 ((rd_T45 l0 x4_1).f1) x50_4).f0) ((rd_T49 ((rd_T45 l0 x4_1).f1) x50_4).f1)))) else (none)) else (none)) = some r := by first | (rw [hji42] at H; exact H) | (simp only [hji42] at H ⊢; exact H)
               (try rw [hji42] at A39)
               have hji42w : (IntKind.i64.wrap (x50_4 - 1)) = ji42 := (i64_w _).trans hji42
               replace H := it H; obtain ⟨c43b0, H⟩ := H; replace H := it H; obtain ⟨c44b0, H⟩ := H
               by_cases c45 : ((rd_T49 ((rd_T45 l0 x4_1).f1) (ji42)).f0) ≥ ((rd_T49 ((rd_T45 l0 x4_1).f1) x50_4).f0)
               ·rw [if_pos c45] at H; have c45b0 := decide_eq_true c45; clear c45
                have H' := am H
                clear H
                try go_wp2
                have n0_ : Aside0 (Kd.R (Kd.int .i64) 3 ((w36.setCell ⟨gb441, 0, none⟩ (.int .i64 ((rd_T49 ((rd_T45 l0 x4_1).f1) x50_4).f0))).setCell ⟨gb441, 1, none⟩ (.int .i64 ((rd_T49 ((rd_T45 l0 x4_1).f1) x50_4).f1))) w.heap.size (fun _ => True) (.slice (some ⟨go22, 0, none⟩) x3_4.length co22) x3_4) := ⟨rq (Kd.R_mono (Kd.R_far (p := ⟨gb441, 1, none⟩) (Kd.R_far (p := ⟨gb441, 0, none⟩) (Kd.R_types HO_3.out BK441.out (by decide)) (fun _ hk => hk.2) (.int .i64 ((rd_T49 ((rd_T45 l0 x4_1).f1) x50_4).f0))) (fun _ hk => hk.2) (.int .i64 ((rd_T49 ((rd_T45 l0 x4_1).f1) x50_4).f1))) (fun _ hk => trivial))⟩
                have n1_ : Aside0 (((w36.setCell ⟨gb441, 0, none⟩ (.int .i64 ((rd_T49 ((rd_T45 l0 x4_1).f1) x50_4).f0))).setCell ⟨gb441, 1, none⟩ (.int .i64 ((rd_T49 ((rd_T45 l0 x4_1).f1) x50_4).f1))).heap[gb437]? = some (.cells #[.bool ((rd_T45 l0 x4_1).f0), .slice (some ad440) ((rd_T45 l0 x4_1).f1).length c436_1] 45 (0, 0))) := ⟨b14_⟩
                have n2_ : Aside0 (((w36.setCell ⟨gb441, 0, none⟩ (.int .i64 ((rd_T49 ((rd_T45 l0 x4_1).f1) x50_4).f0))).setCell ⟨gb441, 1, none⟩ (.int .i64 ((rd_T49 ((rd_T45 l0 x4_1).f1) x50_4).f1))).heap[gb441]? = some (.cells #[.int .i64 ((rd_T49 ((rd_T45 l0 x4_1).f1) x50_4).f0), .int .i64 ((rd_T49 ((rd_T45 l0 x4_1).f1) x50_4).f1)] 49 (0, 0))) := ⟨b12_⟩
                have n3_ : Aside0 (Below w.heap.size w ((w36.setCell ⟨gb441, 0, none⟩ (.int .i64 ((rd_T49 ((rd_T45 l0 x4_1).f1) x50_4).f0))).setCell ⟨gb441, 1, none⟩ (.int .i64 ((rd_T49 ((rd_T45 l0 x4_1).f1) x50_4).f1)))) := ⟨bel2 GE437.out GE441.out⟩
                (try clear HO_3); (try clear BK437); (try clear BK441); (try clear HB); generalize ((w36.setCell ⟨gb441, 0, none⟩ (.int .i64 ((rd_T49 ((rd_T45 l0 x4_1).f1) x50_4).f0))).setCell ⟨gb441, 1, none⟩ (.int .i64 ((rd_T49 ((rd_T45 l0 x4_1).f1) x50_4).f1))) = w46 at n0_ n1_ n2_ n3_ ⊢; have HO_3 := n0_; have BK437 := n1_; have BK441 := n2_; have HB := n3_; clear n0_ n1_ n2_ n3_; replace HO_3 := am (Kd.R_drew HO_3.out); replace BK437 := am (blk_drew BK437.out); replace BK441 := am (blk_drew BK441.out); replace HB := am (below_drew1 HB.out)
                have p443 : 0 ≤ ((ji42) : Int) := of_decide_eq_true ad
                have q443 : (ji42) < (((rd_T45 l0 x4_1).f1).length : Int) := of_decide_eq_true ad
                obtain ⟨ad443, e443, hx443_0, hx443_1⟩ := at_T49 HR436_1.out (ji42) p443 q443; have hw443_1 := hx443_1; have hw443_0 := hx443_0
                obtain rfl : ad440 = ad443 := (by injection e443)
                replace hx443_0 := kp HB.out hx443_0; replace hx443_1 := kp HB.out hx443_1; replace p443 := eq_true p443; replace q443 := eq_true q443
                refine st (n := 31) (S := fun w' => w'.cell? ⟨gb441, 0, none⟩ = some (.int .i64 ((rd_T49 ((rd_T45 l0 x4_1).f1) x50_4).f0)) ∧ w'.cell? ⟨gb441, 1, none⟩ = some (.int .i64 ((rd_T49 ((rd_T45 l0 x4_1).f1) x50_4).f1)) ∧ w'.cell? ⟨gb437, 0, none⟩ = some (.bool ((rd_T45 l0 x4_1).f0)) ∧ w'.cell? ⟨gb437, 1, none⟩ = some (.slice (some ad440) ((rd_T45 l0 x4_1).f1).length c436_1) ∧ w'.cell? (ad440.add (((ji42)).toNat * 2)) = some (.int .i64 ((rd_T49 ((rd_T45 l0 x4_1).f1) (ji42)).f0)) ∧ w'.cell? ⟨(ad440.add (((ji42)).toNat * 2)).block, (ad440.add (((ji42)).toNat * 2)).off + 1, none⟩ = some (.int .i64 ((rd_T49 ((rd_T45 l0 x4_1).f1) (ji42)).f1))) (ds := []) ⟨bd BK441.out 0, bd BK441.out 1, bd BK437.out 0, bd BK437.out 1, (kp HB.out hw443_0), (kp HB.out hw443_1)⟩ (fun hHeld => ?_); refine with_tabW impl_MachineOk.tab16 impl_MachineOk.bits16 (fun HT_ HW_ => ?_)
                generalize w46.drew = w47 at HO_3 BK437 BK441 HB hx443_0 hx443_1 hHeld ⊢; refine pu 0 55 ?_; refine tk6 1 56 hHeld ?_; refine on1 2 57 (fun K hK => ?_)
                refine go1 Try.func47 #[.int .i64 ((rd_T49 ((rd_T45 l0 x4_1).f1) x50_4).f0), .int .i64 97, .int .i64 122] ?_
                with_reducible refine (impl_within.calls ((rd_T49 ((rd_T45 l0 x4_1).f1) x50_4).f0) 97 122 true _ A39.out).mono ?_
                rintro e w' ⟨rfl, ⟨nd, rfl⟩⟩
                refine ⟨_, rfl, ?_⟩; refine hK.out _ _ ⟨bd BK441.out 0, bd BK441.out 1, bd BK437.out 0, bd BK437.out 1, (kp HB.out hw443_0), (kp HB.out hw443_1)⟩ (fun hHeld => ?_); clear hK K; refine nm 57 ?_; refine pu 3 58 ?_; refine pu 4 59 ?_; refine pu 5 60 ?_; refine pu 6 61 ?_; refine pu 7 62 ?_; refine pu 8 63 ?_; refine pu 10 65 ?_; refine pu 11 66 ?_; refine pu 15 70 ?_; refine tk6 9 64 hHeld ?_; refine pu 12 67 ?_; refine pu 13 68 ?_; refine tk6 14 69 hHeld ?_; refine tk6 16 71 hHeld ?_; refine pu 17 72 ?_; refine pu 18 73 ?_; refine pu 19 74 ?_; refine pu 20 75 ?_; refine puu 21 76 ?_; refine puu 22 77 ?_; refine puu 23 78 ?_; refine puu 24 79 ?_; refine puu 25 80 ?_; refine puu 26 81 ?_; refine puu 27 82 ?_; refine puu 28 83 ?_; refine puu 29 84 ?_; refine pu 30 85 ?_
                refine done_ (done_of HT_.out (by kernel_rfl)) ?_
                try go_wp2
                go_meet
                case rel => exact ⟨_, (true), sq, H', ⟨b56_⟩, ⟨b23_⟩, ⟨b25_⟩, ⟨b37_⟩, ⟨bel2 GE437.out GE441.out⟩⟩
               rw [if_neg c45] at H; have c45b0 := decide_eq_false c45; clear c45; replace H := bs H; obtain ⟨t444, A480, H⟩ := H; (try dsimp only at H); have A48 := Aside0.mk A480; clear A480
               have H' := am H
               clear H
               try go_wp2
               have n0_ : Aside0 (Kd.R (Kd.int .i64) 3 ((w36.setCell ⟨gb441, 0, none⟩ (.int .i64 ((rd_T49 ((rd_T45 l0 x4_1).f1) x50_4).f0))).setCell ⟨gb441, 1, none⟩ (.int .i64 ((rd_T49 ((rd_T45 l0 x4_1).f1) x50_4).f1))) w.heap.size (fun _ => True) (.slice (some ⟨go22, 0, none⟩) x3_4.length co22) x3_4) := ⟨rq (Kd.R_mono (Kd.R_far (p := ⟨gb441, 1, none⟩) (Kd.R_far (p := ⟨gb441, 0, none⟩) (Kd.R_types HO_3.out BK441.out (by decide)) (fun _ hk => hk.2) (.int .i64 ((rd_T49 ((rd_T45 l0 x4_1).f1) x50_4).f0))) (fun _ hk => hk.2) (.int .i64 ((rd_T49 ((rd_T45 l0 x4_1).f1) x50_4).f1))) (fun _ hk => trivial))⟩
               have n1_ : Aside0 (((w36.setCell ⟨gb441, 0, none⟩ (.int .i64 ((rd_T49 ((rd_T45 l0 x4_1).f1) x50_4).f0))).setCell ⟨gb441, 1, none⟩ (.int .i64 ((rd_T49 ((rd_T45 l0 x4_1).f1) x50_4).f1))).heap[gb437]? = some (.cells #[.bool ((rd_T45 l0 x4_1).f0), .slice (some ad440) ((rd_T45 l0 x4_1).f1).length c436_1] 45 (0, 0))) := ⟨b14_⟩
               have n2_ : Aside0 (((w36.setCell ⟨gb441, 0, none⟩ (.int .i64 ((rd_T49 ((rd_T45 l0 x4_1).f1) x50_4).f0))).setCell ⟨gb441, 1, none⟩ (.int .i64 ((rd_T49 ((rd_T45 l0 x4_1).f1) x50_4).f1))).heap[gb441]? = some (.cells #[.int .i64 ((rd_T49 ((rd_T45 l0 x4_1).f1) x50_4).f0), .int .i64 ((rd_T49 ((rd_T45 l0 x4_1).f1) x50_4).f1)] 49 (0, 0))) := ⟨b12_⟩
               have n3_ : Aside0 (Below w.heap.size w ((w36.setCell ⟨gb441, 0, none⟩ (.int .i64 ((rd_T49 ((rd_T45 l0 x4_1).f1) x50_4).f0))).setCell ⟨gb441, 1, none⟩ (.int .i64 ((rd_T49 ((rd_T45 l0 x4_1).f1) x50_4).f1)))) := ⟨bel2 GE437.out GE441.out⟩
               (try clear HO_3); (try clear BK437); (try clear BK441); (try clear HB); generalize ((w36.setCell ⟨gb441, 0, none⟩ (.int .i64 ((rd_T49 ((rd_T45 l0 x4_1).f1) x50_4).f0))).setCell ⟨gb441, 1, none⟩ (.int .i64 ((rd_T49 ((rd_T45 l0 x4_1).f1) x50_4).f1))) = w49 at n0_ n1_ n2_ n3_ ⊢; have HO_3 := n0_; have BK437 := n1_; have BK441 := n2_; have HB := n3_; clear n0_ n1_ n2_ n3_; replace HO_3 := am (Kd.R_drew HO_3.out); replace BK437 := am (blk_drew BK437.out); replace BK441 := am (blk_drew BK441.out); replace HB := am (below_drew1 HB.out)
               have p443 : 0 ≤ ((ji42) : Int) := of_decide_eq_true ad
               have q443 : (ji42) < (((rd_T45 l0 x4_1).f1).length : Int) := of_decide_eq_true ad
               obtain ⟨ad443, e443, hx443_0, hx443_1⟩ := at_T49 HR436_1.out (ji42) p443 q443; have hw443_1 := hx443_1; have hw443_0 := hx443_0
               obtain rfl : ad440 = ad443 := (by injection e443)
               replace hx443_0 := kp HB.out hx443_0; replace hx443_1 := kp HB.out hx443_1; replace p443 := eq_true p443; replace q443 := eq_true q443
               refine st (n := 31) (S := fun w' => w'.cell? ⟨gb441, 0, none⟩ = some (.int .i64 ((rd_T49 ((rd_T45 l0 x4_1).f1) x50_4).f0)) ∧ w'.cell? ⟨gb441, 1, none⟩ = some (.int .i64 ((rd_T49 ((rd_T45 l0 x4_1).f1) x50_4).f1)) ∧ w'.cell? ⟨gb437, 0, none⟩ = some (.bool ((rd_T45 l0 x4_1).f0)) ∧ w'.cell? ⟨gb437, 1, none⟩ = some (.slice (some ad440) ((rd_T45 l0 x4_1).f1).length c436_1) ∧ w'.cell? (ad440.add (((ji42)).toNat * 2)) = some (.int .i64 ((rd_T49 ((rd_T45 l0 x4_1).f1) (ji42)).f0)) ∧ w'.cell? ⟨(ad440.add (((ji42)).toNat * 2)).block, (ad440.add (((ji42)).toNat * 2)).off + 1, none⟩ = some (.int .i64 ((rd_T49 ((rd_T45 l0 x4_1).f1) (ji42)).f1))) (ds := []) ⟨bd BK441.out 0, bd BK441.out 1, bd BK437.out 0, bd BK437.out 1, (kp HB.out hw443_0), (kp HB.out hw443_1)⟩ (fun hHeld => ?_); refine with_tabW impl_MachineOk.tab16 impl_MachineOk.bits16 (fun HT_ HW_ => ?_)
               generalize w49.drew = w50 at HO_3 BK437 BK441 HB hx443_0 hx443_1 hHeld ⊢; refine pu 0 55 ?_; refine tk6 1 56 hHeld ?_; refine on1 2 57 (fun K hK => ?_)
               refine go1 Try.func47 #[.int .i64 ((rd_T49 ((rd_T45 l0 x4_1).f1) x50_4).f0), .int .i64 97, .int .i64 122] ?_
               with_reducible refine (impl_within.calls ((rd_T49 ((rd_T45 l0 x4_1).f1) x50_4).f0) 97 122 true _ A39.out).mono ?_
               rintro e w' ⟨rfl, ⟨nd, rfl⟩⟩
               refine ⟨_, rfl, ?_⟩; refine hK.out _ _ ⟨bd BK441.out 0, bd BK441.out 1, bd BK437.out 0, bd BK437.out 1, (kp HB.out hw443_0), (kp HB.out hw443_1)⟩ (fun hHeld => ?_); clear hK K; refine nm 57 ?_; refine pu 3 58 ?_; refine pu 4 59 ?_; refine pu 5 60 ?_; refine pu 6 61 ?_; refine pu 7 62 ?_; refine pu 8 63 ?_; refine pu 10 65 ?_; refine pu 11 66 ?_; refine pu 15 70 ?_; refine tk6 9 64 hHeld ?_; refine pu 12 67 ?_; refine pu 13 68 ?_; refine tk6 14 69 hHeld ?_; refine tk6 16 71 hHeld ?_; refine pu 17 72 ?_; refine pu 18 73 ?_; refine pu 19 74 ?_; refine pu 20 75 ?_; refine pu 21 76 ?_; refine pu 23 78 ?_; refine pu 24 79 ?_; refine pu 25 80 ?_; refine pu 26 81 ?_; refine pu 27 82 ?_; refine tk6 22 77 hHeld ?_; refine on1 28 83 (fun K hK => ?_)
               refine go1 Try.func47 #[.int .i64 ((rd_T49 ((rd_T45 l0 x4_1).f1) x50_4).f1), .int .i64 (wrap64 (x4_1 + 1)), .int .i64 (wrap64 ((l0.length : Int) - 1))] ?_
               with_reducible refine (impl_within.calls ((rd_T49 ((rd_T45 l0 x4_1).f1) x50_4).f1) (wrap64 (x4_1 + 1)) (wrap64 ((l0.length : Int) - 1)) t444 _ A48.out).mono ?_
               rintro e w' ⟨rfl, ⟨nd, rfl⟩⟩
               refine ⟨_, rfl, ?_⟩; refine hK.out _ _ ⟨bd BK441.out 0, bd BK441.out 1, bd BK437.out 0, bd BK437.out 1, (kp HB.out hw443_0), (kp HB.out hw443_1)⟩ (fun hHeld => ?_); clear hK K; refine nm 83 ?_; refine pu 29 84 ?_; refine pu 30 85 ?_
               refine done_ (done_of HT_.out (by kernel_rfl)) ?_
               try go_wp2
               go_meet
               case rel => exact ⟨_, (!t444), sq, H', ⟨b56_⟩, ⟨b23_⟩, ⟨b25_⟩, ⟨b37_⟩, ⟨bel2 GE437.out GE441.out⟩⟩
              rw [if_neg c41] at H; have c41b0 := decide_eq_false c41; clear c41
              (first | rw [c41b0] | (simp only [i64_w, i32_w]; rw [c41b0]) | skip)
              replace H := bs H; obtain ⟨t445, A510, H⟩ := H; (try dsimp only at H); have A51 := Aside0.mk A510; clear A510
              have H' := am H
              clear H
              try go_wp2
              have n0_ : Aside0 (Kd.R (Kd.int .i64) 3 ((w36.setCell ⟨gb441, 0, none⟩ (.int .i64 ((rd_T49 ((rd_T45 l0 x4_1).f1) x50_4).f0))).setCell ⟨gb441, 1, none⟩ (.int .i64 ((rd_T49 ((rd_T45 l0 x4_1).f1) x50_4).f1))) w.heap.size (fun _ => True) (.slice (some ⟨go22, 0, none⟩) x3_4.length co22) x3_4) := ⟨rq (Kd.R_mono (Kd.R_far (p := ⟨gb441, 1, none⟩) (Kd.R_far (p := ⟨gb441, 0, none⟩) (Kd.R_types HO_3.out BK441.out (by decide)) (fun _ hk => hk.2) (.int .i64 ((rd_T49 ((rd_T45 l0 x4_1).f1) x50_4).f0))) (fun _ hk => hk.2) (.int .i64 ((rd_T49 ((rd_T45 l0 x4_1).f1) x50_4).f1))) (fun _ hk => trivial))⟩
              have n1_ : Aside0 (((w36.setCell ⟨gb441, 0, none⟩ (.int .i64 ((rd_T49 ((rd_T45 l0 x4_1).f1) x50_4).f0))).setCell ⟨gb441, 1, none⟩ (.int .i64 ((rd_T49 ((rd_T45 l0 x4_1).f1) x50_4).f1))).heap[gb437]? = some (.cells #[.bool ((rd_T45 l0 x4_1).f0), .slice (some ad440) ((rd_T45 l0 x4_1).f1).length c436_1] 45 (0, 0))) := ⟨b14_⟩
              have n2_ : Aside0 (((w36.setCell ⟨gb441, 0, none⟩ (.int .i64 ((rd_T49 ((rd_T45 l0 x4_1).f1) x50_4).f0))).setCell ⟨gb441, 1, none⟩ (.int .i64 ((rd_T49 ((rd_T45 l0 x4_1).f1) x50_4).f1))).heap[gb441]? = some (.cells #[.int .i64 ((rd_T49 ((rd_T45 l0 x4_1).f1) x50_4).f0), .int .i64 ((rd_T49 ((rd_T45 l0 x4_1).f1) x50_4).f1)] 49 (0, 0))) := ⟨b12_⟩
              have n3_ : Aside0 (Below w.heap.size w ((w36.setCell ⟨gb441, 0, none⟩ (.int .i64 ((rd_T49 ((rd_T45 l0 x4_1).f1) x50_4).f0))).setCell ⟨gb441, 1, none⟩ (.int .i64 ((rd_T49 ((rd_T45 l0 x4_1).f1) x50_4).f1)))) := ⟨bel2 GE437.out GE441.out⟩
              (try clear HO_3); (try clear BK437); (try clear BK441); (try clear HB); generalize ((w36.setCell ⟨gb441, 0, none⟩ (.int .i64 ((rd_T49 ((rd_T45 l0 x4_1).f1) x50_4).f0))).setCell ⟨gb441, 1, none⟩ (.int .i64 ((rd_T49 ((rd_T45 l0 x4_1).f1) x50_4).f1))) = w52 at n0_ n1_ n2_ n3_ ⊢; have HO_3 := n0_; have BK437 := n1_; have BK441 := n2_; have HB := n3_; clear n0_ n1_ n2_ n3_; replace HO_3 := am (Kd.R_drew HO_3.out); replace BK437 := am (blk_drew BK437.out); replace BK441 := am (blk_drew BK441.out); replace HB := am (below_drew1 HB.out)
              refine st (n := 31) (S := fun w' => w'.cell? ⟨gb441, 0, none⟩ = some (.int .i64 ((rd_T49 ((rd_T45 l0 x4_1).f1) x50_4).f0)) ∧ w'.cell? ⟨gb441, 1, none⟩ = some (.int .i64 ((rd_T49 ((rd_T45 l0 x4_1).f1) x50_4).f1))) (ds := []) ⟨bd BK441.out 0, bd BK441.out 1⟩ (fun hHeld => ?_); refine with_tabW impl_MachineOk.tab16 impl_MachineOk.bits16 (fun HT_ HW_ => ?_)
              generalize w52.drew = w53 at HO_3 BK437 BK441 HB hHeld ⊢; refine pu 0 55 ?_; refine tk2 1 56 hHeld ?_; refine on1 2 57 (fun K hK => ?_)
              refine go1 Try.func47 #[.int .i64 ((rd_T49 ((rd_T45 l0 x4_1).f1) x50_4).f0), .int .i64 97, .int .i64 122] ?_
              with_reducible refine (impl_within.calls ((rd_T49 ((rd_T45 l0 x4_1).f1) x50_4).f0) 97 122 true _ A39.out).mono ?_
              rintro e w' ⟨rfl, ⟨nd, rfl⟩⟩
              refine ⟨_, rfl, ?_⟩; refine hK.out _ _ ⟨bd BK441.out 0, bd BK441.out 1⟩ (fun hHeld => ?_); clear hK K; refine nm 57 ?_; refine pu 3 58 ?_; refine pu 4 59 ?_; refine pu 5 60 ?_; refine pu 6 61 ?_; refine pu 7 62 ?_; refine puu 8 63 ?_; refine puu 9 64 ?_; refine puu 10 65 ?_; refine puu 11 66 ?_; refine puu 12 67 ?_; refine puu 13 68 ?_; refine puu 14 69 ?_; refine puu 15 70 ?_; refine puu 16 71 ?_; refine puu 17 72 ?_; refine pu 18 73 ?_; refine pu 19 74 ?_; refine pu 20 75 ?_; refine pu 21 76 ?_; refine pu 23 78 ?_; refine pu 24 79 ?_; refine pu 25 80 ?_; refine pu 26 81 ?_; refine pu 27 82 ?_; refine tk2 22 77 hHeld ?_; refine on1 28 83 (fun K hK => ?_)
              refine go1 Try.func47 #[.int .i64 ((rd_T49 ((rd_T45 l0 x4_1).f1) x50_4).f1), .int .i64 (wrap64 (x4_1 + 1)), .int .i64 (wrap64 ((l0.length : Int) - 1))] ?_
              with_reducible refine (impl_within.calls ((rd_T49 ((rd_T45 l0 x4_1).f1) x50_4).f1) (wrap64 (x4_1 + 1)) (wrap64 ((l0.length : Int) - 1)) t445 _ A51.out).mono ?_
              rintro e w' ⟨rfl, ⟨nd, rfl⟩⟩
              refine ⟨_, rfl, ?_⟩; refine hK.out _ _ ⟨bd BK441.out 0, bd BK441.out 1⟩ (fun hHeld => ?_); clear hK K; refine nm 83 ?_; refine pu 29 84 ?_; refine pu 30 85 ?_
              refine done_ (done_of HT_.out (by kernel_rfl)) ?_
              try go_wp2
              go_meet
              case rel => exact ⟨_, (!t445), sq, H', ⟨b56_⟩, ⟨b23_⟩, ⟨b25_⟩, ⟨b37_⟩, ⟨bel2 GE437.out GE441.out⟩⟩
             replace c40 := Bool.eq_false_iff.mpr c40; subst c40
             rw [if_neg Bool.false_ne_true] at H
             have H' := am H
             clear H
             try go_wp2
             have n0_ : Aside0 (Kd.R (Kd.int .i64) 3 ((w36.setCell ⟨gb441, 0, none⟩ (.int .i64 ((rd_T49 ((rd_T45 l0 x4_1).f1) x50_4).f0))).setCell ⟨gb441, 1, none⟩ (.int .i64 ((rd_T49 ((rd_T45 l0 x4_1).f1) x50_4).f1))) w.heap.size (fun _ => True) (.slice (some ⟨go22, 0, none⟩) x3_4.length co22) x3_4) := ⟨rq (Kd.R_mono (Kd.R_far (p := ⟨gb441, 1, none⟩) (Kd.R_far (p := ⟨gb441, 0, none⟩) (Kd.R_types HO_3.out BK441.out (by decide)) (fun _ hk => hk.2) (.int .i64 ((rd_T49 ((rd_T45 l0 x4_1).f1) x50_4).f0))) (fun _ hk => hk.2) (.int .i64 ((rd_T49 ((rd_T45 l0 x4_1).f1) x50_4).f1))) (fun _ hk => trivial))⟩
             have n1_ : Aside0 (((w36.setCell ⟨gb441, 0, none⟩ (.int .i64 ((rd_T49 ((rd_T45 l0 x4_1).f1) x50_4).f0))).setCell ⟨gb441, 1, none⟩ (.int .i64 ((rd_T49 ((rd_T45 l0 x4_1).f1) x50_4).f1))).heap[gb437]? = some (.cells #[.bool ((rd_T45 l0 x4_1).f0), .slice (some ad440) ((rd_T45 l0 x4_1).f1).length c436_1] 45 (0, 0))) := ⟨b14_⟩
             have n2_ : Aside0 (((w36.setCell ⟨gb441, 0, none⟩ (.int .i64 ((rd_T49 ((rd_T45 l0 x4_1).f1) x50_4).f0))).setCell ⟨gb441, 1, none⟩ (.int .i64 ((rd_T49 ((rd_T45 l0 x4_1).f1) x50_4).f1))).heap[gb441]? = some (.cells #[.int .i64 ((rd_T49 ((rd_T45 l0 x4_1).f1) x50_4).f0), .int .i64 ((rd_T49 ((rd_T45 l0 x4_1).f1) x50_4).f1)] 49 (0, 0))) := ⟨b12_⟩
             have n3_ : Aside0 (Below w.heap.size w ((w36.setCell ⟨gb441, 0, none⟩ (.int .i64 ((rd_T49 ((rd_T45 l0 x4_1).f1) x50_4).f0))).setCell ⟨gb441, 1, none⟩ (.int .i64 ((rd_T49 ((rd_T45 l0 x4_1).f1) x50_4).f1)))) := ⟨bel2 GE437.out GE441.out⟩
             (try clear HO_3); (try clear BK437); (try clear BK441); (try clear HB); generalize ((w36.setCell ⟨gb441, 0, none⟩ (.int .i64 ((rd_T49 ((rd_T45 l0 x4_1).f1) x50_4).f0))).setCell ⟨gb441, 1, none⟩ (.int .i64 ((rd_T49 ((rd_T45 l0 x4_1).f1) x50_4).f1))) = w54 at n0_ n1_ n2_ n3_ ⊢; have HO_3 := n0_; have BK437 := n1_; have BK441 := n2_; have HB := n3_; clear n0_ n1_ n2_ n3_; replace HO_3 := am (Kd.R_drew HO_3.out); replace BK437 := am (blk_drew BK437.out); replace BK441 := am (blk_drew BK441.out); replace HB := am (below_drew1 HB.out)
             refine st (n := 31) (S := fun w' => w'.cell? ⟨gb441, 0, none⟩ = some (.int .i64 ((rd_T49 ((rd_T45 l0 x4_1).f1) x50_4).f0)) ∧ w'.cell? ⟨gb441, 1, none⟩ = some (.int .i64 ((rd_T49 ((rd_T45 l0 x4_1).f1) x50_4).f1))) (ds := []) ⟨bd BK441.out 0, bd BK441.out 1⟩ (fun hHeld => ?_); refine with_tabW impl_MachineOk.tab16 impl_MachineOk.bits16 (fun HT_ HW_ => ?_)
             generalize w54.drew = w55 at HO_3 BK437 BK441 HB hHeld ⊢; refine pu 0 55 ?_; refine tk2 1 56 hHeld ?_; refine on1 2 57 (fun K hK => ?_)
             refine go1 Try.func47 #[.int .i64 ((rd_T49 ((rd_T45 l0 x4_1).f1) x50_4).f0), .int .i64 97, .int .i64 122] ?_
             with_reducible refine (impl_within.calls ((rd_T49 ((rd_T45 l0 x4_1).f1) x50_4).f0) 97 122 false _ A39.out).mono ?_
             rintro e w' ⟨rfl, ⟨nd, rfl⟩⟩
             refine ⟨_, rfl, ?_⟩; refine hK.out _ _ ⟨bd BK441.out 0, bd BK441.out 1⟩ (fun hHeld => ?_); clear hK K; refine nm 57 ?_; refine pu 3 58 ?_; refine pu 4 59 ?_; refine puu 5 60 ?_; refine puu 6 61 ?_; refine puu 7 62 ?_; refine puu 8 63 ?_; refine puu 9 64 ?_; refine puu 10 65 ?_; refine puu 11 66 ?_; refine puu 12 67 ?_; refine puu 13 68 ?_; refine puu 14 69 ?_; refine puu 15 70 ?_; refine puu 16 71 ?_; refine puu 17 72 ?_; refine puu 18 73 ?_; refine pu 19 74 ?_; refine pu 20 75 ?_; refine puu 21 76 ?_; refine puu 22 77 ?_; refine puu 23 78 ?_; refine puu 24 79 ?_; refine puu 25 80 ?_; refine puu 26 81 ?_; refine puu 27 82 ?_; refine puu 28 83 ?_; refine puu 29 84 ?_; refine pu 30 85 ?_
             refine done_ (done_of HT_.out (by kernel_rfl)) ?_
             try go_wp2
             go_meet
             case rel => exact ⟨_, (true), sq, H', ⟨b56_⟩, ⟨b23_⟩, ⟨b25_⟩, ⟨b37_⟩, ⟨bel2 GE437.out GE441.out⟩⟩
            case rest =>
             clear HC35; (try clear p2); (try clear c4); (try clear p6); (try clear c40); (try clear c41); (try clear c41b0); (try clear c43); (try clear c44); (try clear c47); obtain ⟨kq, x85_34, rfl, HA, HJ34, HO_3, BK437, BK441, HB⟩ := hcut
             cases kq with
             | zero => exact absurd HA.out (by simp [impl_MachineOk.j4])
             | succ kj34 =>
              have H := HA.out; clear HA; simp only [impl_MachineOk.j4] at H
              by_cases c56 : x85_34 = true
              ·subst c56
               rw [if_pos rfl] at H
               obtain rfl := Option.some.inj H; go_wp2; go_ret
               exact ⟨eq_, bel2 GE437.out GE441.out⟩
              replace c56 := Bool.eq_false_iff.mpr c56; subst c56
              rw [if_neg Bool.false_ne_true] at H; replace H := it H; obtain ⟨c57b0, H⟩ := H; replace H := it H; obtain ⟨c58b0, H⟩ := H
              by_cases c59 : (rd x3_4 ((rd_T49 ((rd_T45 l0 x4_1).f1) x50_4).f1)) ≥ 0
              ·rw [if_pos c59] at H; have c59b0 := decide_eq_true c59; clear c59
               replace H := it H; obtain ⟨c60b0, H⟩ := H
               replace H := it H; obtain ⟨c61b0, H⟩ := H; obtain ⟨ji62, hji62⟩ : ∃ j_ : Int, (mx (rd x3_4 x4_1) (wrap64 ((rd x3_4 ((rd_T49 ((rd_T45 l0 x4_1).f1) x50_4).f1)) + 1))) = j_ := ⟨_, rfl⟩
               replace H : (impl_MachineOk.l1 kj34 l0 (x3_4.set (x4_1 : Int).toNat (ji62)) x4_1 ((rd_T45 l0 x4_1).f1) (((rd_T45 l0 x4_1).f1).length : Int) (wrap64 (x50_4 + 1)) ((rd_T45 l0 x4_1).f0) ((rd_T45 l0 x4_1).f1)) = some r := by first | (rw [hji62] at H; exact H) | (simp only [hji62] at H ⊢; exact H)
               have hji62_ : (if (rd x3_4 x4_1) < (wrap64 ((rd x3_4 ((rd_T49 ((rd_T45 l0 x4_1).f1) x50_4).f1)) + 1)) then (wrap64 ((rd x3_4 ((rd_T49 ((rd_T45 l0 x4_1).f1) x50_4).f1)) + 1)) else (rd x3_4 x4_1)) = ji62 := hji62
               obtain ⟨y449, hy449⟩ : ∃ y_ : List Int, y_ = (x3_4.set (x4_1 : Int).toNat (ji62)) := ⟨_, rfl⟩
               replace H : (impl_MachineOk.l1 kj34 l0 y449 x4_1 ((rd_T45 l0 x4_1).f1) (((rd_T45 l0 x4_1).f1).length : Int) (wrap64 (x50_4 + 1)) ((rd_T45 l0 x4_1).f0) ((rd_T45 l0 x4_1).f1)) = some r := by first | (rw [hy449]; with_reducible exact H) | (have H2_ := bm H; rw [hy449]; with_reducible exact H2_) | (with_reducible exact bm H) | with_reducible exact H | (rw [hy449]; exact H) | exact H
               have Ny449 := am hy449; clear hy449
               have H' := am H
               clear H; have hnb64 := NB441_437.out; have hnc64 := NB437_441.out
               have hcz65_0 : wc.cell? ⟨gb441, 0, none⟩ = some (.int .i64 ((rd_T49 ((rd_T45 l0 x4_1).f1) x50_4).f0)) := bd BK441.out 0
               have hcz65_1 : wc.cell? ⟨gb441, 1, none⟩ = some (.int .i64 ((rd_T49 ((rd_T45 l0 x4_1).f1) x50_4).f1)) := bd BK441.out 1
               have hfz65_0 := bf BK441.out 0; have hfz65_1 := bf BK441.out 1
               have p446 : 0 ≤ (((rd_T49 ((rd_T45 l0 x4_1).f1) x50_4).f1) : Int) := of_decide_eq_true ad
               have q446 : ((rd_T49 ((rd_T45 l0 x4_1).f1) x50_4).f1) < (x3_4.length : Int) := of_decide_eq_true ad
               obtain ⟨ad446, e446, hx446_0⟩ := Kd.at_int (Kd.R_reads' HO_3.out).2.2 ((rd_T49 ((rd_T45 l0 x4_1).f1) x50_4).f1) p446 q446
               obtain rfl : (⟨go22, 0, none⟩ : Addr) = ad446 := (by injection e446)
               (first | simp only [add_plain] at hx446_0 | simp only [add_at] at hx446_0 | simp only [Addr.add, Nat.zero_add] at hx446_0 | skip)
               replace p446 := eq_true p446; replace q446 := eq_true q446
               try go_wp2
               replace HO_3 := am (Kd.R_drew HO_3.out); replace BK437 := am (blk_drew BK437.out); replace BK441 := am (blk_drew BK441.out); replace HB := am (below_drew1 HB.out)
               have p447 : 0 ≤ (x4_1 : Int) := of_decide_eq_true ad
               have q447 : x4_1 < (x3_4.length : Int) := of_decide_eq_true ad
               obtain ⟨ad447, e447, hx447_0⟩ := Kd.at_int (Kd.R_reads' HO_3.out).2.2 x4_1 p447 q447
               obtain rfl : (⟨go22, 0, none⟩ : Addr) = ad447 := (by injection e447)
               (first | simp only [add_plain] at hx447_0 | simp only [add_at] at hx447_0 | simp only [Addr.add, Nat.zero_add] at hx447_0 | skip)
               replace p447 := eq_true p447; replace q447 := eq_true q447
               have p448 : 0 ≤ (((rd_T49 ((rd_T45 l0 x4_1).f1) x50_4).f1) : Int) := of_decide_eq_true ad
               have q448 : ((rd_T49 ((rd_T45 l0 x4_1).f1) x50_4).f1) < (x3_4.length : Int) := of_decide_eq_true ad
               obtain ⟨ad448, e448, hx448_0⟩ := Kd.at_int (Kd.R_reads' HO_3.out).2.2 ((rd_T49 ((rd_T45 l0 x4_1).f1) x50_4).f1) p448 q448
               obtain rfl : (⟨go22, 0, none⟩ : Addr) = ad448 := (by injection e448)
               (first | simp only [add_plain] at hx448_0 | simp only [add_at] at hx448_0 | simp only [Addr.add, Nat.zero_add] at hx448_0 | skip)
               replace p448 := eq_true p448; replace q448 := eq_true q448
               have p63 : 0 ≤ (x4_1 : Int) := of_decide_eq_true ad
               have q63 : (x4_1 : Int) < ((x3_4.length : Int) : Int) := of_decide_eq_true ad
               obtain ⟨hx63_0, hf63_0⟩ := Kd.R_celln 0 HO_3.out (x4_1 : Int) p63 q63; replace p63 := eq_true p63; replace q63 := eq_true q63; have HP67 := Kd.R_putn HO_3.out (x4_1 : Int) ji62; rw [← Ny449.out] at HP67; have HQ67 := am HP67; clear HP67
               refine start_ (n := 15) (S := fun w' => w'.cell? ⟨gb441, 0, none⟩ = some (.int .i64 ((rd_T49 ((rd_T45 l0 x4_1).f1) x50_4).f0)) ∧ w'.cell? ⟨gb441, 1, none⟩ = some (.int .i64 ((rd_T49 ((rd_T45 l0 x4_1).f1) x50_4).f1)) ∧ w'.cell? ⟨go22, (x4_1).toNat, none⟩ = some (.int .i64 (rd x3_4 x4_1)) ∧ w'.cell? ⟨go22, (((rd_T49 ((rd_T45 l0 x4_1).f1) x50_4).f1)).toNat, none⟩ = some (.int .i64 (rd x3_4 ((rd_T49 ((rd_T45 l0 x4_1).f1) x50_4).f1)))) (ds := [14]) #[false, false, false, false, false, false, false, false, false, false, false, false, false, false, false] (by kernel_rfl) rfl rfl ⟨bd BK441.out 0, bd BK441.out 1, hx447_0, hx448_0⟩ (fun hHeld => ?_); refine with_tabW impl_MachineOk.tab19 impl_MachineOk.bits19 (fun HT_ HW_ => ?_)
               generalize wc.drew = w66 at HO_3 BK437 BK441 HB HQ67 hf63_0 hx447_0 hx448_0 hx63_0 hHeld ⊢; refine pu 0 92 ?_; refine pu 1 93 ?_; refine pu 2 94 ?_; refine pu 3 95 ?_; refine pu 4 96 ?_; refine pu 6 98 ?_; refine pu 7 99 ?_; refine tk4 5 97 hHeld ?_; refine tk4 8 100 hHeld ?_; refine pu 9 101 ?_; refine tk4 10 102 hHeld ?_; refine pu 11 103 ?_; refine pu 12 104 ?_; refine pu 13 105 ?_
               refine last_ (i := 14) (N := none) #[true, true, true, true, true, true, true, true, true, true, true, true, true, true, true] rfl rfl (one_of HT_.out (by kernel_rfl)) (by decide) (fun K hK => ?_)
               refine skip_ (w1 := ?_) (by rfl) rfl ?_ ?_
               rotate_left
               ·go_simp
                rfl
               refine hK.out _ _ ?_; clear hK K
               refine done_ (done_of HT_.out (by kernel_rfl)) ?_
               try go_wp2
               (try simp only [← hl3_4])
               go_roundg kj34
               case measure => have := HK1.out; have := HJ10.out; have := HJ22.out; have := HK4.out; have := HJ34.out; omega
               case rel => exact ⟨(y449), (wrap64 (x50_4 + 1)), sq, H', ⟨by have := HK1.out; have := HJ10.out; have := HJ22.out; have := HK4.out; have := HJ34.out; omega⟩, ⟨by (try simp only [hl3_22]); (try simp only [hl3_4]); (with_reducible repeat (first | apply Kd.R_alloc | apply Kd.R_drewN | apply Kd.R_drew)); exact HQ67.out⟩, ⟨by (try simp only [hl3_22]); (try simp only [hl3_4]); (with_reducible repeat (first | refine blk_drewN ?_ _ | refine blk_drew ?_ | refine blk_alloc ?_ _)); refine blk_far ?_ (by have h_ := Kd.R_ne HO_3.out BK437.out (by decide); intro e_; exact h_ (by rw [e_]; rfl)) _; (with_reducible repeat (first | refine blk_drewN ?_ _ | refine blk_drew ?_ | refine blk_alloc ?_ _)); exact BK437.out⟩, ⟨bel3 GB22.out GE437.out GE441.out⟩⟩
              rw [if_neg c59] at H; have c59b0 := decide_eq_false c59; clear c59
              have H' := am H
              clear H; have hnb68 := NB441_437.out; have hnc68 := NB437_441.out
              have hcz69_0 : wc.cell? ⟨gb441, 0, none⟩ = some (.int .i64 ((rd_T49 ((rd_T45 l0 x4_1).f1) x50_4).f0)) := bd BK441.out 0
              have hcz69_1 : wc.cell? ⟨gb441, 1, none⟩ = some (.int .i64 ((rd_T49 ((rd_T45 l0 x4_1).f1) x50_4).f1)) := bd BK441.out 1
              have hfz69_0 := bf BK441.out 0; have hfz69_1 := bf BK441.out 1
              have p446 : 0 ≤ (((rd_T49 ((rd_T45 l0 x4_1).f1) x50_4).f1) : Int) := of_decide_eq_true ad
              have q446 : ((rd_T49 ((rd_T45 l0 x4_1).f1) x50_4).f1) < (x3_4.length : Int) := of_decide_eq_true ad
              obtain ⟨ad446, e446, hx446_0⟩ := Kd.at_int (Kd.R_reads' HO_3.out).2.2 ((rd_T49 ((rd_T45 l0 x4_1).f1) x50_4).f1) p446 q446
              obtain rfl : (⟨go22, 0, none⟩ : Addr) = ad446 := (by injection e446)
              (first | simp only [add_plain] at hx446_0 | simp only [add_at] at hx446_0 | simp only [Addr.add, Nat.zero_add] at hx446_0 | skip)
              replace p446 := eq_true p446; replace q446 := eq_true q446; go_wp2
              (try simp only [← hl3_4])
              go_roundg kj34
              case measure => have := HK1.out; have := HJ10.out; have := HJ22.out; have := HK4.out; have := HJ34.out; omega
              case rel => exact ⟨(x3_4), (wrap64 (x50_4 + 1)), sq, H', ⟨by have := HK1.out; have := HJ10.out; have := HJ22.out; have := HK4.out; have := HJ34.out; omega⟩, ⟨b23_⟩, ⟨b25_⟩, ⟨bel2 GE437.out GE441.out⟩⟩
           rw [if_neg c32] at H; have c32b0 := decide_eq_false c32; clear c32
           have H' := am H
           clear H; go_wp2
           (try simp only [← hl3_22, ← hl3_4])
           go_roundg k4
           case measure => have := HK1.out; have := HJ10.out; have := HJ22.out; have := HK4.out; omega
           case rel => exact ⟨(x3_4), (wrap64 (x4_1 - 1)), sq, H', ⟨by have := HK1.out; have := HJ10.out; have := HJ22.out; have := HK4.out; omega⟩, ⟨b23_⟩, ⟨bel1 GE437.out⟩⟩
    rw [if_neg c8] at H; have c8b0 := decide_eq_false c8; clear c8; replace H := ip H; obtain ⟨c70, H⟩ := H; have c70b0 := decide_eq_true c70
    have c70b1 : decide (0 < x3_1.length) = true := decide_eq_true (by omega)
    clear c70; obtain rfl := Option.some.inj H; obtain ⟨Ao71, co71, eo71⟩ := Kd.R_slice HO_3.out; subst eo71
    have p435 : 0 ≤ (0 : Int) := (by omega)
    have q435 : 0 < (x3_1.length : Int) := of_decide_eq_true ad
    obtain ⟨ad435, e435, hx435_0⟩ := Kd.at_int (Kd.R_reads' HO_3.out).2.2 0 p435 q435; cases e435
    have qi435 : (0 < x3_1.length) = True := eq_true (by omega)
    (try rw [show ((0 : Int)).toNat = 0 from rfl] at hx435_0)
    (try rw [Addr.add_zero'] at hx435_0)
    replace p435 := eq_true p435; replace q435 := eq_true q435; go_wp2; go_ret
    exact ⟨eq_, bel⟩
 replace c3 := Bool.eq_false_iff.mpr c3; subst c3
 rw [if_neg Bool.false_ne_true] at H
 obtain rfl := Option.some.inj H; go_enter Try.func20, Try.ntmps20
 go_wp2_with (first | ((with_reducible refine gate_callee (f := 47) rfl ?_); refine gl 10 Try.func47 #[.int .i64 (l0.length : Int), .int .i64 1, .int .i64 400] ?_; (with_reducible refine (impl_within.calls (l0.length : Int) 1 400 false _ A2.out).mono ?_); rintro e w' ⟨rfl, ⟨nd, rfl⟩⟩; refine ⟨_, rfl, ?_⟩))
 go_ret
 exact ⟨eq_, bel⟩
-- shrunk

/-! ### impl_State_step: function 46 -/
def impl_State_step.l0 : Nat → Int → List (S49) → Int → Int → Option (Int)
 | 0, _, _, _, _ => none
 | k + 1, x1, x8, x9, x10 => if x10 < x9 then (if 0 ≤ x10 then (if x10 < (x8.length : Int) then (if ((rd_T49 x8 x10).f0) = (wrap64 (x1)) then (some ((rd_T49 x8 x10).f1)) else (impl_State_step.l0 k x1 x8 x9 (wrap64 (x10 + 1)))) else (none)) else (none)) else (some (-1))
def impl_State_step.f (k : Nat) (a0_0 : Bool) (l0_1 : List (S49)) (a1 : Int) : Option (Int) := impl_State_step.l0 k a1 l0_1 (l0_1.length : Int) 0
theorem impl_State_step.calls (k : Nat) (a0_0 : Bool) (A0_1 : Option Addr) (c0_1 : Nat) (l0_1 : List (S49)) (a1 : Int) (r : Int) (w : World) (hr0_1 : Kd.C k49 w A0_1 l0_1.length l0_1) (hc0_1 : l0_1.length ≤ c0_1) (h : impl_State_step.f k a0_0 l0_1 a1 = some r) :
  Calls Try.prog 46 #[.agg #[.bool a0_0, .slice A0_1 l0_1.length c0_1], .int .u8 a1] w fun e w' => e = .returned (.int .i64 r) ∧ Below w.heap.size w w' := by
 have hu45 := Try.underlying45; have hu49 := Try.underlying49; have HR0_1 := am hr0_1; have HC0_1 := am hc0_1; clear hr0_1 hc0_1; have HB := am (Below.refl w.heap.size w)
 have H : (impl_State_step.l0 k a1 l0_1 (l0_1.length : Int) 0) = some r := h
 clear h
 have H' := am H
 clear H; go_enter Try.func46, Try.ntmps46
 go_wp2_with (first | ((with_reducible refine gate_dst (N := 2) rfl ?_); refine bx 2 (cs := #[.bool a0_0, .slice A0_1 l0_1.length c0_1]) (t := 45) ?_; intro gb450 hg w3 hbox hb; have BK450 := am (hbox); have GW450 := am ((b19_ : w.heap.size ≤ gb450)); have GE450 := am ((b19_ : w.heap.size ≤ gb450)); replace HB := am (below_step bel hb); clear hb hbox hg; have ⟨hcz4_0, hcz4_1, hfz4_0, hfz4_1⟩ := b2c BK450.out))
 go_loopg [10] k (fun kq v10 w' => ∃ (x10_1 : Int), v10 = .int .i64 x10_1 ∧ Aside0 (impl_State_step.l0 kq a1 l0_1 (l0_1.length : Int) x10_1 = some r) ∧ Aside0 (kq ≤ k) ∧ Aside0 (w'.heap[gb450]? = some (.cells #[.bool a0_0, (.slice A0_1 l0_1.length c0_1)] 45 (0, 0))) ∧ Aside0 (Below w.heap.size w w'))
 case atStart => exact ⟨(0), sq, H', ⟨Nat.le_refl _⟩, ⟨bq BK450.out⟩, ⟨bel1 GE450.out⟩⟩
 case round =>
  clear H'; (try clear p2); (try clear c4); (try clear hcz4_0); (try clear hcz4_1); (try clear hfz4_0); (try clear hfz4_1); obtain ⟨x10_1, rfl, HA, HK1, BK450, HB⟩ := hrel
  cases gk with
  | zero => exact absurd HA.out (by simp [impl_State_step.l0])
  | succ k1 =>
   have H := HA.out; clear HA; simp only [impl_State_step.l0] at H
   by_cases c5 : x10_1 < (l0_1.length : Int)
   ·rw [if_pos c5] at H; have c5b0 := decide_eq_true c5; clear c5
    replace H := it H; obtain ⟨c6b0, H⟩ := H; replace H := it H; obtain ⟨c7b0, H⟩ := H
    by_cases c8 : ((rd_T49 l0_1 x10_1).f0) = (wrap64 (a1))
    ·rw [if_pos c8] at H
     have c8b0 : (((rd_T49 l0_1 x10_1).f0) == (wrap64 (a1))) = true := beq_iff_eq.mpr c8
     have c8b1 : (((rd_T49 l0_1 x10_1).f0) != (wrap64 (a1))) = false := bne_eq_false_iff_eq.mpr c8
     clear c8; obtain rfl := Option.some.inj H
     have p451 : 0 ≤ (x10_1 : Int) := of_decide_eq_true ad
     have q451 : x10_1 < (l0_1.length : Int) := of_decide_eq_true ad
     obtain ⟨ad451, e451, hx451_0, hx451_1⟩ := at_T49 HR0_1.out x10_1 p451 q451; cases e451; replace hx451_0 := kp HB.out hx451_0; replace hx451_1 := kp HB.out hx451_1; replace p451 := eq_true p451; replace q451 := eq_true q451
     go_wp2_with (first | ((with_reducible refine gate_dst (N := 6) rfl ?_); refine bx 6 (cs := #[.int .i64 0, .int .i64 0]) (t := 49) ?_; intro gb452 hg w9 hbox hb; have BK452 := am (hbox); have GW452 := am ((b84_ : w.heap.size ≤ gb452)); have GE452 := am ((b84_ : w.heap.size ≤ gb452)); replace HB := am (below_step (bel1 GE450.out) hb); have NB450_452 := am ((b74_ : gb450 ≠ gb452)); have NB452_450 := am ((b75_ : gb452 ≠ gb450)); replace BK450 := am (blk_below (bq BK450.out) hb); clear hb hbox hg; have hnb10 := NB452_450.out; have hnc10 := NB450_452.out; have ⟨hcz11_0, hcz11_1, hfz11_0, hfz11_1⟩ := b2c BK452.out))
     go_ret
     exact ⟨eq_, bel2 GE450.out GE452.out⟩
    rw [if_neg c8] at H
    have c8b0 : (((rd_T49 l0_1 x10_1).f0) == (wrap64 (a1))) = false := beq_eq_false_iff_ne.mpr c8
    have c8b1 : (((rd_T49 l0_1 x10_1).f0) != (wrap64 (a1))) = true := bne_iff_ne.mpr c8
    have H' := am H
    clear H
    have p451 : 0 ≤ (x10_1 : Int) := of_decide_eq_true ad
    have q451 : x10_1 < (l0_1.length : Int) := of_decide_eq_true ad
    obtain ⟨ad451, e451, hx451_0, hx451_1⟩ := at_T49 HR0_1.out x10_1 p451 q451; cases e451; replace hx451_0 := kp HB.out hx451_0; replace hx451_1 := kp HB.out hx451_1; replace p451 := eq_true p451; replace q451 := eq_true q451
    go_wp2_with (first | ((with_reducible refine gate_dst (N := 6) rfl ?_); refine bx 6 (cs := #[.int .i64 0, .int .i64 0]) (t := 49) ?_; intro gb452 hg w12 hbox hb; have BK452 := am (hbox); have GW452 := am ((b84_ : w.heap.size ≤ gb452)); have GE452 := am ((b84_ : w.heap.size ≤ gb452)); replace HB := am (below_step (bel1 GE450.out) hb); have NB450_452 := am ((b74_ : gb450 ≠ gb452)); have NB452_450 := am ((b75_ : gb452 ≠ gb450)); replace BK450 := am (blk_below (bq BK450.out) hb); clear hb hbox hg; have hnb13 := NB452_450.out; have hnc13 := NB450_452.out; have ⟨hcz14_0, hcz14_1, hfz14_0, hfz14_1⟩ := b2c BK452.out))
    go_roundg k1
    case measure => have := HK1.out; omega
    case rel => exact ⟨(wrap64 (x10_1 + 1)), sq, H', ⟨b39_⟩, ⟨by (with_reducible repeat (first | refine blk_drewN ?_ _ | refine blk_drew ?_ | refine blk_alloc ?_ _)); refine blk_far ?_ NB450_452.out _; (with_reducible repeat (first | refine blk_drewN ?_ _ | refine blk_drew ?_ | refine blk_alloc ?_ _)); refine blk_far ?_ NB450_452.out _; (with_reducible repeat (first | refine blk_drewN ?_ _ | refine blk_drew ?_ | refine blk_alloc ?_ _)); exact BK450.out⟩, ⟨bel2 GE450.out GE452.out⟩⟩
   rw [if_neg c5] at H; have c5b0 := decide_eq_false c5; clear c5; obtain rfl := Option.some.inj H; go_wp2; go_ret
   exact ⟨eq_, bel1 GE450.out⟩

/-! ### impl_follow: function 44 -/
def impl_follow.l0 : Nat → List (S45) → ByteArray → Int → Int → Int → Option (Int)
 | 0, _, _, _, _, _ => none
 | k + 1, x0, x1, x5, x8, x9 => if x9 < x8 then (if 0 ≤ x5 then (if x5 < (x0.length : Int) then (if 0 ≤ x9 then (if x9 < (x1.size : Int) then ((impl_State_step.f k ((rd_T45 x0 x5).f0) ((rd_T45 x0 x5).f1) (bt x1 x9)).bind fun t454 => (if t454 < 0 then (some (-1)) else (impl_follow.l0 k x0 x1 t454 x8 (wrap64 (x9 + 1))))) else (none)) else (none)) else (none)) else (none)) else (some x5)
def impl_follow.f (k : Nat) (l0 : List (S45)) (a1 : ByteArray) : Option (Int) := impl_follow.l0 k l0 a1 0 (a1.size : Int) 0
def impl_follow.T5 : Bool × List (List Nat × List Nat) := (true, [([], []), ([], []), ([0, 1], [0, 1]), ([2], [2]), ([], []), ([], []), ([4, 5], [4, 5]), ([3, 6], [3, 6]), ([7, 7, 0, 1, 2, 3, 4, 5, 6, 7], [1, 7])])
def impl_follow.B5 : List Nat := [0, 0, 3, 7, 0, 0, 48, 127, 255]
theorem impl_follow.tab5 : rtab .any (opsOf Try.f44 5) = impl_follow.T5 := by kernel_rfl
theorem impl_follow.bits5 : waitsOk impl_follow.T5.2 impl_follow.B5 = true := by kernel_rfl
theorem impl_follow.calls (k : Nat) (A0 : Option Addr) (c0 : Nat) (l0 : List (S45)) (a1 : ByteArray) (r : Int) (w : World) (hr0 : Kd.C k45 w A0 l0.length l0) (hc0 : l0.length ≤ c0) (h : impl_follow.f k l0 a1 = some r) :
  Calls Try.prog 44 #[.slice A0 l0.length c0, .string a1] w fun e w' => e = .returned (.int .i64 r) ∧ Below w.heap.size w w' := by
 have hu45 := Try.underlying45; have HR0 := am hr0; have HC0 := am hc0; clear hr0 hc0; have HB := am (Below.refl w.heap.size w)
 have H : (impl_follow.l0 k l0 a1 0 (a1.size : Int) 0) = some r := h
 clear h
 have H' := am H
 clear H; go_enter Try.func44, Try.ntmps44; go_wp2
 go_loopg [5, 9] k (fun kq v5 v9 w' => ∃ (x5_1 : Int) (x9_1 : Int), v5 = .int .i64 x5_1 ∧ v9 = .int .i64 x9_1 ∧ Aside0 (impl_follow.l0 kq l0 a1 x5_1 (a1.size : Int) x9_1 = some r) ∧ Aside0 (kq ≤ k) ∧ Aside0 (Below w.heap.size w w'))
 case atStart => exact ⟨(0), (0), sq, sq, H', ⟨Nat.le_refl _⟩, ⟨bel⟩⟩
 case round =>
  clear H'; (try clear p2); obtain ⟨x5_1, x9_1, rfl, rfl, HA, HK1, HB⟩ := hrel
  cases gk with
  | zero => exact absurd HA.out (by simp [impl_follow.l0])
  | succ k1 =>
   have H := HA.out; clear HA; simp only [impl_follow.l0] at H
   by_cases c3 : x9_1 < (a1.size : Int)
   ·rw [if_pos c3] at H; have c3b0 := decide_eq_true c3; clear c3
    replace H := it H; obtain ⟨c4b0, H⟩ := H; replace H := it H; obtain ⟨c5b0, H⟩ := H; replace H := it H; obtain ⟨c6b0, H⟩ := H
    replace H := it H; obtain ⟨c7b0, H⟩ := H; replace H := bs H; obtain ⟨t454, A90, H⟩ := H; (try dsimp only at H); have A9 := Aside0.mk A90; clear A90
    by_cases c10 : t454 < 0
    ·rw [if_pos c10] at H; have c10b0 := decide_eq_true c10; clear c10; obtain rfl := Option.some.inj H
     try go_wp2
     replace HB := am (below_drew1 HB.out)
     have p453 : 0 ≤ (x5_1 : Int) := of_decide_eq_true ad
     have q453 : x5_1 < (l0.length : Int) := of_decide_eq_true ad
     obtain ⟨ad453, A453_1, c453_1, e453, hx453_0, hx453_1, hl453_1, hi453_1⟩ := at_T45 HR0.out x5_1 p453 q453; have hw453_1 := hx453_1; have hw453_0 := hx453_0; cases e453; replace hx453_0 := kp HB.out hx453_0; replace hx453_1 := kp HB.out hx453_1; have HR453_1 := am hi453_1; have HC453_1 := am hl453_1; clear hi453_1 hl453_1; replace p453 := eq_true p453; replace q453 := eq_true q453
     have p8 : 0 ≤ (x9_1 : Int) := of_decide_eq_true ad
     have q8 : x9_1 < (a1.size : Int) := of_decide_eq_true ad
     have hx8 := bt_at a1 x9_1; replace p8 := eq_true p8; replace q8 := eq_true q8
     refine st (n := 9) (S := fun w' => w'.cell? (ad453.add ((x5_1).toNat * 2)) = some (.bool ((rd_T45 l0 x5_1).f0)) ∧ w'.cell? ⟨(ad453.add ((x5_1).toNat * 2)).block, (ad453.add ((x5_1).toNat * 2)).off + 1, none⟩ = some (.slice A453_1 ((rd_T45 l0 x5_1).f1).length c453_1)) (ds := []) ⟨(kp HB.out hw453_0), (kp HB.out hw453_1)⟩ (fun hHeld => ?_); refine with_tabW impl_follow.tab5 impl_follow.bits5 (fun HT_ HW_ => ?_)
     generalize wr.drew = w11 at HB HR453_1 hx453_0 hx453_1 hHeld ⊢; refine pu 0 12 ?_; refine pu 1 13 ?_; refine pu 2 14 ?_; refine pu 4 16 ?_; refine pu 5 17 ?_; refine tk2 3 15 hHeld ?_; refine tk2 6 18 hHeld ?_; refine on1 7 19 (fun K hK => ?_)
     refine go1 Try.func46 #[.agg #[.bool ((rd_T45 l0 x5_1).f0), .slice A453_1 ((rd_T45 l0 x5_1).f1).length c453_1], .int .u8 (bt a1 x9_1)] ?_
     with_reducible refine (impl_State_step.calls k1 ((rd_T45 l0 x5_1).f0) _ _ ((rd_T45 l0 x5_1).f1) (bt a1 x9_1) t454 _ ?side1 ?side2 A9.out).mono ?_
     (case side1 => exact cq (Kd.C_below HR453_1.out HB.out)); (case side2 => exact HC453_1.out)
     rintro e w12 ⟨rfl, hb⟩; refine ⟨_, rfl, ?_⟩; replace HB := am (below_step bel hb); clear hb; refine hK.out _ _ ⟨(kp HB.out hw453_0), (kp HB.out hw453_1)⟩ (fun hHeld => ?_); clear hK K; refine nm 19 ?_; refine pu 8 5 ?_
     refine done_ (done_of HT_.out (by kernel_rfl)) ?_
     try go_wp2
     go_ret
     exact ⟨eq_, bel⟩
    rw [if_neg c10] at H; have c10b0 := decide_eq_false c10; clear c10
    have H' := am H
    clear H
    try go_wp2
    replace HB := am (below_drew1 HB.out)
    have p453 : 0 ≤ (x5_1 : Int) := of_decide_eq_true ad
    have q453 : x5_1 < (l0.length : Int) := of_decide_eq_true ad
    obtain ⟨ad453, A453_1, c453_1, e453, hx453_0, hx453_1, hl453_1, hi453_1⟩ := at_T45 HR0.out x5_1 p453 q453; have hw453_1 := hx453_1; have hw453_0 := hx453_0; cases e453; replace hx453_0 := kp HB.out hx453_0; replace hx453_1 := kp HB.out hx453_1; have HR453_1 := am hi453_1; have HC453_1 := am hl453_1; clear hi453_1 hl453_1; replace p453 := eq_true p453; replace q453 := eq_true q453
    have p8 : 0 ≤ (x9_1 : Int) := of_decide_eq_true ad
    have q8 : x9_1 < (a1.size : Int) := of_decide_eq_true ad
    have hx8 := bt_at a1 x9_1; replace p8 := eq_true p8; replace q8 := eq_true q8
    refine st (n := 9) (S := fun w' => w'.cell? (ad453.add ((x5_1).toNat * 2)) = some (.bool ((rd_T45 l0 x5_1).f0)) ∧ w'.cell? ⟨(ad453.add ((x5_1).toNat * 2)).block, (ad453.add ((x5_1).toNat * 2)).off + 1, none⟩ = some (.slice A453_1 ((rd_T45 l0 x5_1).f1).length c453_1)) (ds := []) ⟨(kp HB.out hw453_0), (kp HB.out hw453_1)⟩ (fun hHeld => ?_); refine with_tabW impl_follow.tab5 impl_follow.bits5 (fun HT_ HW_ => ?_)
    generalize wr.drew = w13 at HB HR453_1 hx453_0 hx453_1 hHeld ⊢; refine pu 0 12 ?_; refine pu 1 13 ?_; refine pu 2 14 ?_; refine pu 4 16 ?_; refine pu 5 17 ?_; refine tk2 3 15 hHeld ?_; refine tk2 6 18 hHeld ?_; refine on1 7 19 (fun K hK => ?_)
    refine go1 Try.func46 #[.agg #[.bool ((rd_T45 l0 x5_1).f0), .slice A453_1 ((rd_T45 l0 x5_1).f1).length c453_1], .int .u8 (bt a1 x9_1)] ?_
    with_reducible refine (impl_State_step.calls k1 ((rd_T45 l0 x5_1).f0) _ _ ((rd_T45 l0 x5_1).f1) (bt a1 x9_1) t454 _ ?side1 ?side2 A9.out).mono ?_
    (case side1 => exact cq (Kd.C_below HR453_1.out HB.out)); (case side2 => exact HC453_1.out)
    rintro e w14 ⟨rfl, hb⟩; refine ⟨_, rfl, ?_⟩; replace HB := am (below_step bel hb); clear hb; refine hK.out _ _ ⟨(kp HB.out hw453_0), (kp HB.out hw453_1)⟩ (fun hHeld => ?_); clear hK K; refine nm 19 ?_; refine pu 8 5 ?_
    refine done_ (done_of HT_.out (by kernel_rfl)) ?_
    try go_wp2
    go_roundg k1
    case measure => have := HK1.out; omega
    case rel => exact ⟨(t454), (wrap64 (x9_1 + 1)), sq, sq, H', ⟨b39_⟩, ⟨bel⟩⟩
   rw [if_neg c3] at H; have c3b0 := decide_eq_false c3; clear c3; obtain rfl := Option.some.inj H; go_wp2; go_ret
   exact ⟨eq_, bel⟩

/-! ### impl_MachineKnows: function 17 -/
def impl_MachineKnows.f (k : Nat) (l0 : List (S45)) (a1 : ByteArray) : Option (Bool) := (impl_MachineOk.f k l0).bind fun t455 => (if t455 = true then ((impl_follow.f k l0 a1).bind fun t456 => (if t456 ≥ 0 then (if 0 ≤ t456 then (if t456 < (l0.length : Int) then (some ((rd_T45 l0 t456).f0)) else (none)) else (none)) else (some false))) else (some false))
theorem impl_MachineKnows.calls (k : Nat) (A0 : Option Addr) (c0 : Nat) (l0 : List (S45)) (a1 : ByteArray) (r : Bool) (w : World) (hr0 : Kd.C k45 w A0 l0.length l0) (hc0 : l0.length ≤ c0) (h : impl_MachineKnows.f k l0 a1 = some r) :
  Calls Try.prog 17 #[.slice A0 l0.length c0, .string a1] w fun e w' => e = .returned (.bool r) ∧ Below w.heap.size w w' := by
 have HR0 := am hr0; have HC0 := am hc0; clear hr0 hc0; have HB := am (Below.refl w.heap.size w)
 have H : ((impl_MachineOk.f k l0).bind fun t455 => (if t455 = true then ((impl_follow.f k l0 a1).bind fun t456 => (if t456 ≥ 0 then (if 0 ≤ t456 then (if t456 < (l0.length : Int) then (some ((rd_T45 l0 t456).f0)) else (none)) else (none)) else (some false))) else (some false))) = some r := h
 clear h; replace H := bs H; obtain ⟨t455, A30, H⟩ := H; (try dsimp only at H); have A3 := Aside0.mk A30; clear A30
 by_cases c4 : t455 = true
 ·subst c4
  rw [if_pos rfl] at H
  replace H := bs H; obtain ⟨t456, A50, H⟩ := H; (try dsimp only at H); have A5 := Aside0.mk A50; clear A50
  by_cases c6 : t456 ≥ 0
  ·rw [if_pos c6] at H; have c6b0 := decide_eq_true c6; clear c6
   replace H := it H; obtain ⟨c7b0, H⟩ := H
   replace H := it H; obtain ⟨c8b0, H⟩ := H; obtain rfl := Option.some.inj H; go_enter Try.func17, Try.ntmps17
   go_wp2_with (first | ((with_reducible refine gate_callee (f := 20) rfl ?_); refine gl 7 Try.func20 #[.slice A0 l0.length c0] ?_; (with_reducible refine (impl_MachineOk.calls k _ _ l0 true _ ?side1 ?side2 A3.out).mono ?_); (case side1 => repeat (first | exact HR0.out | (with_reducible refine Kd.C_alloc ?_ _) | (with_reducible refine Kd.C_drewN ?_ _) | (with_reducible refine Kd.C_drew ?_))); (case side2 => exact HC0.out); rintro e w9 ⟨rfl, hb⟩; refine ⟨_, rfl, ?_⟩; replace HB := am (below_step bel hb); clear hb) | ((with_reducible refine gate_callee (f := 44) rfl ?_); refine gl 11 Try.func44 #[.slice A0 l0.length c0, .string a1] ?_; (with_reducible refine (impl_follow.calls k _ _ l0 a1 t456 _ ?side1 ?side2 A5.out).mono ?_); (case side1 => exact cq (Kd.C_below HR0.out HB.out)); (case side2 => exact HC0.out); rintro e w10 ⟨rfl, hb⟩; refine ⟨_, rfl, ?_⟩; replace HB := am (below_step bel hb); clear hb; have p457 : 0 ≤ (t456 : Int) := of_decide_eq_true ad; have q457 : t456 < (l0.length : Int) := of_decide_eq_true ad; obtain ⟨ad457, A457_1, c457_1, e457, hx457_0, hx457_1, hl457_1, hi457_1⟩ := at_T45 HR0.out t456 p457 q457; cases e457; replace hx457_0 := kp HB.out hx457_0; replace hx457_1 := kp HB.out hx457_1; have HR457_1 := am hi457_1; have HC457_1 := am hl457_1; clear hi457_1 hl457_1; replace p457 := eq_true p457; replace q457 := eq_true q457))
   go_ret
   exact ⟨eq_, bel⟩
  rw [if_neg c6] at H; have c6b0 := decide_eq_false c6; clear c6; obtain rfl := Option.some.inj H; go_enter Try.func17, Try.ntmps17
  go_wp2_with (first | ((with_reducible refine gate_callee (f := 20) rfl ?_); refine gl 7 Try.func20 #[.slice A0 l0.length c0] ?_; (with_reducible refine (impl_MachineOk.calls k _ _ l0 true _ ?side1 ?side2 A3.out).mono ?_); (case side1 => repeat (first | exact HR0.out | (with_reducible refine Kd.C_alloc ?_ _) | (with_reducible refine Kd.C_drewN ?_ _) | (with_reducible refine Kd.C_drew ?_))); (case side2 => exact HC0.out); rintro e w11 ⟨rfl, hb⟩; refine ⟨_, rfl, ?_⟩; replace HB := am (below_step bel hb); clear hb) | ((with_reducible refine gate_callee (f := 44) rfl ?_); refine gl 11 Try.func44 #[.slice A0 l0.length c0, .string a1] ?_; (with_reducible refine (impl_follow.calls k _ _ l0 a1 t456 _ ?side1 ?side2 A5.out).mono ?_); (case side1 => exact cq (Kd.C_below HR0.out HB.out)); (case side2 => exact HC0.out); rintro e w12 ⟨rfl, hb⟩; refine ⟨_, rfl, ?_⟩; replace HB := am (below_step bel hb); clear hb))
  go_ret
  exact ⟨eq_, bel⟩
 replace c4 := Bool.eq_false_iff.mpr c4; subst c4
 rw [if_neg Bool.false_ne_true] at H
 obtain rfl := Option.some.inj H; go_enter Try.func17, Try.ntmps17
 go_wp2_with (first | ((with_reducible refine gate_callee (f := 20) rfl ?_); refine gl 7 Try.func20 #[.slice A0 l0.length c0] ?_; (with_reducible refine (impl_MachineOk.calls k _ _ l0 false _ ?side1 ?side2 A3.out).mono ?_); (case side1 => repeat (first | exact HR0.out | (with_reducible refine Kd.C_alloc ?_ _) | (with_reducible refine Kd.C_drewN ?_ _) | (with_reducible refine Kd.C_drew ?_))); (case side2 => exact HC0.out); rintro e w13 ⟨rfl, hb⟩; refine ⟨_, rfl, ?_⟩; replace HB := am (below_step bel hb); clear hb))
 go_ret
 exact ⟨eq_, bel⟩
-- shrunk

/-! ### impl_counts: function 45 -/
mutual
def impl_counts.l0 : Nat → List (S45) → List Int → Int → Option (List Int)
 | 0, _, _, _ => none
 | k + 1, x0, x3, x4 => if x4 ≥ 0 then (if 0 ≤ x4 then (if x4 < (x0.length : Int) then (if (rd_T45 x0 x4).f0 = true then (if x4 < (x3.length : Int) then (impl_counts.j1 k x0 (x3.set (x4 : Int).toNat 1) x4) else (none)) else (impl_counts.j1 k x0 x3 x4)) else (none)) else (none)) else (some x3)
def impl_counts.j1 : Nat → List (S45) → List Int → Int → Option (List Int)
 | 0, _, _, _ => none
 | k + 1, x0, x3, x4 => if 0 ≤ x4 then (if x4 < (x0.length : Int) then (impl_counts.l1 k x0 x3 x4 ((rd_T45 x0 x4).f1) (((rd_T45 x0 x4).f1).length : Int) 0) else (none)) else (none)
def impl_counts.l1 : Nat → List (S45) → List Int → Int → List (S49) → Int → Int → Option (List Int)
 | 0, _, _, _, _, _, _ => none
 | k + 1, x0, x3, x4, x29, x30, x31 => if x31 < x30 then (if 0 ≤ x31 then (if x31 < (x29.length : Int) then (if 0 ≤ x4 then (if x4 < (x3.length : Int) then (if 0 ≤ ((rd_T49 x29 x31).f1) then (if ((rd_T49 x29 x31).f1) < (x3.length : Int) then (impl_counts.l1 k x0 (x3.set (x4 : Int).toNat (mn (wrap64 ((rd x3 x4) + (rd x3 ((rd_T49 x29 x31).f1)))) 1000000000)) x4 x29 x30 (wrap64 (x31 + 1))) else (none)) else (none)) else (none)) else (none)) else (none)) else (none)) else (impl_counts.l0 k x0 x3 (wrap64 (x4 - 1)))
end
def impl_counts.f (k : Nat) (l0 : List (S45)) : Option (List Int) := if 0 ≤ (l0.length : Int) then (if l0.length ≤ 35184372088832 then (impl_counts.l0 k l0 (List.replicate l0.length 0) (wrap64 ((l0.length : Int) - 1))) else (none)) else (none)
def impl_counts.T10 : Bool × List (List Nat × List Nat) := (true, [([], []), ([], []), ([], []), ([], []), ([2, 3], [2, 3]), ([4], [4]), ([], []), ([], []), ([7], [7]), ([6, 8], [6, 8]), ([9], [9]), ([5, 10], [5, 10]), ([11], [11]), ([0, 1, 0, 1, 2, 3, 4, 5, 6, 7, 8, 9, 10, 11, 12], [0, 1]), ([13, 12, 0, 1, 2, 3, 4, 5, 6, 7, 8, 9, 10, 11, 12], [12, 13])])
def impl_counts.B10 : List Nat := [0, 0, 0, 0, 12, 28, 0, 0, 128, 448, 960, 2044, 4092, 8191, 16383]
theorem impl_counts.tab10 : rtab .any (opsOf Try.f45 10) = impl_counts.T10 := by kernel_rfl
theorem impl_counts.bits10 : waitsOk impl_counts.T10.2 impl_counts.B10 = true := by kernel_rfl
theorem impl_counts.calls (k : Nat) (A0 : Option Addr) (c0 : Nat) (l0 : List (S45)) (r : List Int) (w : World) (hr0 : Kd.C k45 w A0 l0.length l0) (hc0 : l0.length ≤ c0) (h : impl_counts.f k l0 = some r) :
  Calls Try.prog 45 #[.slice A0 l0.length c0] w fun e w' => ∃ v0_ : Value, e = .returned (v0_) ∧ Kd.R (Kd.int .i64) 3 w' w.heap.size (fun _ => True) v0_ r ∧ Below w.heap.size w w' := by
 have hu49 := Try.underlying49; have HR0 := am hr0; have HC0 := am hc0; clear hr0 hc0; have HB := am (Below.refl w.heap.size w)
 have H : (if 0 ≤ (l0.length : Int) then (if l0.length ≤ 35184372088832 then (impl_counts.l0 k l0 (List.replicate l0.length 0) (wrap64 ((l0.length : Int) - 1))) else (none)) else (none)) = some r := h
 clear h
 replace H := ip H; obtain ⟨c2, H⟩ := H; have c2b0 := eq_true c2
 have c2b1 : decide (0 ≤ (l0.length : Int)) = true := decide_eq_true c2
 clear c2
 replace H := ip H; obtain ⟨c3, H⟩ := H; have c3b0 := eq_true c3
 have c3b1 : decide (l0.length ≤ 35184372088832) = true := decide_eq_true c3
 clear c3; obtain ⟨y458, hy458⟩ : ∃ y_ : List Int, y_ = (List.replicate l0.length 0) := ⟨_, rfl⟩
 replace H : (impl_counts.l0 k l0 y458 (wrap64 ((l0.length : Int) - 1))) = some r := by first | (rw [hy458]; with_reducible exact H) | (have H2_ := bm H; rw [hy458]; with_reducible exact H2_) | (with_reducible exact bm H) | with_reducible exact H | (rw [hy458]; exact H) | exact H
 have Ny458 := am hy458; clear hy458
 have H' := am H
 clear H; go_enter Try.func45, Try.ntmps45
 go_wp2_with (first | ((with_reducible refine gate_dst (N := 9) rfl ?_); refine Kd.R_make (Kd.int .i64) _ 3 rfl (N := 9) rfl 69 _ _ rfl (l0.length : Int) rfl rfl Try.underlying69 (.int .i64 0) 8 info3 rfl (by decide) (by omega) 0 (ok := fun _ => True) (okp := fun _ => True) rfl (fun _ hk => hk) trivial (of_decide_eq_true ad) (Nat.le_trans (Nat.mul_le_mul_right _ (of_decide_eq_true ad : (l0.length : Int).toNat ≤ 35184372088832)) (by omega)) (Below.refl _ _) (Nat.le_refl _) ?_; intro v459 w4 ho5 hb hg_ hnew_; clear hg_ hnew_; (first | rw [← Ny458.out] at ho5 | (simp only [Int.reduceToNat] at ho5; rw [← Ny458.out] at ho5) | (simp only [Int.toNat_natCast] at ho5; rw [← Ny458.out] at ho5)); have HO460 := am (Kd.R_lower ho5 (below_size bel)); replace HB := am (below_step bel hb); clear hb ho5))
 go_loopg [4] k (fun kq v4 w' => ∃ (x3_1 : List Int) (x4_1 : Int), v4 = .int .i64 x4_1 ∧ Aside0 (impl_counts.l0 kq l0 x3_1 x4_1 = some r) ∧ Aside0 (kq ≤ k) ∧ Aside0 (Kd.R (Kd.int .i64) 3 w' w.heap.size (fun _ => True) v459 x3_1) ∧ Aside0 (Below w.heap.size w w'))
 case atStart => exact ⟨(y458), (wrap64 ((l0.length : Int) - 1)), sq, H', ⟨Nat.le_refl _⟩, ⟨rq HO460.out⟩, ⟨bel⟩⟩
 case round =>
  clear H'; (try clear c2); (try clear c2b0); (try clear c2b1); (try clear p2); (try clear c3); (try clear c3b0); (try clear c3b1); (try clear c4); obtain ⟨x3_1, x4_1, rfl, HA, HK1, HO_3, HB⟩ := hrel
  cases gk with
  | zero => exact absurd HA.out (by simp [impl_counts.l0])
  | succ k1 =>
   have H := HA.out; clear HA; simp only [impl_counts.l0] at H
   by_cases c6 : x4_1 ≥ 0
   ·rw [if_pos c6] at H; have c6b0 := decide_eq_true c6; clear c6
    replace H := it H; obtain ⟨c7b0, H⟩ := H; replace H := it H; obtain ⟨c8b0, H⟩ := H; have HC9 := am H; clear H
    have p461 : 0 ≤ (x4_1 : Int) := of_decide_eq_true ad
    have q461 : x4_1 < (l0.length : Int) := of_decide_eq_true ad
    obtain ⟨ad461, A461_1, c461_1, e461, hx461_0, hx461_1, hl461_1, hi461_1⟩ := at_T45 HR0.out x4_1 p461 q461; cases e461; replace hx461_0 := kp HB.out hx461_0; replace hx461_1 := kp HB.out hx461_1; have HR461_1 := am hi461_1; have HC461_1 := am hl461_1; clear hi461_1 hl461_1; replace p461 := eq_true p461; replace q461 := eq_true q461
    go_upto_if 21 with (fail)
    go_cut [] (fun wc => ∃ (kq : Nat) (x3_8 : List Int), Aside0 (impl_counts.j1 kq l0 x3_8 x4_1 = some r) ∧ Aside0 (kq ≤ k1) ∧ Aside0 (Kd.R (Kd.int .i64) 3 wc w.heap.size (fun _ => True) v459 x3_8) ∧ Aside0 (Below w.heap.size w wc))
    case first =>
     have H := HC9.out; clear HC9; obtain ⟨bq10, hbq10⟩ : ∃ b_ : Bool, b_ = ((rd_T45 l0 x4_1).f0) := ⟨_, rfl⟩
     replace H : (if bq10 = true then (if x4_1 < (x3_1.length : Int) then (impl_counts.j1 k1 l0 (x3_1.set (x4_1 : Int).toNat 1) x4_1) else (none)) else (impl_counts.j1 k1 l0 x3_1 x4_1)) = some r := by rw [← hbq10] at H; exact H
     have Nbq10 := am hbq10; clear hbq10
     (try rw [← Nbq10.out])
     by_cases c11 : bq10 = true
     ·subst c11
      rw [if_pos rfl] at H
      replace H := it H; obtain ⟨c12b0, H⟩ := H; obtain ⟨y462, hy462⟩ : ∃ y_ : List Int, y_ = (x3_1.set (x4_1 : Int).toNat 1) := ⟨_, rfl⟩
      replace H : (impl_counts.j1 k1 l0 y462 x4_1) = some r := by first | (rw [hy462]; with_reducible exact H) | (have H2_ := bm H; rw [hy462]; with_reducible exact H2_) | (with_reducible exact bm H) | with_reducible exact H | (rw [hy462]; exact H) | exact H
      have Ny462 := am hy462; clear hy462
      have H' := am H
      clear H
      have p13 : 0 ≤ (x4_1 : Int) := of_decide_eq_true ad
      have q13 : (x4_1 : Int) < ((x3_1.length : Int) : Int) := of_decide_eq_true ad
      obtain ⟨go13, co13, eo13, gb13, gl13, cl13, HG13⟩ := Kd.R_form HO_3.out (by omega)
      (first | cases eo13 | (injection eo13 with ea_ en_ ec_; (first | subst ea_ | (injection ea_ with ea_; subst ea_)); subst ec_; clear en_))
      have GB13 := Aside0.mk gb13; have GG13 := am HG13; clear gb13 gl13 HG13; obtain ⟨hx13_0, hf13_0⟩ := Kd.R_celln 0 HO_3.out (x4_1 : Int) p13 q13; replace p13 := eq_true p13; replace q13 := eq_true q13; have HP14 := Kd.R_putg HO_3.out (x4_1 : Int) 1
      go_wp2_with (first | ((with_reducible refine gate_store (t := 3) (p := 24) rfl ?_); refine store_event (t := 3) (p := 24) (v := ?vo_w15) (w1 := (wr.setCell ⟨go13, (x4_1 : Int).toNat, none⟩ (.int .i64 1))) ?hg ?ho ?hn ?hr ?_; (case ho => rfl); (case hg => rfl); (case hn => rfl); (case hr => first | (go_simp; done) | (go_simp; rfl)); intro w15 hw; have hg : wr.grownBy w15 (some go13) := (by rw [hw]; exact HP14.2); have hp_ : Kd.R (Kd.int .i64) 3 w15 w.heap.size (fun _ => True) (.slice (some ⟨go13, 0, none⟩) x3_1.length co13) y462 := (by rw [hw, Ny462.out]; exact HP14.1); clear HP14; replace HO_3 := am (hp_); replace HB := am ((by rw [hw]; exact below_set (HB.out) GB13.out : Below w.heap.size w w15)); clear hg hw hp_))
      go_meet
      case rel => exact ⟨_, (y462), H', ⟨b26_⟩, ⟨rq HO_3.out⟩, ⟨bel⟩⟩
     replace c11 := Bool.eq_false_iff.mpr c11; subst c11
     (try rw [← Nbq10.out] at hx461_0)
     (try rw [← Nbq10.out])
     rw [if_neg Bool.false_ne_true] at H
     have H' := am H
     clear H; go_wp2
     go_meet
     case rel => (try rw [← Nbq10.out]); exact ⟨_, (x3_1), H', ⟨b26_⟩, ⟨rq HO_3.out⟩, ⟨bel⟩⟩
    case rest =>
     clear HC9; (try clear c1); (try clear p1); (try clear q1); (try clear hx1); (try clear hf1); (try clear c2); (try clear c2b0); (try clear c2b1); (try clear p2); (try clear c3); (try clear c3b0); (try clear c3b1); (try clear c4); (try clear p4); (try clear q4); (try clear hx4); (try clear c6); (try clear c6b0); (try clear p6); (try clear c7); (try clear c7b0); (try clear c8); (try clear c8b0); (try clear q10); (try clear c11); (try clear c12); (try clear c12b0); (try clear p13); (try clear q13); (try clear hx13); (try clear hf13); (try clear hx13_0); (try clear hx461_0); (try clear hx461_1); (try clear p13); (try clear p2); (try clear p461); (try clear q13); (try clear q461); obtain ⟨kq, x3_8, HA, HJ8, HO_3, HB⟩ := hcut
     cases kq with
     | zero => exact absurd HA.out (by simp [impl_counts.j1])
     | succ kj8 =>
      have H := HA.out; clear HA; simp only [impl_counts.j1] at H; replace H := it H; obtain ⟨c16b0, H⟩ := H; replace H := it H; obtain ⟨c17b0, H⟩ := H
      have H' := am H
      clear H
      have p463 : 0 ≤ (x4_1 : Int) := of_decide_eq_true ad
      have q463 : x4_1 < (l0.length : Int) := of_decide_eq_true ad
      obtain ⟨ad463, A463_1, c463_1, e463, hx463_0, hx463_1, hl463_1, hi463_1⟩ := at_T45 HR0.out x4_1 p463 q463
      obtain rfl : ad461 = ad463 := (by injection e463)
      replace hx463_0 := kp HB.out hx463_0; replace hx463_1 := kp HB.out hx463_1; have HR463_1 := am hi463_1; have HC463_1 := am hl463_1; clear hi463_1 hl463_1; replace p463 := eq_true p463; replace q463 := eq_true q463; go_wp2
      go_loopg [31] kj8 (fun kq v31 w' => ∃ (x3_3 : List Int) (x31_3 : Int), v31 = .int .i64 x31_3 ∧ Aside0 (impl_counts.l1 kq l0 x3_3 x4_1 ((rd_T45 l0 x4_1).f1) (((rd_T45 l0 x4_1).f1).length : Int) x31_3 = some r) ∧ Aside0 (kq ≤ kj8) ∧ Aside0 (Kd.R (Kd.int .i64) 3 w' w.heap.size (fun _ => True) v459 x3_3) ∧ Aside0 (Below w.heap.size w w'))
      case atStart => exact ⟨(x3_8), (0), sq, H', ⟨Nat.le_refl _⟩, ⟨rq HO_3.out⟩, ⟨bel⟩⟩
      case round =>
       clear H'; (try clear c1); (try clear p1); (try clear q1); (try clear hx1); (try clear hf1); (try clear c2); (try clear c2b0); (try clear c2b1); (try clear p2); (try clear c3); (try clear c3b0); (try clear c3b1); (try clear c4); (try clear p4); (try clear q4); (try clear hx4); (try clear c6); (try clear c6b0); (try clear p6); (try clear c7); (try clear c7b0); (try clear c8); (try clear c8b0); (try clear q10); (try clear c11); (try clear c12); (try clear c12b0); (try clear p13); (try clear q13); (try clear hx13); (try clear hf13); (try clear c16); (try clear c16b0); (try clear c17); (try clear c17b0); (try clear hx13_0); (try clear hx461_0); (try clear hx461_1); (try clear hx463_0); (try clear hx463_1); (try clear p1); (try clear p13); (try clear p2); (try clear p4); (try clear p461); (try clear p463); (try clear p6); (try clear q1); (try clear q10); (try clear q13); (try clear q4); (try clear q461); (try clear q463); obtain ⟨x3_3, x31_3, rfl, HA, HK3, HO_3, HB⟩ := hrel
       cases gk with
       | zero => exact absurd HA.out (by simp [impl_counts.l1])
       | succ k3 =>
        have H := HA.out; clear HA; simp only [impl_counts.l1] at H
        by_cases c18 : x31_3 < (((rd_T45 l0 x4_1).f1).length : Int)
        ·rw [if_pos c18] at H; have c18b0 := decide_eq_true c18; clear c18
         replace H := it H; obtain ⟨c19b0, H⟩ := H; replace H := it H; obtain ⟨c20b0, H⟩ := H; replace H := it H; obtain ⟨c21b0, H⟩ := H; replace H := it H; obtain ⟨c22b0, H⟩ := H; replace H := it H; obtain ⟨c23b0, H⟩ := H
         replace H := it H; obtain ⟨c24b0, H⟩ := H; obtain ⟨ji25, hji25⟩ : ∃ j_ : Int, (mn (wrap64 ((rd x3_3 x4_1) + (rd x3_3 ((rd_T49 ((rd_T45 l0 x4_1).f1) x31_3).f1)))) 1000000000) = j_ := ⟨_, rfl⟩
         replace H : (impl_counts.l1 k3 l0 (x3_3.set (x4_1 : Int).toNat (ji25)) x4_1 ((rd_T45 l0 x4_1).f1) (((rd_T45 l0 x4_1).f1).length : Int) (wrap64 (x31_3 + 1))) = some r := by first | (rw [hji25] at H; exact H) | (simp only [hji25] at H ⊢; exact H)
         have hji25_ : (if 1000000000 < (wrap64 ((rd x3_3 x4_1) + (rd x3_3 ((rd_T49 ((rd_T45 l0 x4_1).f1) x31_3).f1)))) then 1000000000 else (wrap64 ((rd x3_3 x4_1) + (rd x3_3 ((rd_T49 ((rd_T45 l0 x4_1).f1) x31_3).f1))))) = ji25 := hji25
         obtain ⟨y468, hy468⟩ : ∃ y_ : List Int, y_ = (x3_3.set (x4_1 : Int).toNat (ji25)) := ⟨_, rfl⟩
         replace H : (impl_counts.l1 k3 l0 y468 x4_1 ((rd_T45 l0 x4_1).f1) (((rd_T45 l0 x4_1).f1).length : Int) (wrap64 (x31_3 + 1))) = some r := by first | (rw [hy468]; with_reducible exact H) | (have H2_ := bm H; rw [hy468]; with_reducible exact H2_) | (with_reducible exact bm H) | with_reducible exact H | (rw [hy468]; exact H) | exact H
         have Ny468 := am hy468; clear hy468
         have H' := am H
         clear H
         have p464 : 0 ≤ (x31_3 : Int) := of_decide_eq_true ad
         have q464 : x31_3 < (((rd_T45 l0 x4_1).f1).length : Int) := of_decide_eq_true ad
         obtain ⟨ad464, e464, hx464_0, hx464_1⟩ := at_T49 HR463_1.out x31_3 p464 q464; cases e464; replace hx464_0 := kp HB.out hx464_0; replace hx464_1 := kp HB.out hx464_1; replace p464 := eq_true p464; replace q464 := eq_true q464
         try go_wp2_with (first | ((with_reducible refine gate_dst (N := 6) rfl ?_); refine bx 6 (cs := #[.int .i64 0, .int .i64 0]) (t := 49) ?_; intro gb465 hg w27 hbox hb; replace HO_3 := am (Kd.R_below (rq HO_3.out) hb); have BK465 := am (hbox); have GW465 := am ((b19_ : w.heap.size ≤ gb465)); have GE465 := am ((b19_ : w.heap.size ≤ gb465)); replace HB := am (below_step bel hb); clear hb hbox hg; have ⟨hcz28_0, hcz28_1, hfz28_0, hfz28_1⟩ := b2c BK465.out))
         have n0_ : Aside0 (Kd.R (Kd.int .i64) 3 ((w27.setCell ⟨gb465, 0, none⟩ (.int .i64 ((rd_T49 ((rd_T45 l0 x4_1).f1) x31_3).f0))).setCell ⟨gb465, 1, none⟩ (.int .i64 ((rd_T49 ((rd_T45 l0 x4_1).f1) x31_3).f1))) w.heap.size (fun _ => True) v459 x3_3) := ⟨rq (Kd.R_mono (Kd.R_far (p := ⟨gb465, 1, none⟩) (Kd.R_far (p := ⟨gb465, 0, none⟩) (Kd.R_types HO_3.out BK465.out (by decide)) (fun _ hk => hk.2) (.int .i64 ((rd_T49 ((rd_T45 l0 x4_1).f1) x31_3).f0))) (fun _ hk => hk.2) (.int .i64 ((rd_T49 ((rd_T45 l0 x4_1).f1) x31_3).f1))) (fun _ hk => trivial))⟩
         have n1_ : Aside0 (((w27.setCell ⟨gb465, 0, none⟩ (.int .i64 ((rd_T49 ((rd_T45 l0 x4_1).f1) x31_3).f0))).setCell ⟨gb465, 1, none⟩ (.int .i64 ((rd_T49 ((rd_T45 l0 x4_1).f1) x31_3).f1))).heap[gb465]? = some (.cells #[.int .i64 ((rd_T49 ((rd_T45 l0 x4_1).f1) x31_3).f0), .int .i64 ((rd_T49 ((rd_T45 l0 x4_1).f1) x31_3).f1)] 49 (0, 0))) := ⟨by (with_reducible repeat (first | refine blk_drewN ?_ _ | refine blk_drew ?_ | refine blk_alloc ?_ _)); refine blk_put (cs := #[.int .i64 ((rd_T49 ((rd_T45 l0 x4_1).f1) x31_3).f0), .int .i64 0]) ?_ 1 _ rfl; (with_reducible repeat (first | refine blk_drewN ?_ _ | refine blk_drew ?_ | refine blk_alloc ?_ _)); refine blk_put (cs := #[.int .i64 0, .int .i64 0]) ?_ 0 _ rfl; (with_reducible repeat (first | refine blk_drewN ?_ _ | refine blk_drew ?_ | refine blk_alloc ?_ _)); exact BK465.out⟩
         have n2_ : Aside0 (Below w.heap.size w ((w27.setCell ⟨gb465, 0, none⟩ (.int .i64 ((rd_T49 ((rd_T45 l0 x4_1).f1) x31_3).f0))).setCell ⟨gb465, 1, none⟩ (.int .i64 ((rd_T49 ((rd_T45 l0 x4_1).f1) x31_3).f1)))) := ⟨bel1 GE465.out⟩
         (try clear HO_3); (try clear BK465); (try clear HB); generalize ((w27.setCell ⟨gb465, 0, none⟩ (.int .i64 ((rd_T49 ((rd_T45 l0 x4_1).f1) x31_3).f0))).setCell ⟨gb465, 1, none⟩ (.int .i64 ((rd_T49 ((rd_T45 l0 x4_1).f1) x31_3).f1))) = w29 at n0_ n1_ n2_ ⊢; have HO_3 := n0_; have BK465 := n1_; have HB := n2_; clear n0_ n1_ n2_; replace HO_3 := am (Kd.R_drew HO_3.out); replace BK465 := am (blk_drew BK465.out); replace HB := am (below_drew1 HB.out); obtain ⟨Ao31, co31, eo31⟩ := Kd.R_slice HO_3.out
         (first | subst eo31 | (injection eo31 with f1_ f2_ f3_; have f4_ := f1_.symm; have f5_ := f3_.symm; clear f1_ f2_ f3_; subst f4_; subst f5_))
         have p466 : 0 ≤ (x4_1 : Int) := of_decide_eq_true ad
         have q466 : x4_1 < (x3_3.length : Int) := of_decide_eq_true ad
         obtain ⟨ad466, e466, hx466_0⟩ := Kd.at_int (Kd.R_reads' HO_3.out).2.2 x4_1 p466 q466; cases e466; replace p466 := eq_true p466; replace q466 := eq_true q466
         have p467 : 0 ≤ (((rd_T49 ((rd_T45 l0 x4_1).f1) x31_3).f1) : Int) := of_decide_eq_true ad
         have q467 : ((rd_T49 ((rd_T45 l0 x4_1).f1) x31_3).f1) < (x3_3.length : Int) := of_decide_eq_true ad
         obtain ⟨ad467, e467, hx467_0⟩ := Kd.at_int (Kd.R_reads' HO_3.out).2.2 ((rd_T49 ((rd_T45 l0 x4_1).f1) x31_3).f1) p467 q467
         obtain rfl : ad466 = ad467 := (by injection e467)
         replace p467 := eq_true p467; replace q467 := eq_true q467
         have p26 : 0 ≤ (x4_1 : Int) := of_decide_eq_true ad
         have q26 : (x4_1 : Int) < ((x3_3.length : Int) : Int) := of_decide_eq_true ad
         obtain ⟨go26, co26, eo26, gb26, gl26, cl26, HG26⟩ := Kd.R_form HO_3.out (by omega)
         (first | cases eo26 | (injection eo26 with ea_ en_ ec_; (first | subst ea_ | (injection ea_ with ea_; subst ea_)); subst ec_; clear en_))
         have GB26 := Aside0.mk gb26; have GG26 := am HG26; clear gb26 gl26 HG26
         (first | simp only [add_plain] at hx466_0 | skip)
         (first | simp only [add_plain] at hx467_0 | skip)
         obtain ⟨hx26_0, hf26_0⟩ := Kd.R_celln 0 HO_3.out (x4_1 : Int) p26 q26; replace p26 := eq_true p26; replace q26 := eq_true q26; have HP32 := Kd.R_putn HO_3.out (x4_1 : Int) ji25; rw [← Ny468.out] at HP32; have HQ32 := am HP32; clear HP32
         refine start_ (n := 15) (S := fun w' => w'.cell? ⟨gb465, 0, none⟩ = some (.int .i64 ((rd_T49 ((rd_T45 l0 x4_1).f1) x31_3).f0)) ∧ w'.cell? ⟨gb465, 1, none⟩ = some (.int .i64 ((rd_T49 ((rd_T45 l0 x4_1).f1) x31_3).f1)) ∧ w'.cell? ⟨go26, (x4_1).toNat, none⟩ = some (.int .i64 (rd x3_3 x4_1)) ∧ w'.cell? ⟨go26, (((rd_T49 ((rd_T45 l0 x4_1).f1) x31_3).f1)).toNat, none⟩ = some (.int .i64 (rd x3_3 ((rd_T49 ((rd_T45 l0 x4_1).f1) x31_3).f1)))) (ds := [14]) #[false, false, false, false, false, false, false, false, false, false, false, false, false, false, false] (by kernel_rfl) rfl rfl ⟨bd BK465.out 0, bd BK465.out 1, hx466_0, hx467_0⟩ (fun hHeld => ?_); refine with_tabW impl_counts.tab10 impl_counts.bits10 (fun HT_ HW_ => ?_)
         generalize w29.drew = w30 at HO_3 BK465 HB GG26 HQ32 hf26_0 hx26_0 hx466_0 hx467_0 hHeld ⊢; refine pu 0 35 ?_; refine pu 1 36 ?_; refine pu 2 37 ?_; refine pu 3 38 ?_; refine pu 4 39 ?_; refine pu 6 41 ?_; refine pu 7 42 ?_; refine tk4 5 40 hHeld ?_; refine tk4 8 43 hHeld ?_; refine pu 9 44 ?_; refine tk4 10 45 hHeld ?_; refine pu 11 46 ?_; refine pu 12 47 ?_; refine pu 13 48 ?_
         refine last_ (i := 14) (N := none) #[true, true, true, true, true, true, true, true, true, true, true, true, true, true, true] rfl rfl (one_of HT_.out (by kernel_rfl)) (by decide) (fun K hK => ?_)
         refine skip_ (w1 := ?_) (by rfl) rfl ?_ ?_
         rotate_left
         ·go_simp
          rfl
         refine hK.out _ _ ?_; clear hK K
         refine done_ (done_of HT_.out (by kernel_rfl)) ?_
         try go_wp2
         go_roundg k3
         case measure => have := HK1.out; have := HJ8.out; have := HK3.out; omega
         case rel => exact ⟨(y468), (wrap64 (x31_3 + 1)), sq, H', ⟨by have := HK1.out; have := HJ8.out; have := HK3.out; omega⟩, ⟨rq HQ32.out⟩, ⟨bel2 GB26.out GE465.out⟩⟩
        rw [if_neg c18] at H; have c18b0 := decide_eq_false c18; clear c18
        have H' := am H
        clear H; go_wp2
        go_roundg k3
        case measure => have := HK1.out; have := HJ8.out; have := HK3.out; omega
        case rel => exact ⟨(x3_3), (wrap64 (x4_1 - 1)), sq, H', ⟨by have := HK1.out; have := HJ8.out; have := HK3.out; omega⟩, ⟨rq HO_3.out⟩, ⟨bel⟩⟩
   rw [if_neg c6] at H; have c6b0 := decide_eq_false c6; clear c6; obtain rfl := Option.some.inj H; go_wp2; go_ret
   exact ⟨_, eq_, b54_, bel⟩

/-! ### impl_MachineCount: function 21 -/
def impl_MachineCount.f (k : Nat) (l0 : List (S45)) : Option (Int) := (impl_MachineOk.f k l0).bind fun t469 => (if t469 = true then ((impl_counts.f k l0).bind fun t470 => (if 0 < (t470.length : Int) then (some (rd t470 0)) else (none))) else (some 0))
theorem impl_MachineCount.calls (k : Nat) (A0 : Option Addr) (c0 : Nat) (l0 : List (S45)) (r : Int) (w : World) (hr0 : Kd.C k45 w A0 l0.length l0) (hc0 : l0.length ≤ c0) (h : impl_MachineCount.f k l0 = some r) :
  Calls Try.prog 21 #[.slice A0 l0.length c0] w fun e w' => e = .returned (.int .i64 r) ∧ Below w.heap.size w w' := by
 have HR0 := am hr0; have HC0 := am hc0; clear hr0 hc0; have HB := am (Below.refl w.heap.size w)
 have H : ((impl_MachineOk.f k l0).bind fun t469 => (if t469 = true then ((impl_counts.f k l0).bind fun t470 => (if 0 < (t470.length : Int) then (some (rd t470 0)) else (none))) else (some 0))) = some r := h
 clear h; replace H := bs H; obtain ⟨t469, A20, H⟩ := H; (try dsimp only at H); have A2 := Aside0.mk A20; clear A20
 by_cases c3 : t469 = true
 ·subst c3
  rw [if_pos rfl] at H
  replace H := bs H; obtain ⟨t470, A40, H⟩ := H; (try dsimp only at H); have A4 := Aside0.mk A40; clear A40
  replace H := ip H; obtain ⟨c5, H⟩ := H; have c5b0 := decide_eq_true c5
  have c5b1 : decide (0 < t470.length) = true := decide_eq_true (by omega)
  clear c5; obtain rfl := Option.some.inj H; go_enter Try.func21, Try.ntmps21
  go_wp2_with (first | ((with_reducible refine gate_callee (f := 20) rfl ?_); refine gl 4 Try.func20 #[.slice A0 l0.length c0] ?_; (with_reducible refine (impl_MachineOk.calls k _ _ l0 true _ ?side1 ?side2 A2.out).mono ?_); (case side1 => repeat (first | exact HR0.out | (with_reducible refine Kd.C_alloc ?_ _) | (with_reducible refine Kd.C_drewN ?_ _) | (with_reducible refine Kd.C_drew ?_))); (case side2 => exact HC0.out); rintro e w6 ⟨rfl, hb⟩; refine ⟨_, rfl, ?_⟩; replace HB := am (below_step bel hb); clear hb) | ((with_reducible refine gate_callee (f := 45) rfl ?_); refine gl 7 Try.func45 #[.slice A0 l0.length c0] ?_; (with_reducible refine (impl_counts.calls k _ _ l0 t470 _ ?side1 ?side2 A4.out).mono ?_); (case side1 => exact cq (Kd.C_below HR0.out HB.out)); (case side2 => exact HC0.out); rintro e w7 ⟨v471, rfl, ho0, hb⟩; refine ⟨_, rfl, ?_⟩; have HO472 := am (Kd.R_lower ho0 (below_size bel)); replace HB := am (below_step bel hb); clear hb; (try clear ho0); obtain ⟨Ao8, co8, eo8⟩ := Kd.R_slice HO472.out; subst eo8; have p473 : 0 ≤ (0 : Int) := (by omega); have q473 : 0 < (t470.length : Int) := of_decide_eq_true ad; obtain ⟨ad473, e473, hx473_0⟩ := Kd.at_int (Kd.R_reads' HO472.out).2.2 0 p473 q473; cases e473; have qi473 : (0 < t470.length) = True := eq_true (by omega); (try rw [show ((0 : Int)).toNat = 0 from rfl] at hx473_0); (try rw [Addr.add_zero'] at hx473_0); replace p473 := eq_true p473; replace q473 := eq_true q473))
  go_ret
  exact ⟨eq_, bel⟩
 replace c3 := Bool.eq_false_iff.mpr c3; subst c3
 rw [if_neg Bool.false_ne_true] at H
 obtain rfl := Option.some.inj H; go_enter Try.func21, Try.ntmps21
 go_wp2_with (first | ((with_reducible refine gate_callee (f := 20) rfl ?_); refine gl 4 Try.func20 #[.slice A0 l0.length c0] ?_; (with_reducible refine (impl_MachineOk.calls k _ _ l0 false _ ?side1 ?side2 A2.out).mono ?_); (case side1 => repeat (first | exact HR0.out | (with_reducible refine Kd.C_alloc ?_ _) | (with_reducible refine Kd.C_drewN ?_ _) | (with_reducible refine Kd.C_drew ?_))); (case side2 => exact HC0.out); rintro e w9 ⟨rfl, hb⟩; refine ⟨_, rfl, ?_⟩; replace HB := am (below_step bel hb); clear hb))
 go_ret
 exact ⟨eq_, bel⟩
end Go.Proofs.Ytpljfjbhlboffaa.QFnMachineDrop
