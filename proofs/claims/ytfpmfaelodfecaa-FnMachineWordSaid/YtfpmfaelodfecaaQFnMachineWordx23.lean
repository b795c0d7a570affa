import Derived.Test.YtfpmfaelodfecaaQFnMachineWordx0
import Derived.Test.YtfpmfaelodfecaaQFnMachineWordx4
import Derived.Test.YtfpmfaelodfecaaQFnMachineWordx5
import Derived.Test.YtfpmfaelodfecaaQFnMachineWordx6
import Derived.Test.YtfpmfaelodfecaaVMSh2
namespace Go.Proofs.Ytfpmfaelodfecaa.QFnMachineWord
open Go.RowKit Go.Proofs.YtfpmfaelodfecaaW.PrintWords Go.Proofs.YtfpmfaelodfecaaW.PrintLast Go.Proofs.YtfpmfaelodfecaaW.PrintMore Go.Proofs.Ytfpmfaelodfecaa.Sh
attribute [local go_sem] max2_int min2_int max_two min_two max_three min_three max_four min_four   -- for this text's walks alone
set_option linter.unusedVariables false
set_option linter.unusedSimpArgs false
-- shrunk

/-! ### impl_MachineRank: function 41 -/
mutual
def impl_MachineRank.l0 : Nat → List (S94) → ByteArray → List Int → Int → Int → Int → Int → Option (Int)
 | 0, _, _, _, _, _, _, _ => none
 | k + 1, x0, x1, x5, x6, x7, x22, x23 => if x23 < x22 then (if 0 ≤ x7 then (if x7 < (x0.length : Int) then (if (rd_T94 x0 x7).f0 = true then (impl_MachineRank.j1 k x0 x1 x5 (wrap64 (x6 + 1)) x7 x23 x22 x23) else (impl_MachineRank.j1 k x0 x1 x5 x6 x7 x23 x22 x23)) else (none)) else (none)) else (some x6)
def impl_MachineRank.j1 : Nat → List (S94) → ByteArray → List Int → Int → Int → Int → Int → Int → Option (Int)
 | 0, _, _, _, _, _, _, _, _ => none
 | k + 1, x0, x1, x5, x6, x7, x8, x22, x23 => if 0 ≤ x7 then (if x7 < (x0.length : Int) then (impl_MachineRank.l1 k x0 x1 x5 x6 x7 x8 x22 x23 ((rd_T94 x0 x7).f1) (((rd_T94 x0 x7).f1).length : Int) 0) else (none)) else (none)
def impl_MachineRank.l1 : Nat → List (S94) → ByteArray → List Int → Int → Int → Int → Int → Int → List (S100) → Int → Int → Option (Int)
 | 0, _, _, _, _, _, _, _, _, _, _, _ => none
 | k + 1, x0, x1, x5, x6, x7, x8, x22, x23, x37, x38, x39 => if x39 < x38 then (if 0 ≤ x39 then (if x39 < (x37.length : Int) then (if 0 ≤ x8 then (if x8 < (x1.size : Int) then (if ((rd_T100 x37 x39).f0) < (wrap64 (bt x1 x8)) then (if 0 ≤ ((rd_T100 x37 x39).f1) then (if ((rd_T100 x37 x39).f1) < (x5.length : Int) then (impl_MachineRank.l1 k x0 x1 x5 (wrap64 (x6 + (rd x5 ((rd_T100 x37 x39).f1)))) x7 x8 x22 x23 x37 x38 (wrap64 (x39 + 1))) else (none)) else (none)) else (impl_MachineRank.l1 k x0 x1 x5 x6 x7 x8 x22 x23 x37 x38 (wrap64 (x39 + 1)))) else (none)) else (none)) else (none)) else (none)) else (if 0 ≤ x7 then (if x7 < (x0.length : Int) then (if 0 ≤ x8 then (if x8 < (x1.size : Int) then ((impl_State_step.f k ((rd_T94 x0 x7).f0) ((rd_T94 x0 x7).f1) (bt x1 x8)).bind fun t586 => (impl_MachineRank.l0 k x0 x1 x5 x6 t586 x22 (wrap64 (x23 + 1)))) else (none)) else (none)) else (none)) else (none))
end
def impl_MachineRank.f (k : Nat) (l0 : List (S94)) (a1 : ByteArray) : Option (Int) := (impl_MachineKnows.f k l0 a1).bind fun t575 => (if t575 = true then ((impl_counts.f k l0).bind fun t576 => (if 0 < (t576.length : Int) then (if (rd t576 0) = 1000000000 then (some (-1)) else (impl_MachineRank.l0 k l0 a1 t576 0 0 (a1.size : Int) 0)) else (none))) else (some (-1)))
def impl_MachineRank.T18 : Bool × List (List Nat × List Nat) := (true, [([], []), ([], []), ([0, 1], [0, 1]), ([2], [2]), ([], []), ([], []), ([4, 5], [4, 5]), ([3, 6], [3, 6]), ([7, 7, 0, 1, 2, 3, 4, 5, 6, 7], [1, 7])])
def impl_MachineRank.B18 : List Nat := [0, 0, 3, 7, 0, 0, 48, 127, 255]
theorem impl_MachineRank.tab18 : rtab .any (opsOf Try.f41 18) = impl_MachineRank.T18 := by kernel_rfl
theorem impl_MachineRank.bits18 : waitsOk impl_MachineRank.T18.2 impl_MachineRank.B18 = true := by kernel_rfl
set_option maxHeartbeats 8000000 in
set_option maxRecDepth 100000 in
theorem impl_MachineRank.calls (k : Nat) (A0 : Option Addr) (c0 : Nat) (l0 : List (S94)) (a1 : ByteArray) (r : Int) (w : World) (hr0 : Kd.C k94 w A0 l0.length l0) (hc0 : l0.length ≤ c0) (h : impl_MachineRank.f k l0 a1 = some r) :
  Calls Try.prog 41 #[.slice A0 l0.length c0, .string a1] w fun e w' => e = .returned (.int .i64 r) ∧ Below w.heap.size w w' := by
 have hu100 := Try.underlying100; have hu94 := Try.underlying94; have HR0 := am hr0; have HC0 := am hc0; clear hr0 hc0; have HB := am (Below.refl w.heap.size w)
 have H : ((impl_MachineKnows.f k l0 a1).bind fun t575 => (if t575 = true then ((impl_counts.f k l0).bind fun t576 => (if 0 < (t576.length : Int) then (if (rd t576 0) = 1000000000 then (some (-1)) else (impl_MachineRank.l0 k l0 a1 t576 0 0 (a1.size : Int) 0)) else (none))) else (some (-1)))) = some r := h
 clear h; replace H := Option.bind_eq_some_iff.mp H; obtain ⟨t575, A30, H⟩ := H; replace H : (if t575 = true then ((impl_counts.f k l0).bind fun t576 => (if 0 < (t576.length : Int) then (if (rd t576 0) = 1000000000 then (some (-1)) else (impl_MachineRank.l0 k l0 a1 t576 0 0 (a1.size : Int) 0)) else (none))) else (some (-1))) = some r := H; have A3 := Aside0.mk A30; clear A30
 by_cases c4 : t575 = true
 ·subst c4
  have H1 : ((impl_counts.f k l0).bind fun t576 => (if 0 < (t576.length : Int) then (if (rd t576 0) = 1000000000 then (some (-1)) else (impl_MachineRank.l0 k l0 a1 t576 0 0 (a1.size : Int) 0)) else (none))) = some r := b20_
  replace H := H1; clear H1
  replace H := Option.bind_eq_some_iff.mp H; obtain ⟨t576, A50, H⟩ := H; replace H : (if 0 < (t576.length : Int) then (if (rd t576 0) = 1000000000 then (some (-1)) else (impl_MachineRank.l0 k l0 a1 t576 0 0 (a1.size : Int) 0)) else (none)) = some r := H; have A5 := Aside0.mk A50; clear A50
  by_cases c6 : 0 < (t576.length : Int)
  ·rw [if_pos c6] at H; have c6b0 := decide_eq_true c6
   have c6b1 : decide (0 < t576.length) = true := decide_eq_true (by omega)
   clear c6
   by_cases c7 : (rd t576 0) = 1000000000
   ·rw [if_pos c7] at H
    have c7b0 : ((rd t576 0) == 1000000000) = true := beq_iff_eq.mpr c7
    have c7b1 : ((rd t576 0) != 1000000000) = false := bne_eq_false_iff_eq.mpr c7
    clear c7; obtain rfl := Option.some.inj H; go_enter Try.func41, Try.ntmps41
    go_wp2_with (first | ((with_reducible refine gate_callee (f := 37) rfl ?_); refine goesL_ (some 13) rfl rfl Try.func37 (by kernel_rfl) rfl #[.slice A0 l0.length c0, .string a1] rfl mq ?_; (with_reducible refine (impl_MachineKnows.calls k _ _ l0 a1 true _ ?side1 ?side2 A3.out).mono ?_); (case side1 => repeat (first | exact HR0.out | (with_reducible refine Kd.C_alloc ?_ _) | (with_reducible refine Kd.C_drewN ?_ _) | (with_reducible refine Kd.C_drew ?_))); (case side2 => exact HC0.out); rintro e w8 ⟨rfl, hb⟩; refine ⟨_, rfl, ?_⟩; replace HB := am (below_step bel hb); (try clear hb); (try clear hb2); (try clear hk); (try clear hi)) | ((with_reducible refine gate_callee (f := 80) rfl ?_); refine goesL_ (some 16) rfl rfl Try.func80 (by kernel_rfl) rfl #[.slice A0 l0.length c0] rfl mq ?_; (with_reducible refine (impl_counts.calls k _ _ l0 t576 _ ?side1 ?side2 A5.out).mono ?_); (case side1 => exact cq (Kd.C_below HR0.out HB.out)); (case side2 => exact HC0.out); rintro e w9 ⟨v577, rfl, ho0, hb⟩; refine ⟨_, rfl, ?_⟩; have HO578 := am (Kd.R_lower ho0 (below_size bel)); replace HB := am (below_step bel hb); (try clear hb); (try clear hb2); (try clear hk); (try clear hi); (try clear ho0); obtain ⟨Ao10, co10, eo10⟩ := Kd.R_slice HO578.out; subst eo10; have p579 : 0 ≤ (0 : Int) := (by omega); have q579 : 0 < (t576.length : Int) := of_decide_eq_true ad; obtain ⟨ad579, e579, hx579_0⟩ := Kd.at_int (Kd.R_reads' HO578.out).2.2 0 p579 q579; cases e579; have qi579 : (0 < t576.length) = True := eq_true (by omega); (try rw [show ((0 : Int)).toNat = 0 from rfl] at hx579_0); (try rw [Addr.add_zero'] at hx579_0); replace p579 := eq_true p579; replace q579 := eq_true q579))
    go_ret
    exact ⟨eq_, bel⟩
   ·rw [if_neg c7] at H
    have c7b0 : ((rd t576 0) == 1000000000) = false := beq_eq_false_iff_ne.mpr c7
    have c7b1 : ((rd t576 0) != 1000000000) = true := bne_iff_ne.mpr c7
    have H' := am H
    clear H; go_enter Try.func41, Try.ntmps41
    go_wp2_with (first | ((with_reducible refine gate_callee (f := 37) rfl ?_); refine goesL_ (some 13) rfl rfl Try.func37 (by kernel_rfl) rfl #[.slice A0 l0.length c0, .string a1] rfl mq ?_; (with_reducible refine (impl_MachineKnows.calls k _ _ l0 a1 true _ ?side1 ?side2 A3.out).mono ?_); (case side1 => repeat (first | exact HR0.out | (with_reducible refine Kd.C_alloc ?_ _) | (with_reducible refine Kd.C_drewN ?_ _) | (with_reducible refine Kd.C_drew ?_))); (case side2 => exact HC0.out); rintro e w11 ⟨rfl, hb⟩; refine ⟨_, rfl, ?_⟩; replace HB := am (below_step bel hb); (try clear hb); (try clear hb2); (try clear hk); (try clear hi)) | ((with_reducible refine gate_callee (f := 80) rfl ?_); refine goesL_ (some 16) rfl rfl Try.func80 (by kernel_rfl) rfl #[.slice A0 l0.length c0] rfl mq ?_; (with_reducible refine (impl_counts.calls k _ _ l0 t576 _ ?side1 ?side2 A5.out).mono ?_); (case side1 => exact cq (Kd.C_below HR0.out HB.out)); (case side2 => exact HC0.out); rintro e w12 ⟨v577, rfl, ho0, hb⟩; refine ⟨_, rfl, ?_⟩; have HO578 := am (Kd.R_lower ho0 (below_size bel)); replace HB := am (below_step bel hb); (try clear hb); (try clear hb2); (try clear hk); (try clear hi); (try clear ho0); obtain ⟨Ao13, co13, eo13⟩ := Kd.R_slice HO578.out; subst eo13; have p579 : 0 ≤ (0 : Int) := (by omega); have q579 : 0 < (t576.length : Int) := of_decide_eq_true ad; obtain ⟨ad579, e579, hx579_0⟩ := Kd.at_int (Kd.R_reads' HO578.out).2.2 0 p579 q579; cases e579; have qi579 : (0 < t576.length) = True := eq_true (by omega); (try rw [show ((0 : Int)).toNat = 0 from rfl] at hx579_0); (try rw [Addr.add_zero'] at hx579_0); replace p579 := eq_true p579; replace q579 := eq_true q579))
    go_loopg [6, 7, 23] k (fun kq v6 v7 v23 w' => ∃ (x6_1 : Int) (x7_1 : Int) (x23_1 : Int), v6 = .int .i64 x6_1 ∧ v7 = .int .i64 x7_1 ∧ v23 = .int .i64 x23_1 ∧ Aside0 (impl_MachineRank.l0 kq l0 a1 t576 x6_1 x7_1 (a1.size : Int) x23_1 = some r) ∧ Aside0 (kq ≤ k) ∧ Aside0 (Kd.R (Kd.int .i64) 3 w' w.heap.size (fun _ => True) (.slice (some ad579) t576.length co13) t576) ∧ Aside0 (Below w.heap.size w w'))
    case atStart => exact ⟨(0), (0), (0), sq, sq, sq, H', ⟨Nat.le_refl _⟩, ⟨rq HO578.out⟩, ⟨bel⟩⟩
    case round =>
     clear H'; (try clear p2); (try clear c3); (try clear c4); (try clear p5); (try clear q5); (try clear hx5); (try clear qi5); (try clear c6); (try clear c6b0); (try clear c6b1); (try clear c7); (try clear c7b0); (try clear c7b1); (try clear c8); (try clear hx579_0); (try clear p579); (try clear q579); obtain ⟨x6_1, x7_1, x23_1, rfl, rfl, rfl, HA, HK1, HO_5, HB⟩ := hrel
     cases gk with
     | zero => exact absurd HA.out (by simp [impl_MachineRank.l0])
     | succ k1 =>
      have H := HA.out; clear HA
      simp only [impl_MachineRank.l0] at H
      by_cases c14 : x23_1 < (a1.size : Int)
      ·rw [if_pos c14] at H; have c14b0 := decide_eq_true c14; clear c14
       by_cases c15 : 0 ≤ x7_1
       ·rw [if_pos c15] at H; have c15b0 := decide_eq_true c15; clear c15
        by_cases c16 : x7_1 < (l0.length : Int)
        ·rw [if_pos c16] at H; have c16b0 := decide_eq_true c16; clear c16; have HC17 := am H; clear H
         have p580 : 0 ≤ (x7_1 : Int) := of_decide_eq_true ad
         have q580 : x7_1 < (l0.length : Int) := of_decide_eq_true ad
         obtain ⟨ad580, A580_1, c580_1, e580, hx580_0, hx580_1, hl580_1, hi580_1⟩ := at_T94 HR0.out x7_1 p580 q580
         cases e580
         replace hx580_0 := kp HB.out hx580_0; replace hx580_1 := kp HB.out hx580_1; have HR580_1 := am hi580_1; have HC580_1 := am hl580_1; clear hi580_1 hl580_1; replace p580 := eq_true p580; replace q580 := eq_true q580
         go_upto_if 30 with (fail)
         go_cut [6] (fun v6 wc => ∃ (kq : Nat) (x6_16 : Int), v6 = .int .i64 x6_16 ∧ Aside0 (impl_MachineRank.j1 kq l0 a1 t576 x6_16 x7_1 x23_1 (a1.size : Int) x23_1 = some r) ∧ Aside0 (kq ≤ k1) ∧ Aside0 (Kd.R (Kd.int .i64) 3 wc w.heap.size (fun _ => True) (.slice (some ad579) t576.length co13) t576) ∧ Aside0 (Below w.heap.size w wc))
         case first =>
          have H := HC17.out; clear HC17; obtain ⟨bq18, hbq18⟩ : ∃ b_ : Bool, b_ = ((rd_T94 l0 x7_1).f0) := ⟨_, rfl⟩
          replace H : (if bq18 = true then (impl_MachineRank.j1 k1 l0 a1 t576 (wrap64 (x6_1 + 1)) x7_1 x23_1 (a1.size : Int) x23_1) else (impl_MachineRank.j1 k1 l0 a1 t576 x6_1 x7_1 x23_1 (a1.size : Int) x23_1)) = some r := by rw [← hbq18] at H; exact H
          have Nbq18 := am hbq18; clear hbq18
          (try rw [← Nbq18.out])
          by_cases c19 : bq18 = true
          ·subst c19
           have H1 : (impl_MachineRank.j1 k1 l0 a1 t576 (wrap64 (x6_1 + 1)) x7_1 x23_1 (a1.size : Int) x23_1) = some r := b20_
           replace H := H1; clear H1
           have H' := am H
           clear H; go_wp2
           go_meet
           case rel => exact ⟨_, (wrap64 (x6_1 + 1)), sq, H', ⟨b24_⟩, ⟨rq HO_5.out⟩, ⟨bel⟩⟩
          ·replace c19 := Bool.eq_false_iff.mpr c19; subst c19
           (try rw [← Nbq18.out] at hx580_0)
           (try rw [← Nbq18.out])
           have H1 : (impl_MachineRank.j1 k1 l0 a1 t576 x6_1 x7_1 x23_1 (a1.size : Int) x23_1) = some r := b6_
           replace H := H1; clear H1
           have H' := am H
           clear H; go_wp2
           go_meet
           case rel => (try rw [← Nbq18.out]); exact ⟨_, (x6_1), sq, H', ⟨b24_⟩, ⟨rq HO_5.out⟩, ⟨bel⟩⟩
         case rest =>
          clear HC17; (try clear c1); (try clear q1); (try clear p2); (try clear c3); (try clear c4); (try clear c5); (try clear p5); (try clear q5); (try clear hx5); (try clear qi5); (try clear c6); (try clear c6b0); (try clear c6b1); (try clear p6); (try clear c7); (try clear c7b0); (try clear c7b1); (try clear c8); (try clear c14); (try clear c14b0); (try clear c15); (try clear c15b0); (try clear c16); (try clear c16b0); (try clear q18); (try clear c19); (try clear hx579_0); (try clear hx580_0); (try clear hx580_1); (try clear p2); (try clear p5); (try clear p579); (try clear p580); (try clear q5); (try clear q579); (try clear q580); obtain ⟨kq, x6_16, rfl, HA, HJ16, HO_5, HB⟩ := hcut
          cases kq with
          | zero => exact absurd HA.out (by simp [impl_MachineRank.j1])
          | succ kj16 =>
           have H := HA.out; clear HA
           simp only [impl_MachineRank.j1] at H
           by_cases c20 : 0 ≤ x7_1
           ·rw [if_pos c20] at H; have c20b0 := decide_eq_true c20; clear c20
            by_cases c21 : x7_1 < (l0.length : Int)
            ·rw [if_pos c21] at H; have c21b0 := decide_eq_true c21; clear c21
             have H' := am H
             clear H
             have p581 : 0 ≤ (x7_1 : Int) := of_decide_eq_true ad
             have q581 : x7_1 < (l0.length : Int) := of_decide_eq_true ad
             obtain ⟨ad581, A581_1, c581_1, e581, hx581_0, hx581_1, hl581_1, hi581_1⟩ := at_T94 HR0.out x7_1 p581 q581
             obtain rfl : ad580 = ad581 := (by injection e581)
             replace hx581_0 := kp HB.out hx581_0; replace hx581_1 := kp HB.out hx581_1; have HR581_1 := am hi581_1; have HC581_1 := am hl581_1; clear hi581_1 hl581_1; replace p581 := eq_true p581; replace q581 := eq_true q581; go_wp2
             go_loopg [6, 39] kj16 (fun kq v6 v39 w' => ∃ (x6_3 : Int) (x39_3 : Int), v6 = .int .i64 x6_3 ∧ v39 = .int .i64 x39_3 ∧ Aside0 (impl_MachineRank.l1 kq l0 a1 t576 x6_3 x7_1 x23_1 (a1.size : Int) x23_1 ((rd_T94 l0 x7_1).f1) (((rd_T94 l0 x7_1).f1).length : Int) x39_3 = some r) ∧ Aside0 (kq ≤ kj16) ∧ Aside0 (Kd.R (Kd.int .i64) 3 w' w.heap.size (fun _ => True) (.slice (some ad579) t576.length co13) t576) ∧ Aside0 (Below w.heap.size w w'))
             case atStart => exact ⟨(x6_16), (0), sq, sq, H', ⟨Nat.le_refl _⟩, ⟨rq HO_5.out⟩, ⟨bel⟩⟩
             case round =>
              clear H'; (try clear c1); (try clear q1); (try clear c2); (try clear p2); (try clear c3); (try clear c4); (try clear c5); (try clear p5); (try clear q5); (try clear hx5); (try clear qi5); (try clear c6); (try clear c6b0); (try clear c6b1); (try clear p6); (try clear c7); (try clear c7b0); (try clear c7b1); (try clear c8); (try clear c14); (try clear c14b0); (try clear c15); (try clear c15b0); (try clear c16); (try clear c16b0); (try clear q18); (try clear c19); (try clear c20); (try clear c20b0); (try clear c21); (try clear c21b0); (try clear hx579_0); (try clear hx580_0); (try clear hx580_1); (try clear hx581_0); (try clear hx581_1); (try clear p2); (try clear p5); (try clear p579); (try clear p580); (try clear p581); (try clear p6); (try clear q1); (try clear q18); (try clear q5); (try clear q579); (try clear q580); (try clear q581); obtain ⟨x6_3, x39_3, rfl, rfl, HA, HK3, HO_5, HB⟩ := hrel
              cases gk with
              | zero => exact absurd HA.out (by simp [impl_MachineRank.l1])
              | succ k3 =>
               have H := HA.out; clear HA
               simp only [impl_MachineRank.l1] at H
               by_cases c22 : x39_3 < (((rd_T94 l0 x7_1).f1).length : Int)
               ·rw [if_pos c22] at H; have c22b0 := decide_eq_true c22; clear c22
                by_cases c23 : 0 ≤ x39_3
                ·rw [if_pos c23] at H; have c23b0 := decide_eq_true c23; clear c23
                 by_cases c24 : x39_3 < (((rd_T94 l0 x7_1).f1).length : Int)
                 ·rw [if_pos c24] at H; have c24b0 := decide_eq_true c24; clear c24
                  by_cases c25 : 0 ≤ x23_1
                  ·rw [if_pos c25] at H; have c25b0 := decide_eq_true c25; clear c25
                   by_cases c26 : x23_1 < (a1.size : Int)
                   ·rw [if_pos c26] at H; have c26b0 := decide_eq_true c26; clear c26
                    by_cases c28 : ((rd_T100 ((rd_T94 l0 x7_1).f1) x39_3).f0) < (wrap64 (bt a1 x23_1))
                    ·rw [if_pos c28] at H; have c28b0 := decide_eq_true c28; clear c28
                     by_cases c29 : 0 ≤ ((rd_T100 ((rd_T94 l0 x7_1).f1) x39_3).f1)
                     ·rw [if_pos c29] at H; have c29b0 := decide_eq_true c29; clear c29
                      by_cases c30 : ((rd_T100 ((rd_T94 l0 x7_1).f1) x39_3).f1) < (t576.length : Int)
                      ·rw [if_pos c30] at H; have c30b0 := decide_eq_true c30; clear c30
                       have H' := am H
                       clear H
                       have p582 : 0 ≤ (x39_3 : Int) := of_decide_eq_true ad
                       have q582 : x39_3 < (((rd_T94 l0 x7_1).f1).length : Int) := of_decide_eq_true ad
                       obtain ⟨ad582, e582, hx582_0, hx582_1⟩ := at_T100 HR581_1.out x39_3 p582 q582
                       cases e582
                       replace hx582_0 := kp HB.out hx582_0; replace hx582_1 := kp HB.out hx582_1; replace p582 := eq_true p582; replace q582 := eq_true q582
                       try go_wp2_with (first | ((with_reducible refine gate_dst (N := 10) rfl ?_); refine bx 10 (cs := #[.int .i64 0, .int .i64 0]) (t := 100) ?_; intro gb583 hg w31 hbox hb; replace HO_5 := am (Kd.R_below (rq HO_5.out) hb); have BK583 := am (hbox); have GW583 := am ((b13_ : w.heap.size ≤ gb583)); have GE583 := am ((b13_ : w.heap.size ≤ gb583)); replace HB := am (below_step bel hb); clear hb hbox hg; have hcz32_0 := bc BK583.out 0; have hcz32_1 := bc BK583.out 1; have hfz32_0 := bf BK583.out 0; have hfz32_1 := bf BK583.out 1))
                       have n0_ : Aside0 (Kd.R (Kd.int .i64) 3 ((w31.setCell ⟨gb583, 0, none⟩ (.int .i64 ((rd_T100 ((rd_T94 l0 x7_1).f1) x39_3).f0))).setCell ⟨gb583, 1, none⟩ (.int .i64 ((rd_T100 ((rd_T94 l0 x7_1).f1) x39_3).f1))) w.heap.size (fun _ => True) (.slice (some ad579) t576.length co13) t576) := ⟨rq (Kd.R_mono (Kd.R_far (p := ⟨gb583, 1, none⟩) (Kd.R_far (p := ⟨gb583, 0, none⟩) (Kd.R_types HO_5.out BK583.out (by decide)) (fun _ hk => hk.2) (.int .i64 ((rd_T100 ((rd_T94 l0 x7_1).f1) x39_3).f0))) (fun _ hk => hk.2) (.int .i64 ((rd_T100 ((rd_T94 l0 x7_1).f1) x39_3).f1))) (fun _ hk => trivial))⟩
                       have n1_ : Aside0 (((w31.setCell ⟨gb583, 0, none⟩ (.int .i64 ((rd_T100 ((rd_T94 l0 x7_1).f1) x39_3).f0))).setCell ⟨gb583, 1, none⟩ (.int .i64 ((rd_T100 ((rd_T94 l0 x7_1).f1) x39_3).f1))).heap[gb583]? = some (.cells #[.int .i64 ((rd_T100 ((rd_T94 l0 x7_1).f1) x39_3).f0), .int .i64 ((rd_T100 ((rd_T94 l0 x7_1).f1) x39_3).f1)] 100 (0, 0))) := ⟨b22_⟩
                       have n2_ : Aside0 (Below w.heap.size w ((w31.setCell ⟨gb583, 0, none⟩ (.int .i64 ((rd_T100 ((rd_T94 l0 x7_1).f1) x39_3).f0))).setCell ⟨gb583, 1, none⟩ (.int .i64 ((rd_T100 ((rd_T94 l0 x7_1).f1) x39_3).f1)))) := ⟨bel1 GE583.out⟩
                       (try clear HO_5)
                       (try clear BK583)
                       (try clear HB)
                       generalize ((w31.setCell ⟨gb583, 0, none⟩ (.int .i64 ((rd_T100 ((rd_T94 l0 x7_1).f1) x39_3).f0))).setCell ⟨gb583, 1, none⟩ (.int .i64 ((rd_T100 ((rd_T94 l0 x7_1).f1) x39_3).f1))) = w33 at n0_ n1_ n2_ ⊢
                       have HO_5 := n0_; have BK583 := n1_; have HB := n2_; clear n0_ n1_ n2_; replace HO_5 := am (Kd.R_drew HO_5.out); replace BK583 := am (blk_drew BK583.out); replace HB := am (below_drew1 HB.out)
                       have p27 : 0 ≤ (x23_1 : Int) := of_decide_eq_true ad
                       have q27 : x23_1 < (a1.size : Int) := of_decide_eq_true ad
                       have hx27 := bt_at a1 x23_1; replace p27 := eq_true p27; replace q27 := eq_true q27
                       refine st (n := 7) (S := fun w' => w'.cell? ⟨gb583, 0, none⟩ = some (.int .i64 ((rd_T100 ((rd_T94 l0 x7_1).f1) x39_3).f0)) ∧ w'.cell? ⟨gb583, 1, none⟩ = some (.int .i64 ((rd_T100 ((rd_T94 l0 x7_1).f1) x39_3).f1))) (ds := []) ⟨(blk_cell BK583.out 0).trans rfl, (blk_cell BK583.out 1).trans rfl⟩ (fun hHeld => ?_)
                       generalize w33.drew = w34 at HO_5 BK583 HB hHeld ⊢
                       refine pk 0 43 ?_
                       refine pk 2 45 ?_
                       refine pk 3 46 ?_
                       refine kk2 1 44 hHeld ?_
                       refine kk2 4 47 hHeld ?_
                       refine pk 5 48 ?_
                       refine pk 6 49 ?_
                       refine done_ (by kernel_rfl) ?_
                       have hcz35_0 : w34.cell? ⟨gb583, 0, none⟩ = some (.int .i64 ((rd_T100 ((rd_T94 l0 x7_1).f1) x39_3).f0)) := (blk_cell BK583.out 0).trans rfl
                       have hcz35_1 : w34.cell? ⟨gb583, 1, none⟩ = some (.int .i64 ((rd_T100 ((rd_T94 l0 x7_1).f1) x39_3).f1)) := (blk_cell BK583.out 1).trans rfl
                       have hfz35_0 := bf BK583.out 0; have hfz35_1 := bf BK583.out 1
                       have p584 : 0 ≤ (((rd_T100 ((rd_T94 l0 x7_1).f1) x39_3).f1) : Int) := of_decide_eq_true ad
                       have q584 : ((rd_T100 ((rd_T94 l0 x7_1).f1) x39_3).f1) < (t576.length : Int) := of_decide_eq_true ad
                       obtain ⟨ad584, e584, hx584_0⟩ := Kd.at_int (Kd.R_reads' HO_5.out).2.2 ((rd_T100 ((rd_T94 l0 x7_1).f1) x39_3).f1) p584 q584
                       obtain rfl : ad579 = ad584 := (by injection e584)
                       replace p584 := eq_true p584; replace q584 := eq_true q584
                       try go_wp2
                       go_roundg k3
                       case measure => have := HK1.out; have := HJ16.out; have := HK3.out; omega
                       case rel => exact ⟨(wrap64 (x6_3 + (rd t576 ((rd_T100 ((rd_T94 l0 x7_1).f1) x39_3).f1)))), (wrap64 (x39_3 + 1)), sq, sq, H', ⟨by have := HK1.out; have := HJ16.out; have := HK3.out; omega⟩, ⟨rq HO_5.out⟩, ⟨bel1 GE583.out⟩⟩
                      ·rw [if_neg c30] at H
                       exact absurd H (by simp)
                     ·rw [if_neg c29] at H
                      exact absurd H (by simp)
                    ·rw [if_neg c28] at H; have c28b0 := decide_eq_false c28; clear c28
                     have H' := am H
                     clear H
                     have p582 : 0 ≤ (x39_3 : Int) := of_decide_eq_true ad
                     have q582 : x39_3 < (((rd_T94 l0 x7_1).f1).length : Int) := of_decide_eq_true ad
                     obtain ⟨ad582, e582, hx582_0, hx582_1⟩ := at_T100 HR581_1.out x39_3 p582 q582
                     cases e582
                     replace hx582_0 := kp HB.out hx582_0; replace hx582_1 := kp HB.out hx582_1; replace p582 := eq_true p582; replace q582 := eq_true q582
                     try go_wp2_with (first | ((with_reducible refine gate_dst (N := 10) rfl ?_); refine bx 10 (cs := #[.int .i64 0, .int .i64 0]) (t := 100) ?_; intro gb583 hg w36 hbox hb; replace HO_5 := am (Kd.R_below (rq HO_5.out) hb); have BK583 := am (hbox); have GW583 := am ((b13_ : w.heap.size ≤ gb583)); have GE583 := am ((b13_ : w.heap.size ≤ gb583)); replace HB := am (below_step bel hb); clear hb hbox hg; have hcz37_0 := bc BK583.out 0; have hcz37_1 := bc BK583.out 1; have hfz37_0 := bf BK583.out 0; have hfz37_1 := bf BK583.out 1))
                     have n0_ : Aside0 (Kd.R (Kd.int .i64) 3 ((w36.setCell ⟨gb583, 0, none⟩ (.int .i64 ((rd_T100 ((rd_T94 l0 x7_1).f1) x39_3).f0))).setCell ⟨gb583, 1, none⟩ (.int .i64 ((rd_T100 ((rd_T94 l0 x7_1).f1) x39_3).f1))) w.heap.size (fun _ => True) (.slice (some ad579) t576.length co13) t576) := ⟨rq (Kd.R_mono (Kd.R_far (p := ⟨gb583, 1, none⟩) (Kd.R_far (p := ⟨gb583, 0, none⟩) (Kd.R_types HO_5.out BK583.out (by decide)) (fun _ hk => hk.2) (.int .i64 ((rd_T100 ((rd_T94 l0 x7_1).f1) x39_3).f0))) (fun _ hk => hk.2) (.int .i64 ((rd_T100 ((rd_T94 l0 x7_1).f1) x39_3).f1))) (fun _ hk => trivial))⟩
                     have n1_ : Aside0 (((w36.setCell ⟨gb583, 0, none⟩ (.int .i64 ((rd_T100 ((rd_T94 l0 x7_1).f1) x39_3).f0))).setCell ⟨gb583, 1, none⟩ (.int .i64 ((rd_T100 ((rd_T94 l0 x7_1).f1) x39_3).f1))).heap[gb583]? = some (.cells #[.int .i64 ((rd_T100 ((rd_T94 l0 x7_1).f1) x39_3).f0), .int .i64 ((rd_T100 ((rd_T94 l0 x7_1).f1) x39_3).f1)] 100 (0, 0))) := ⟨b22_⟩
                     have n2_ : Aside0 (Below w.heap.size w ((w36.setCell ⟨gb583, 0, none⟩ (.int .i64 ((rd_T100 ((rd_T94 l0 x7_1).f1) x39_3).f0))).setCell ⟨gb583, 1, none⟩ (.int .i64 ((rd_T100 ((rd_T94 l0 x7_1).f1) x39_3).f1)))) := ⟨bel1 GE583.out⟩
                     (try clear HO_5)
                     (try clear BK583)
                     (try clear HB)
                     generalize ((w36.setCell ⟨gb583, 0, none⟩ (.int .i64 ((rd_T100 ((rd_T94 l0 x7_1).f1) x39_3).f0))).setCell ⟨gb583, 1, none⟩ (.int .i64 ((rd_T100 ((rd_T94 l0 x7_1).f1) x39_3).f1))) = w38 at n0_ n1_ n2_ ⊢
                     have HO_5 := n0_; have BK583 := n1_; have HB := n2_; clear n0_ n1_ n2_; replace HO_5 := am (Kd.R_drew HO_5.out); replace BK583 := am (blk_drew BK583.out); replace HB := am (below_drew1 HB.out)
                     have p27 : 0 ≤ (x23_1 : Int) := of_decide_eq_true ad
                     have q27 : x23_1 < (a1.size : Int) := of_decide_eq_true ad
                     have hx27 := bt_at a1 x23_1; replace p27 := eq_true p27; replace q27 := eq_true q27
                     refine st (n := 7) (S := fun w' => w'.cell? ⟨gb583, 0, none⟩ = some (.int .i64 ((rd_T100 ((rd_T94 l0 x7_1).f1) x39_3).f0)) ∧ w'.cell? ⟨gb583, 1, none⟩ = some (.int .i64 ((rd_T100 ((rd_T94 l0 x7_1).f1) x39_3).f1))) (ds := []) ⟨(blk_cell BK583.out 0).trans rfl, (blk_cell BK583.out 1).trans rfl⟩ (fun hHeld => ?_)
                     generalize w38.drew = w39 at HO_5 BK583 HB hHeld ⊢
                     refine pk 0 43 ?_
                     refine pk 2 45 ?_
                     refine pk 3 46 ?_
                     refine kk2 1 44 hHeld ?_
                     refine kk2 4 47 hHeld ?_
                     refine pk 5 48 ?_
                     refine pk 6 49 ?_
                     refine done_ (by kernel_rfl) ?_
                     try go_wp2
                     go_roundg k3
                     case measure => have := HK1.out; have := HJ16.out; have := HK3.out; omega
                     case rel => exact ⟨(x6_3), (wrap64 (x39_3 + 1)), sq, sq, H', ⟨by have := HK1.out; have := HJ16.out; have := HK3.out; omega⟩, ⟨rq HO_5.out⟩, ⟨bel1 GE583.out⟩⟩
                   ·rw [if_neg c26] at H
                    exact absurd H (by simp)
                  ·rw [if_neg c25] at H
                   exact absurd H (by simp)
                 ·rw [if_neg c24] at H
                  exact absurd H (by simp)
                ·rw [if_neg c23] at H
                 exact absurd H (by simp)
               ·rw [if_neg c22] at H; have c22b0 := decide_eq_false c22; clear c22
                by_cases c40 : 0 ≤ x7_1
                ·rw [if_pos c40] at H; have c40b0 := decide_eq_true c40; clear c40
                 by_cases c41 : x7_1 < (l0.length : Int)
                 ·rw [if_pos c41] at H; have c41b0 := decide_eq_true c41; clear c41
                  by_cases c42 : 0 ≤ x23_1
                  ·rw [if_pos c42] at H; have c42b0 := decide_eq_true c42; clear c42
                   by_cases c43 : x23_1 < (a1.size : Int)
                   ·rw [if_pos c43] at H; have c43b0 := decide_eq_true c43; clear c43; replace H := Option.bind_eq_some_iff.mp H; obtain ⟨t586, A450, H⟩ := H; replace H : (impl_MachineRank.l0 k3 l0 a1 t576 x6_3 t586 (a1.size : Int) (wrap64 (x23_1 + 1))) = some r := H; have A45 := Aside0.mk A450; clear A450
                    have H' := am H
                    clear H
                    try go_wp2
                    replace HO_5 := am (Kd.R_drew HO_5.out); replace HB := am (below_drew1 HB.out)
                    have p585 : 0 ≤ (x7_1 : Int) := of_decide_eq_true ad
                    have q585 : x7_1 < (l0.length : Int) := of_decide_eq_true ad
                    obtain ⟨ad585, A585_1, c585_1, e585, hx585_0, hx585_1, hl585_1, hi585_1⟩ := at_T94 HR0.out x7_1 p585 q585; have hw585_1 := hx585_1; have hw585_0 := hx585_0
                    obtain rfl : ad580 = ad585 := (by injection e585)
                    replace hx585_0 := kp HB.out hx585_0; replace hx585_1 := kp HB.out hx585_1; have HR585_1 := am hi585_1; have HC585_1 := am hl585_1; clear hi585_1 hl585_1; replace p585 := eq_true p585; replace q585 := eq_true q585
                    have p44 : 0 ≤ (x23_1 : Int) := of_decide_eq_true ad
                    have q44 : x23_1 < (a1.size : Int) := of_decide_eq_true ad
                    have hx44 := bt_at a1 x23_1; replace p44 := eq_true p44; replace q44 := eq_true q44
                    refine st (n := 9) (S := fun w' => w'.cell? (ad580.add ((x7_1).toNat * 2)) = some (.bool ((rd_T94 l0 x7_1).f0)) ∧ w'.cell? ⟨(ad580.add ((x7_1).toNat * 2)).block, (ad580.add ((x7_1).toNat * 2)).off + 1, none⟩ = some (.slice A585_1 ((rd_T94 l0 x7_1).f1).length c585_1)) (ds := []) ⟨(kp HB.out hw585_0), (kp HB.out hw585_1)⟩ (fun hHeld => ?_); refine with_tabW impl_MachineRank.tab18 impl_MachineRank.bits18 (fun HT_ HW_ => ?_)
                    generalize wr.drew = w46 at HO_5 HB HR585_1 hx585_0 hx585_1 hHeld ⊢
                    refine pu 0 58 ?_
                    refine pu 1 59 ?_
                    refine pu 2 60 ?_
                    refine pu 4 62 ?_
                    refine pu 5 63 ?_
                    refine tk2 3 61 hHeld ?_
                    refine tk2 6 64 hHeld ?_
                    refine on1 7 65 (fun K hK => ?_)
                    refine goes_ Try.func84 (by kernel_rfl) rfl #[.agg #[.bool ((rd_T94 l0 x7_1).f0), .slice A585_1 ((rd_T94 l0 x7_1).f1).length c585_1], .int .u8 (bt a1 x23_1)] (by rfl) rfl rfl mq ?_
                    with_reducible refine (impl_State_step.calls k3 ((rd_T94 l0 x7_1).f0) _ _ ((rd_T94 l0 x7_1).f1) (bt a1 x23_1) t586 _ ?side1 ?side2 A45.out).mono ?_
                    (case side1 => exact cq (Kd.C_below HR585_1.out HB.out)); (case side2 => exact HC585_1.out)
                    rintro e w47 ⟨rfl, hb⟩
                    refine ⟨_, rfl, ?_⟩
                    replace HO_5 := am (Kd.R_below (rq HO_5.out) hb); replace HB := am (below_step bel hb)
                    (try clear hb)
                    (try clear hb2)
                    (try clear hk)
                    (try clear hi)
                    refine hK.out _ _ ⟨(kp HB.out hw585_0), (kp HB.out hw585_1)⟩ (fun hHeld => ?_)
                    clear hK K
                    refine norm_ (a' := ?_) ?_ ?_
                    rotate_left
                    ·show Act.put _ (some 65) _ = _
                     simp only [Act.put, List.setIfInBounds_toArray, List.set_cons_zero, List.set_cons_succ, i64_w, i32_w]
                     rfl
                    refine pu 8 7 ?_
                    refine done_ (done_of HT_.out (by kernel_rfl)) ?_
                    try go_wp2
                    go_roundg k3
                    case measure => have := HK1.out; have := HJ16.out; have := HK3.out; omega
                    case rel => exact ⟨(x6_3), (t586), (wrap64 (x23_1 + 1)), sq, sq, sq, H', ⟨by have := HK1.out; have := HJ16.out; have := HK3.out; omega⟩, ⟨rq HO_5.out⟩, ⟨bel⟩⟩
                   ·rw [if_neg c43] at H
                    exact absurd H (by simp)
                  ·rw [if_neg c42] at H
                   exact absurd H (by simp)
                 ·rw [if_neg c41] at H
                  exact absurd H (by simp)
                ·rw [if_neg c40] at H
                 exact absurd H (by simp)
            ·rw [if_neg c21] at H
             exact absurd H (by simp)
           ·rw [if_neg c20] at H
            exact absurd H (by simp)
        ·rw [if_neg c16] at H
         exact absurd H (by simp)
       ·rw [if_neg c15] at H
        exact absurd H (by simp)
      ·rw [if_neg c14] at H; have c14b0 := decide_eq_false c14; clear c14; obtain rfl := Option.some.inj H; go_wp2; go_ret
       exact ⟨eq_, bel⟩
  ·rw [if_neg c6] at H
   exact absurd H (by simp)
 ·replace c4 := Bool.eq_false_iff.mpr c4; subst c4
  have H1 : (some (-1)) = some r := b6_
  replace H := H1; clear H1
  obtain rfl := Option.some.inj H; go_enter Try.func41, Try.ntmps41
  go_wp2_with (first | ((with_reducible refine gate_callee (f := 37) rfl ?_); refine goesL_ (some 13) rfl rfl Try.func37 (by kernel_rfl) rfl #[.slice A0 l0.length c0, .string a1] rfl mq ?_; (with_reducible refine (impl_MachineKnows.calls k _ _ l0 a1 false _ ?side1 ?side2 A3.out).mono ?_); (case side1 => repeat (first | exact HR0.out | (with_reducible refine Kd.C_alloc ?_ _) | (with_reducible refine Kd.C_drewN ?_ _) | (with_reducible refine Kd.C_drew ?_))); (case side2 => exact HC0.out); rintro e w48 ⟨rfl, hb⟩; refine ⟨_, rfl, ?_⟩; replace HB := am (below_step bel hb); (try clear hb); (try clear hb2); (try clear hk); (try clear hi)))
  go_ret
  exact ⟨eq_, bel⟩

end Go.Proofs.Ytfpmfaelodfecaa.QFnMachineWord
