import Derived.Test.YtfpmfaelodfecaaQFnMachineWordx0
import Derived.Test.YtfpmfaelodfecaaQFnMachineWordx18
import Derived.Test.YtfpmfaelodfecaaQFnMachineWordx20
import Derived.Test.YtfpmfaelodfecaaQFnMachineWordx21
import Derived.Test.YtfpmfaelodfecaaVMSh2
namespace Go.Proofs.Ytfpmfaelodfecaa.QFnMachineWord
open Go.RowKit Go.Proofs.YtfpmfaelodfecaaW.PrintWords Go.Proofs.YtfpmfaelodfecaaW.PrintLast Go.Proofs.YtfpmfaelodfecaaW.PrintMore Go.Proofs.Ytfpmfaelodfecaa.Sh
attribute [local go_sem] max2_int min2_int max_two min_two max_three min_three max_four min_four   -- for this text's walks alone
set_option linter.unusedVariables false
set_option linter.unusedSimpArgs false
-- shrunk

/-! ### spec_MachineWord: function 39 -/
mutual
def spec_MachineWord.j0 : Nat → List (S94) → Int → Bool → Option (ByteArray)
 | 0, _, _, _ => none
 | k + 1, x0, x1, x22 => if x22 = true then (some (⟨#[]⟩ : ByteArray)) else ((spec_l3Counts.f k x0).bind fun t554 => (spec_MachineWord.l0 k x0 x1 t554 0 (([] : List Int))))
def spec_MachineWord.l0 : Nat → List (S94) → Int → List Int → Int → List Int → Option (ByteArray)
 | 0, _, _, _, _, _ => none
 | k + 1, x0, x1, x5, x6, x7 => if 0 ≤ x6 then (if x6 < (x0.length : Int) then (if (rd_T94 x0 x6).f0 = true then (if x1 = 0 then (some (strOfNums x7)) else (spec_MachineWord.j2 k x0 (wrap64 (x1 - 1)) x5 x6 x7)) else (spec_MachineWord.j2 k x0 x1 x5 x6 x7)) else (none)) else (none)
def spec_MachineWord.j2 : Nat → List (S94) → Int → List Int → Int → List Int → Option (ByteArray)
 | 0, _, _, _, _, _ => none
 | k + 1, x0, x1, x5, x6, x7 => spec_MachineWord.l1 k x0 x1 x5 x6 x7 0
def spec_MachineWord.l1 : Nat → List (S94) → Int → List Int → Int → List Int → Int → Option (ByteArray)
 | 0, _, _, _, _, _, _ => none
 | k + 1, x0, x1, x5, x6, x7, x8 => if 0 ≤ x6 then (if x6 < (x0.length : Int) then (if x8 < (((rd_T94 x0 x6).f1).length : Int) then (if 0 ≤ x8 then (if 0 ≤ ((rd_T100 ((rd_T94 x0 x6).f1) x8).f1) then (if ((rd_T100 ((rd_T94 x0 x6).f1) x8).f1) < (x5.length : Int) then (if x1 < (rd x5 ((rd_T100 ((rd_T94 x0 x6).f1) x8).f1)) then (if x7.length < 140737488355328 then (spec_MachineWord.l0 k x0 x1 x5 ((rd_T100 ((rd_T94 x0 x6).f1) x8).f1) (x7 ++ [((rd_T100 ((rd_T94 x0 x6).f1) x8).f0) % 256])) else (none)) else (spec_MachineWord.l1 k x0 (wrap64 (x1 - (rd x5 ((rd_T100 ((rd_T94 x0 x6).f1) x8).f1)))) x5 x6 x7 (wrap64 (x8 + 1)))) else (none)) else (none)) else (none)) else (spec_MachineWord.l0 k x0 x1 x5 x6 x7)) else (none)) else (none)
end
def spec_MachineWord.f (k : Nat) (l0 : List (S94)) (a1 : Int) : Option (ByteArray) := (spec_l3Small.f k l0).bind fun t548 => (if t548 = true then ((spec_l3Counts.f k l0).bind fun t549 => (if 0 < (t549.length : Int) then ((spec_l1In.f a1 0 (wrap64 ((rd t549 0) - 1))).bind fun t553 => (spec_MachineWord.j0 k l0 a1 (!t553))) else (none))) else (spec_MachineWord.j0 k l0 a1 true))
set_option maxHeartbeats 8000000 in
set_option maxRecDepth 100000 in
theorem spec_MachineWord.calls (k : Nat) (A0 : Option Addr) (c0 : Nat) (l0 : List (S94)) (a1 : Int) (r : ByteArray) (w : World) (hr0 : Kd.C k94 w A0 l0.length l0) (hc0 : l0.length ≤ c0) (h : spec_MachineWord.f k l0 a1 = some r) :
  Calls Try.prog 39 #[.slice A0 l0.length c0, .int .i64 a1] w fun e w' => e = .returned (.string r) ∧ Below w.heap.size w w' := by
 have hu100 := Try.underlying100; have HR0 := am hr0; have HC0 := am hc0; clear hr0 hc0; have HB := am (Below.refl w.heap.size w)
 have H : ((spec_l3Small.f k l0).bind fun t548 => (if t548 = true then ((spec_l3Counts.f k l0).bind fun t549 => (if 0 < (t549.length : Int) then ((spec_l1In.f a1 0 (wrap64 ((rd t549 0) - 1))).bind fun t553 => (spec_MachineWord.j0 k l0 a1 (!t553))) else (none))) else (spec_MachineWord.j0 k l0 a1 true))) = some r := h
 clear h; have HC3 := am H; clear H; go_enter Try.func39, Try.ntmps39
 go_upto_region 1 with (fail)
 go_cut [22] (fun v22 wc => ∃ (kq : Nat) (x22_2 : Bool), v22 = .bool x22_2 ∧ Aside0 (spec_MachineWord.j0 kq l0 a1 x22_2 = some r) ∧ Aside0 (kq ≤ k) ∧ Aside0 (Below w.heap.size w wc))
 case first =>
  have H := HC3.out; clear HC3; replace H := Option.bind_eq_some_iff.mp H; obtain ⟨t548, A40, H⟩ := H; replace H : (if t548 = true then ((spec_l3Counts.f k l0).bind fun t549 => (if 0 < (t549.length : Int) then ((spec_l1In.f a1 0 (wrap64 ((rd t549 0) - 1))).bind fun t553 => (spec_MachineWord.j0 k l0 a1 (!t553))) else (none))) else (spec_MachineWord.j0 k l0 a1 true)) = some r := H; have A4 := Aside0.mk A40; clear A40
  by_cases c5 : t548 = true
  ·subst c5
   have H1 : ((spec_l3Counts.f k l0).bind fun t549 => (if 0 < (t549.length : Int) then ((spec_l1In.f a1 0 (wrap64 ((rd t549 0) - 1))).bind fun t553 => (spec_MachineWord.j0 k l0 a1 (!t553))) else (none))) = some r := b20_
   replace H := H1; clear H1
   replace H := Option.bind_eq_some_iff.mp H; obtain ⟨t549, A60, H⟩ := H; replace H : (if 0 < (t549.length : Int) then ((spec_l1In.f a1 0 (wrap64 ((rd t549 0) - 1))).bind fun t553 => (spec_MachineWord.j0 k l0 a1 (!t553))) else (none)) = some r := H; have A6 := Aside0.mk A60; clear A60
   by_cases c7 : 0 < (t549.length : Int)
   ·rw [if_pos c7] at H; have c7b0 := decide_eq_true c7
    have c7b1 : decide (0 < t549.length) = true := decide_eq_true (by omega)
    clear c7
    (first | rw [c7b0] | (simp only [i64_w, i32_w]; rw [c7b0]) | skip)
    replace H := Option.bind_eq_some_iff.mp H; obtain ⟨t553, A80, H⟩ := H; replace H : (spec_MachineWord.j0 k l0 a1 (!t553)) = some r := H; have A8 := Aside0.mk A80; clear A80
    have H' := am H
    clear H
    go_wp2_with (first | ((with_reducible refine gate_callee (f := 77) rfl ?_); refine goesL_ (some 11) rfl rfl Try.func77 (by kernel_rfl) rfl #[.slice A0 l0.length c0] rfl mq ?_; (with_reducible refine (spec_l3Small.calls k _ _ l0 true _ ?side1 ?side2 A4.out).mono ?_); (case side1 => exact cq (Kd.C_below HR0.out HB.out)); (case side2 => exact HC0.out); rintro e w9 ⟨rfl, hb⟩; refine ⟨_, rfl, ?_⟩; replace HB := am (below_step bel hb); (try clear hb); (try clear hb2); (try clear hk); (try clear hi)) | (go_at_call 83; (with_reducible refine (spec_l3Counts.calls k _ _ l0 t549 _ ?side1 ?side2 A6.out).mono ?_); (case side1 => exact cq (Kd.C_below HR0.out HB.out)); (case side2 => exact HC0.out); rintro e w10 ⟨v550, rfl, ho0, hb⟩; have HO551 := am (Kd.R_lower ho0 (below_size bel)); replace HB := am (below_step bel hb); (try clear hb); (try clear hb2); (try clear hk); (try clear hi); (try clear ho0); obtain ⟨Ao11, co11, eo11⟩ := Kd.R_slice HO551.out; subst eo11; have p552 : 0 ≤ (0 : Int) := (by omega); have q552 : 0 < (t549.length : Int) := of_decide_eq_true ad; obtain ⟨ad552, e552, hx552_0⟩ := Kd.at_int (Kd.R_reads' HO551.out).2.2 0 p552 q552; cases e552; have qi552 : (0 < t549.length) = True := eq_true (by omega); (try rw [show ((0 : Int)).toNat = 0 from rfl] at hx552_0); (try rw [Addr.add_zero'] at hx552_0); replace p552 := eq_true p552; replace q552 := eq_true q552) | (go_at_call 78; (with_reducible refine (spec_l1In.calls a1 0 (wrap64 ((rd t549 0) - 1)) t553 _ A8.out).mono ?_); rintro e w' ⟨rfl, ⟨nd, rfl⟩⟩))
    go_meet
    case rel => exact ⟨_, (!t553), sq, H', ⟨b74_⟩, ⟨bel⟩⟩
   ·rw [if_neg c7] at H
    exact absurd H (by simp)
  ·replace c5 := Bool.eq_false_iff.mpr c5; subst c5
   have H1 : (spec_MachineWord.j0 k l0 a1 true) = some r := b6_
   replace H := H1; clear H1
   have H' := am H
   clear H
   go_wp2_with (first | ((with_reducible refine gate_callee (f := 77) rfl ?_); refine goesL_ (some 11) rfl rfl Try.func77 (by kernel_rfl) rfl #[.slice A0 l0.length c0] rfl mq ?_; (with_reducible refine (spec_l3Small.calls k _ _ l0 false _ ?side1 ?side2 A4.out).mono ?_); (case side1 => exact cq (Kd.C_below HR0.out HB.out)); (case side2 => exact HC0.out); rintro e w12 ⟨rfl, hb⟩; refine ⟨_, rfl, ?_⟩; replace HB := am (below_step bel hb); (try clear hb); (try clear hb2); (try clear hk); (try clear hi)))
   go_meet
   case rel => exact ⟨_, (true), sq, H', ⟨b74_⟩, ⟨bel⟩⟩
 case rest =>
  clear HC3; (try clear p2); (try clear c3); (try clear c5); (try clear p5); (try clear q5); (try clear hx5); (try clear qi5); (try clear p6); (try clear c7); (try clear c7b0); (try clear c7b1); (try clear hx552_0); (try clear p552); (try clear q552); obtain ⟨kq, x22_2, rfl, HA, HJ2, HB⟩ := hcut
  cases kq with
  | zero => exact absurd HA.out (by simp [spec_MachineWord.j0])
  | succ kj2 =>
   have H := HA.out; clear HA
   simp only [spec_MachineWord.j0] at H
   by_cases c13 : x22_2 = true
   ·subst c13
    have H1 : (some (⟨#[]⟩ : ByteArray)) = some r := b20_
    replace H := H1; clear H1
    obtain rfl := Option.some.inj H; go_wp2; go_ret
    exact ⟨eq_, bel⟩
   ·replace c13 := Bool.eq_false_iff.mpr c13; subst c13
    have H1 : ((spec_l3Counts.f kj2 l0).bind fun t554 => (spec_MachineWord.l0 kj2 l0 a1 t554 0 (([] : List Int)))) = some r := b6_
    replace H := H1; clear H1
    replace H := Option.bind_eq_some_iff.mp H; obtain ⟨t554, A140, H⟩ := H; replace H : (spec_MachineWord.l0 kj2 l0 a1 t554 0 (([] : List Int))) = some r := H; have A14 := Aside0.mk A140; clear A140; obtain ⟨y557, hy557⟩ : ∃ y_ : List Int, y_ = (([] : List Int)) := ⟨_, rfl⟩
    replace H : (spec_MachineWord.l0 kj2 l0 a1 t554 0 y557) = some r := by first | (rw [hy557]; with_reducible exact H) | (have H2_ := (Option.bind_some _ _).symm.trans H; rw [hy557]; with_reducible exact H2_) | (have H2_ := (Option.bind_some _ _).symm.trans H; with_reducible exact H2_) | with_reducible exact H | (rw [hy557]; exact H) | exact H
    have Ny557 := am hy557; clear hy557
    have H' := am H
    clear H
    go_wp2_with (first | ((with_reducible refine gate_callee (f := 83) rfl ?_); refine goesL_ (some 24) rfl rfl Try.func83 (by kernel_rfl) rfl #[.slice A0 l0.length c0] rfl mq ?_; (with_reducible refine (spec_l3Counts.calls kj2 _ _ l0 t554 _ ?side1 ?side2 A14.out).mono ?_); (case side1 => exact cq (Kd.C_below HR0.out HB.out)); (case side2 => exact HC0.out); rintro e w15 ⟨v555, rfl, ho0, hb⟩; refine ⟨_, rfl, ?_⟩; have HO556 := am (Kd.R_lower ho0 (below_size bel)); replace HB := am (below_step bel hb); (try clear hb); (try clear hb2); (try clear hk); (try clear hi); (try clear ho0)) | ((with_reducible refine gate_dst (N := 25) rfl ?_); refine Kd.R_lit (Kd.int .u8) _ 5 ?hg (N := 25) ?hd (xs := ([] : List Int)) (inner := []) (ok := fun _ => True) (okp := fun _ => True) ?hr ?hp (fun _ hk => hk) trivial (Below.refl _ _) (Nat.le_refl _) (by simp) ?_; (case hd => rfl); (case hg => rfl); (case hr => first | (go_simp; done) | (go_simp; rfl)); (case hp => exact (Reps.none _ _)); intro v558 w16 ho17 hb hg_ hnew_; clear hg_ hnew_; (first | rw [← Ny557.out] at ho17 | (simp only [Int.reduceToNat] at ho17; rw [← Ny557.out] at ho17) | (simp only [Int.toNat_natCast] at ho17; rw [← Ny557.out] at ho17)); replace HO556 := am (Kd.R_below (rq HO556.out) hb); have HO559 := am (Kd.R_lower ho17 (below_size bel)); replace HB := am (below_step bel hb); clear hb ho17))
    go_loopg [1, 6, 7] kj2 (fun kq v1 v6 v7 w' => ∃ (x1_2 : Int) (x6_2 : Int) (x7_2 : List Int), v1 = .int .i64 x1_2 ∧ v6 = .int .i64 x6_2 ∧ Aside0 (spec_MachineWord.l0 kq l0 x1_2 t554 x6_2 x7_2 = some r) ∧ Aside0 (kq ≤ kj2) ∧ Aside0 (Kd.R (Kd.int .i64) 3 w' w.heap.size (fun _ => True) v555 t554) ∧ Aside0 (Kd.R (Kd.int .u8) 5 w' w.heap.size (fun _ => True) v7 x7_2) ∧ Aside0 (Below w.heap.size w w'))
    case atStart => exact ⟨(a1), (0), (y557), sq, sq, H', ⟨Nat.le_refl _⟩, ⟨rq HO556.out⟩, ⟨rq HO559.out⟩, ⟨bel⟩⟩
    case round =>
     clear H'; (try clear c1); (try clear p2); (try clear c3); (try clear c5); (try clear p5); (try clear q5); (try clear hx5); (try clear qi5); (try clear p6); (try clear c7); (try clear c7b0); (try clear c7b1); (try clear c8); (try clear c13); (try clear hx552_0); (try clear p2); (try clear p5); (try clear p552); (try clear p6); (try clear q5); (try clear q552); obtain ⟨x1_2, x6_2, x7_2, rfl, rfl, HA, HK2, HO_5, HO_7, HB⟩ := hrel
     cases gk with
     | zero => exact absurd HA.out (by simp [spec_MachineWord.l0])
     | succ k2 =>
      have H := HA.out; clear HA
      simp only [spec_MachineWord.l0] at H
      by_cases c18 : 0 ≤ x6_2
      ·rw [if_pos c18] at H; have c18b0 := decide_eq_true c18; clear c18
       by_cases c19 : x6_2 < (l0.length : Int)
       ·rw [if_pos c19] at H; have c19b0 := decide_eq_true c19; clear c19; have HC20 := am H; clear H
        have p560 : 0 ≤ (x6_2 : Int) := of_decide_eq_true ad
        have q560 : x6_2 < (l0.length : Int) := of_decide_eq_true ad
        obtain ⟨ad560, A560_1, c560_1, e560, hx560_0, hx560_1, hl560_1, hi560_1⟩ := at_T94 HR0.out x6_2 p560 q560
        cases e560
        replace hx560_0 := kp HB.out hx560_0; replace hx560_1 := kp HB.out hx560_1; have HR560_1 := am hi560_1; have HC560_1 := am hl560_1; clear hi560_1 hl560_1; replace p560 := eq_true p560; replace q560 := eq_true q560
        go_upto_if 30 with (fail)
        go_cut [1] (fun v1 wc => ∃ (kq : Nat) (x1_19 : Int), v1 = .int .i64 x1_19 ∧ Aside0 (spec_MachineWord.j2 kq l0 x1_19 t554 x6_2 x7_2 = some r) ∧ Aside0 (kq ≤ k2) ∧ Aside0 (Kd.R (Kd.int .i64) 3 wc w.heap.size (fun _ => True) v555 t554) ∧ Aside0 (Kd.R (Kd.int .u8) 5 wc w.heap.size (fun _ => True) u7 x7_2) ∧ Aside0 (Below w.heap.size w wc))
        case first =>
         have H := HC20.out; clear HC20; obtain ⟨bq21, hbq21⟩ : ∃ b_ : Bool, b_ = ((rd_T94 l0 x6_2).f0) := ⟨_, rfl⟩
         replace H : (if bq21 = true then (if x1_2 = 0 then (some (strOfNums x7_2)) else (spec_MachineWord.j2 k2 l0 (wrap64 (x1_2 - 1)) t554 x6_2 x7_2)) else (spec_MachineWord.j2 k2 l0 x1_2 t554 x6_2 x7_2)) = some r := by rw [← hbq21] at H; exact H
         have Nbq21 := am hbq21; clear hbq21
         (try rw [← Nbq21.out])
         by_cases c22 : bq21 = true
         ·subst c22
          have H1 : (if x1_2 = 0 then (some (strOfNums x7_2)) else (spec_MachineWord.j2 k2 l0 (wrap64 (x1_2 - 1)) t554 x6_2 x7_2)) = some r := b20_
          replace H := H1; clear H1
          by_cases c23 : x1_2 = 0
          ·rw [if_pos c23] at H
           have c23b0 : (x1_2 == 0) = true := beq_iff_eq.mpr c23
           have c23b1 : (x1_2 != 0) = false := bne_eq_false_iff_eq.mpr c23
           clear c23; obtain rfl := Option.some.inj H; have hcv24 := own_string (P := Try.prog) Try.underlying31 Try.underlying5 Try.underlying9 (Kd.own_of_R HO_7.out); go_wp2; go_ret
           exact ⟨eq_, bel⟩
          ·rw [if_neg c23] at H
           have c23b0 : (x1_2 == 0) = false := beq_eq_false_iff_ne.mpr c23
           have c23b1 : (x1_2 != 0) = true := bne_iff_ne.mpr c23
           have H' := am H
           clear H; go_wp2
           go_meet
           case rel => exact ⟨_, (wrap64 (x1_2 - 1)), sq, H', ⟨by have := HJ2.out; have := HK2.out; first | omega | exact Nat.le_refl _⟩, ⟨rq HO_5.out⟩, ⟨rq HO_7.out⟩, ⟨bel⟩⟩
         ·replace c22 := Bool.eq_false_iff.mpr c22; subst c22
          (try rw [← Nbq21.out] at hx560_0)
          (try rw [← Nbq21.out])
          have H1 : (spec_MachineWord.j2 k2 l0 x1_2 t554 x6_2 x7_2) = some r := b6_
          replace H := H1; clear H1
          have H' := am H
          clear H; go_wp2
          go_meet
          case rel => (try rw [← Nbq21.out]); exact ⟨_, (x1_2), sq, H', ⟨by have := HJ2.out; have := HK2.out; first | omega | exact Nat.le_refl _⟩, ⟨rq HO_5.out⟩, ⟨rq HO_7.out⟩, ⟨bel⟩⟩
        case rest =>
         clear HC20; (try clear c1); (try clear c2); (try clear p2); (try clear q2); (try clear hcv2); (try clear c3); (try clear c5); (try clear p5); (try clear q5); (try clear hx5); (try clear qi5); (try clear p6); (try clear c7); (try clear c7b0); (try clear c7b1); (try clear c8); (try clear c13); (try clear c18); (try clear c18b0); (try clear c19); (try clear c19b0); (try clear q21); (try clear c22); (try clear c23); (try clear c23b0); (try clear c23b1); (try clear hcv24); (try clear hx552_0); (try clear hx560_0); (try clear hx560_1); (try clear p2); (try clear p5); (try clear p552); (try clear p560); (try clear p6); (try clear q5); (try clear q552); (try clear q560); obtain ⟨kq, x1_19, rfl, HA, HJ19, HO_5, HO_7, HB⟩ := hcut
         cases kq with
         | zero => exact absurd HA.out (by simp [spec_MachineWord.j2])
         | succ kj19 =>
          have H := HA.out; clear HA
          simp only [spec_MachineWord.j2] at H
          have H' := am H
          clear H; go_wp2
          go_loopg [1, 6, 7, 8] kj19 (fun kq v1 v6 v7 v8 w' => ∃ (x1_4 : Int) (x6_4 : Int) (x7_4 : List Int) (x8_4 : Int), v1 = .int .i64 x1_4 ∧ v6 = .int .i64 x6_4 ∧ v8 = .int .i64 x8_4 ∧ Aside0 (spec_MachineWord.l1 kq l0 x1_4 t554 x6_4 x7_4 x8_4 = some r) ∧ Aside0 (kq ≤ kj19) ∧ Aside0 (Kd.R (Kd.int .i64) 3 w' w.heap.size (fun _ => True) v555 t554) ∧ Aside0 (Kd.R (Kd.int .u8) 5 w' w.heap.size (fun _ => True) v7 x7_4) ∧ Aside0 (Below w.heap.size w w'))
          case atStart => exact ⟨(x1_19), (x6_2), (x7_2), (0), sq, sq, sq, H', ⟨Nat.le_refl _⟩, ⟨rq HO_5.out⟩, ⟨rq HO_7.out⟩, ⟨bel⟩⟩
          case round =>
           clear H'; (try clear c1); (try clear c2); (try clear p2); (try clear q2); (try clear hcv2); (try clear c3); (try clear c5); (try clear p5); (try clear q5); (try clear hx5); (try clear qi5); (try clear p6); (try clear c7); (try clear c7b0); (try clear c7b1); (try clear c8); (try clear c13); (try clear c18); (try clear c18b0); (try clear c19); (try clear c19b0); (try clear q21); (try clear c22); (try clear c23); (try clear c23b0); (try clear c23b1); (try clear hcv24); (try clear hx552_0); (try clear hx560_0); (try clear hx560_1); (try clear p2); (try clear p5); (try clear p552); (try clear p560); (try clear p6); (try clear q2); (try clear q21); (try clear q5); (try clear q552); (try clear q560); obtain ⟨x1_4, x6_4, x7_4, x8_4, rfl, rfl, rfl, HA, HK4, HO_5, HO_7, HB⟩ := hrel
           cases gk with
           | zero => exact absurd HA.out (by simp [spec_MachineWord.l1])
           | succ k4 =>
            have H := HA.out; clear HA
            simp only [spec_MachineWord.l1] at H
            by_cases c25 : 0 ≤ x6_4
            ·rw [if_pos c25] at H; have c25b0 := decide_eq_true c25; clear c25
             by_cases c26 : x6_4 < (l0.length : Int)
             ·rw [if_pos c26] at H; have c26b0 := decide_eq_true c26; clear c26
              by_cases c27 : x8_4 < (((rd_T94 l0 x6_4).f1).length : Int)
              ·rw [if_pos c27] at H; have c27b0 := decide_eq_true c27; clear c27
               by_cases c28 : 0 ≤ x8_4
               ·rw [if_pos c28] at H; have c28b0 := decide_eq_true c28; clear c28
                by_cases c29 : 0 ≤ ((rd_T100 ((rd_T94 l0 x6_4).f1) x8_4).f1)
                ·rw [if_pos c29] at H; have c29b0 := decide_eq_true c29; clear c29
                 by_cases c30 : ((rd_T100 ((rd_T94 l0 x6_4).f1) x8_4).f1) < (t554.length : Int)
                 ·rw [if_pos c30] at H; have c30b0 := decide_eq_true c30; clear c30
                  by_cases c31 : x1_4 < (rd t554 ((rd_T100 ((rd_T94 l0 x6_4).f1) x8_4).f1))
                  ·rw [if_pos c31] at H; have c31b0 := decide_eq_true c31; clear c31
                   by_cases c32 : x7_4.length < 140737488355328
                   ·rw [if_pos c32] at H; have LMc32 := Aside0.mk c32; clear c32; obtain ⟨y566, hy566⟩ : ∃ y_ : List Int, y_ = (x7_4 ++ [((rd_T100 ((rd_T94 l0 x6_4).f1) x8_4).f0) % 256]) := ⟨_, rfl⟩
                    replace H : (spec_MachineWord.l0 k4 l0 x1_4 t554 ((rd_T100 ((rd_T94 l0 x6_4).f1) x8_4).f1) y566) = some r := by first | (rw [hy566]; with_reducible exact H) | (have H2_ := (Option.bind_some _ _).symm.trans H; rw [hy566]; with_reducible exact H2_) | (have H2_ := (Option.bind_some _ _).symm.trans H; with_reducible exact H2_) | with_reducible exact H | (rw [hy566]; exact H) | exact H
                    have Ny566 := am hy566; clear hy566
                    have H' := am H
                    clear H
                    have p561 : 0 ≤ (x6_4 : Int) := of_decide_eq_true ad
                    have q561 : x6_4 < (l0.length : Int) := of_decide_eq_true ad
                    obtain ⟨ad561, A561_1, c561_1, e561, hx561_0, hx561_1, hl561_1, hi561_1⟩ := at_T94 HR0.out x6_4 p561 q561
                    obtain rfl : ad560 = ad561 := (by injection e561)
                    replace hx561_0 := kp HB.out hx561_0; replace hx561_1 := kp HB.out hx561_1; have HR561_1 := am hi561_1; have HC561_1 := am hl561_1; clear hi561_1 hl561_1; replace p561 := eq_true p561; replace q561 := eq_true q561
                    have p562 : 0 ≤ (x6_4 : Int) := of_decide_eq_true ad
                    have q562 : x6_4 < (l0.length : Int) := of_decide_eq_true ad
                    obtain ⟨ad562, A562_1, c562_1, e562, hx562_0, hx562_1, hl562_1, hi562_1⟩ := at_T94 HR0.out x6_4 p562 q562
                    obtain rfl : ad560 = ad562 := (by injection e562)
                    replace hx562_0 := kp HB.out hx562_0; replace hx562_1 := kp HB.out hx562_1; have HR562_1 := am hi562_1; have HC562_1 := am hl562_1; clear hi562_1 hl562_1; replace p562 := eq_true p562; replace q562 := eq_true q562; have ea_ := Option.some.inj (hx561_1.symm.trans hx562_1)
                    injection ea_ with ea_ en_ ec_
                    subst ea_; subst ec_; clear en_
                    have p563 : 0 ≤ (x8_4 : Int) := of_decide_eq_true ad
                    have q563 : x8_4 < (((rd_T94 l0 x6_4).f1).length : Int) := of_decide_eq_true ad
                    obtain ⟨ad563, e563, hx563_0, hx563_1⟩ := at_T100 HR562_1.out x8_4 p563 q563
                    cases e563
                    replace hx563_0 := kp HB.out hx563_0; replace hx563_1 := kp HB.out hx563_1; replace p563 := eq_true p563; replace q563 := eq_true q563
                    go_wp2_with (first | ((with_reducible refine gate_dst (N := 9) rfl ?_); refine bx 9 (cs := #[.int .i64 0, .int .i64 0]) (t := 100) ?_; intro gb564 hg w33 hbox hb; replace HO_5 := am (Kd.R_below (rq HO_5.out) hb); replace HO_7 := am (Kd.R_below (rq HO_7.out) hb); have BK564 := am (hbox); have GW564 := am ((b13_ : w.heap.size ≤ gb564)); have GE564 := am ((b13_ : w.heap.size ≤ gb564)); replace HB := am (below_step bel hb); clear hb hbox hg; have hcz34_0 := bc BK564.out 0; have hcz34_1 := bc BK564.out 1; have hfz34_0 := bf BK564.out 0; have hfz34_1 := bf BK564.out 1; obtain ⟨Ao35, co35, eo35⟩ := Kd.R_slice HO_5.out; subst eo35; have p565 : 0 ≤ (((rd_T100 ((rd_T94 l0 x6_4).f1) x8_4).f1) : Int) := of_decide_eq_true ad; have q565 : ((rd_T100 ((rd_T94 l0 x6_4).f1) x8_4).f1) < (t554.length : Int) := of_decide_eq_true ad; obtain ⟨ad565, e565, hx565_0⟩ := Kd.at_int (Kd.R_reads' HO_5.out).2.2 ((rd_T100 ((rd_T94 l0 x6_4).f1) x8_4).f1) p565 q565; cases e565; have hn565_0 : ad565.block ≠ gb564 := Kd.own_blk (Kd.R_ne HO_5.out BK564.out (by decide)); have hn565_1 : ad565.block ≠ gb564 := Kd.own_blk (Kd.R_ne HO_5.out BK564.out (by decide)); replace hx565_0 := (cell_far (p := ⟨gb564, 0, none⟩) (by first | (rw [add_block]; exact hn565_0) | (show (Addr.add _ _).block ≠ _; rw [add_block]; exact hn565_0) | exact hn565_0) (.int .i64 ((rd_T100 ((rd_T94 l0 x6_4).f1) x8_4).f0))).trans hx565_0; replace hx565_0 := (cell_far (p := ⟨gb564, 1, none⟩) (by first | (rw [add_block]; exact hn565_1) | (show (Addr.add _ _).block ≠ _; rw [add_block]; exact hn565_1) | exact hn565_1) (.int .i64 ((rd_T100 ((rd_T94 l0 x6_4).f1) x8_4).f1))).trans hx565_0; clear hn565_0; clear hn565_1; replace p565 := eq_true p565; replace q565 := eq_true q565) | ((with_reducible refine gate_builtin (b := .append) (xs := #[.tmp 62, .tmp 66]) rfl ?_); at_builtin; refine Kd.R_append (Kd.int .u8) (w0 := w) w.heap.size rfl (.tmp 62) (.tmp 66) 31 5 (.int .u8 0) 1 rfl Try.underlying31 info5 rfl (by decide) (by omega) u7 x7_4 (((rd_T100 ((rd_T94 l0 x6_4).f1) x8_4).f0) % 256) [.int .u8 (((rd_T100 ((rd_T94 l0 x6_4).f1) x8_4).f0) % 256)] (fun _ => True) (fun _ => False) rfl (by first | (go_simp; done) | (go_simp; rfl)) ?aP (fun _ hk => hk.elim) ?aF ?aO ?aB ?aS ?aL ?_; (case aP => exact rfl); (case aB => exact (bel1 GE564.out)); (case aF => exact (fun _ _ => trivial)); (case aO => exact (rq (Kd.R_mono (Kd.R_far (p := ⟨gb564, 1, none⟩) (Kd.R_far (p := ⟨gb564, 0, none⟩) (Kd.R_types HO_7.out BK564.out (by decide)) (fun _ hk => hk.2) (.int .i64 ((rd_T100 ((rd_T94 l0 x6_4).f1) x8_4).f0))) (fun _ hk => hk.2) (.int .i64 ((rd_T100 ((rd_T94 l0 x6_4).f1) x8_4).f1))) (fun _ hk => trivial)))); (case aS => exact (below_size (bel1 GE564.out))); (case aL => have := LMc32.out; omega); intro v567 w36 ho hb hg hat; rw [← Ny566.out] at ho; replace HO_5 := am (Kd.R_over' (rq ((Kd.R_mono (Kd.R_far (p := ⟨gb564, 1, none⟩) (Kd.R_far (p := ⟨gb564, 0, none⟩) (Kd.R_types HO_5.out BK564.out (by decide)) (fun _ hk => hk.2) (.int .i64 ((rd_T100 ((rd_T94 l0 x6_4).f1) x8_4).f0))) (fun _ hk => hk.2) (.int .i64 ((rd_T100 ((rd_T94 l0 x6_4).f1) x8_4).f1))) (fun _ h_ => h_.1)))) (Kd.R_typed (rq ((Kd.R_mono (Kd.R_far (p := ⟨gb564, 1, none⟩) (Kd.R_far (p := ⟨gb564, 0, none⟩) (Kd.R_types HO_7.out BK564.out (by decide)) (fun _ hk => hk.2) (.int .i64 ((rd_T100 ((rd_T94 l0 x6_4).f1) x8_4).f0))) (fun _ hk => hk.2) (.int .i64 ((rd_T100 ((rd_T94 l0 x6_4).f1) x8_4).f1))) (fun _ h_ => h_.1))))) (by decide) hg); replace BK564 := am (blk_grown (g := gb564) (o := .cells #[.int .i64 ((rd_T100 ((rd_T94 l0 x6_4).f1) x8_4).f0), .int .i64 ((rd_T100 ((rd_T94 l0 x6_4).f1) x8_4).f1)] 100 (0, 0)) (by (with_reducible repeat (first | refine blk_drewN ?_ _ | refine blk_drew ?_ | refine blk_alloc ?_ _)); refine blk_put (cs := #[.int .i64 ((rd_T100 ((rd_T94 l0 x6_4).f1) x8_4).f0), .int .i64 0]) ?_ 1 _ rfl; (with_reducible repeat (first | refine blk_drewN ?_ _ | refine blk_drew ?_ | refine blk_alloc ?_ _)); refine blk_put (cs := #[.int .i64 0, .int .i64 0]) ?_ 0 _ rfl; (with_reducible repeat (first | refine blk_drewN ?_ _ | refine blk_drew ?_ | refine blk_alloc ?_ _)); exact BK564.out) hg (Kd.R_ne HO_7.out BK564.out (by decide))); replace HB := am (hb); have HO568 := am (ho); clear HO_7; clear ho hb hg hat; have hcz37_0 : w36.cell? ⟨gb564, 0, none⟩ = some (.int .i64 ((rd_T100 ((rd_T94 l0 x6_4).f1) x8_4).f0)) := (blk_cell BK564.out 0).trans rfl; have hcz37_1 : w36.cell? ⟨gb564, 1, none⟩ = some (.int .i64 ((rd_T100 ((rd_T94 l0 x6_4).f1) x8_4).f1)) := (blk_cell BK564.out 1).trans rfl; have hfz37_0 := bf BK564.out 0; have hfz37_1 := bf BK564.out 1))
                    go_roundg k4
                    case measure => have := HJ2.out; have := HK2.out; have := HJ19.out; have := HK4.out; omega
                    case rel => exact ⟨(x1_4), ((rd_T100 ((rd_T94 l0 x6_4).f1) x8_4).f1), (y566), sq, sq, H', ⟨b82_⟩, ⟨rq HO_5.out⟩, ⟨rq HO568.out⟩, ⟨bel1 GE564.out⟩⟩
                   ·rw [if_neg c32] at H
                    exact absurd H (by simp)
                  ·rw [if_neg c31] at H; have c31b0 := decide_eq_false c31; clear c31
                   have H' := am H
                   clear H
                   have p561 : 0 ≤ (x6_4 : Int) := of_decide_eq_true ad
                   have q561 : x6_4 < (l0.length : Int) := of_decide_eq_true ad
                   obtain ⟨ad561, A561_1, c561_1, e561, hx561_0, hx561_1, hl561_1, hi561_1⟩ := at_T94 HR0.out x6_4 p561 q561
                   obtain rfl : ad560 = ad561 := (by injection e561)
                   replace hx561_0 := kp HB.out hx561_0; replace hx561_1 := kp HB.out hx561_1; have HR561_1 := am hi561_1; have HC561_1 := am hl561_1; clear hi561_1 hl561_1; replace p561 := eq_true p561; replace q561 := eq_true q561
                   have p562 : 0 ≤ (x6_4 : Int) := of_decide_eq_true ad
                   have q562 : x6_4 < (l0.length : Int) := of_decide_eq_true ad
                   obtain ⟨ad562, A562_1, c562_1, e562, hx562_0, hx562_1, hl562_1, hi562_1⟩ := at_T94 HR0.out x6_4 p562 q562
                   obtain rfl : ad560 = ad562 := (by injection e562)
                   replace hx562_0 := kp HB.out hx562_0; replace hx562_1 := kp HB.out hx562_1; have HR562_1 := am hi562_1; have HC562_1 := am hl562_1; clear hi562_1 hl562_1; replace p562 := eq_true p562; replace q562 := eq_true q562; have ea_ := Option.some.inj (hx561_1.symm.trans hx562_1)
                   injection ea_ with ea_ en_ ec_
                   subst ea_; subst ec_; clear en_
                   have p563 : 0 ≤ (x8_4 : Int) := of_decide_eq_true ad
                   have q563 : x8_4 < (((rd_T94 l0 x6_4).f1).length : Int) := of_decide_eq_true ad
                   obtain ⟨ad563, e563, hx563_0, hx563_1⟩ := at_T100 HR562_1.out x8_4 p563 q563
                   cases e563
                   replace hx563_0 := kp HB.out hx563_0; replace hx563_1 := kp HB.out hx563_1; replace p563 := eq_true p563; replace q563 := eq_true q563
                   go_wp2_with (first | ((with_reducible refine gate_dst (N := 9) rfl ?_); refine bx 9 (cs := #[.int .i64 0, .int .i64 0]) (t := 100) ?_; intro gb564 hg w38 hbox hb; replace HO_5 := am (Kd.R_below (rq HO_5.out) hb); replace HO_7 := am (Kd.R_below (rq HO_7.out) hb); have BK564 := am (hbox); have GW564 := am ((b13_ : w.heap.size ≤ gb564)); have GE564 := am ((b13_ : w.heap.size ≤ gb564)); replace HB := am (below_step bel hb); clear hb hbox hg; have hcz39_0 := bc BK564.out 0; have hcz39_1 := bc BK564.out 1; have hfz39_0 := bf BK564.out 0; have hfz39_1 := bf BK564.out 1; obtain ⟨Ao40, co40, eo40⟩ := Kd.R_slice HO_5.out; subst eo40; have p565 : 0 ≤ (((rd_T100 ((rd_T94 l0 x6_4).f1) x8_4).f1) : Int) := of_decide_eq_true ad; have q565 : ((rd_T100 ((rd_T94 l0 x6_4).f1) x8_4).f1) < (t554.length : Int) := of_decide_eq_true ad; obtain ⟨ad565, e565, hx565_0⟩ := Kd.at_int (Kd.R_reads' HO_5.out).2.2 ((rd_T100 ((rd_T94 l0 x6_4).f1) x8_4).f1) p565 q565; cases e565; have hn565_0 : ad565.block ≠ gb564 := Kd.own_blk (Kd.R_ne HO_5.out BK564.out (by decide)); have hn565_1 : ad565.block ≠ gb564 := Kd.own_blk (Kd.R_ne HO_5.out BK564.out (by decide)); replace hx565_0 := (cell_far (p := ⟨gb564, 0, none⟩) (by first | (rw [add_block]; exact hn565_0) | (show (Addr.add _ _).block ≠ _; rw [add_block]; exact hn565_0) | exact hn565_0) (.int .i64 ((rd_T100 ((rd_T94 l0 x6_4).f1) x8_4).f0))).trans hx565_0; replace hx565_0 := (cell_far (p := ⟨gb564, 1, none⟩) (by first | (rw [add_block]; exact hn565_1) | (show (Addr.add _ _).block ≠ _; rw [add_block]; exact hn565_1) | exact hn565_1) (.int .i64 ((rd_T100 ((rd_T94 l0 x6_4).f1) x8_4).f1))).trans hx565_0; clear hn565_0; clear hn565_1; replace p565 := eq_true p565; replace q565 := eq_true q565; have p569 : 0 ≤ (((rd_T100 ((rd_T94 l0 x6_4).f1) x8_4).f1) : Int) := of_decide_eq_true ad; have q569 : ((rd_T100 ((rd_T94 l0 x6_4).f1) x8_4).f1) < (t554.length : Int) := of_decide_eq_true ad; obtain ⟨ad569, e569, hx569_0⟩ := Kd.at_int (Kd.R_reads' HO_5.out).2.2 ((rd_T100 ((rd_T94 l0 x6_4).f1) x8_4).f1) p569 q569; obtain rfl : ad565 = ad569 := (by injection e569); have hn569_0 : ad565.block ≠ gb564 := Kd.own_blk (Kd.R_ne HO_5.out BK564.out (by decide)); have hn569_1 : ad565.block ≠ gb564 := Kd.own_blk (Kd.R_ne HO_5.out BK564.out (by decide)); replace hx569_0 := (cell_far (p := ⟨gb564, 0, none⟩) (by first | (rw [add_block]; exact hn569_0) | (show (Addr.add _ _).block ≠ _; rw [add_block]; exact hn569_0) | exact hn569_0) (.int .i64 ((rd_T100 ((rd_T94 l0 x6_4).f1) x8_4).f0))).trans hx569_0; replace hx569_0 := (cell_far (p := ⟨gb564, 1, none⟩) (by first | (rw [add_block]; exact hn569_1) | (show (Addr.add _ _).block ≠ _; rw [add_block]; exact hn569_1) | exact hn569_1) (.int .i64 ((rd_T100 ((rd_T94 l0 x6_4).f1) x8_4).f1))).trans hx569_0; clear hn569_0; clear hn569_1; replace p569 := eq_true p569; replace q569 := eq_true q569))
                   go_roundg k4
                   case measure => have := HJ2.out; have := HK2.out; have := HJ19.out; have := HK4.out; omega
                   case rel => exact ⟨(wrap64 (x1_4 - (rd t554 ((rd_T100 ((rd_T94 l0 x6_4).f1) x8_4).f1)))), (x6_4), (x7_4), (wrap64 (x8_4 + 1)), sq, sq, sq, H', ⟨b82_⟩, ⟨rq (Kd.R_mono (Kd.R_far (p := ⟨gb564, 1, none⟩) (Kd.R_far (p := ⟨gb564, 0, none⟩) (Kd.R_types HO_5.out BK564.out (by decide)) (fun _ hk => hk.2) (.int .i64 ((rd_T100 ((rd_T94 l0 x6_4).f1) x8_4).f0))) (fun _ hk => hk.2) (.int .i64 ((rd_T100 ((rd_T94 l0 x6_4).f1) x8_4).f1))) (fun _ hk => trivial))⟩, ⟨rq (Kd.R_mono (Kd.R_far (p := ⟨gb564, 1, none⟩) (Kd.R_far (p := ⟨gb564, 0, none⟩) (Kd.R_types HO_7.out BK564.out (by decide)) (fun _ hk => hk.2) (.int .i64 ((rd_T100 ((rd_T94 l0 x6_4).f1) x8_4).f0))) (fun _ hk => hk.2) (.int .i64 ((rd_T100 ((rd_T94 l0 x6_4).f1) x8_4).f1))) (fun _ hk => trivial))⟩, ⟨bel1 GE564.out⟩⟩
                 ·rw [if_neg c30] at H
                  exact absurd H (by simp)
                ·rw [if_neg c29] at H
                 exact absurd H (by simp)
               ·rw [if_neg c28] at H
                exact absurd H (by simp)
              ·rw [if_neg c27] at H; have c27b0 := decide_eq_false c27; clear c27
               have H' := am H
               clear H
               have p561 : 0 ≤ (x6_4 : Int) := of_decide_eq_true ad
               have q561 : x6_4 < (l0.length : Int) := of_decide_eq_true ad
               obtain ⟨ad561, A561_1, c561_1, e561, hx561_0, hx561_1, hl561_1, hi561_1⟩ := at_T94 HR0.out x6_4 p561 q561
               obtain rfl : ad560 = ad561 := (by injection e561)
               replace hx561_0 := kp HB.out hx561_0; replace hx561_1 := kp HB.out hx561_1; have HR561_1 := am hi561_1; have HC561_1 := am hl561_1; clear hi561_1 hl561_1; replace p561 := eq_true p561; replace q561 := eq_true q561; go_wp2
               go_roundg k4
               case measure => have := HJ2.out; have := HK2.out; have := HJ19.out; have := HK4.out; omega
               case rel => exact ⟨(x1_4), (x6_4), (x7_4), sq, sq, H', ⟨b82_⟩, ⟨rq HO_5.out⟩, ⟨rq HO_7.out⟩, ⟨bel⟩⟩
             ·rw [if_neg c26] at H
              exact absurd H (by simp)
            ·rw [if_neg c25] at H
             exact absurd H (by simp)
       ·rw [if_neg c19] at H
        exact absurd H (by simp)
      ·rw [if_neg c18] at H
       exact absurd H (by simp)

/-! ### spec_MachineCount: function 40 -/
def spec_MachineCount.f (k : Nat) (l0 : List (S94)) : Option (Int) := (spec_MachineOk.f k l0).bind fun t570 => (if t570 = true then ((spec_l3Counts.f k l0).bind fun t571 => (if 0 < (t571.length : Int) then (some (rd t571 0)) else (none))) else (some 0))
set_option maxHeartbeats 8000000 in
set_option maxRecDepth 100000 in
theorem spec_MachineCount.calls (k : Nat) (A0 : Option Addr) (c0 : Nat) (l0 : List (S94)) (r : Int) (w : World) (hr0 : Kd.C k94 w A0 l0.length l0) (hc0 : l0.length ≤ c0) (h : spec_MachineCount.f k l0 = some r) :
  Calls Try.prog 40 #[.slice A0 l0.length c0] w fun e w' => e = .returned (.int .i64 r) ∧ Below w.heap.size w w' := by
 have HR0 := am hr0; have HC0 := am hc0; clear hr0 hc0; have HB := am (Below.refl w.heap.size w)
 have H : ((spec_MachineOk.f k l0).bind fun t570 => (if t570 = true then ((spec_l3Counts.f k l0).bind fun t571 => (if 0 < (t571.length : Int) then (some (rd t571 0)) else (none))) else (some 0))) = some r := h
 clear h; replace H := Option.bind_eq_some_iff.mp H; obtain ⟨t570, A20, H⟩ := H; replace H : (if t570 = true then ((spec_l3Counts.f k l0).bind fun t571 => (if 0 < (t571.length : Int) then (some (rd t571 0)) else (none))) else (some 0)) = some r := H; have A2 := Aside0.mk A20; clear A20
 by_cases c3 : t570 = true
 ·subst c3
  have H1 : ((spec_l3Counts.f k l0).bind fun t571 => (if 0 < (t571.length : Int) then (some (rd t571 0)) else (none))) = some r := b20_
  replace H := H1; clear H1
  replace H := Option.bind_eq_some_iff.mp H; obtain ⟨t571, A40, H⟩ := H; replace H : (if 0 < (t571.length : Int) then (some (rd t571 0)) else (none)) = some r := H; have A4 := Aside0.mk A40; clear A40
  by_cases c5 : 0 < (t571.length : Int)
  ·rw [if_pos c5] at H; have c5b0 := decide_eq_true c5
   have c5b1 : decide (0 < t571.length) = true := decide_eq_true (by omega)
   clear c5; obtain rfl := Option.some.inj H; go_enter Try.func40, Try.ntmps40
   go_wp2_with (first | ((with_reducible refine gate_callee (f := 34) rfl ?_); refine goesL_ (some 4) rfl rfl Try.func34 (by kernel_rfl) rfl #[.slice A0 l0.length c0] rfl mq ?_; (with_reducible refine (spec_MachineOk.calls k _ _ l0 true _ ?side1 ?side2 A2.out).mono ?_); (case side1 => repeat (first | exact HR0.out | (with_reducible refine Kd.C_alloc ?_ _) | (with_reducible refine Kd.C_drewN ?_ _) | (with_reducible refine Kd.C_drew ?_))); (case side2 => exact HC0.out); rintro e w6 ⟨rfl, hb⟩; refine ⟨_, rfl, ?_⟩; replace HB := am (below_step bel hb); (try clear hb); (try clear hb2); (try clear hk); (try clear hi)) | ((with_reducible refine gate_callee (f := 83) rfl ?_); refine goesL_ (some 7) rfl rfl Try.func83 (by kernel_rfl) rfl #[.slice A0 l0.length c0] rfl mq ?_; (with_reducible refine (spec_l3Counts.calls k _ _ l0 t571 _ ?side1 ?side2 A4.out).mono ?_); (case side1 => exact cq (Kd.C_below HR0.out HB.out)); (case side2 => exact HC0.out); rintro e w7 ⟨v572, rfl, ho0, hb⟩; refine ⟨_, rfl, ?_⟩; have HO573 := am (Kd.R_lower ho0 (below_size bel)); replace HB := am (below_step bel hb); (try clear hb); (try clear hb2); (try clear hk); (try clear hi); (try clear ho0); obtain ⟨Ao8, co8, eo8⟩ := Kd.R_slice HO573.out; subst eo8; have p574 : 0 ≤ (0 : Int) := (by omega); have q574 : 0 < (t571.length : Int) := of_decide_eq_true ad; obtain ⟨ad574, e574, hx574_0⟩ := Kd.at_int (Kd.R_reads' HO573.out).2.2 0 p574 q574; cases e574; have qi574 : (0 < t571.length) = True := eq_true (by omega); (try rw [show ((0 : Int)).toNat = 0 from rfl] at hx574_0); (try rw [Addr.add_zero'] at hx574_0); replace p574 := eq_true p574; replace q574 := eq_true q574))
   go_ret
   exact ⟨eq_, bel⟩
  ·rw [if_neg c5] at H
   exact absurd H (by simp)
 ·replace c3 := Bool.eq_false_iff.mpr c3; subst c3
  have H1 : (some 0) = some r := b6_
  replace H := H1; clear H1
  obtain rfl := Option.some.inj H; go_enter Try.func40, Try.ntmps40
  go_wp2_with (first | ((with_reducible refine gate_callee (f := 34) rfl ?_); refine goesL_ (some 4) rfl rfl Try.func34 (by kernel_rfl) rfl #[.slice A0 l0.length c0] rfl mq ?_; (with_reducible refine (spec_MachineOk.calls k _ _ l0 false _ ?side1 ?side2 A2.out).mono ?_); (case side1 => repeat (first | exact HR0.out | (with_reducible refine Kd.C_alloc ?_ _) | (with_reducible refine Kd.C_drewN ?_ _) | (with_reducible refine Kd.C_drew ?_))); (case side2 => exact HC0.out); rintro e w9 ⟨rfl, hb⟩; refine ⟨_, rfl, ?_⟩; replace HB := am (below_step bel hb); (try clear hb); (try clear hb2); (try clear hk); (try clear hi)))
  go_ret
  exact ⟨eq_, bel⟩

end Go.Proofs.Ytfpmfaelodfecaa.QFnMachineWord
