import Derived.Test.YtfpmfaelodfecaaQFnMachineKnowsx0
import Derived.Test.YtfpmfaelodfecaaQFnMachineKnowsx2
import Derived.Test.YtfpmfaelodfecaaQFnMachineKnowsx3
import Derived.Test.YtfpmfaelodfecaaQFnMachineKnowsx9
import Derived.Test.YtfpmfaelodfecaaVMSh2
namespace Go.Proofs.Ytfpmfaelodfecaa.QFnMachineKnows
open Go.RowKit Go.Proofs.YtfpmfaelodfecaaW.PrintWords Go.Proofs.YtfpmfaelodfecaaW.PrintLast Go.Proofs.YtfpmfaelodfecaaW.PrintMore Go.Proofs.Ytfpmfaelodfecaa.Sh
attribute [local go_sem] max2_int min2_int max_two min_two max_three min_three max_four min_four   -- for this text's walks alone
set_option linter.unusedVariables false
set_option linter.unusedSimpArgs false
-- shrunk

/-! ### spec_MachineWord: function 39 -/
mutual
def spec_MachineWord.j0 : Nat → List (S94) → Int → Bool → Option (ByteArray)
 | 0, _, _, _ => none
 | k + 1, x0, x1, x22 => if x22 = true then (some (⟨#[]⟩ : ByteArray)) else ((spec_l3Counts.f k x0).bind fun t201 => (spec_MachineWord.l0 k x0 x1 t201 0 (([] : List Int))))
def spec_MachineWord.l0 : Nat → List (S94) → Int → List Int → Int → List Int → Option (ByteArray)
 | 0, _, _, _, _, _ => none
 | k + 1, x0, x1, x5, x6, x7 => if 0 ≤ x6 then (if x6 < (x0.length : Int) then (if (rd_T94 x0 x6).f0 = true then (if x1 = 0 then (some (strOfNums x7)) else (spec_MachineWord.j2 k x0 (wrap64 (x1 - 1)) x5 x6 x7)) else (spec_MachineWord.j2 k x0 x1 x5 x6 x7)) else (none)) else (none)
def spec_MachineWord.j2 : Nat → List (S94) → Int → List Int → Int → List Int → Option (ByteArray)
 | 0, _, _, _, _, _ => none
 | k + 1, x0, x1, x5, x6, x7 => spec_MachineWord.l1 k x0 x1 x5 x6 x7 0
def spec_MachineWord.l1 : Nat → List (S94) → Int → List Int → Int → List Int → Int → Option (ByteArray)
 | 0, _, _, _, _, _, _ => none
 | k + 1, x0, x1, x5, x6, x7, x8 => if 0 ≤ x6 then (if x6 < (x0.length : Int) then (if x8 < (((rd_T94 x0 x6).f1).length : Int) then (if 0 ≤ x8 then (if 0 ≤ ((rd_T100 ((rd_T94 x0 x6).f1) x8).f1) then (if ((rd_T100 ((rd_T94 x0 x6).f1) x8).f1) < (x5.length : Int) then (if x1 < (rd x5 ((rd_T100 ((rd_T94 x0 x6).f1) x8).f1)) then (if x7.length < 140737488355328 then (spec_MachineWord.l0 k x0 x1 x5 ((rd_T100 ((rd_T94 x0 x6).f1) x8).f1) (x7 ++ [((rd_T100 ((rd_T94 x0 x6).f1) x8).f0) % 256])) else (none)) else (spec_MachineWord.l1 k x0 (wrap64 (x1 - (rd x5 ((rd_T100 ((rd_T94 x0 x6).f1) x8).f1)))) x5 x6 x7 (wrap64 (x8 + 1)))) else (none)) else (none)) else (none)) else (spec_MachineWord.l0 k x0 x1 x5 x6 x7)) else (none)) else (none)
end
def spec_MachineWord.f (k : Nat) (l0 : List (S94)) (a1 : Int) : Option (ByteArray) := (spec_l3Small.f k l0).bind fun t195 => (if t195 = true then ((spec_l3Counts.f k l0).bind fun t196 => (if 0 < (t196.length : Int) then ((spec_l1In.f a1 0 (wrap64 ((rd t196 0) - 1))).bind fun t200 => (spec_MachineWord.j0 k l0 a1 (!t200))) else (none))) else (spec_MachineWord.j0 k l0 a1 true))
set_option maxHeartbeats 8000000 in
set_option maxRecDepth 100000 in
theorem spec_MachineWord.calls (k : Nat) (A0 : Option Addr) (c0 : Nat) (l0 : List (S94)) (a1 : Int) (r : ByteArray) (w : World) (hr0 : Kd.C k94 w A0 l0.length l0) (hc0 : l0.length ≤ c0) (h : spec_MachineWord.f k l0 a1 = some r) :
  Calls Try.prog 39 #[.slice A0 l0.length c0, .int .i64 a1] w fun e w' => e = .returned (.string r) ∧ Below w.heap.size w w' := by
 have hu100 := Try.underlying100; have HR0 := am hr0; have HC0 := am hc0; clear hr0 hc0; have HB := am (Below.refl w.heap.size w)
 have H : ((spec_l3Small.f k l0).bind fun t195 => (if t195 = true then ((spec_l3Counts.f k l0).bind fun t196 => (if 0 < (t196.length : Int) then ((spec_l1In.f a1 0 (wrap64 ((rd t196 0) - 1))).bind fun t200 => (spec_MachineWord.j0 k l0 a1 (!t200))) else (none))) else (spec_MachineWord.j0 k l0 a1 true))) = some r := h
 clear h; have HC3 := am H; clear H; go_enter Try.func39, Try.ntmps39
 go_upto_region 1 with (fail)
 go_cut [22] (fun v22 wc => ∃ (kq : Nat) (x22_2 : Bool), v22 = .bool x22_2 ∧ Aside0 (spec_MachineWord.j0 kq l0 a1 x22_2 = some r) ∧ Aside0 (kq ≤ k) ∧ Aside0 (Below w.heap.size w wc))
 case first =>
  have H := HC3.out; clear HC3; replace H := Option.bind_eq_some_iff.mp H; obtain ⟨t195, A40, H⟩ := H; replace H : (if t195 = true then ((spec_l3Counts.f k l0).bind fun t196 => (if 0 < (t196.length : Int) then ((spec_l1In.f a1 0 (wrap64 ((rd t196 0) - 1))).bind fun t200 => (spec_MachineWord.j0 k l0 a1 (!t200))) else (none))) else (spec_MachineWord.j0 k l0 a1 true)) = some r := H; have A4 := Aside0.mk A40; clear A40
  by_cases c5 : t195 = true
  ·subst c5
   have H1 : ((spec_l3Counts.f k l0).bind fun t196 => (if 0 < (t196.length : Int) then ((spec_l1In.f a1 0 (wrap64 ((rd t196 0) - 1))).bind fun t200 => (spec_MachineWord.j0 k l0 a1 (!t200))) else (none))) = some r := b21_
   replace H := H1; clear H1
   replace H := Option.bind_eq_some_iff.mp H; obtain ⟨t196, A60, H⟩ := H; replace H : (if 0 < (t196.length : Int) then ((spec_l1In.f a1 0 (wrap64 ((rd t196 0) - 1))).bind fun t200 => (spec_MachineWord.j0 k l0 a1 (!t200))) else (none)) = some r := H; have A6 := Aside0.mk A60; clear A60
   by_cases c7 : 0 < (t196.length : Int)
   ·rw [if_pos c7] at H; have c7b0 := decide_eq_true c7
    have c7b1 : decide (0 < t196.length) = true := decide_eq_true (by omega)
    clear c7
    (first | rw [c7b0] | (simp only [i64_w, i32_w]; rw [c7b0]) | skip)
    replace H := Option.bind_eq_some_iff.mp H; obtain ⟨t200, A80, H⟩ := H; replace H : (spec_MachineWord.j0 k l0 a1 (!t200)) = some r := H; have A8 := Aside0.mk A80; clear A80
    have H' := am H
    clear H
    go_wp2_with (first | ((with_reducible refine gate_callee (f := 77) rfl ?_); refine goesL_ (some 11) rfl rfl Try.func77 (by kernel_rfl) rfl #[.slice A0 l0.length c0] rfl mq ?_; (with_reducible refine (spec_l3Small.calls k _ _ l0 true _ ?side1 ?side2 A4.out).mono ?_); (case side1 => exact cq (Kd.C_below HR0.out HB.out)); (case side2 => exact HC0.out); rintro e w9 ⟨rfl, hb⟩; refine ⟨_, rfl, ?_⟩; replace HB := am (below_step bel hb); (try clear hb); (try clear hb2); (try clear hk); (try clear hi)) | (go_at_call 83; (with_reducible refine (spec_l3Counts.calls k _ _ l0 t196 _ ?side1 ?side2 A6.out).mono ?_); (case side1 => exact cq (Kd.C_below HR0.out HB.out)); (case side2 => exact HC0.out); rintro e w10 ⟨v197, rfl, ho0, hb⟩; have HO198 := am (Kd.R_lower ho0 (below_size bel)); replace HB := am (below_step bel hb); (try clear hb); (try clear hb2); (try clear hk); (try clear hi); (try clear ho0); obtain ⟨Ao11, co11, eo11⟩ := Kd.R_slice HO198.out; subst eo11; have p199 : 0 ≤ (0 : Int) := (by omega); have q199 : 0 < (t196.length : Int) := of_decide_eq_true ad; obtain ⟨ad199, e199, hx199_0⟩ := Kd.at_int (Kd.R_reads' HO198.out).2.2 0 p199 q199; cases e199; have qi199 : (0 < t196.length) = True := eq_true (by omega); (try rw [show ((0 : Int)).toNat = 0 from rfl] at hx199_0); (try rw [Addr.add_zero'] at hx199_0); replace p199 := eq_true p199; replace q199 := eq_true q199) | (go_at_call 78; (with_reducible refine (spec_l1In.calls a1 0 (wrap64 ((rd t196 0) - 1)) t200 _ A8.out).mono ?_); rintro e w' ⟨rfl, ⟨nd, rfl⟩⟩))
    go_meet
    case rel => exact ⟨_, (!t200), sq, H', ⟨b75_⟩, ⟨bel⟩⟩
   ·rw [if_neg c7] at H
    exact absurd H (by simp)
  ·replace c5 := Bool.eq_false_iff.mpr c5; subst c5
   have H1 : (spec_MachineWord.j0 k l0 a1 true) = some r := b9_
   replace H := H1; clear H1
   have H' := am H
   clear H
   go_wp2_with (first | ((with_reducible refine gate_callee (f := 77) rfl ?_); refine goesL_ (some 11) rfl rfl Try.func77 (by kernel_rfl) rfl #[.slice A0 l0.length c0] rfl mq ?_; (with_reducible refine (spec_l3Small.calls k _ _ l0 false _ ?side1 ?side2 A4.out).mono ?_); (case side1 => exact cq (Kd.C_below HR0.out HB.out)); (case side2 => exact HC0.out); rintro e w12 ⟨rfl, hb⟩; refine ⟨_, rfl, ?_⟩; replace HB := am (below_step bel hb); (try clear hb); (try clear hb2); (try clear hk); (try clear hi)))
   go_meet
   case rel => exact ⟨_, (true), sq, H', ⟨b75_⟩, ⟨bel⟩⟩
 case rest =>
  clear HC3; (try clear p1); (try clear q1); (try clear hx1); (try clear qi1); (try clear p2); (try clear c3); (try clear c5); (try clear p6); (try clear c7); (try clear c7b0); (try clear c7b1); (try clear hx199_0); (try clear p199); (try clear q199); obtain ⟨kq, x22_2, rfl, HA, HJ2, HB⟩ := hcut
  cases kq with
  | zero => exact absurd HA.out (by simp [spec_MachineWord.j0])
  | succ kj2 =>
   have H := HA.out; clear HA
   simp only [spec_MachineWord.j0] at H
   by_cases c13 : x22_2 = true
   ·subst c13
    have H1 : (some (⟨#[]⟩ : ByteArray)) = some r := b21_
    replace H := H1; clear H1
    obtain rfl := Option.some.inj H; go_wp2; go_ret
    exact ⟨eq_, bel⟩
   ·replace c13 := Bool.eq_false_iff.mpr c13; subst c13
    have H1 : ((spec_l3Counts.f kj2 l0).bind fun t201 => (spec_MachineWord.l0 kj2 l0 a1 t201 0 (([] : List Int)))) = some r := b9_
    replace H := H1; clear H1
    replace H := Option.bind_eq_some_iff.mp H; obtain ⟨t201, A140, H⟩ := H; replace H : (spec_MachineWord.l0 kj2 l0 a1 t201 0 (([] : List Int))) = some r := H; have A14 := Aside0.mk A140; clear A140; obtain ⟨y204, hy204⟩ : ∃ y_ : List Int, y_ = (([] : List Int)) := ⟨_, rfl⟩
    replace H : (spec_MachineWord.l0 kj2 l0 a1 t201 0 y204) = some r := by first | (rw [hy204]; with_reducible exact H) | (have H2_ := (Option.bind_some _ _).symm.trans H; rw [hy204]; with_reducible exact H2_) | (have H2_ := (Option.bind_some _ _).symm.trans H; with_reducible exact H2_) | with_reducible exact H | (rw [hy204]; exact H) | exact H
    have Ny204 := am hy204; clear hy204
    have H' := am H
    clear H
    go_wp2_with (first | ((with_reducible refine gate_callee (f := 83) rfl ?_); refine goesL_ (some 24) rfl rfl Try.func83 (by kernel_rfl) rfl #[.slice A0 l0.length c0] rfl mq ?_; (with_reducible refine (spec_l3Counts.calls kj2 _ _ l0 t201 _ ?side1 ?side2 A14.out).mono ?_); (case side1 => exact cq (Kd.C_below HR0.out HB.out)); (case side2 => exact HC0.out); rintro e w15 ⟨v202, rfl, ho0, hb⟩; refine ⟨_, rfl, ?_⟩; have HO203 := am (Kd.R_lower ho0 (below_size bel)); replace HB := am (below_step bel hb); (try clear hb); (try clear hb2); (try clear hk); (try clear hi); (try clear ho0)) | ((with_reducible refine gate_dst (N := 25) rfl ?_); refine Kd.R_lit (Kd.int .u8) _ 5 ?hg (N := 25) ?hd (xs := ([] : List Int)) (inner := []) (ok := fun _ => True) (okp := fun _ => True) ?hr ?hp (fun _ hk => hk) trivial (Below.refl _ _) (Nat.le_refl _) (by simp) ?_; (case hd => rfl); (case hg => rfl); (case hr => first | (go_simp; done) | (go_simp; rfl)); (case hp => exact (Reps.none _ _)); intro v205 w16 ho17 hb hg_ hnew_; clear hg_ hnew_; (first | rw [← Ny204.out] at ho17 | (simp only [Int.reduceToNat] at ho17; rw [← Ny204.out] at ho17) | (simp only [Int.toNat_natCast] at ho17; rw [← Ny204.out] at ho17)); replace HO203 := am (Kd.R_below (rq HO203.out) hb); have HO206 := am (Kd.R_lower ho17 (below_size bel)); replace HB := am (below_step bel hb); clear hb ho17))
    go_loopg [1, 6, 7] kj2 (fun kq v1 v6 v7 w' => ∃ (x1_2 : Int) (x6_2 : Int) (x7_2 : List Int), v1 = .int .i64 x1_2 ∧ v6 = .int .i64 x6_2 ∧ Aside0 (spec_MachineWord.l0 kq l0 x1_2 t201 x6_2 x7_2 = some r) ∧ Aside0 (kq ≤ kj2) ∧ Aside0 (Kd.R (Kd.int .i64) 3 w' w.heap.size (fun _ => True) v202 t201) ∧ Aside0 (Kd.R (Kd.int .u8) 5 w' w.heap.size (fun _ => True) v7 x7_2) ∧ Aside0 (Below w.heap.size w w'))
    case atStart => exact ⟨(a1), (0), (y204), sq, sq, H', ⟨Nat.le_refl _⟩, ⟨rq HO203.out⟩, ⟨rq HO206.out⟩, ⟨bel⟩⟩
    case round =>
     clear H'; (try clear c1); (try clear p1); (try clear q1); (try clear hx1); (try clear qi1); (try clear p2); (try clear c3); (try clear c5); (try clear p6); (try clear c7); (try clear c7b0); (try clear c7b1); (try clear c8); (try clear c13); (try clear hx199_0); (try clear p1); (try clear p199); (try clear p2); (try clear p6); (try clear q1); (try clear q199); obtain ⟨x1_2, x6_2, x7_2, rfl, rfl, HA, HK2, HO_5, HO_7, HB⟩ := hrel
     cases gk with
     | zero => exact absurd HA.out (by simp [spec_MachineWord.l0])
     | succ k2 =>
      have H := HA.out; clear HA
      simp only [spec_MachineWord.l0] at H
      by_cases c18 : 0 ≤ x6_2
      ·rw [if_pos c18] at H; have c18b0 := decide_eq_true c18; clear c18
       by_cases c19 : x6_2 < (l0.length : Int)
       ·rw [if_pos c19] at H; have c19b0 := decide_eq_true c19; clear c19; have HC20 := am H; clear H
        have p207 : 0 ≤ (x6_2 : Int) := of_decide_eq_true ad
        have q207 : x6_2 < (l0.length : Int) := of_decide_eq_true ad
        obtain ⟨ad207, A207_1, c207_1, e207, hx207_0, hx207_1, hl207_1, hi207_1⟩ := at_T94 HR0.out x6_2 p207 q207
        cases e207
        replace hx207_0 := kp HB.out hx207_0; replace hx207_1 := kp HB.out hx207_1; have HR207_1 := am hi207_1; have HC207_1 := am hl207_1; clear hi207_1 hl207_1; replace p207 := eq_true p207; replace q207 := eq_true q207
        go_upto_if 30 with (fail)
        go_cut [1] (fun v1 wc => ∃ (kq : Nat) (x1_19 : Int), v1 = .int .i64 x1_19 ∧ Aside0 (spec_MachineWord.j2 kq l0 x1_19 t201 x6_2 x7_2 = some r) ∧ Aside0 (kq ≤ k2) ∧ Aside0 (Kd.R (Kd.int .i64) 3 wc w.heap.size (fun _ => True) v202 t201) ∧ Aside0 (Kd.R (Kd.int .u8) 5 wc w.heap.size (fun _ => True) u7 x7_2) ∧ Aside0 (Below w.heap.size w wc))
        case first =>
         have H := HC20.out; clear HC20; obtain ⟨bq21, hbq21⟩ : ∃ b_ : Bool, b_ = ((rd_T94 l0 x6_2).f0) := ⟨_, rfl⟩
         replace H : (if bq21 = true then (if x1_2 = 0 then (some (strOfNums x7_2)) else (spec_MachineWord.j2 k2 l0 (wrap64 (x1_2 - 1)) t201 x6_2 x7_2)) else (spec_MachineWord.j2 k2 l0 x1_2 t201 x6_2 x7_2)) = some r := by rw [← hbq21] at H; exact H
         have Nbq21 := am hbq21; clear hbq21
         (try rw [← Nbq21.out])
         by_cases c22 : bq21 = true
         ·subst c22
          have H1 : (if x1_2 = 0 then (some (strOfNums x7_2)) else (spec_MachineWord.j2 k2 l0 (wrap64 (x1_2 - 1)) t201 x6_2 x7_2)) = some r := b21_
          replace H := H1; clear H1
          by_cases c23 : x1_2 = 0
          ·rw [if_pos c23] at H
           have c23b0 : (x1_2 == 0) = true := beq_iff_eq.mpr c23
           have c23b1 : (x1_2 != 0) = false := bne_eq_false_iff_eq.mpr c23
           clear c23; obtain rfl := Option.some.inj H; have hcv24 := own_string (P := Try.prog) Try.underlying31 Try.underlying5 Try.underlying9 (Kd.own_of_R HO_7.out); go_wp2; go_ret
           exact ⟨eq_, bel⟩
          ·rw [if_neg c23] at H
           have c23b0 : (x1_2 == 0) = false := beq_eq_false_iff_ne.mpr c23
           have c23b1 : (x1_2 != 0) = true := bne_iff_ne.mpr c23
           have H' := am H
           clear H; go_wp2
           go_meet
           case rel => exact ⟨_, (wrap64 (x1_2 - 1)), sq, H', ⟨by have := HJ2.out; have := HK2.out; first | omega | exact Nat.le_refl _⟩, ⟨rq HO_5.out⟩, ⟨rq HO_7.out⟩, ⟨bel⟩⟩
         ·replace c22 := Bool.eq_false_iff.mpr c22; subst c22
          (try rw [← Nbq21.out] at hx207_0)
          (try rw [← Nbq21.out])
          have H1 : (spec_MachineWord.j2 k2 l0 x1_2 t201 x6_2 x7_2) = some r := b9_
          replace H := H1; clear H1
          have H' := am H
          clear H; go_wp2
          go_meet
          case rel => (try rw [← Nbq21.out]); exact ⟨_, (x1_2), sq, H', ⟨by have := HJ2.out; have := HK2.out; first | omega | exact Nat.le_refl _⟩, ⟨rq HO_5.out⟩, ⟨rq HO_7.out⟩, ⟨bel⟩⟩
        case rest =>
         clear HC20; (try clear c1); (try clear p1); (try clear q1); (try clear hx1); (try clear qi1); (try clear c2); (try clear p2); (try clear q2); (try clear hx2); (try clear hcv2); (try clear c3); (try clear c5); (try clear p6); (try clear c7); (try clear c7b0); (try clear c7b1); (try clear c8); (try clear c13); (try clear c18); (try clear c18b0); (try clear c19); (try clear c19b0); (try clear p19); (try clear q19); (try clear hx19); (try clear qi19); (try clear c20); (try clear p20); (try clear q20); (try clear hx20); (try clear q21); (try clear c22); (try clear c23); (try clear c23b0); (try clear c23b1); (try clear hcv24); (try clear hx199_0); (try clear hx207_0); (try clear hx207_1); (try clear p1); (try clear p199); (try clear p2); (try clear p207); (try clear p6); (try clear q1); (try clear q199); (try clear q207); obtain ⟨kq, x1_19, rfl, HA, HJ19, HO_5, HO_7, HB⟩ := hcut
         cases kq with
         | zero => exact absurd HA.out (by simp [spec_MachineWord.j2])
         | succ kj19 =>
          have H := HA.out; clear HA
          simp only [spec_MachineWord.j2] at H
          have H' := am H
          clear H; go_wp2
          go_loopg [1, 6, 7, 8] kj19 (fun kq v1 v6 v7 v8 w' => ∃ (x1_4 : Int) (x6_4 : Int) (x7_4 : List Int) (x8_4 : Int), v1 = .int .i64 x1_4 ∧ v6 = .int .i64 x6_4 ∧ v8 = .int .i64 x8_4 ∧ Aside0 (spec_MachineWord.l1 kq l0 x1_4 t201 x6_4 x7_4 x8_4 = some r) ∧ Aside0 (kq ≤ kj19) ∧ Aside0 (Kd.R (Kd.int .i64) 3 w' w.heap.size (fun _ => True) v202 t201) ∧ Aside0 (Kd.R (Kd.int .u8) 5 w' w.heap.size (fun _ => True) v7 x7_4) ∧ Aside0 (Below w.heap.size w w'))
          case atStart => exact ⟨(x1_19), (x6_2), (x7_2), (0), sq, sq, sq, H', ⟨Nat.le_refl _⟩, ⟨rq HO_5.out⟩, ⟨rq HO_7.out⟩, ⟨bel⟩⟩
          case round =>
           clear H'; (try clear c1); (try clear p1); (try clear q1); (try clear hx1); (try clear qi1); (try clear c2); (try clear p2); (try clear q2); (try clear hx2); (try clear hcv2); (try clear c3); (try clear c5); (try clear p6); (try clear c7); (try clear c7b0); (try clear c7b1); (try clear c8); (try clear c13); (try clear c18); (try clear c18b0); (try clear c19); (try clear c19b0); (try clear p19); (try clear q19); (try clear hx19); (try clear qi19); (try clear c20); (try clear p20); (try clear q20); (try clear hx20); (try clear q21); (try clear c22); (try clear c23); (try clear c23b0); (try clear c23b1); (try clear hcv24); (try clear hx199_0); (try clear hx207_0); (try clear hx207_1); (try clear p1); (try clear p19); (try clear p199); (try clear p2); (try clear p20); (try clear p207); (try clear p6); (try clear q1); (try clear q19); (try clear q199); (try clear q2); (try clear q20); (try clear q207); (try clear q21); obtain ⟨x1_4, x6_4, x7_4, x8_4, rfl, rfl, rfl, HA, HK4, HO_5, HO_7, HB⟩ := hrel
           cases gk with
           | zero => exact absurd HA.out (by simp [spec_MachineWord.l1])
           | succ k4 =>
            have H := HA.out; clear HA
            simp only [spec_MachineWord.l1] at H
            by_cases c25 : 0 ≤ x6_4
            ·rw [if_pos c25] at H; have c25b0 := decide_eq_true c25; clear c25
             by_cases c26 : x6_4 < (l0.length : Int)
             ·rw [if_pos c26] at H; have c26b0 := decide_eq_true c26; clear c26
              by_cases c27 : x8_4 < (((rd_T94 l0 x6_4).f1).length : Int)
              ·rw [if_pos c27] at H; have c27b0 := decide_eq_true c27; clear c27
               by_cases c28 : 0 ≤ x8_4
               ·rw [if_pos c28] at H; have c28b0 := decide_eq_true c28; clear c28
                by_cases c29 : 0 ≤ ((rd_T100 ((rd_T94 l0 x6_4).f1) x8_4).f1)
                ·rw [if_pos c29] at H; have c29b0 := decide_eq_true c29; clear c29
                 by_cases c30 : ((rd_T100 ((rd_T94 l0 x6_4).f1) x8_4).f1) < (t201.length : Int)
                 ·rw [if_pos c30] at H; have c30b0 := decide_eq_true c30; clear c30
                  by_cases c31 : x1_4 < (rd t201 ((rd_T100 ((rd_T94 l0 x6_4).f1) x8_4).f1))
                  ·rw [if_pos c31] at H; have c31b0 := decide_eq_true c31; clear c31
                   by_cases c32 : x7_4.length < 140737488355328
                   ·rw [if_pos c32] at H; have LMc32 := Aside0.mk c32; clear c32; obtain ⟨y213, hy213⟩ : ∃ y_ : List Int, y_ = (x7_4 ++ [((rd_T100 ((rd_T94 l0 x6_4).f1) x8_4).f0) % 256]) := ⟨_, rfl⟩
                    replace H : (spec_MachineWord.l0 k4 l0 x1_4 t201 ((rd_T100 ((rd_T94 l0 x6_4).f1) x8_4).f1) y213) = some r := by first | (rw [hy213]; with_reducible exact H) | (have H2_ := (Option.bind_some _ _).symm.trans H; rw [hy213]; with_reducible exact H2_) | (have H2_ := (Option.bind_some _ _).symm.trans H; with_reducible exact H2_) | with_reducible exact H | (rw [hy213]; exact H) | exact H
                    have Ny213 := am hy213; clear hy213
                    have H' := am H
                    clear H
                    have p208 : 0 ≤ (x6_4 : Int) := of_decide_eq_true ad
                    have q208 : x6_4 < (l0.length : Int) := of_decide_eq_true ad
                    obtain ⟨ad208, A208_1, c208_1, e208, hx208_0, hx208_1, hl208_1, hi208_1⟩ := at_T94 HR0.out x6_4 p208 q208
                    obtain rfl : ad207 = ad208 := (by injection e208)
                    replace hx208_0 := kp HB.out hx208_0; replace hx208_1 := kp HB.out hx208_1; have HR208_1 := am hi208_1; have HC208_1 := am hl208_1; clear hi208_1 hl208_1; replace p208 := eq_true p208; replace q208 := eq_true q208
                    have p209 : 0 ≤ (x6_4 : Int) := of_decide_eq_true ad
                    have q209 : x6_4 < (l0.length : Int) := of_decide_eq_true ad
                    obtain ⟨ad209, A209_1, c209_1, e209, hx209_0, hx209_1, hl209_1, hi209_1⟩ := at_T94 HR0.out x6_4 p209 q209
                    obtain rfl : ad207 = ad209 := (by injection e209)
                    replace hx209_0 := kp HB.out hx209_0; replace hx209_1 := kp HB.out hx209_1; have HR209_1 := am hi209_1; have HC209_1 := am hl209_1; clear hi209_1 hl209_1; replace p209 := eq_true p209; replace q209 := eq_true q209; have ea_ := Option.some.inj (hx208_1.symm.trans hx209_1)
                    injection ea_ with ea_ en_ ec_
                    subst ea_; subst ec_; clear en_
                    have p210 : 0 ≤ (x8_4 : Int) := of_decide_eq_true ad
                    have q210 : x8_4 < (((rd_T94 l0 x6_4).f1).length : Int) := of_decide_eq_true ad
                    obtain ⟨ad210, e210, hx210_0, hx210_1⟩ := at_T100 HR209_1.out x8_4 p210 q210
                    cases e210
                    replace hx210_0 := kp HB.out hx210_0; replace hx210_1 := kp HB.out hx210_1; replace p210 := eq_true p210; replace q210 := eq_true q210
                    go_wp2_with (first | ((with_reducible refine gate_dst (N := 9) rfl ?_); refine bx 9 (cs := #[.int .i64 0, .int .i64 0]) (t := 100) ?_; intro gb211 hg w33 hbox hb; replace HO_5 := am (Kd.R_below (rq HO_5.out) hb); replace HO_7 := am (Kd.R_below (rq HO_7.out) hb); have BK211 := am (hbox); have GW211 := am ((b15_ : w.heap.size ≤ gb211)); have GE211 := am ((b15_ : w.heap.size ≤ gb211)); replace HB := am (below_step bel hb); clear hb hbox hg; have hcz34_0 := bc BK211.out 0; have hcz34_1 := bc BK211.out 1; have hfz34_0 := bf BK211.out 0; have hfz34_1 := bf BK211.out 1; obtain ⟨Ao35, co35, eo35⟩ := Kd.R_slice HO_5.out; subst eo35; have p212 : 0 ≤ (((rd_T100 ((rd_T94 l0 x6_4).f1) x8_4).f1) : Int) := of_decide_eq_true ad; have q212 : ((rd_T100 ((rd_T94 l0 x6_4).f1) x8_4).f1) < (t201.length : Int) := of_decide_eq_true ad; obtain ⟨ad212, e212, hx212_0⟩ := Kd.at_int (Kd.R_reads' HO_5.out).2.2 ((rd_T100 ((rd_T94 l0 x6_4).f1) x8_4).f1) p212 q212; cases e212; have hn212_0 : ad212.block ≠ gb211 := Kd.own_blk (Kd.R_ne HO_5.out BK211.out (by decide)); have hn212_1 : ad212.block ≠ gb211 := Kd.own_blk (Kd.R_ne HO_5.out BK211.out (by decide)); replace hx212_0 := (cell_far (p := ⟨gb211, 0, none⟩) (by first | (rw [add_block]; exact hn212_0) | (show (Addr.add _ _).block ≠ _; rw [add_block]; exact hn212_0) | exact hn212_0) (.int .i64 ((rd_T100 ((rd_T94 l0 x6_4).f1) x8_4).f0))).trans hx212_0; replace hx212_0 := (cell_far (p := ⟨gb211, 1, none⟩) (by first | (rw [add_block]; exact hn212_1) | (show (Addr.add _ _).block ≠ _; rw [add_block]; exact hn212_1) | exact hn212_1) (.int .i64 ((rd_T100 ((rd_T94 l0 x6_4).f1) x8_4).f1))).trans hx212_0; clear hn212_0; clear hn212_1; replace p212 := eq_true p212; replace q212 := eq_true q212) | ((with_reducible refine gate_builtin (b := .append) (xs := #[.tmp 62, .tmp 66]) rfl ?_); at_builtin; refine Kd.R_append (Kd.int .u8) (w0 := w) w.heap.size rfl (.tmp 62) (.tmp 66) 31 5 (.int .u8 0) 1 rfl Try.underlying31 info5 rfl (by decide) (by omega) u7 x7_4 (((rd_T100 ((rd_T94 l0 x6_4).f1) x8_4).f0) % 256) [.int .u8 (((rd_T100 ((rd_T94 l0 x6_4).f1) x8_4).f0) % 256)] (fun _ => True) (fun _ => False) rfl (by first | (go_simp; done) | (go_simp; rfl)) ?aP (fun _ hk => hk.elim) ?aF ?aO ?aB ?aS ?aL ?_; (case aP => exact rfl); (case aB => exact (bel1 GE211.out)); (case aF => exact (fun _ _ => trivial)); (case aO => exact (rq (Kd.R_mono (Kd.R_far (p := ⟨gb211, 1, none⟩) (Kd.R_far (p := ⟨gb211, 0, none⟩) (Kd.R_types HO_7.out BK211.out (by decide)) (fun _ hk => hk.2) (.int .i64 ((rd_T100 ((rd_T94 l0 x6_4).f1) x8_4).f0))) (fun _ hk => hk.2) (.int .i64 ((rd_T100 ((rd_T94 l0 x6_4).f1) x8_4).f1))) (fun _ hk => trivial)))); (case aS => exact (below_size (bel1 GE211.out))); (case aL => have := LMc32.out; omega); intro v214 w36 ho hb hg hat; rw [← Ny213.out] at ho; replace HO_5 := am (Kd.R_over' (rq ((Kd.R_mono (Kd.R_far (p := ⟨gb211, 1, none⟩) (Kd.R_far (p := ⟨gb211, 0, none⟩) (Kd.R_types HO_5.out BK211.out (by decide)) (fun _ hk => hk.2) (.int .i64 ((rd_T100 ((rd_T94 l0 x6_4).f1) x8_4).f0))) (fun _ hk => hk.2) (.int .i64 ((rd_T100 ((rd_T94 l0 x6_4).f1) x8_4).f1))) (fun _ h_ => h_.1)))) (Kd.R_typed (rq ((Kd.R_mono (Kd.R_far (p := ⟨gb211, 1, none⟩) (Kd.R_far (p := ⟨gb211, 0, none⟩) (Kd.R_types HO_7.out BK211.out (by decide)) (fun _ hk => hk.2) (.int .i64 ((rd_T100 ((rd_T94 l0 x6_4).f1) x8_4).f0))) (fun _ hk => hk.2) (.int .i64 ((rd_T100 ((rd_T94 l0 x6_4).f1) x8_4).f1))) (fun _ h_ => h_.1))))) (by decide) hg); replace BK211 := am (blk_grown (g := gb211) (o := .cells #[.int .i64 ((rd_T100 ((rd_T94 l0 x6_4).f1) x8_4).f0), .int .i64 ((rd_T100 ((rd_T94 l0 x6_4).f1) x8_4).f1)] 100 (0, 0)) (by (with_reducible repeat (first | refine blk_drewN ?_ _ | refine blk_drew ?_ | refine blk_alloc ?_ _)); refine blk_put (cs := #[.int .i64 ((rd_T100 ((rd_T94 l0 x6_4).f1) x8_4).f0), .int .i64 0]) ?_ 1 _ rfl; (with_reducible repeat (first | refine blk_drewN ?_ _ | refine blk_drew ?_ | refine blk_alloc ?_ _)); refine blk_put (cs := #[.int .i64 0, .int .i64 0]) ?_ 0 _ rfl; (with_reducible repeat (first | refine blk_drewN ?_ _ | refine blk_drew ?_ | refine blk_alloc ?_ _)); exact BK211.out) hg (Kd.R_ne HO_7.out BK211.out (by decide))); replace HB := am (hb); have HO215 := am (ho); clear HO_7; clear ho hb hg hat; have hcz37_0 : w36.cell? ⟨gb211, 0, none⟩ = some (.int .i64 ((rd_T100 ((rd_T94 l0 x6_4).f1) x8_4).f0)) := (blk_cell BK211.out 0).trans rfl; have hcz37_1 : w36.cell? ⟨gb211, 1, none⟩ = some (.int .i64 ((rd_T100 ((rd_T94 l0 x6_4).f1) x8_4).f1)) := (blk_cell BK211.out 1).trans rfl; have hfz37_0 := bf BK211.out 0; have hfz37_1 := bf BK211.out 1))
                    go_roundg k4
                    case measure => have := HJ2.out; have := HK2.out; have := HJ19.out; have := HK4.out; omega
                    case rel => exact ⟨(x1_4), ((rd_T100 ((rd_T94 l0 x6_4).f1) x8_4).f1), (y213), sq, sq, H', ⟨b84_⟩, ⟨rq HO_5.out⟩, ⟨rq HO215.out⟩, ⟨bel1 GE211.out⟩⟩
                   ·rw [if_neg c32] at H
                    exact absurd H (by simp)
                  ·rw [if_neg c31] at H; have c31b0 := decide_eq_false c31; clear c31
                   have H' := am H
                   clear H
                   have p208 : 0 ≤ (x6_4 : Int) := of_decide_eq_true ad
                   have q208 : x6_4 < (l0.length : Int) := of_decide_eq_true ad
                   obtain ⟨ad208, A208_1, c208_1, e208, hx208_0, hx208_1, hl208_1, hi208_1⟩ := at_T94 HR0.out x6_4 p208 q208
                   obtain rfl : ad207 = ad208 := (by injection e208)
                   replace hx208_0 := kp HB.out hx208_0; replace hx208_1 := kp HB.out hx208_1; have HR208_1 := am hi208_1; have HC208_1 := am hl208_1; clear hi208_1 hl208_1; replace p208 := eq_true p208; replace q208 := eq_true q208
                   have p209 : 0 ≤ (x6_4 : Int) := of_decide_eq_true ad
                   have q209 : x6_4 < (l0.length : Int) := of_decide_eq_true ad
                   obtain ⟨ad209, A209_1, c209_1, e209, hx209_0, hx209_1, hl209_1, hi209_1⟩ := at_T94 HR0.out x6_4 p209 q209
                   obtain rfl : ad207 = ad209 := (by injection e209)
                   replace hx209_0 := kp HB.out hx209_0; replace hx209_1 := kp HB.out hx209_1; have HR209_1 := am hi209_1; have HC209_1 := am hl209_1; clear hi209_1 hl209_1; replace p209 := eq_true p209; replace q209 := eq_true q209; have ea_ := Option.some.inj (hx208_1.symm.trans hx209_1)
                   injection ea_ with ea_ en_ ec_
                   subst ea_; subst ec_; clear en_
                   have p210 : 0 ≤ (x8_4 : Int) := of_decide_eq_true ad
                   have q210 : x8_4 < (((rd_T94 l0 x6_4).f1).length : Int) := of_decide_eq_true ad
                   obtain ⟨ad210, e210, hx210_0, hx210_1⟩ := at_T100 HR209_1.out x8_4 p210 q210
                   cases e210
                   replace hx210_0 := kp HB.out hx210_0; replace hx210_1 := kp HB.out hx210_1; replace p210 := eq_true p210; replace q210 := eq_true q210
                   go_wp2_with (first | ((with_reducible refine gate_dst (N := 9) rfl ?_); refine bx 9 (cs := #[.int .i64 0, .int .i64 0]) (t := 100) ?_; intro gb211 hg w38 hbox hb; replace HO_5 := am (Kd.R_below (rq HO_5.out) hb); replace HO_7 := am (Kd.R_below (rq HO_7.out) hb); have BK211 := am (hbox); have GW211 := am ((b15_ : w.heap.size ≤ gb211)); have GE211 := am ((b15_ : w.heap.size ≤ gb211)); replace HB := am (below_step bel hb); clear hb hbox hg; have hcz39_0 := bc BK211.out 0; have hcz39_1 := bc BK211.out 1; have hfz39_0 := bf BK211.out 0; have hfz39_1 := bf BK211.out 1; obtain ⟨Ao40, co40, eo40⟩ := Kd.R_slice HO_5.out; subst eo40; have p212 : 0 ≤ (((rd_T100 ((rd_T94 l0 x6_4).f1) x8_4).f1) : Int) := of_decide_eq_true ad; have q212 : ((rd_T100 ((rd_T94 l0 x6_4).f1) x8_4).f1) < (t201.length : Int) := of_decide_eq_true ad; obtain ⟨ad212, e212, hx212_0⟩ := Kd.at_int (Kd.R_reads' HO_5.out).2.2 ((rd_T100 ((rd_T94 l0 x6_4).f1) x8_4).f1) p212 q212; cases e212; have hn212_0 : ad212.block ≠ gb211 := Kd.own_blk (Kd.R_ne HO_5.out BK211.out (by decide)); have hn212_1 : ad212.block ≠ gb211 := Kd.own_blk (Kd.R_ne HO_5.out BK211.out (by decide)); replace hx212_0 := (cell_far (p := ⟨gb211, 0, none⟩) (by first | (rw [add_block]; exact hn212_0) | (show (Addr.add _ _).block ≠ _; rw [add_block]; exact hn212_0) | exact hn212_0) (.int .i64 ((rd_T100 ((rd_T94 l0 x6_4).f1) x8_4).f0))).trans hx212_0; replace hx212_0 := (cell_far (p := ⟨gb211, 1, none⟩) (by first | (rw [add_block]; exact hn212_1) | (show (Addr.add _ _).block ≠ _; rw [add_block]; exact hn212_1) | exact hn212_1) (.int .i64 ((rd_T100 ((rd_T94 l0 x6_4).f1) x8_4).f1))).trans hx212_0; clear hn212_0; clear hn212_1; replace p212 := eq_true p212; replace q212 := eq_true q212; have p216 : 0 ≤ (((rd_T100 ((rd_T94 l0 x6_4).f1) x8_4).f1) : Int) := of_decide_eq_true ad; have q216 : ((rd_T100 ((rd_T94 l0 x6_4).f1) x8_4).f1) < (t201.length : Int) := of_decide_eq_true ad; obtain ⟨ad216, e216, hx216_0⟩ := Kd.at_int (Kd.R_reads' HO_5.out).2.2 ((rd_T100 ((rd_T94 l0 x6_4).f1) x8_4).f1) p216 q216; obtain rfl : ad212 = ad216 := (by injection e216); have hn216_0 : ad212.block ≠ gb211 := Kd.own_blk (Kd.R_ne HO_5.out BK211.out (by decide)); have hn216_1 : ad212.block ≠ gb211 := Kd.own_blk (Kd.R_ne HO_5.out BK211.out (by decide)); replace hx216_0 := (cell_far (p := ⟨gb211, 0, none⟩) (by first | (rw [add_block]; exact hn216_0) | (show (Addr.add _ _).block ≠ _; rw [add_block]; exact hn216_0) | exact hn216_0) (.int .i64 ((rd_T100 ((rd_T94 l0 x6_4).f1) x8_4).f0))).trans hx216_0; replace hx216_0 := (cell_far (p := ⟨gb211, 1, none⟩) (by first | (rw [add_block]; exact hn216_1) | (show (Addr.add _ _).block ≠ _; rw [add_block]; exact hn216_1) | exact hn216_1) (.int .i64 ((rd_T100 ((rd_T94 l0 x6_4).f1) x8_4).f1))).trans hx216_0; clear hn216_0; clear hn216_1; replace p216 := eq_true p216; replace q216 := eq_true q216))
                   go_roundg k4
                   case measure => have := HJ2.out; have := HK2.out; have := HJ19.out; have := HK4.out; omega
                   case rel => exact ⟨(wrap64 (x1_4 - (rd t201 ((rd_T100 ((rd_T94 l0 x6_4).f1) x8_4).f1)))), (x6_4), (x7_4), (wrap64 (x8_4 + 1)), sq, sq, sq, H', ⟨b84_⟩, ⟨rq (Kd.R_mono (Kd.R_far (p := ⟨gb211, 1, none⟩) (Kd.R_far (p := ⟨gb211, 0, none⟩) (Kd.R_types HO_5.out BK211.out (by decide)) (fun _ hk => hk.2) (.int .i64 ((rd_T100 ((rd_T94 l0 x6_4).f1) x8_4).f0))) (fun _ hk => hk.2) (.int .i64 ((rd_T100 ((rd_T94 l0 x6_4).f1) x8_4).f1))) (fun _ hk => trivial))⟩, ⟨rq (Kd.R_mono (Kd.R_far (p := ⟨gb211, 1, none⟩) (Kd.R_far (p := ⟨gb211, 0, none⟩) (Kd.R_types HO_7.out BK211.out (by decide)) (fun _ hk => hk.2) (.int .i64 ((rd_T100 ((rd_T94 l0 x6_4).f1) x8_4).f0))) (fun _ hk => hk.2) (.int .i64 ((rd_T100 ((rd_T94 l0 x6_4).f1) x8_4).f1))) (fun _ hk => trivial))⟩, ⟨bel1 GE211.out⟩⟩
                 ·rw [if_neg c30] at H
                  exact absurd H (by simp)
                ·rw [if_neg c29] at H
                 exact absurd H (by simp)
               ·rw [if_neg c28] at H
                exact absurd H (by simp)
              ·rw [if_neg c27] at H; have c27b0 := decide_eq_false c27; clear c27
               have H' := am H
               clear H
               have p208 : 0 ≤ (x6_4 : Int) := of_decide_eq_true ad
               have q208 : x6_4 < (l0.length : Int) := of_decide_eq_true ad
               obtain ⟨ad208, A208_1, c208_1, e208, hx208_0, hx208_1, hl208_1, hi208_1⟩ := at_T94 HR0.out x6_4 p208 q208
               obtain rfl : ad207 = ad208 := (by injection e208)
               replace hx208_0 := kp HB.out hx208_0; replace hx208_1 := kp HB.out hx208_1; have HR208_1 := am hi208_1; have HC208_1 := am hl208_1; clear hi208_1 hl208_1; replace p208 := eq_true p208; replace q208 := eq_true q208; go_wp2
               go_roundg k4
               case measure => have := HJ2.out; have := HK2.out; have := HJ19.out; have := HK4.out; omega
               case rel => exact ⟨(x1_4), (x6_4), (x7_4), sq, sq, H', ⟨b84_⟩, ⟨rq HO_5.out⟩, ⟨rq HO_7.out⟩, ⟨bel⟩⟩
             ·rw [if_neg c26] at H
              exact absurd H (by simp)
            ·rw [if_neg c25] at H
             exact absurd H (by simp)
       ·rw [if_neg c19] at H
        exact absurd H (by simp)
      ·rw [if_neg c18] at H
       exact absurd H (by simp)

/-! ### spec_MachineCount: function 40 -/
def spec_MachineCount.f (k : Nat) (l0 : List (S94)) : Option (Int) := (spec_MachineOk.f k l0).bind fun t217 => (if t217 = true then ((spec_l3Counts.f k l0).bind fun t218 => (if 0 < (t218.length : Int) then (some (rd t218 0)) else (none))) else (some 0))
set_option maxHeartbeats 8000000 in
set_option maxRecDepth 100000 in
theorem spec_MachineCount.calls (k : Nat) (A0 : Option Addr) (c0 : Nat) (l0 : List (S94)) (r : Int) (w : World) (hr0 : Kd.C k94 w A0 l0.length l0) (hc0 : l0.length ≤ c0) (h : spec_MachineCount.f k l0 = some r) :
  Calls Try.prog 40 #[.slice A0 l0.length c0] w fun e w' => e = .returned (.int .i64 r) ∧ Below w.heap.size w w' := by
 have HR0 := am hr0; have HC0 := am hc0; clear hr0 hc0; have HB := am (Below.refl w.heap.size w)
 have H : ((spec_MachineOk.f k l0).bind fun t217 => (if t217 = true then ((spec_l3Counts.f k l0).bind fun t218 => (if 0 < (t218.length : Int) then (some (rd t218 0)) else (none))) else (some 0))) = some r := h
 clear h; replace H := Option.bind_eq_some_iff.mp H; obtain ⟨t217, A20, H⟩ := H; replace H : (if t217 = true then ((spec_l3Counts.f k l0).bind fun t218 => (if 0 < (t218.length : Int) then (some (rd t218 0)) else (none))) else (some 0)) = some r := H; have A2 := Aside0.mk A20; clear A20
 by_cases c3 : t217 = true
 ·subst c3
  have H1 : ((spec_l3Counts.f k l0).bind fun t218 => (if 0 < (t218.length : Int) then (some (rd t218 0)) else (none))) = some r := b21_
  replace H := H1; clear H1
  replace H := Option.bind_eq_some_iff.mp H; obtain ⟨t218, A40, H⟩ := H; replace H : (if 0 < (t218.length : Int) then (some (rd t218 0)) else (none)) = some r := H; have A4 := Aside0.mk A40; clear A40
  by_cases c5 : 0 < (t218.length : Int)
  ·rw [if_pos c5] at H; have c5b0 := decide_eq_true c5
   have c5b1 : decide (0 < t218.length) = true := decide_eq_true (by omega)
   clear c5; obtain rfl := Option.some.inj H; go_enter Try.func40, Try.ntmps40
   go_wp2_with (first | ((with_reducible refine gate_callee (f := 34) rfl ?_); refine goesL_ (some 4) rfl rfl Try.func34 (by kernel_rfl) rfl #[.slice A0 l0.length c0] rfl mq ?_; (with_reducible refine (spec_MachineOk.calls k _ _ l0 true _ ?side1 ?side2 A2.out).mono ?_); (case side1 => repeat (first | exact HR0.out | (with_reducible refine Kd.C_alloc ?_ _) | (with_reducible refine Kd.C_drewN ?_ _) | (with_reducible refine Kd.C_drew ?_))); (case side2 => exact HC0.out); rintro e w6 ⟨rfl, hb⟩; refine ⟨_, rfl, ?_⟩; replace HB := am (below_step bel hb); (try clear hb); (try clear hb2); (try clear hk); (try clear hi)) | ((with_reducible refine gate_callee (f := 83) rfl ?_); refine goesL_ (some 7) rfl rfl Try.func83 (by kernel_rfl) rfl #[.slice A0 l0.length c0] rfl mq ?_; (with_reducible refine (spec_l3Counts.calls k _ _ l0 t218 _ ?side1 ?side2 A4.out).mono ?_); (case side1 => exact cq (Kd.C_below HR0.out HB.out)); (case side2 => exact HC0.out); rintro e w7 ⟨v219, rfl, ho0, hb⟩; refine ⟨_, rfl, ?_⟩; have HO220 := am (Kd.R_lower ho0 (below_size bel)); replace HB := am (below_step bel hb); (try clear hb); (try clear hb2); (try clear hk); (try clear hi); (try clear ho0); obtain ⟨Ao8, co8, eo8⟩ := Kd.R_slice HO220.out; subst eo8; have p221 : 0 ≤ (0 : Int) := (by omega); have q221 : 0 < (t218.length : Int) := of_decide_eq_true ad; obtain ⟨ad221, e221, hx221_0⟩ := Kd.at_int (Kd.R_reads' HO220.out).2.2 0 p221 q221; cases e221; have qi221 : (0 < t218.length) = True := eq_true (by omega); (try rw [show ((0 : Int)).toNat = 0 from rfl] at hx221_0); (try rw [Addr.add_zero'] at hx221_0); replace p221 := eq_true p221; replace q221 := eq_true q221))
   go_ret
   exact ⟨eq_, bel⟩
  ·rw [if_neg c5] at H
   exact absurd H (by simp)
 ·replace c3 := Bool.eq_false_iff.mpr c3; subst c3
  have H1 : (some 0) = some r := b9_
  replace H := H1; clear H1
  obtain rfl := Option.some.inj H; go_enter Try.func40, Try.ntmps40
  go_wp2_with (first | ((with_reducible refine gate_callee (f := 34) rfl ?_); refine goesL_ (some 4) rfl rfl Try.func34 (by kernel_rfl) rfl #[.slice A0 l0.length c0] rfl mq ?_; (with_reducible refine (spec_MachineOk.calls k _ _ l0 false _ ?side1 ?side2 A2.out).mono ?_); (case side1 => repeat (first | exact HR0.out | (with_reducible refine Kd.C_alloc ?_ _) | (with_reducible refine Kd.C_drewN ?_ _) | (with_reducible refine Kd.C_drew ?_))); (case side2 => exact HC0.out); rintro e w9 ⟨rfl, hb⟩; refine ⟨_, rfl, ?_⟩; replace HB := am (below_step bel hb); (try clear hb); (try clear hb2); (try clear hk); (try clear hi)))
  go_ret
  exact ⟨eq_, bel⟩

/-- A state of type 127 at block g of W; what its slices lead to came in by w0. -/
def IsS127 (w0 W : World) (g : Nat) (f0 : List Int) (f1 : Int) : Prop := ∃ A0 c0, W.heap[g]? = some (.cells #[.slice A0 f0.length c0, .int .i64 f1] 127 (0, 0)) ∧ w0.heap.size ≤ g ∧ Kd.C (Kd.int .u8) w0 A0 f0.length f0
theorem IsS127.grown {w0 W : World} {g : Nat} {f0 : List Int} {f1 : Int} {W1 : World} {row : Option Nat} (h : IsS127 w0 W g f0 f1) (hw : W.grownBy W1 row) (hne : some g ≠ row) : IsS127 w0 W1 g f0 f1 := by
 obtain ⟨A0, c0, hb, hg, hr0⟩ := h
 exact ⟨A0, c0, blk_grown hb hw hne, hg, hr0⟩
theorem IsS127.own_neN {w0 W : World} {g : Nat} {f0 : List Int} {f1 : Int} {α : Type} {d : Kd α} {e : Nat} {base : Nat} {ok : Nat → Prop} {v : Value} {xs : List α} (h : IsS127 w0 W g f0 f1) (ho : Kd.N d e W base ok v xs) (ht : e ≠ 127) : some g ≠ v.ownBlock := by
 obtain ⟨A0, c0, hb, hg, hr0⟩ := h
 exact Kd.N_ne ho hb ht
theorem IsS127.fresh {w0 W : World} {g : Nat} {f0 : List Int} {f1 : Int} (h : IsS127 w0 W g f0 f1) : ∀ k, W.heap.size ≤ k → k ≠ g := by
 obtain ⟨A0, c0, hb, hg, hr0⟩ := h
 exact Kd.freshB hb
theorem IsS127.kept {w0 W : World} {g : Nat} {f0 : List Int} {f1 : Int} {W1 : World} {S : Nat → Prop} (h : IsS127 w0 W g f0 f1) (hk : Kept W W1 S) (hne : ¬ S g) : IsS127 w0 W1 g f0 f1 := by
 obtain ⟨A0, c0, hb, hg, hr0⟩ := h
 exact ⟨A0, c0, blk_kept hb hk hne, hg, hr0⟩
theorem IsS127.below {w0 W : World} {g : Nat} {f0 : List Int} {f1 : Int} {W1 : World} (h : IsS127 w0 W g f0 f1) (hw : Below W.heap.size W W1) : IsS127 w0 W1 g f0 f1 := h.grown (grown_of_below hw none) (by simp)
theorem IsS127.alloc {w0 W : World} {g : Nat} {f0 : List Int} {f1 : Int} (h : IsS127 w0 W g f0 f1) (o : Obj) : IsS127 w0 (W.alloc o) g f0 f1 := h.below (below_alloc (Below.refl _ _) o)
theorem IsS127.drewN {w0 W : World} {g : Nat} {f0 : List Int} {f1 : Int} (h : IsS127 w0 W g f0 f1) (m : Nat) : IsS127 w0 (W.drewN m) g f0 f1 := h
theorem IsS127.drew {w0 W : World} {g : Nat} {f0 : List Int} {f1 : Int} (h : IsS127 w0 W g f0 f1) : IsS127 w0 W.drew g f0 f1 := h
theorem IsS127.at_ {w0 W : World} {g : Nat} {f0 : List Int} {f1 : Int} {w' : World} {m : Nat} (hq : W.drewN m = w') (h : IsS127 w0 W g f0 f1) : IsS127 w0 w' g f0 f1 := by subst hq; exact IsS127.drewN h m
theorem IsS127.apart {w0 W : World} {g : Nat} {f0 : List Int} {f1 : Int} {α : Type} {d : Kd α} {e : Nat} {base : Nat} {ok : Nat → Prop} {v : Value} {xs : List α} (h : IsS127 w0 W g f0 f1) (ho : d.R e W base ok v xs) (ht : ∀ q, q ∈ e :: d.E → q ≠ 127) : d.R e W base (fun k => ok k ∧ k ≠ g) v xs := by
 obtain ⟨A0, c0, hb, hg, hr0⟩ := h
 exact Kd.R_types ho hb ht
theorem IsS127.own_ne {w0 W : World} {g : Nat} {f0 : List Int} {f1 : Int} {α : Type} {d : Kd α} {e : Nat} {base : Nat} {ok : Nat → Prop} {v : Value} {xs : List α} (h : IsS127 w0 W g f0 f1) (ho : d.R e W base ok v xs) (ht : e ≠ 127) : some g ≠ v.ownBlock := by
 obtain ⟨A0, c0, hb, hg, hr0⟩ := h
 exact Kd.R_ne ho hb ht
theorem IsS127.apartQ {w0 W : World} {g : Nat} {f0 : List Int} {f1 : Int} {α : Type} {d : Kd α} {e : Nat} {base : Nat} {ok : Nat → Prop} {v : Value} {xs : List α} (h : IsS127 w0 W g f0 f1) (ho : d.Q e W base ok v xs) (ht : ∀ q, q ∈ e :: d.E → q ≠ 127) : d.Q e W base (fun k => ok k ∧ k ≠ g) v xs := by
 obtain ⟨A0, c0, hb, hg, hr0⟩ := h
 exact Kd.Q_types ho hb ht
theorem IsS127.own_neQ {w0 W : World} {g : Nat} {f0 : List Int} {f1 : Int} {α : Type} {d : Kd α} {e : Nat} {base : Nat} {ok : Nat → Prop} {v : Value} {xs : List α} (h : IsS127 w0 W g f0 f1) (ho : d.Q e W base ok v xs) (ht : e ≠ 127) : some g ≠ v.ownBlock := by
 obtain ⟨A0, c0, hb, hg, hr0⟩ := h
 exact Kd.Q_ne ho hb ht
theorem IsS127.apartS {w0 W : World} {g : Nat} {f0 : List Int} {f1 : Int} {α : Type} {d : Kd α} {e : Nat} {base : Nat} {ok : Nat → Prop} {v : Value} {xs : List α} (h : IsS127 w0 W g f0 f1) (ho : d.S e W base ok v xs) (ht : ∀ q, q ∈ e :: d.E → q ≠ 127) : d.S e W base (fun k => ok k ∧ k ≠ g) v xs := by
 obtain ⟨A0, c0, hb, hg, hr0⟩ := h
 exact Kd.S_types ho hb ht
theorem IsS127.own_neS {w0 W : World} {g : Nat} {f0 : List Int} {f1 : Int} {α : Type} {d : Kd α} {e : Nat} {base : Nat} {ok : Nat → Prop} {v : Value} {xs : List α} (h : IsS127 w0 W g f0 f1) (ho : d.S e W base ok v xs) (ht : e ≠ 127) : some g ≠ v.ownBlock := by
 obtain ⟨A0, c0, hb, hg, hr0⟩ := h
 exact Kd.S_ne ho hb ht
theorem IsS127.lt {w0 W : World} {g : Nat} {f0 : List Int} {f1 : Int} (h : IsS127 w0 W g f0 f1) : g < W.heap.size := by
 obtain ⟨A0, c0, hb, hg, hr0⟩ := h
 exact blk_lt hb
theorem IsS127.ge {w0 W : World} {g : Nat} {f0 : List Int} {f1 : Int} (h : IsS127 w0 W g f0 f1) : w0.heap.size ≤ g := by
 obtain ⟨A0, c0, hb, hg, hr0⟩ := h
 exact hg
theorem IsS127.ne_blk {w0 W : World} {g : Nat} {f0 : List Int} {f1 : Int} {a : Nat} {cs : Array Value} {t : TypeId} {fr : Nat × Nat} (h : IsS127 w0 W g f0 f1) (hb2 : W.heap[a]? = some (.cells cs t fr)) (ht : t ≠ 127) : g ≠ a := by
 obtain ⟨A0, c0, hb, hg, hr0⟩ := h
 rintro rfl
 rw [hb] at hb2
 injection hb2 with hb2
 injection hb2 with _ ht2
 exact ht ht2.symm
theorem IsS127.far {w0 W : World} {g : Nat} {f0 : List Int} {f1 : Int} {p : Addr} (h : IsS127 w0 W g f0 f1) (hne : g ≠ p.block) (u : Value) : IsS127 w0 (W.setCell p u) g f0 f1 := by
 obtain ⟨A0, c0, hb, hg, hr0⟩ := h
 exact ⟨A0, c0, blk_far hb hne u, hg, hr0⟩
theorem cellS127_0 {W : World} {g : Nat} {A0 : Option Addr} {c0 : Nat} {f0 : List Int} {f1 : Int} (h : W.heap[g]? = some (.cells #[.slice A0 f0.length c0, .int .i64 f1] 127 (0, 0))) : W.cell? ⟨g, 0, none⟩ = some (.slice A0 f0.length c0) := (blk_cell h 0).trans rfl
theorem cellS127_1 {W : World} {g : Nat} {A0 : Option Addr} {c0 : Nat} {f0 : List Int} {f1 : Int} (h : W.heap[g]? = some (.cells #[.slice A0 f0.length c0, .int .i64 f1] 127 (0, 0))) : W.cell? ⟨g, 1, none⟩ = some (.int .i64 f1) := (blk_cell h 1).trans rfl
theorem IsS127.set_1 {w0 W : World} {g : Nat} {f0 : List Int} {f1 : Int} (h : IsS127 w0 W g f0 f1) (x : Int) : IsS127 w0 (W.setCell ⟨g, 1, none⟩ (.int .i64 x)) g f0 x := by
 obtain ⟨A0, c0, hb, hg, hr0⟩ := h
 exact ⟨A0, c0, by simpa using blk_set hb 1 (.int .i64 x), hg, hr0⟩
theorem IsS127.new (w0 W : World) (A0 : Option Addr) (c0 : Nat) (f0 : List Int) (f1 : Int) (hB : Below w0.heap.size w0 W) (hr0 : Kd.C (Kd.int .u8) w0 A0 f0.length f0) : IsS127 w0 (W.alloc (.cells #[.slice A0 f0.length c0, .int .i64 f1] 127)) W.heap.size f0 f1 := ⟨A0, c0, by simpa using heap_alloc_new W _, hB.size, hr0⟩

/-! ### spec_l1Open: function 64 -/
def spec_l1Open.f (l0 : List Int) : Option (List Int × Int) := if (l0.length : Int) > 2000 then (if 2000 ≤ (l0.length : Int) then (some (l0.take 2000, 0)) else (none)) else (some (l0, 0))
set_option maxHeartbeats 8000000 in
set_option maxRecDepth 100000 in
theorem spec_l1Open.calls (A0 : Option Addr) (c0 : Nat) (l0 : List Int) (r1 : List Int) (r2 : Int) (w0 w : World) (hB : Below w0.heap.size w0 w) (hr0 : Kd.C (Kd.int .u8) w0 A0 l0.length l0) (hc0 : l0.length ≤ c0) (h : spec_l1Open.f l0 = some (r1, r2)) :
  Calls Try.prog 64 #[.slice A0 l0.length c0] w fun e w' => ∃ g_ : Nat, e = .returned (.pointer (some ⟨g_, 0, none⟩)) ∧ IsS127 w0 w' g_ r1 r2 ∧ Below w0.heap.size w0 w' ∧ Below w.heap.size w w' := by
 have hu127 := Try.underlying127; have HR0 := am hr0; have HC0 := am hc0; clear hr0 hc0; have HBW := am (Below.refl w.heap.size w); have HW0 := am hB.size; have HB := am hB; clear hB
 have H : (if (l0.length : Int) > 2000 then (if 2000 ≤ (l0.length : Int) then (some (l0.take 2000, 0)) else (none)) else (some (l0, 0))) = some (r1, r2) := h
 clear h
 by_cases c2 : (l0.length : Int) > 2000
 ·rw [if_pos c2] at H; have c2b0 := decide_eq_true c2
  have c2b1 : decide (2000 < l0.length) = true := decide_eq_true (by omega)
  clear c2
  by_cases c3 : 2000 ≤ (l0.length : Int)
  ·rw [if_pos c3] at H; have c3b0 := eq_true c3
   have c3b1 : decide (2000 ≤ (l0.length : Int)) = true := decide_eq_true c3
   clear c3
   simp only [Option.some.injEq, Prod.mk.injEq] at H
   obtain ⟨rfl, rfl⟩ := H; obtain ⟨i04, hi04, _, hsz4, _⟩ := info_parts info5
   obtain ⟨hcut4, hA4, hC4⟩ := print_take_of (P := Try.prog) (Value.int .u8) 0 31 5 .i64 Try.underlying31 hi04 hsz4 A0 c0 l0 2000 (by omega) (of_decide_eq_true ad) HC0.out
   have HR222 := am (Kd.C_of_reads (h1 := fun _ => rfl) (hA4 _ (Kd.reads_of_C HR0.out))); have HC222 := am hC4; clear hA4 hC4 hi04 hsz4; go_enter Try.func64, Try.ntmps64
   go_wp2_with (first | ((with_reducible refine gate_dst (N := 10) rfl ?_); refine bx 10 (cs := #[.slice A0 (l0.take 2000).length c0, .int .i64 0]) (t := 127) ?_; intro gb223 hg w5 hbox hb; replace HB := am (below_step bel hb); have BK223 := am (hbox); have GW223 := am ((b44_ : w.heap.size ≤ gb223)); have GE223 := am ((Nat.le_trans HW0.out (b44_ : w.heap.size ≤ gb223) : w0.heap.size ≤ gb223)); replace HBW := am (below_step HBW.out hb); clear hb hbox hg))
   go_ret
   exact ⟨_, rfl, (show IsS127 w0 _ gb223 (l0.take 2000) 0 from ⟨_, _, by (with_reducible repeat (first | refine blk_drewN ?_ _ | refine blk_drew ?_ | refine blk_alloc ?_ _)); exact BK223.out, GE223.out, HR222.out⟩), bel1 GE223.out, by repeat (first | (with_reducible first | exact HBW.out | apply below_alloc | apply pw_below_drewN | apply below_drew1 | refine below_set ?_ GW223.out) | exact HBW.out)⟩
  ·rw [if_neg c3] at H
   exact absurd H (by simp)
 ·rw [if_neg c2] at H; have c2b0 := decide_eq_false c2
  have c2b1 : decide (2000 < l0.length) = false := decide_eq_false (by omega)
  clear c2
  simp only [Option.some.injEq, Prod.mk.injEq] at H
  obtain ⟨rfl, rfl⟩ := H; go_enter Try.func64, Try.ntmps64
  go_wp2_with (first | ((with_reducible refine gate_dst (N := 10) rfl ?_); refine bx 10 (cs := #[.slice A0 l0.length c0, .int .i64 0]) (t := 127) ?_; intro gb224 hg w6 hbox hb; replace HB := am (below_step bel hb); have BK224 := am (hbox); have GW224 := am ((b44_ : w.heap.size ≤ gb224)); have GE224 := am ((Nat.le_trans HW0.out (b44_ : w.heap.size ≤ gb224) : w0.heap.size ≤ gb224)); replace HBW := am (below_step HBW.out hb); clear hb hbox hg))
  go_ret
  exact ⟨_, rfl, (show IsS127 w0 _ gb224 l0 0 from ⟨_, _, by (with_reducible repeat (first | refine blk_drewN ?_ _ | refine blk_drew ?_ | refine blk_alloc ?_ _)); exact BK224.out, GE224.out, HR0.out⟩), bel1 GE224.out, by repeat (first | (with_reducible first | exact HBW.out | apply below_alloc | apply pw_below_drewN | apply below_drew1 | refine below_set ?_ GW224.out) | exact HBW.out)⟩

end Go.Proofs.Ytfpmfaelodfecaa.QFnMachineKnows
