import Derived.Test.YtfpmfaelodfecaaQFnMachineWordx0
import Derived.Test.YtfpmfaelodfecaaQFnMachineWordx13
import Derived.Test.YtfpmfaelodfecaaQFnMachineWordx16
import Derived.Test.YtfpmfaelodfecaaVMSh2
namespace Go.Proofs.Ytfpmfaelodfecaa.QFnMachineWord
open Go.RowKit Go.Proofs.YtfpmfaelodfecaaW.PrintWords Go.Proofs.YtfpmfaelodfecaaW.PrintLast Go.Proofs.YtfpmfaelodfecaaW.PrintMore Go.Proofs.Ytfpmfaelodfecaa.Sh
attribute [local go_sem] max2_int min2_int max_two min_two max_three min_three max_four min_four   -- for this text's walks alone
set_option linter.unusedVariables false
set_option linter.unusedSimpArgs false
-- shrunk

/-! ### spec_MachineOf: function 145 -/
mutual
def spec_MachineOf.l0 : Nat → List (List ByteArray) → List (S94) → Int → Option ((List (S94)) × Bool)
 | 0, _, _, _ => none
 | k + 1, x4, x5, x6 => if x6 < (x4.length : Int) then (if 0 ≤ x6 then (if ((rd_L9 x4 x6).length : Int) > 0 then (if 0 < ((rd_L9 x4 x6).length : Int) then (spec_MachineOf.l1 k x4 x5 x6 97 ((rdOf ByteArray.empty (rd_L9 x4 x6) 0).toList == ([] : List UInt8)) (([] : List (S100)))) else (none)) else (spec_MachineOf.l1 k x4 x5 x6 97 false (([] : List (S100))))) else (none)) else (some (x5, true))
def spec_MachineOf.l1 : Nat → List (List ByteArray) → List (S94) → Int → Int → Bool → List (S100) → Option ((List (S94)) × Bool)
 | 0, _, _, _, _, _, _ => none
 | k + 1, x4, x5, x6, x8, x436000, x436001 => if x8 ≤ 122 then (if 0 ≤ x6 then (if x6 < (x4.length : Int) then ((spec_l3Ends.f k (rd_L9 x4 x6) x8).bind fun t437 => (if (t437.length : Int) > 0 then ((spec_l3At.f k x4 t437).bind fun t440 => (if x436001.length < 8796093022208 then (spec_MachineOf.l1 k x4 x5 x6 ((x8 + 1) % 256) x436000 (x436001 ++ [(⟨wrap64 (x8), t440⟩ : S100)])) else (none))) else (spec_MachineOf.l1 k x4 x5 x6 ((x8 + 1) % 256) x436000 x436001))) else (none)) else (none)) else (if x5.length < 4398046511104 then (spec_MachineOf.l0 k x4 (x5 ++ [(⟨x436000, x436001⟩ : S94)]) (wrap64 (x6 + 1))) else (none))
end
def spec_MachineOf.f (k : Nat) (l0 : List ByteArray) : Option ((List (S94)) × Bool) := (spec_l3Words.f k l0).bind fun t419 => (if t419 = true then ((spec_l3All.f k l0).bind fun t420 => (if (t420.length : Int) > 400 then (some ((([] : List (S94))), false)) else (spec_MachineOf.l0 k t420 (([] : List (S94))) 0))) else (some ((([] : List (S94))), false)))
def spec_MachineOf.T16 : Bool × List (List Nat × List Nat) := (true, [([], []), ([0], [0]), ([], []), ([2], [2]), ([], []), ([], []), ([4, 5], [4, 5]), ([3, 6], [3, 6]), ([7], [7]), ([1, 8, 6], [1, 8]), ([0, 1, 2, 3, 4, 5, 6, 7, 8, 9], []), ([10, 9, 9, 0, 1, 2, 3, 4, 5, 6, 7, 8, 9], [9, 10])])
def spec_MachineOf.B16 : List Nat := [0, 1, 0, 4, 0, 0, 48, 124, 252, 511, 1023, 2047]
theorem spec_MachineOf.tab16 : rtab .any (opsOf Try.f145 16) = spec_MachineOf.T16 := by kernel_rfl
theorem spec_MachineOf.bits16 : waitsOk spec_MachineOf.T16.2 spec_MachineOf.B16 = true := by kernel_rfl
set_option maxHeartbeats 8000000 in
set_option maxRecDepth 100000 in
theorem spec_MachineOf.calls (k : Nat) (A0 : Option Addr) (c0 : Nat) (l0 : List ByteArray) (r1 : List (S94)) (r2 : Bool) (w : World) (hr0 : Kd.C Kd.string w A0 l0.length l0) (hc0 : l0.length ≤ c0) (h : spec_MachineOf.f k l0 = some (r1, r2)) :
  Calls Try.prog 145 #[.slice A0 l0.length c0] w fun e w' => ∃ v0_ : Value, e = .returned (.tuple #[v0_, .bool r2]) ∧ Kd.S k94 94 w' w.heap.size (fun _ => True) v0_ r1 ∧ Below w.heap.size w w' := by
 have hu94 := Try.underlying94; have hu100 := Try.underlying100; have HR0 := am hr0; have HC0 := am hc0; clear hr0 hc0; have HB := am (Below.refl w.heap.size w)
 have H : ((spec_l3Words.f k l0).bind fun t419 => (if t419 = true then ((spec_l3All.f k l0).bind fun t420 => (if (t420.length : Int) > 400 then (some ((([] : List (S94))), false)) else (spec_MachineOf.l0 k t420 (([] : List (S94))) 0))) else (some ((([] : List (S94))), false)))) = some (r1, r2) := h
 clear h; replace H := Option.bind_eq_some_iff.mp H; obtain ⟨t419, A20, H⟩ := H; replace H : (if t419 = true then ((spec_l3All.f k l0).bind fun t420 => (if (t420.length : Int) > 400 then (some ((([] : List (S94))), false)) else (spec_MachineOf.l0 k t420 (([] : List (S94))) 0))) else (some ((([] : List (S94))), false))) = some (r1, r2) := H; have A2 := Aside0.mk A20; clear A20
 by_cases c3 : t419 = true
 ·subst c3
  have H1 : ((spec_l3All.f k l0).bind fun t420 => (if (t420.length : Int) > 400 then (some ((([] : List (S94))), false)) else (spec_MachineOf.l0 k t420 (([] : List (S94))) 0))) = some (r1, r2) := b20_
  replace H := H1; clear H1
  replace H := Option.bind_eq_some_iff.mp H; obtain ⟨t420, A40, H⟩ := H; replace H : (if (t420.length : Int) > 400 then (some ((([] : List (S94))), false)) else (spec_MachineOf.l0 k t420 (([] : List (S94))) 0)) = some (r1, r2) := H; have A4 := Aside0.mk A40; clear A40
  by_cases c5 : (t420.length : Int) > 400
  ·rw [if_pos c5] at H; have c5b0 := decide_eq_true c5
   have c5b1 : decide (400 < t420.length) = true := decide_eq_true (by omega)
   clear c5; obtain ⟨y423, hy423⟩ : ∃ y_ : List (S94), y_ = (([] : List (S94))) := ⟨_, rfl⟩
   replace H : (some (y423, false)) = some (r1, r2) := by first | (rw [hy423]; with_reducible exact H) | (have H2_ := (Option.bind_some _ _).symm.trans H; rw [hy423]; with_reducible exact H2_) | (have H2_ := (Option.bind_some _ _).symm.trans H; with_reducible exact H2_) | with_reducible exact H | (rw [hy423]; exact H) | exact H
   have Ny423 := am hy423; clear hy423
   simp only [Option.some.injEq, Prod.mk.injEq] at H
   obtain ⟨rfl, rfl⟩ := H; go_enter Try.func145, Try.ntmps145
   go_wp2_with (first | ((with_reducible refine gate_callee (f := 56) rfl ?_); refine goesL_ (some 11) rfl rfl Try.func56 (by kernel_rfl) rfl #[.slice A0 l0.length c0] rfl mq ?_; (with_reducible refine (spec_l3Words.calls k _ _ l0 true _ ?side1 ?side2 A2.out).mono ?_); (case side1 => repeat (first | exact HR0.out | (with_reducible refine Kd.C_alloc ?_ _) | (with_reducible refine Kd.C_drewN ?_ _) | (with_reducible refine Kd.C_drew ?_))); (case side2 => exact HC0.out); rintro e w' ⟨rfl, ⟨nd, rfl⟩⟩; refine ⟨_, rfl, ?_⟩) | ((with_reducible refine gate_callee (f := 167) rfl ?_); refine goesL_ (some 15) rfl rfl Try.func167 (by kernel_rfl) rfl #[.slice A0 l0.length c0] rfl mq ?_; (with_reducible refine (spec_l3All.calls k (fun k_ => k_ < w.heap.size) _ _ l0 t420 _ ?side1 A4.out).mono ?_); (case side1 => exact Kd.V_mk HC0.out (Kd.F_below (Kd.C_F Kd.heap_string HR0.out) bel)); rintro e w6 ⟨v421, rfl, ho0, hb⟩; refine ⟨_, rfl, ?_⟩; have HO422 := am (Kd.N_lower (Kd.N_mono (ok' := fun k_ => True) ho0 (fun k_ hk_ => trivial)) (below_size bel)); replace HB := am (below_step bel hb); (try clear hb); (try clear hb2); (try clear hk); (try clear hi); (try clear ho0); obtain ⟨Ao7, co7, eo7⟩ := Kd.N_slice HO422.out; subst eo7) | ((with_reducible refine gate_dst (N := 19) rfl ?_); refine Kd.S_lit k94 _ 94 ?hg (N := 19) ?hd (xs := ([] : List (S94))) (inner := []) (ok := fun _ => True) (okp := fun _ => True) ?hr ?hp (fun _ hk => hk) trivial (Below.refl _ _) (Nat.le_refl _) (by simp) ?_; (case hd => rfl); (case hg => rfl); (case hr => first | (go_simp; done) | (go_simp; rfl)); (case hp => exact (Reps.none _ _)); intro v424 w8 ho9 hb hg_ hnew_; clear hg_ hnew_; (first | rw [← Ny423.out] at ho9 | (simp only [Int.reduceToNat] at ho9; rw [← Ny423.out] at ho9) | (simp only [Int.toNat_natCast] at ho9; rw [← Ny423.out] at ho9)); replace HO422 := am (Kd.N_elder' (by (with_reducible repeat (first | apply Kd.N_alloc | apply Kd.N_drewN | apply Kd.N_drew)); exact HO422.out) (Kd.S_base ho9) hb); have HO425 := am (Kd.S_lower ho9 (below_size bel)); replace HB := am (below_step bel hb); clear hb ho9))
   go_ret2
   exact ⟨_, eq_, by (with_reducible repeat (first | apply Kd.S_alloc | apply Kd.S_drewN | apply Kd.S_drew)); exact HO425.out, bel⟩
  ·rw [if_neg c5] at H; have c5b0 := decide_eq_false c5
   have c5b1 : decide (400 < t420.length) = false := decide_eq_false (by omega)
   clear c5; obtain ⟨y426, hy426⟩ : ∃ y_ : List (S94), y_ = (([] : List (S94))) := ⟨_, rfl⟩
   replace H : (spec_MachineOf.l0 k t420 y426 0) = some (r1, r2) := by first | (rw [hy426]; with_reducible exact H) | (have H2_ := (Option.bind_some _ _).symm.trans H; rw [hy426]; with_reducible exact H2_) | (have H2_ := (Option.bind_some _ _).symm.trans H; with_reducible exact H2_) | with_reducible exact H | (rw [hy426]; exact H) | exact H
   have Ny426 := am hy426; clear hy426
   have H' := am H
   clear H; go_enter Try.func145, Try.ntmps145
   go_wp2_with (first | ((with_reducible refine gate_callee (f := 56) rfl ?_); refine goesL_ (some 11) rfl rfl Try.func56 (by kernel_rfl) rfl #[.slice A0 l0.length c0] rfl mq ?_; (with_reducible refine (spec_l3Words.calls k _ _ l0 true _ ?side1 ?side2 A2.out).mono ?_); (case side1 => repeat (first | exact HR0.out | (with_reducible refine Kd.C_alloc ?_ _) | (with_reducible refine Kd.C_drewN ?_ _) | (with_reducible refine Kd.C_drew ?_))); (case side2 => exact HC0.out); rintro e w' ⟨rfl, ⟨nd, rfl⟩⟩; refine ⟨_, rfl, ?_⟩) | ((with_reducible refine gate_callee (f := 167) rfl ?_); refine goesL_ (some 15) rfl rfl Try.func167 (by kernel_rfl) rfl #[.slice A0 l0.length c0] rfl mq ?_; (with_reducible refine (spec_l3All.calls k (fun k_ => k_ < w.heap.size) _ _ l0 t420 _ ?side1 A4.out).mono ?_); (case side1 => exact Kd.V_mk HC0.out (Kd.F_below (Kd.C_F Kd.heap_string HR0.out) bel)); rintro e w10 ⟨v421, rfl, ho0, hb⟩; refine ⟨_, rfl, ?_⟩; have HO422 := am (Kd.N_lower (Kd.N_mono (ok' := fun k_ => True) ho0 (fun k_ hk_ => trivial)) (below_size bel)); replace HB := am (below_step bel hb); (try clear hb); (try clear hb2); (try clear hk); (try clear hi); (try clear ho0); obtain ⟨Ao11, co11, eo11⟩ := Kd.N_slice HO422.out; subst eo11) | ((with_reducible refine gate_dst (N := 20) rfl ?_); refine Kd.S_lit k94 _ 94 ?hg (N := 20) ?hd (xs := ([] : List (S94))) (inner := []) (ok := fun _ => True) (okp := fun _ => True) ?hr ?hp (fun _ hk => hk) trivial (Below.refl _ _) (Nat.le_refl _) (by simp) ?_; (case hd => rfl); (case hg => rfl); (case hr => first | (go_simp; done) | (go_simp; rfl)); (case hp => exact (Reps.none _ _)); intro v427 w12 ho13 hb hg_ hnew_; clear hg_ hnew_; (first | rw [← Ny426.out] at ho13 | (simp only [Int.reduceToNat] at ho13; rw [← Ny426.out] at ho13) | (simp only [Int.toNat_natCast] at ho13; rw [← Ny426.out] at ho13)); replace HO422 := am (Kd.N_elder' (by (with_reducible repeat (first | apply Kd.N_alloc | apply Kd.N_drewN | apply Kd.N_drew)); exact HO422.out) (Kd.S_base ho13) hb); have HO428 := am (Kd.S_lower ho13 (below_size bel)); replace HB := am (below_step bel hb); clear hb ho13))
   go_loopg [5, 6] k (fun kq v5 v6 w' => ∃ (x5_1 : List (S94)) (x6_1 : Int), v6 = .int .i64 x6_1 ∧ Aside0 (spec_MachineOf.l0 kq t420 x5_1 x6_1 = some (r1, r2)) ∧ Aside0 (kq ≤ k) ∧ Aside0 (Kd.N (Kd.slice 9 Kd.string) 22 w' w.heap.size (fun k_ => some k_ ≠ (v5 : Value).ownBlock) (.slice Ao11 t420.length co11) t420) ∧ Aside0 (Kd.S k94 94 w' w.heap.size (fun _ => True) v5 x5_1) ∧ Aside0 (Below w.heap.size w w'))
   case atStart => exact ⟨(y426), (0), sq, H', ⟨Nat.le_refl _⟩, ⟨by (with_reducible repeat (first | apply Kd.N_alloc | apply Kd.N_drewN | apply Kd.N_drew)); exact Kd.N_mono HO422.out (fun _ hk => hk.2)⟩, ⟨by (with_reducible repeat (first | apply Kd.S_alloc | apply Kd.S_drewN | apply Kd.S_drew)); exact HO428.out⟩, ⟨bel⟩⟩
   case round =>
    clear H'; (try clear c1); (try clear p2); (try clear c3); (try clear c5); (try clear c5b0); (try clear c5b1); obtain ⟨x5_1, x6_1, rfl, HA, HK1, HO_4, HO_5, HB⟩ := hrel
    cases gk with
    | zero => exact absurd HA.out (by simp [spec_MachineOf.l0])
    | succ k1 =>
     have H := HA.out; clear HA
     simp only [spec_MachineOf.l0] at H
     by_cases c14 : x6_1 < (t420.length : Int)
     ·rw [if_pos c14] at H; have c14b0 := decide_eq_true c14; clear c14
      by_cases c15 : 0 ≤ x6_1
      ·rw [if_pos c15] at H; have c15b0 := decide_eq_true c15; clear c15
       by_cases c16 : ((rd_L9 t420 x6_1).length : Int) > 0
       ·rw [if_pos c16] at H; have c16b0 := decide_eq_true c16
        have c16b1 : decide (0 < (rd_L9 t420 x6_1).length) = true := decide_eq_true (by omega)
        clear c16
        by_cases c17 : 0 < ((rd_L9 t420 x6_1).length : Int)
        ·rw [if_pos c17] at H; have c17b0 := decide_eq_true c17
         have c17b1 : decide (0 < (rd_L9 t420 x6_1).length) = true := decide_eq_true (by omega)
         clear c17; obtain ⟨y432, hy432⟩ : ∃ y_ : List (S100), y_ = (([] : List (S100))) := ⟨_, rfl⟩
         replace H : (spec_MachineOf.l1 k1 t420 x5_1 x6_1 97 ((rdOf ByteArray.empty (rd_L9 t420 x6_1) 0).toList == ([] : List UInt8)) y432) = some (r1, r2) := by first | (rw [hy432]; with_reducible exact H) | (have H2_ := (Option.bind_some _ _).symm.trans H; rw [hy432]; with_reducible exact H2_) | (have H2_ := (Option.bind_some _ _).symm.trans H; with_reducible exact H2_) | with_reducible exact H | (rw [hy432]; exact H) | exact H
         rw [show ((rdOf ByteArray.empty (rd_L9 t420 x6_1) 0).toList == ([] : List UInt8)) = (rdOf ByteArray.empty (rd_L9 t420 x6_1) 0).toList.isEmpty from by generalize (rdOf ByteArray.empty (rd_L9 t420 x6_1) 0).toList = l_; cases l_ <;> rfl] at H
         have Ny432 := am hy432; clear hy432
         have H' := am H
         clear H
         have p429 : 0 ≤ (x6_1 : Int) := of_decide_eq_true ad
         have q429 : x6_1 < (t420.length : Int) := of_decide_eq_true ad
         obtain ⟨ad429, A429_0, c429_0, e429, hx429_0, hl429_0, hi429_0⟩ := at_L9 (Kd.N_reads' HO_4.out).2.2 x6_1 p429 q429
         cases e429
         obtain ⟨ce429, hce429, hMe429, hcc429⟩ := Kd.N_get HO_4.out [] x6_1 p429 (by first | exact q429 | exact of_decide_eq_true ad | (have e_ := (Kd.N_reads' HO_4.out).1; omega))
         obtain ⟨ua429_0, uc429_0, rfl, ul429_0, ge429_0⟩ := Kd.FK_slice_open hMe429; have hv429_0 := hcc429 0 _ rfl; rw [Nat.add_zero, show ((Kd.slice 9 Kd.string)).sz = 1 from rfl, Nat.mul_one] at hv429_0; replace hv429_0 := Option.some.inj (hv429_0.symm.trans hx429_0)
         injection hv429_0 with hva_ hvn_ hvc_
         rw [hva_] at ge429_0; rw [hvc_] at ul429_0; have HL429_0 := am (show Kd.V Kd.string 9 _ w.heap.size _ _ (rd_L9 t420 x6_1) from Kd.V_mk ul429_0 ge429_0); clear hva_ hvn_ hvc_ ge429_0 ul429_0; clear hcc429 hce429; have HR429_0 := am hi429_0; have HC429_0 := am hl429_0; clear hi429_0 hl429_0; replace p429 := eq_true p429; replace q429 := eq_true q429
         have p430 : 0 ≤ (x6_1 : Int) := of_decide_eq_true ad
         have q430 : x6_1 < (t420.length : Int) := of_decide_eq_true ad
         obtain ⟨ad430, A430_0, c430_0, e430, hx430_0, hl430_0, hi430_0⟩ := at_L9 (Kd.N_reads' HO_4.out).2.2 x6_1 p430 q430
         obtain rfl : ad429 = ad430 := (by injection e430)
         obtain ⟨ce430, hce430, hMe430, hcc430⟩ := Kd.N_get HO_4.out [] x6_1 p430 (by first | exact q430 | exact of_decide_eq_true ad | (have e_ := (Kd.N_reads' HO_4.out).1; omega))
         obtain ⟨ua430_0, uc430_0, rfl, ul430_0, ge430_0⟩ := Kd.FK_slice_open hMe430; have hv430_0 := hcc430 0 _ rfl; rw [Nat.add_zero, show ((Kd.slice 9 Kd.string)).sz = 1 from rfl, Nat.mul_one] at hv430_0; replace hv430_0 := Option.some.inj (hv430_0.symm.trans hx430_0)
         injection hv430_0 with hva_ hvn_ hvc_
         rw [hva_] at ge430_0; rw [hvc_] at ul430_0; have HL430_0 := am (show Kd.V Kd.string 9 _ w.heap.size _ _ (rd_L9 t420 x6_1) from Kd.V_mk ul430_0 ge430_0); clear hva_ hvn_ hvc_ ge430_0 ul430_0; clear hcc430 hce430; have HR430_0 := am hi430_0; have HC430_0 := am hl430_0; clear hi430_0 hl430_0; replace p430 := eq_true p430; replace q430 := eq_true q430; have ea_ := Option.some.inj (hx429_0.symm.trans hx430_0)
         injection ea_ with ea_ en_ ec_
         subst ea_; subst ec_; clear en_
         have p431 : 0 ≤ (0 : Int) := (by omega)
         have q431 : 0 < ((rd_L9 t420 x6_1).length : Int) := of_decide_eq_true ad
         obtain ⟨ad431, e431, hx431_0⟩ := Kd.at_string b45_ 0 p431 q431
         cases e431
         have qi431 : (0 < (rd_L9 t420 x6_1).length) = True := eq_true (by omega)
         (try rw [show ((0 : Int)).toNat = 0 from rfl] at hx431_0)
         (try rw [Addr.add_zero'] at hx431_0)
         replace p431 := eq_true p431; replace q431 := eq_true q431
         go_wp2_with (first | ((with_reducible refine gate_dst (N := 42) rfl ?_); refine Kd.R_lit k100 _ 100 ?hg (N := 42) ?hd (xs := ([] : List (S100))) (inner := []) (ok := fun _ => True) (okp := fun _ => True) ?hr ?hp (fun _ hk => hk) trivial (Below.refl _ _) (Nat.le_refl _) (by simp) ?_; (case hd => rfl); (case hg => rfl); (case hr => first | (go_simp; done) | (go_simp; rfl)); (case hp => exact (Reps.none _ _)); intro v433 w18 ho19 hb hg_ hnew_; clear hg_ hnew_; (first | rw [← Ny432.out] at ho19 | (simp only [Int.reduceToNat] at ho19; rw [← Ny432.out] at ho19) | (simp only [Int.toNat_natCast] at ho19; rw [← Ny432.out] at ho19)); replace HO_4 := am (Kd.N_elder' b29_ (Kd.R_base ho19) hb); replace HO_5 := am (Kd.S_elder' b19_ (Kd.R_base ho19) hb); replace HL429_0 := am (Kd.V_elder' (vq HL429_0.out) (Kd.R_base ho19) hb); replace HL430_0 := am (Kd.V_elder' (vq HL430_0.out) (Kd.R_base ho19) hb); have HO434 := am (Kd.R_lower ho19 (below_size bel)); replace HR429_0 := am (Kd.C_below b32_ hb); replace HR430_0 := am (Kd.C_below b45_ hb); replace HB := am (below_step bel hb); clear hb ho19; obtain ⟨Ao20, co20, eo20⟩ := Kd.R_slice HO434.out; subst eo20) | ((with_reducible refine gate_dst (N := 7) rfl ?_); refine bx 7 (cs := #[.bool false, .slice none 0 0]) (t := 94) ?_; intro gb435 hg w21 hbox hb; replace HO_4 := am (Kd.N_below (Kd.N_elderB b29_ gb435 (Nat.le_of_eq hg.symm)) hb); replace HO_5 := am (Kd.S_below (Kd.S_elderB b19_ gb435 (Nat.le_of_eq hg.symm)) hb); replace HL429_0 := am (Kd.V_below (Kd.V_elderB (vq HL429_0.out) gb435 (Nat.le_of_eq hg.symm)) hb); replace HL430_0 := am (Kd.V_below (Kd.V_elderB (vq HL430_0.out) gb435 (Nat.le_of_eq hg.symm)) hb); replace HO434 := am (Kd.R_below (rq HO434.out) hb); replace HR429_0 := am (Kd.C_below b32_ hb); replace HR430_0 := am (Kd.C_below b45_ hb); have BK435 := am (hbox); have GW435 := am ((b13_ : w.heap.size ≤ gb435)); have GE435 := am ((b13_ : w.heap.size ≤ gb435)); replace HB := am (below_step bel hb); clear hb hbox hg; have hcz22_0 := bc BK435.out 0; have hcz22_1 := bc BK435.out 1; have hfz22_0 := bf BK435.out 0; have hfz22_1 := bf BK435.out 1))
         go_loopg [8] k1 (fun kq v8 w' => ∃ (x8_2 : Int) (x436001_2 : List (S100)) (u436001 : Value), v8 = .int .u8 x8_2 ∧ Aside0 (spec_MachineOf.l1 kq t420 x5_1 x6_1 x8_2 ((rdOf ByteArray.empty (rd_L9 t420 x6_1) 0).toList.isEmpty) x436001_2 = some (r1, r2)) ∧ Aside0 (kq ≤ k1) ∧ Aside0 (Kd.N (Kd.slice 9 Kd.string) 22 w' w.heap.size (fun k_ => some k_ ≠ (u5 : Value).ownBlock ∧ some k_ ≠ (u436001 : Value).ownBlock ∧ k_ ≠ gb435) (.slice (some ad429) t420.length co11) t420) ∧ Aside0 (Kd.S k94 94 w' w.heap.size (fun k_ => some k_ ≠ (u436001 : Value).ownBlock ∧ k_ ≠ gb435) u5 x5_1) ∧ Aside0 (Kd.R k100 100 w' w.heap.size (fun _ => True) u436001 x436001_2) ∧ Aside0 (w'.heap[gb435]? = some (.cells #[.bool ((rdOf ByteArray.empty (rd_L9 t420 x6_1) 0).toList.isEmpty), u436001] 94 (0, 0))) ∧ Aside0 (Below w.heap.size w w'))
         case atStart => exact ⟨(97), (y432), (.slice Ao20 y432.length co20), sq, H', ⟨Nat.le_refl _⟩, ⟨by (with_reducible repeat (first | apply Kd.N_alloc | apply Kd.N_drewN | apply Kd.N_drew)); exact Kd.N_mono (Kd.N_far (p := ⟨gb435, 1, none⟩) (Kd.N_far (p := ⟨gb435, 0, none⟩) (Kd.N_mono HO_4.out (fun k_ hk => (⟨hk, hk.2⟩ : _ ∧ k_ ≠ gb435))) (fun _ hk => hk.2) (.bool ((rdOf ByteArray.empty (rd_L9 t420 x6_1) 0).toList.isEmpty))) (fun _ hk => hk.2) (.slice Ao20 y432.length co20)) (fun _ hk => ⟨hk.1.1.1, ⟨hk.1.1.2, hk.1.2⟩⟩)⟩, ⟨by (with_reducible repeat (first | apply Kd.S_alloc | apply Kd.S_drewN | apply Kd.S_drew)); exact Kd.S_mono (Kd.S_far (p := ⟨gb435, 1, none⟩) (Kd.S_far (p := ⟨gb435, 0, none⟩) (Kd.S_mono HO_5.out (fun k_ hk => (⟨hk, hk.2⟩ : _ ∧ k_ ≠ gb435))) (fun _ hk => hk.2) (.bool ((rdOf ByteArray.empty (rd_L9 t420 x6_1) 0).toList.isEmpty))) (fun _ hk => hk.2) (.slice Ao20 y432.length co20)) (fun _ hk => ⟨hk.1.1.2, hk.1.2⟩)⟩, ⟨rq (Kd.R_mono (Kd.R_far (p := ⟨gb435, 1, none⟩) (Kd.R_far (p := ⟨gb435, 0, none⟩) (Kd.R_types HO434.out BK435.out (by decide)) (fun _ hk => hk.2) (.bool ((rdOf ByteArray.empty (rd_L9 t420 x6_1) 0).toList.isEmpty))) (fun _ hk => hk.2) (.slice Ao20 y432.length co20)) (fun _ hk => trivial))⟩, ⟨by (with_reducible repeat (first | refine blk_drewN ?_ _ | refine blk_drew ?_ | refine blk_alloc ?_ _)); refine blk_put (cs := #[.bool ((rdOf ByteArray.empty (rd_L9 t420 x6_1) 0).toList.isEmpty), .slice none 0 0]) ?_ 1 _ rfl; (with_reducible repeat (first | refine blk_drewN ?_ _ | refine blk_drew ?_ | refine blk_alloc ?_ _)); refine blk_put (cs := #[.bool false, .slice none 0 0]) ?_ 0 _ rfl; (with_reducible repeat (first | refine blk_drewN ?_ _ | refine blk_drew ?_ | refine blk_alloc ?_ _)); exact BK435.out⟩, ⟨bel1 GE435.out⟩⟩
         case round =>
          clear H'; (try clear c1); (try clear p2); (try clear c3); (try clear c4); (try clear p4); (try clear q4); (try clear hx4); (try clear qi4); (try clear c5); (try clear c5b0); (try clear c5b1); (try clear c14); (try clear c14b0); (try clear c15); (try clear c15b0); (try clear c16); (try clear c16b0); (try clear c16b1); (try clear c17); (try clear c17b0); (try clear c17b1); (try clear hcz22_0); (try clear hcz22_1); (try clear hfz22_0); (try clear hfz22_1); (try clear hx429_0); (try clear hx430_0); (try clear hx431_0); (try clear p2); (try clear p429); (try clear p430); (try clear p431); (try clear q429); (try clear q430); (try clear q431); obtain ⟨x8_2, x436001_2, u436001, rfl, HA, HK2, HO_4, HO_5, HO_436001, BK435, HB⟩ := hrel
          cases gk with
          | zero => exact absurd HA.out (by simp [spec_MachineOf.l1])
          | succ k2 =>
           have H := HA.out; clear HA
           simp only [spec_MachineOf.l1] at H
           by_cases c23 : x8_2 ≤ 122
           ·rw [if_pos c23] at H; have c23b0 := decide_eq_true c23; clear c23
            by_cases c24 : 0 ≤ x6_1
            ·rw [if_pos c24] at H; have c24b0 := decide_eq_true c24; clear c24
             by_cases c25 : x6_1 < (t420.length : Int)
             ·rw [if_pos c25] at H; have c25b0 := decide_eq_true c25; clear c25; replace H := Option.bind_eq_some_iff.mp H; obtain ⟨t437, A260, H⟩ := H; replace H : (if (t437.length : Int) > 0 then ((spec_l3At.f k2 t420 t437).bind fun t440 => (if x436001_2.length < 8796093022208 then (spec_MachineOf.l1 k2 t420 x5_1 x6_1 ((x8_2 + 1) % 256) ((rdOf ByteArray.empty (rd_L9 t420 x6_1) 0).toList.isEmpty) (x436001_2 ++ [(⟨wrap64 (x8_2), t440⟩ : S100)])) else (none))) else (spec_MachineOf.l1 k2 t420 x5_1 x6_1 ((x8_2 + 1) % 256) ((rdOf ByteArray.empty (rd_L9 t420 x6_1) 0).toList.isEmpty) x436001_2)) = some (r1, r2) := H; have A26 := Aside0.mk A260; clear A260
              by_cases c27 : (t437.length : Int) > 0
              ·rw [if_pos c27] at H; have c27b0 := decide_eq_true c27
               have c27b1 : decide (0 < t437.length) = true := decide_eq_true (by omega)
               clear c27; replace H := Option.bind_eq_some_iff.mp H; obtain ⟨t440, A280, H⟩ := H; replace H : (if x436001_2.length < 8796093022208 then (spec_MachineOf.l1 k2 t420 x5_1 x6_1 ((x8_2 + 1) % 256) ((rdOf ByteArray.empty (rd_L9 t420 x6_1) 0).toList.isEmpty) (x436001_2 ++ [(⟨wrap64 (x8_2), t440⟩ : S100)])) else (none)) = some (r1, r2) := H; have A28 := Aside0.mk A280; clear A280
               by_cases c29 : x436001_2.length < 8796093022208
               ·rw [if_pos c29] at H; have LMc29 := Aside0.mk c29; clear c29; obtain ⟨y441, hy441⟩ : ∃ y_ : List (S100), y_ = (x436001_2 ++ [(⟨wrap64 (x8_2), t440⟩ : S100)]) := ⟨_, rfl⟩
                replace H : (spec_MachineOf.l1 k2 t420 x5_1 x6_1 ((x8_2 + 1) % 256) ((rdOf ByteArray.empty (rd_L9 t420 x6_1) 0).toList.isEmpty) y441) = some (r1, r2) := b47_
                have Ny441 := am hy441; clear hy441
                have H' := am H
                clear H
                have p436 : 0 ≤ (x6_1 : Int) := of_decide_eq_true ad
                have q436 : x6_1 < (t420.length : Int) := of_decide_eq_true ad
                obtain ⟨ad436, A436_0, c436_0, e436, hx436_0, hl436_0, hi436_0⟩ := at_L9 (Kd.N_reads' HO_4.out).2.2 x6_1 p436 q436
                obtain rfl : ad429 = ad436 := (by injection e436)
                obtain ⟨ce436, hce436, hMe436, hcc436⟩ := Kd.N_get HO_4.out [] x6_1 p436 b60_
                obtain ⟨ua436_0, uc436_0, rfl, ul436_0, ge436_0⟩ := Kd.FK_slice_open hMe436; have hv436_0 := hcc436 0 _ rfl; rw [Nat.add_zero, show ((Kd.slice 9 Kd.string)).sz = 1 from rfl, Nat.mul_one] at hv436_0; replace hv436_0 := Option.some.inj (hv436_0.symm.trans hx436_0)
                injection hv436_0 with hva_ hvn_ hvc_
                rw [hva_] at ge436_0; rw [hvc_] at ul436_0; have HL436_0 := am (show Kd.V Kd.string 9 _ w.heap.size _ _ (rd_L9 t420 x6_1) from Kd.V_mk ul436_0 ge436_0); clear hva_ hvn_ hvc_ ge436_0 ul436_0; clear hcc436 hce436; have HR436_0 := am hi436_0; have HC436_0 := am hl436_0; clear hi436_0 hl436_0; replace p436 := eq_true p436; replace q436 := eq_true q436
                try go_wp2_with (first | ((with_reducible refine gate_callee (f := 168) rfl ?_); refine goesL_ (some 53) rfl rfl Try.func168 (by kernel_rfl) rfl #[.slice A436_0 (rd_L9 t420 x6_1).length c436_0, .int .u8 x8_2] rfl mq ?_; (with_reducible refine (spec_l3Ends.calls k2 _ _ (rd_L9 t420 x6_1) x8_2 t437 _ ?side1 ?side2 A26.out).mono ?_); (case side1 => repeat (first | exact b16_ | (with_reducible refine Kd.C_alloc ?_ _) | (with_reducible refine Kd.C_drewN ?_ _) | (with_reducible refine Kd.C_drew ?_))); (case side2 => exact HC436_0.out); rintro e w30 ⟨v438, rfl, ho0, hb⟩; refine ⟨_, rfl, ?_⟩; replace HO_4 := am (Kd.N_elder' b29_ (Kd.R_base ho0) hb); replace HO_5 := am (Kd.S_below b19_ hb); replace HO_436001 := am (Kd.R_below (rq HO_436001.out) hb); replace HL436_0 := am (Kd.V_elder' (vq HL436_0.out) (Kd.R_base ho0) hb); have HO439 := am (Kd.R_lower ho0 (below_size (bel1 GE435.out))); replace BK435 := am (blk_below (g := gb435) (o := .cells #[.bool ((rdOf ByteArray.empty (rd_L9 t420 x6_1) 0).toList.isEmpty), u436001] 94 (0, 0)) (bq BK435.out) hb); replace HR436_0 := am (Kd.C_below b16_ hb); replace HB := am (below_step (bel1 GE435.out) hb); (try clear hb); (try clear hb2); (try clear hk); (try clear hi); (try clear ho0); obtain ⟨Ao31, co31, eo31⟩ := Kd.R_slice HO439.out; subst eo31))
                replace HO_4 := am (Kd.N_drew HO_4.out); replace HO_5 := am (Kd.S_drew HO_5.out); replace HO_436001 := am (Kd.R_drew HO_436001.out); replace HL436_0 := am (Kd.V_drew HL436_0.out); replace HO439 := am (Kd.R_drew HO439.out); replace BK435 := am (blk_drew BK435.out); replace HR436_0 := am (Kd.C_drew HR436_0.out); replace HB := am (below_drew1 HB.out)
                refine start_ (n := 12) (S := fun w' => w'.cell? ⟨gb435, 0, none⟩ = some (.bool ((rdOf ByteArray.empty (rd_L9 t420 x6_1) 0).toList.isEmpty)) ∧ w'.cell? ⟨gb435, 1, none⟩ = some (u436001)) (ds := [11]) #[false, false, false, false, false, false, false, false, false, false, false, false] (by kernel_rfl) rfl rfl ⟨(blk_cell BK435.out 0).trans rfl, (blk_cell BK435.out 1).trans rfl⟩ (fun hHeld => ?_); refine with_tabW spec_MachineOf.tab16 spec_MachineOf.bits16 (fun HT_ HW_ => ?_)
                generalize w30.drew = w32 at HO_4 HO_5 HO_436001 HL436_0 HO439 BK435 HR436_0 HB hHeld ⊢
                refine pu 0 57 ?_
                refine pu 2 59 ?_
                refine pu 3 60 ?_
                refine pu 4 61 ?_
                refine pu 5 62 ?_
                refine tk2 1 58 hHeld ?_
                refine on1 6 63 (fun K hK => ?_)
                refine goes_ Try.func169 (by kernel_rfl) rfl #[.slice (some ad429) t420.length co11, .slice Ao31 t437.length co31] (by rfl) rfl rfl mq ?_
                with_reducible refine (spec_l3At.calls k2 _ _ t420 _ _ t437 t440 _ ?side1 ?side2 ?side3 ?side4 A28.out).mono ?_
                (case side1 => exact cq (Kd.N_reads' HO_4.out).2.2); (case side2 => exact (Kd.N_reads' HO_4.out).2.1); (case side3 => exact cq (Kd.R_reads' HO439.out).2.2); (case side4 => exact (Kd.R_reads' HO439.out).2.1)
                rintro e w' ⟨rfl, ⟨nd, rfl⟩⟩
                refine ⟨_, rfl, ?_⟩
                refine hK.out _ _ ⟨(blk_cell BK435.out 0).trans rfl, (blk_cell BK435.out 1).trans rfl⟩ (fun hHeld => ?_)
                clear hK K
                refine norm_ (a' := ?_) ?_ ?_
                rotate_left
                ·show Act.put _ (some 63) _ = _
                 simp only [Act.put, List.setIfInBounds_toArray, List.set_cons_zero, List.set_cons_succ, i64_w, i32_w]
                 rfl
                refine pu 7 64 ?_
                refine on1 8 65 (fun K hK => ?_)
                refine value_ (w1 := ?_) (v := ?_) (by rfl) rfl ?_ ?_
                rotate_left 2
                ·go_simp
                 constructor
                 ·rfl
                 ·rfl
                refine hK.out _ _ ⟨(blk_cell (blk_alloc BK435.out _) 0).trans rfl, (blk_cell (blk_alloc BK435.out _) 1).trans rfl⟩ (fun hHeld => ?_)
                clear hK K
                refine norm_ (a' := ?_) ?_ ?_
                rotate_left
                ·show Act.put _ (some 65) _ = _
                 simp only [Act.put, List.setIfInBounds_toArray, List.set_cons_zero, List.set_cons_succ, i64_w, i32_w]
                 rfl
                refine on1 9 66 (fun K hK => ?_)
                refine Kd.R_append_step k100 (w0 := w) w.heap.size (by rfl) (.tmp 58) (.tmp 65) 92 100 (.agg #[(.int .i64 0), (.int .i64 0)]) 16 rfl Try.underlying92 info100 rfl (by decide) (by omega) u436001 x436001_2 (⟨wrap64 (x8_2), t440⟩ : S100) [.int .i64 (wrap64 (x8_2)), .int .i64 t440] (fun _ => True) (fun _ => False) rfl rfl ?aP (fun _ hk => hk.elim) ?aF ?aO ?aB ?aS ?aL ?_
                (case aP => exact k100_mkM _ _ _ (⟨wrap64 (x8_2), t440⟩ : S100)); (case aB => exact (bel1 GE435.out)); (case aF => exact (fun _ _ => trivial)); (case aO => exact (rq HO_436001.out)); (case aS => exact (below_size (bel1 GE435.out))); (case aL => have := LMc29.out; omega); intro v442 w33 ho hb hg hat; rw [← Ny441.out] at ho
                replace HO_4 := am (Kd.N_afterv (ok := (fun k_ => some k_ ≠ (u5 : Value).ownBlock ∧ some k_ ≠ (.slice Ao31 t437.length co31 : Value).ownBlock ∧ k_ ≠ gb435)) b64_ hg hat)
                replace HO_5 := am (Kd.S_after (ok := (fun k_ => k_ ≠ gb435)) b73_ hg hat)
                replace BK435 := am (blk_grown (g := gb435) (o := .cells #[.bool ((rdOf ByteArray.empty (rd_L9 t420 x6_1) 0).toList.isEmpty), u436001] 94 (0, 0)) (bq BK435.out) hg (Kd.R_ne HO_436001.out BK435.out (by decide)))
                replace HL436_0 := am (Kd.V_afterv (ok := (fun k_ => some k_ ≠ (.slice (some ad429) t420.length co11 : Value).ownBlock ∧ some k_ ≠ (u5 : Value).ownBlock ∧ some k_ ≠ (.slice Ao31 t437.length co31 : Value).ownBlock ∧ k_ ≠ gb435)) (vq (Kd.V_mono HL436_0.out (fun _ hk => ⟨⟨hk.1.2, ⟨hk.1.1.1, ⟨hk.2, hk.1.1.2.2⟩⟩⟩, hk.1.1.2.1⟩))) hg hat)
                replace HO439 := am (Kd.R_over' (rq HO439.out) (Kd.R_typed (rq HO_436001.out)) (by decide) hg)
                replace HB := am (hb); have HO443 := am (ho); clear HO_436001; clear ho hb hg hat; obtain ⟨Ao34, co34, eo34⟩ := Kd.R_slice HO443.out
                (first | subst eo34 | (injection eo34 with f1_ f2_ f3_; have f4_ := f1_.symm; have f5_ := f3_.symm; clear f1_ f2_ f3_; subst f4_; subst f5_))
                refine hK.out _ _ ⟨(blk_cell BK435.out 0).trans rfl, (blk_cell BK435.out 1).trans rfl⟩ (fun hHeld => ?_)
                clear hK K
                refine norm_ (a' := ?_) ?_ ?_
                rotate_left
                ·show Act.put _ (some 66) _ = _
                 simp only [Act.put, List.setIfInBounds_toArray, List.set_cons_zero, List.set_cons_succ, i64_w, i32_w]
                 rfl
                refine pu 10 67 ?_
                refine last_ (i := 11) (N := none) #[true, true, true, true, true, true, true, true, true, true, true, true] rfl rfl (one_of HT_.out (by kernel_rfl)) (by decide) (fun K hK => ?_)
                have hs35 : w33.cell? ⟨gb435, 1, none⟩ = some (u436001) := (blk_cell BK435.out 1).trans rfl
                have hfs35 := bf BK435.out 1
                refine skip_ (w1 := ?_) (by rfl) rfl ?_ ?_
                rotate_left
                ·go_simp
                 rfl
                refine hK.out _ _ ?_
                clear hK K
                refine done_ (done_of HT_.out (by kernel_rfl)) ?_
                try go_wp2
                go_roundg k2
                case measure => have := HK1.out; have := HK2.out; omega
                case rel => exact ⟨((x8_2 + 1) % 256), (y441), (.slice Ao34 y441.length co34), sq, H', ⟨b27_⟩, ⟨by (with_reducible repeat (first | apply Kd.N_alloc | apply Kd.N_drewN | apply Kd.N_drew)); exact Kd.N_mono (Kd.N_far (p := ⟨gb435, 1, none⟩) (Kd.N_mono HO_4.out (fun k_ hk => (⟨hk, hk.1.2.2⟩ : _ ∧ k_ ≠ gb435))) (fun _ hk => hk.2) (.slice Ao34 y441.length co34)) (fun _ hk => ⟨hk.1.1.1, ⟨hk.1.2, hk.1.1.2.2⟩⟩)⟩, ⟨by (with_reducible repeat (first | apply Kd.S_alloc | apply Kd.S_drewN | apply Kd.S_drew)); exact Kd.S_mono (Kd.S_far (p := ⟨gb435, 1, none⟩) (Kd.S_mono HO_5.out (fun k_ hk => (⟨hk, hk.1⟩ : _ ∧ k_ ≠ gb435))) (fun _ hk => hk.2) (.slice Ao34 y441.length co34)) (fun _ hk => ⟨hk.1.2, hk.1.1⟩)⟩, ⟨rq (Kd.R_mono (Kd.R_far (p := ⟨gb435, 1, none⟩) (Kd.R_types HO443.out BK435.out (by decide)) (fun _ hk => hk.2) (.slice Ao34 y441.length co34)) (fun _ hk => trivial))⟩, ⟨by (with_reducible repeat (first | refine blk_drewN ?_ _ | refine blk_drew ?_ | refine blk_alloc ?_ _)); refine blk_put (cs := #[.bool ((rdOf ByteArray.empty (rd_L9 t420 x6_1) 0).toList.isEmpty), u436001]) ?_ 1 _ rfl; (with_reducible repeat (first | refine blk_drewN ?_ _ | refine blk_drew ?_ | refine blk_alloc ?_ _)); exact BK435.out⟩, ⟨bel1 GE435.out⟩⟩
               ·rw [if_neg c29] at H
                exact absurd H (by simp)
              ·rw [if_neg c27] at H; have c27b0 := decide_eq_false c27
               have c27b1 : decide (0 < t437.length) = false := decide_eq_false (by omega)
               clear c27
               have H' := am H
               clear H
               have p436 : 0 ≤ (x6_1 : Int) := of_decide_eq_true ad
               have q436 : x6_1 < (t420.length : Int) := of_decide_eq_true ad
               obtain ⟨ad436, A436_0, c436_0, e436, hx436_0, hl436_0, hi436_0⟩ := at_L9 (Kd.N_reads' HO_4.out).2.2 x6_1 p436 q436
               obtain rfl : ad429 = ad436 := (by injection e436)
               obtain ⟨ce436, hce436, hMe436, hcc436⟩ := Kd.N_get HO_4.out [] x6_1 p436 b60_
               obtain ⟨ua436_0, uc436_0, rfl, ul436_0, ge436_0⟩ := Kd.FK_slice_open hMe436; have hv436_0 := hcc436 0 _ rfl; rw [Nat.add_zero, show ((Kd.slice 9 Kd.string)).sz = 1 from rfl, Nat.mul_one] at hv436_0; replace hv436_0 := Option.some.inj (hv436_0.symm.trans hx436_0)
               injection hv436_0 with hva_ hvn_ hvc_
               rw [hva_] at ge436_0; rw [hvc_] at ul436_0; have HL436_0 := am (show Kd.V Kd.string 9 _ w.heap.size _ _ (rd_L9 t420 x6_1) from Kd.V_mk ul436_0 ge436_0); clear hva_ hvn_ hvc_ ge436_0 ul436_0; clear hcc436 hce436; have HR436_0 := am hi436_0; have HC436_0 := am hl436_0; clear hi436_0 hl436_0; replace p436 := eq_true p436; replace q436 := eq_true q436
               go_wp2_with (first | ((with_reducible refine gate_callee (f := 168) rfl ?_); refine goesL_ (some 53) rfl rfl Try.func168 (by kernel_rfl) rfl #[.slice A436_0 (rd_L9 t420 x6_1).length c436_0, .int .u8 x8_2] rfl mq ?_; (with_reducible refine (spec_l3Ends.calls k2 _ _ (rd_L9 t420 x6_1) x8_2 t437 _ ?side1 ?side2 A26.out).mono ?_); (case side1 => repeat (first | exact b16_ | (with_reducible refine Kd.C_alloc ?_ _) | (with_reducible refine Kd.C_drewN ?_ _) | (with_reducible refine Kd.C_drew ?_))); (case side2 => exact HC436_0.out); rintro e w36 ⟨v438, rfl, ho0, hb⟩; refine ⟨_, rfl, ?_⟩; replace HO_4 := am (Kd.N_elder' b29_ (Kd.R_base ho0) hb); replace HO_5 := am (Kd.S_below b19_ hb); replace HO_436001 := am (Kd.R_below (rq HO_436001.out) hb); replace HL436_0 := am (Kd.V_elder' (vq HL436_0.out) (Kd.R_base ho0) hb); have HO439 := am (Kd.R_lower ho0 (below_size (bel1 GE435.out))); replace BK435 := am (blk_below (g := gb435) (o := .cells #[.bool ((rdOf ByteArray.empty (rd_L9 t420 x6_1) 0).toList.isEmpty), u436001] 94 (0, 0)) (bq BK435.out) hb); replace HR436_0 := am (Kd.C_below b16_ hb); replace HB := am (below_step (bel1 GE435.out) hb); (try clear hb); (try clear hb2); (try clear hk); (try clear hi); (try clear ho0); obtain ⟨Ao37, co37, eo37⟩ := Kd.R_slice HO439.out; subst eo37))
               go_roundg k2
               case measure => have := HK1.out; have := HK2.out; omega
               case rel => exact ⟨((x8_2 + 1) % 256), (x436001_2), (u436001), sq, H', ⟨b27_⟩, ⟨b65_⟩, ⟨b19_⟩, ⟨rq HO_436001.out⟩, ⟨bq BK435.out⟩, ⟨bel1 GE435.out⟩⟩
             ·rw [if_neg c25] at H
              exact absurd H (by simp)
            ·rw [if_neg c24] at H
             exact absurd H (by simp)
           ·rw [if_neg c23] at H; have c23b0 := decide_eq_false c23; clear c23
            by_cases c38 : x5_1.length < 4398046511104
            ·rw [if_pos c38] at H; have LMc38 := Aside0.mk c38; clear c38; obtain ⟨y444, hy444⟩ : ∃ y_ : List (S94), y_ = (x5_1 ++ [(⟨((rdOf ByteArray.empty (rd_L9 t420 x6_1) 0).toList.isEmpty), x436001_2⟩ : S94)]) := ⟨_, rfl⟩
             replace H : (spec_MachineOf.l0 k2 t420 y444 (wrap64 (x6_1 + 1))) = some (r1, r2) := b48_
             have Ny444 := am hy444; clear hy444
             have H' := am H
             clear H; have hcz39_0 := bc BK435.out 0; have hcz39_1 := bc BK435.out 1; have hfz39_0 := bf BK435.out 0; have hfz39_1 := bf BK435.out 1; obtain ⟨Ao41, co41, eo41⟩ := Kd.R_slice HO_436001.out; subst eo41
             go_wp2_with (first | ((with_reducible refine gate_builtin (b := .append) (xs := #[.tmp 68, .tmp 70]) rfl ?_); at_builtin; refine Kd.S_append k94 (w0 := w) w.heap.size rfl (.tmp 68) (.tmp 70) 43 94 (.agg #[(.bool false), (.slice none 0 0)]) 32 rfl Try.underlying43 info94 rfl (by decide) (by omega) u5 x5_1 (⟨((rdOf ByteArray.empty (rd_L9 t420 x6_1) 0).toList.isEmpty), x436001_2⟩ : S94) [.bool ((rdOf ByteArray.empty (rd_L9 t420 x6_1) 0).toList.isEmpty), .slice Ao41 x436001_2.length co41] (fun k_ => k_ ≠ gb435) (fun k_ => some k_ = (.slice Ao41 x436001_2.length co41 : Value).ownBlock) rfl rfl ?aP (fun k_ hk_ => ((Kd.R_mono (ok' := fun k_ => ((fun k_ => k_ ≠ gb435)) k_ ∧ some k_ ≠ (u5 : Value).ownBlock) (Kd.R_types (Kd.R_apart' (HO_436001.out) (Kd.S_typed HO_5.out) (by decide)) BK435.out (by decide)) (fun k_ hk => ⟨hk.2, hk.1.2⟩))).1 k_ hk_.symm) ?aF ?aO ?aB ?aS ?aL ?_; (case aP => exact k94_mkM _ _ _ (⟨((rdOf ByteArray.empty (rd_L9 t420 x6_1) 0).toList.isEmpty), x436001_2⟩ : S94) (Kd.R_mono (Kd.R_tight rfl (Kd.R_mono (ok' := fun k_ => ((fun k_ => k_ ≠ gb435)) k_ ∧ some k_ ≠ (u5 : Value).ownBlock) (Kd.R_types (Kd.R_apart' (HO_436001.out) (Kd.S_typed HO_5.out) (by decide)) BK435.out (by decide)) (fun k_ hk => ⟨hk.2, hk.1.2⟩))) (fun _ h_ => h_))); (case aB => exact (bel1 GE435.out)); (case aF => exact (fun k_ hk => Kd.freshB (g := gb435) (o := .cells #[.bool ((rdOf ByteArray.empty (rd_L9 t420 x6_1) 0).toList.isEmpty), .slice Ao41 x436001_2.length co41] 94 (0, 0)) (bq BK435.out) k_ hk)); (case aO => exact b67_); (case aS => exact (below_size (bel1 GE435.out))); (case aL => have := LMc38.out; omega); intro v445 w40 ho hb hg hat; rw [← Ny444.out] at ho; replace HO_4 := am (Kd.N_afterv (ok := (fun k_ => some k_ ≠ (.slice Ao41 x436001_2.length co41 : Value).ownBlock ∧ k_ ≠ gb435)) b72_ hg hat); replace BK435 := am (blk_grown (g := gb435) (o := .cells #[.bool ((rdOf ByteArray.empty (rd_L9 t420 x6_1) 0).toList.isEmpty), .slice Ao41 x436001_2.length co41] 94 (0, 0)) (bq BK435.out) hg (Kd.S_away HO_5.out (fun _ hk => hk.2))); replace HB := am (hb); have HO446 := am (ho); clear HO_5 HO_436001; clear ho hb hg hat))
             go_roundg k2
             case measure => have := HK1.out; have := HK2.out; omega
             case rel => exact ⟨(y444), (wrap64 (x6_1 + 1)), sq, H', ⟨b27_⟩, ⟨b79_⟩, ⟨b77_⟩, ⟨bel1 GE435.out⟩⟩
            ·rw [if_neg c38] at H
             exact absurd H (by simp)
        ·rw [if_neg c17] at H
         exact absurd H (by simp)
       ·rw [if_neg c16] at H; have c16b0 := decide_eq_false c16
        have c16b1 : decide (0 < (rd_L9 t420 x6_1).length) = false := decide_eq_false (by omega)
        clear c16; obtain ⟨y447, hy447⟩ : ∃ y_ : List (S100), y_ = (([] : List (S100))) := ⟨_, rfl⟩
        replace H : (spec_MachineOf.l1 k1 t420 x5_1 x6_1 97 false y447) = some (r1, r2) := by first | (rw [hy447]; with_reducible exact H) | (have H2_ := (Option.bind_some _ _).symm.trans H; rw [hy447]; with_reducible exact H2_) | (have H2_ := (Option.bind_some _ _).symm.trans H; with_reducible exact H2_) | with_reducible exact H | (rw [hy447]; exact H) | exact H
        have Ny447 := am hy447; clear hy447
        have H' := am H
        clear H
        have p429 : 0 ≤ (x6_1 : Int) := of_decide_eq_true ad
        have q429 : x6_1 < (t420.length : Int) := of_decide_eq_true ad
        obtain ⟨ad429, A429_0, c429_0, e429, hx429_0, hl429_0, hi429_0⟩ := at_L9 (Kd.N_reads' HO_4.out).2.2 x6_1 p429 q429
        cases e429
        obtain ⟨ce429, hce429, hMe429, hcc429⟩ := Kd.N_get HO_4.out [] x6_1 p429 (by first | exact q429 | exact of_decide_eq_true ad | (have e_ := (Kd.N_reads' HO_4.out).1; omega))
        obtain ⟨ua429_0, uc429_0, rfl, ul429_0, ge429_0⟩ := Kd.FK_slice_open hMe429; have hv429_0 := hcc429 0 _ rfl; rw [Nat.add_zero, show ((Kd.slice 9 Kd.string)).sz = 1 from rfl, Nat.mul_one] at hv429_0; replace hv429_0 := Option.some.inj (hv429_0.symm.trans hx429_0)
        injection hv429_0 with hva_ hvn_ hvc_
        rw [hva_] at ge429_0; rw [hvc_] at ul429_0; have HL429_0 := am (show Kd.V Kd.string 9 _ w.heap.size _ _ (rd_L9 t420 x6_1) from Kd.V_mk ul429_0 ge429_0); clear hva_ hvn_ hvc_ ge429_0 ul429_0; clear hcc429 hce429; have HR429_0 := am hi429_0; have HC429_0 := am hl429_0; clear hi429_0 hl429_0; replace p429 := eq_true p429; replace q429 := eq_true q429
        go_wp2_with (first | ((with_reducible refine gate_dst (N := 42) rfl ?_); refine Kd.R_lit k100 _ 100 ?hg (N := 42) ?hd (xs := ([] : List (S100))) (inner := []) (ok := fun _ => True) (okp := fun _ => True) ?hr ?hp (fun _ hk => hk) trivial (Below.refl _ _) (Nat.le_refl _) (by simp) ?_; (case hd => rfl); (case hg => rfl); (case hr => first | (go_simp; done) | (go_simp; rfl)); (case hp => exact (Reps.none _ _)); intro v448 w42 ho43 hb hg_ hnew_; clear hg_ hnew_; (first | rw [← Ny447.out] at ho43 | (simp only [Int.reduceToNat] at ho43; rw [← Ny447.out] at ho43) | (simp only [Int.toNat_natCast] at ho43; rw [← Ny447.out] at ho43)); replace HO_4 := am (Kd.N_elder' b29_ (Kd.R_base ho43) hb); replace HO_5 := am (Kd.S_elder' b19_ (Kd.R_base ho43) hb); replace HL429_0 := am (Kd.V_elder' (vq HL429_0.out) (Kd.R_base ho43) hb); have HO449 := am (Kd.R_lower ho43 (below_size bel)); replace HR429_0 := am (Kd.C_below b32_ hb); replace HB := am (below_step bel hb); clear hb ho43; obtain ⟨Ao44, co44, eo44⟩ := Kd.R_slice HO449.out; subst eo44) | ((with_reducible refine gate_dst (N := 7) rfl ?_); refine bx 7 (cs := #[.bool false, .slice none 0 0]) (t := 94) ?_; intro gb435 hg w45 hbox hb; replace HO_4 := am (Kd.N_below (Kd.N_elderB b29_ gb435 (Nat.le_of_eq hg.symm)) hb); replace HO_5 := am (Kd.S_below (Kd.S_elderB b19_ gb435 (Nat.le_of_eq hg.symm)) hb); replace HL429_0 := am (Kd.V_below (Kd.V_elderB (vq HL429_0.out) gb435 (Nat.le_of_eq hg.symm)) hb); replace HO449 := am (Kd.R_below (rq HO449.out) hb); replace HR429_0 := am (Kd.C_below b32_ hb); have BK435 := am (hbox); have GW435 := am ((b13_ : w.heap.size ≤ gb435)); have GE435 := am ((b13_ : w.heap.size ≤ gb435)); replace HB := am (below_step bel hb); clear hb hbox hg; have hcz46_0 := bc BK435.out 0; have hcz46_1 := bc BK435.out 1; have hfz46_0 := bf BK435.out 0; have hfz46_1 := bf BK435.out 1))
        go_loopg [8] k1 (fun kq v8 w' => ∃ (x8_2 : Int) (x436001_2 : List (S100)) (u436001 : Value), v8 = .int .u8 x8_2 ∧ Aside0 (spec_MachineOf.l1 kq t420 x5_1 x6_1 x8_2 false x436001_2 = some (r1, r2)) ∧ Aside0 (kq ≤ k1) ∧ Aside0 (Kd.N (Kd.slice 9 Kd.string) 22 w' w.heap.size (fun k_ => some k_ ≠ (u5 : Value).ownBlock ∧ some k_ ≠ (u436001 : Value).ownBlock ∧ k_ ≠ gb435) (.slice (some ad429) t420.length co11) t420) ∧ Aside0 (Kd.S k94 94 w' w.heap.size (fun k_ => some k_ ≠ (u436001 : Value).ownBlock ∧ k_ ≠ gb435) u5 x5_1) ∧ Aside0 (Kd.R k100 100 w' w.heap.size (fun _ => True) u436001 x436001_2) ∧ Aside0 (w'.heap[gb435]? = some (.cells #[.bool false, u436001] 94 (0, 0))) ∧ Aside0 (Below w.heap.size w w'))
        case atStart => exact ⟨(97), (y447), (.slice Ao44 y447.length co44), sq, H', ⟨Nat.le_refl _⟩, ⟨by (with_reducible repeat (first | apply Kd.N_alloc | apply Kd.N_drewN | apply Kd.N_drew)); exact Kd.N_mono (Kd.N_far (p := ⟨gb435, 1, none⟩) (Kd.N_far (p := ⟨gb435, 0, none⟩) (Kd.N_mono HO_4.out (fun k_ hk => (⟨hk, hk.2⟩ : _ ∧ k_ ≠ gb435))) (fun _ hk => hk.2) (.bool false)) (fun _ hk => hk.2) (.slice Ao44 y447.length co44)) (fun _ hk => ⟨hk.1.1.1, ⟨hk.1.1.2, hk.1.2⟩⟩)⟩, ⟨by (with_reducible repeat (first | apply Kd.S_alloc | apply Kd.S_drewN | apply Kd.S_drew)); exact Kd.S_mono (Kd.S_far (p := ⟨gb435, 1, none⟩) (Kd.S_far (p := ⟨gb435, 0, none⟩) (Kd.S_mono HO_5.out (fun k_ hk => (⟨hk, hk.2⟩ : _ ∧ k_ ≠ gb435))) (fun _ hk => hk.2) (.bool false)) (fun _ hk => hk.2) (.slice Ao44 y447.length co44)) (fun _ hk => ⟨hk.1.1.2, hk.1.2⟩)⟩, ⟨rq (Kd.R_mono (Kd.R_far (p := ⟨gb435, 1, none⟩) (Kd.R_far (p := ⟨gb435, 0, none⟩) (Kd.R_types HO449.out BK435.out (by decide)) (fun _ hk => hk.2) (.bool false)) (fun _ hk => hk.2) (.slice Ao44 y447.length co44)) (fun _ hk => trivial))⟩, ⟨by (with_reducible repeat (first | refine blk_drewN ?_ _ | refine blk_drew ?_ | refine blk_alloc ?_ _)); refine blk_put (cs := #[.bool false, .slice none 0 0]) ?_ 1 _ rfl; (with_reducible repeat (first | refine blk_drewN ?_ _ | refine blk_drew ?_ | refine blk_alloc ?_ _)); refine blk_put (cs := #[.bool false, .slice none 0 0]) ?_ 0 _ rfl; (with_reducible repeat (first | refine blk_drewN ?_ _ | refine blk_drew ?_ | refine blk_alloc ?_ _)); exact BK435.out⟩, ⟨bel1 GE435.out⟩⟩
        case round =>
         clear H'; (try clear c1); (try clear c2); (try clear p2); (try clear c3); (try clear c4); (try clear p4); (try clear q4); (try clear hx4); (try clear qi4); (try clear c5); (try clear c5b0); (try clear c5b1); (try clear p6); (try clear c14); (try clear c14b0); (try clear c15); (try clear c15b0); (try clear c16); (try clear c16b0); (try clear c16b1); (try clear c17); (try clear c17b0); (try clear c17b1); (try clear c23); (try clear c23b0); (try clear c24); (try clear c24b0); (try clear c25); (try clear c25b0); (try clear c27); (try clear c27b0); (try clear c27b1); (try clear c29); (try clear c38); (try clear c42); (try clear p42); (try clear q42); (try clear hx42); (try clear c43); (try clear p43); (try clear q43); (try clear hx43); (try clear qi43); (try clear hcz22_0); (try clear hcz22_1); (try clear hcz39_0); (try clear hcz39_1); (try clear hcz46_0); (try clear hcz46_1); (try clear hfz22_0); (try clear hfz22_1); (try clear hfz39_0); (try clear hfz39_1); (try clear hfz46_0); (try clear hfz46_1); (try clear hx429_0); (try clear hx430_0); (try clear hx431_0); (try clear hx436_0); (try clear p2); (try clear p4); (try clear p429); (try clear p430); (try clear p431); (try clear p436); (try clear q4); (try clear q429); (try clear q430); (try clear q431); (try clear q436); obtain ⟨x8_2, x436001_2, u436001, rfl, HA, HK2, HO_4, HO_5, HO_436001, BK435, HB⟩ := hrel
         cases gk with
         | zero => exact absurd HA.out (by simp [spec_MachineOf.l1])
         | succ k2 =>
          have H := HA.out; clear HA
          simp only [spec_MachineOf.l1] at H
          by_cases c47 : x8_2 ≤ 122
          ·rw [if_pos c47] at H; have c47b0 := decide_eq_true c47; clear c47
           by_cases c48 : 0 ≤ x6_1
           ·rw [if_pos c48] at H; have c48b0 := decide_eq_true c48; clear c48
            by_cases c49 : x6_1 < (t420.length : Int)
            ·rw [if_pos c49] at H; have c49b0 := decide_eq_true c49; clear c49; replace H := Option.bind_eq_some_iff.mp H; obtain ⟨t437, A500, H⟩ := H; replace H : (if (t437.length : Int) > 0 then ((spec_l3At.f k2 t420 t437).bind fun t440 => (if x436001_2.length < 8796093022208 then (spec_MachineOf.l1 k2 t420 x5_1 x6_1 ((x8_2 + 1) % 256) false (x436001_2 ++ [(⟨wrap64 (x8_2), t440⟩ : S100)])) else (none))) else (spec_MachineOf.l1 k2 t420 x5_1 x6_1 ((x8_2 + 1) % 256) false x436001_2)) = some (r1, r2) := H; have A50 := Aside0.mk A500; clear A500
             by_cases c51 : (t437.length : Int) > 0
             ·rw [if_pos c51] at H; have c51b0 := decide_eq_true c51
              have c51b1 : decide (0 < t437.length) = true := decide_eq_true (by omega)
              clear c51; replace H := Option.bind_eq_some_iff.mp H; obtain ⟨t440, A520, H⟩ := H; replace H : (if x436001_2.length < 8796093022208 then (spec_MachineOf.l1 k2 t420 x5_1 x6_1 ((x8_2 + 1) % 256) false (x436001_2 ++ [(⟨wrap64 (x8_2), t440⟩ : S100)])) else (none)) = some (r1, r2) := H; have A52 := Aside0.mk A520; clear A520
              by_cases c53 : x436001_2.length < 8796093022208
              ·rw [if_pos c53] at H; have LMc53 := Aside0.mk c53; clear c53; obtain ⟨y441, hy441⟩ : ∃ y_ : List (S100), y_ = (x436001_2 ++ [(⟨wrap64 (x8_2), t440⟩ : S100)]) := ⟨_, rfl⟩
               replace H : (spec_MachineOf.l1 k2 t420 x5_1 x6_1 ((x8_2 + 1) % 256) false y441) = some (r1, r2) := b47_
               have Ny441 := am hy441; clear hy441
               have H' := am H
               clear H
               have p436 : 0 ≤ (x6_1 : Int) := of_decide_eq_true ad
               have q436 : x6_1 < (t420.length : Int) := of_decide_eq_true ad
               obtain ⟨ad436, A436_0, c436_0, e436, hx436_0, hl436_0, hi436_0⟩ := at_L9 (Kd.N_reads' HO_4.out).2.2 x6_1 p436 q436
               obtain rfl : ad429 = ad436 := (by injection e436)
               obtain ⟨ce436, hce436, hMe436, hcc436⟩ := Kd.N_get HO_4.out [] x6_1 p436 b60_
               obtain ⟨ua436_0, uc436_0, rfl, ul436_0, ge436_0⟩ := Kd.FK_slice_open hMe436; have hv436_0 := hcc436 0 _ rfl; rw [Nat.add_zero, show ((Kd.slice 9 Kd.string)).sz = 1 from rfl, Nat.mul_one] at hv436_0; replace hv436_0 := Option.some.inj (hv436_0.symm.trans hx436_0)
               injection hv436_0 with hva_ hvn_ hvc_
               rw [hva_] at ge436_0; rw [hvc_] at ul436_0; have HL436_0 := am (show Kd.V Kd.string 9 _ w.heap.size _ _ (rd_L9 t420 x6_1) from Kd.V_mk ul436_0 ge436_0); clear hva_ hvn_ hvc_ ge436_0 ul436_0; clear hcc436 hce436; have HR436_0 := am hi436_0; have HC436_0 := am hl436_0; clear hi436_0 hl436_0; replace p436 := eq_true p436; replace q436 := eq_true q436
               try go_wp2_with (first | ((with_reducible refine gate_callee (f := 168) rfl ?_); refine goesL_ (some 53) rfl rfl Try.func168 (by kernel_rfl) rfl #[.slice A436_0 (rd_L9 t420 x6_1).length c436_0, .int .u8 x8_2] rfl mq ?_; (with_reducible refine (spec_l3Ends.calls k2 _ _ (rd_L9 t420 x6_1) x8_2 t437 _ ?side1 ?side2 A50.out).mono ?_); (case side1 => repeat (first | exact b16_ | (with_reducible refine Kd.C_alloc ?_ _) | (with_reducible refine Kd.C_drewN ?_ _) | (with_reducible refine Kd.C_drew ?_))); (case side2 => exact HC436_0.out); rintro e w54 ⟨v438, rfl, ho0, hb⟩; refine ⟨_, rfl, ?_⟩; replace HO_4 := am (Kd.N_elder' b29_ (Kd.R_base ho0) hb); replace HO_5 := am (Kd.S_below b19_ hb); replace HO_436001 := am (Kd.R_below (rq HO_436001.out) hb); replace HL436_0 := am (Kd.V_elder' (vq HL436_0.out) (Kd.R_base ho0) hb); have HO439 := am (Kd.R_lower ho0 (below_size (bel1 GE435.out))); replace BK435 := am (blk_below (g := gb435) (o := .cells #[.bool false, u436001] 94 (0, 0)) (bq BK435.out) hb); replace HR436_0 := am (Kd.C_below b16_ hb); replace HB := am (below_step (bel1 GE435.out) hb); (try clear hb); (try clear hb2); (try clear hk); (try clear hi); (try clear ho0); obtain ⟨Ao55, co55, eo55⟩ := Kd.R_slice HO439.out; subst eo55))
               replace HO_4 := am (Kd.N_drew HO_4.out); replace HO_5 := am (Kd.S_drew HO_5.out); replace HO_436001 := am (Kd.R_drew HO_436001.out); replace HL436_0 := am (Kd.V_drew HL436_0.out); replace HO439 := am (Kd.R_drew HO439.out); replace BK435 := am (blk_drew BK435.out); replace HR436_0 := am (Kd.C_drew HR436_0.out); replace HB := am (below_drew1 HB.out)
               refine start_ (n := 12) (S := fun w' => w'.cell? ⟨gb435, 0, none⟩ = some (.bool false) ∧ w'.cell? ⟨gb435, 1, none⟩ = some (u436001)) (ds := [11]) #[false, false, false, false, false, false, false, false, false, false, false, false] (by kernel_rfl) rfl rfl ⟨(blk_cell BK435.out 0).trans rfl, (blk_cell BK435.out 1).trans rfl⟩ (fun hHeld => ?_); refine with_tabW spec_MachineOf.tab16 spec_MachineOf.bits16 (fun HT_ HW_ => ?_)
               generalize w54.drew = w56 at HO_4 HO_5 HO_436001 HL436_0 HO439 BK435 HR436_0 HB hHeld ⊢
               refine pu 0 57 ?_
               refine pu 2 59 ?_
               refine pu 3 60 ?_
               refine pu 4 61 ?_
               refine pu 5 62 ?_
               refine tk2 1 58 hHeld ?_
               refine on1 6 63 (fun K hK => ?_)
               refine goes_ Try.func169 (by kernel_rfl) rfl #[.slice (some ad429) t420.length co11, .slice Ao55 t437.length co55] (by rfl) rfl rfl mq ?_
               with_reducible refine (spec_l3At.calls k2 _ _ t420 _ _ t437 t440 _ ?side1 ?side2 ?side3 ?side4 A52.out).mono ?_
               (case side1 => exact cq (Kd.N_reads' HO_4.out).2.2); (case side2 => exact (Kd.N_reads' HO_4.out).2.1); (case side3 => exact cq (Kd.R_reads' HO439.out).2.2); (case side4 => exact (Kd.R_reads' HO439.out).2.1)
               rintro e w' ⟨rfl, ⟨nd, rfl⟩⟩
               refine ⟨_, rfl, ?_⟩
               refine hK.out _ _ ⟨(blk_cell BK435.out 0).trans rfl, (blk_cell BK435.out 1).trans rfl⟩ (fun hHeld => ?_)
               clear hK K
               refine norm_ (a' := ?_) ?_ ?_
               rotate_left
               ·show Act.put _ (some 63) _ = _
                simp only [Act.put, List.setIfInBounds_toArray, List.set_cons_zero, List.set_cons_succ, i64_w, i32_w]
                rfl
               refine pu 7 64 ?_
               refine on1 8 65 (fun K hK => ?_)
               refine value_ (w1 := ?_) (v := ?_) (by rfl) rfl ?_ ?_
               rotate_left 2
               ·go_simp
                constructor
                ·rfl
                ·rfl
               refine hK.out _ _ ⟨(blk_cell (blk_alloc BK435.out _) 0).trans rfl, (blk_cell (blk_alloc BK435.out _) 1).trans rfl⟩ (fun hHeld => ?_)
               clear hK K
               refine norm_ (a' := ?_) ?_ ?_
               rotate_left
               ·show Act.put _ (some 65) _ = _
                simp only [Act.put, List.setIfInBounds_toArray, List.set_cons_zero, List.set_cons_succ, i64_w, i32_w]
                rfl
               refine on1 9 66 (fun K hK => ?_)
               refine Kd.R_append_step k100 (w0 := w) w.heap.size (by rfl) (.tmp 58) (.tmp 65) 92 100 (.agg #[(.int .i64 0), (.int .i64 0)]) 16 rfl Try.underlying92 info100 rfl (by decide) (by omega) u436001 x436001_2 (⟨wrap64 (x8_2), t440⟩ : S100) [.int .i64 (wrap64 (x8_2)), .int .i64 t440] (fun _ => True) (fun _ => False) rfl rfl ?aP (fun _ hk => hk.elim) ?aF ?aO ?aB ?aS ?aL ?_
               (case aP => exact k100_mkM _ _ _ (⟨wrap64 (x8_2), t440⟩ : S100)); (case aB => exact (bel1 GE435.out)); (case aF => exact (fun _ _ => trivial)); (case aO => exact (rq HO_436001.out)); (case aS => exact (below_size (bel1 GE435.out))); (case aL => have := LMc53.out; omega); intro v442 w57 ho hb hg hat; rw [← Ny441.out] at ho
               replace HO_4 := am (Kd.N_afterv (ok := (fun k_ => some k_ ≠ (u5 : Value).ownBlock ∧ some k_ ≠ (.slice Ao55 t437.length co55 : Value).ownBlock ∧ k_ ≠ gb435)) b64_ hg hat)
               replace HO_5 := am (Kd.S_after (ok := (fun k_ => k_ ≠ gb435)) b73_ hg hat)
               replace BK435 := am (blk_grown (g := gb435) (o := .cells #[.bool false, u436001] 94 (0, 0)) (bq BK435.out) hg (Kd.R_ne HO_436001.out BK435.out (by decide)))
               replace HL436_0 := am (Kd.V_afterv (ok := (fun k_ => some k_ ≠ (.slice (some ad429) t420.length co11 : Value).ownBlock ∧ some k_ ≠ (u5 : Value).ownBlock ∧ some k_ ≠ (.slice Ao55 t437.length co55 : Value).ownBlock ∧ k_ ≠ gb435)) (vq (Kd.V_mono HL436_0.out (fun _ hk => ⟨⟨hk.1.2, ⟨hk.1.1.1, ⟨hk.2, hk.1.1.2.2⟩⟩⟩, hk.1.1.2.1⟩))) hg hat)
               replace HO439 := am (Kd.R_over' (rq HO439.out) (Kd.R_typed (rq HO_436001.out)) (by decide) hg)
               replace HB := am (hb); have HO443 := am (ho); clear HO_436001; clear ho hb hg hat; obtain ⟨Ao58, co58, eo58⟩ := Kd.R_slice HO443.out
               (first | subst eo58 | (injection eo58 with f1_ f2_ f3_; have f4_ := f1_.symm; have f5_ := f3_.symm; clear f1_ f2_ f3_; subst f4_; subst f5_))
               refine hK.out _ _ ⟨(blk_cell BK435.out 0).trans rfl, (blk_cell BK435.out 1).trans rfl⟩ (fun hHeld => ?_)
               clear hK K
               refine norm_ (a' := ?_) ?_ ?_
               rotate_left
               ·show Act.put _ (some 66) _ = _
                simp only [Act.put, List.setIfInBounds_toArray, List.set_cons_zero, List.set_cons_succ, i64_w, i32_w]
                rfl
               refine pu 10 67 ?_
               refine last_ (i := 11) (N := none) #[true, true, true, true, true, true, true, true, true, true, true, true] rfl rfl (one_of HT_.out (by kernel_rfl)) (by decide) (fun K hK => ?_)
               have hs59 : w57.cell? ⟨gb435, 1, none⟩ = some (u436001) := (blk_cell BK435.out 1).trans rfl
               have hfs59 := bf BK435.out 1
               refine skip_ (w1 := ?_) (by rfl) rfl ?_ ?_
               rotate_left
               ·go_simp
                rfl
               refine hK.out _ _ ?_
               clear hK K
               refine done_ (done_of HT_.out (by kernel_rfl)) ?_
               try go_wp2
               go_roundg k2
               case measure => have := HK1.out; have := HK2.out; omega
               case rel => exact ⟨((x8_2 + 1) % 256), (y441), (.slice Ao58 y441.length co58), sq, H', ⟨b27_⟩, ⟨by (with_reducible repeat (first | apply Kd.N_alloc | apply Kd.N_drewN | apply Kd.N_drew)); exact Kd.N_mono (Kd.N_far (p := ⟨gb435, 1, none⟩) (Kd.N_mono HO_4.out (fun k_ hk => (⟨hk, hk.1.2.2⟩ : _ ∧ k_ ≠ gb435))) (fun _ hk => hk.2) (.slice Ao58 y441.length co58)) (fun _ hk => ⟨hk.1.1.1, ⟨hk.1.2, hk.1.1.2.2⟩⟩)⟩, ⟨by (with_reducible repeat (first | apply Kd.S_alloc | apply Kd.S_drewN | apply Kd.S_drew)); exact Kd.S_mono (Kd.S_far (p := ⟨gb435, 1, none⟩) (Kd.S_mono HO_5.out (fun k_ hk => (⟨hk, hk.1⟩ : _ ∧ k_ ≠ gb435))) (fun _ hk => hk.2) (.slice Ao58 y441.length co58)) (fun _ hk => ⟨hk.1.2, hk.1.1⟩)⟩, ⟨rq (Kd.R_mono (Kd.R_far (p := ⟨gb435, 1, none⟩) (Kd.R_types HO443.out BK435.out (by decide)) (fun _ hk => hk.2) (.slice Ao58 y441.length co58)) (fun _ hk => trivial))⟩, ⟨by (with_reducible repeat (first | refine blk_drewN ?_ _ | refine blk_drew ?_ | refine blk_alloc ?_ _)); refine blk_put (cs := #[.bool false, u436001]) ?_ 1 _ rfl; (with_reducible repeat (first | refine blk_drewN ?_ _ | refine blk_drew ?_ | refine blk_alloc ?_ _)); exact BK435.out⟩, ⟨bel1 GE435.out⟩⟩
              ·rw [if_neg c53] at H
               exact absurd H (by simp)
             ·rw [if_neg c51] at H; have c51b0 := decide_eq_false c51
              have c51b1 : decide (0 < t437.length) = false := decide_eq_false (by omega)
              clear c51
              have H' := am H
              clear H
              have p436 : 0 ≤ (x6_1 : Int) := of_decide_eq_true ad
              have q436 : x6_1 < (t420.length : Int) := of_decide_eq_true ad
              obtain ⟨ad436, A436_0, c436_0, e436, hx436_0, hl436_0, hi436_0⟩ := at_L9 (Kd.N_reads' HO_4.out).2.2 x6_1 p436 q436
              obtain rfl : ad429 = ad436 := (by injection e436)
              obtain ⟨ce436, hce436, hMe436, hcc436⟩ := Kd.N_get HO_4.out [] x6_1 p436 b60_
              obtain ⟨ua436_0, uc436_0, rfl, ul436_0, ge436_0⟩ := Kd.FK_slice_open hMe436; have hv436_0 := hcc436 0 _ rfl; rw [Nat.add_zero, show ((Kd.slice 9 Kd.string)).sz = 1 from rfl, Nat.mul_one] at hv436_0; replace hv436_0 := Option.some.inj (hv436_0.symm.trans hx436_0)
              injection hv436_0 with hva_ hvn_ hvc_
              rw [hva_] at ge436_0; rw [hvc_] at ul436_0; have HL436_0 := am (show Kd.V Kd.string 9 _ w.heap.size _ _ (rd_L9 t420 x6_1) from Kd.V_mk ul436_0 ge436_0); clear hva_ hvn_ hvc_ ge436_0 ul436_0; clear hcc436 hce436; have HR436_0 := am hi436_0; have HC436_0 := am hl436_0; clear hi436_0 hl436_0; replace p436 := eq_true p436; replace q436 := eq_true q436
              go_wp2_with (first | ((with_reducible refine gate_callee (f := 168) rfl ?_); refine goesL_ (some 53) rfl rfl Try.func168 (by kernel_rfl) rfl #[.slice A436_0 (rd_L9 t420 x6_1).length c436_0, .int .u8 x8_2] rfl mq ?_; (with_reducible refine (spec_l3Ends.calls k2 _ _ (rd_L9 t420 x6_1) x8_2 t437 _ ?side1 ?side2 A50.out).mono ?_); (case side1 => repeat (first | exact b16_ | (with_reducible refine Kd.C_alloc ?_ _) | (with_reducible refine Kd.C_drewN ?_ _) | (with_reducible refine Kd.C_drew ?_))); (case side2 => exact HC436_0.out); rintro e w60 ⟨v438, rfl, ho0, hb⟩; refine ⟨_, rfl, ?_⟩; replace HO_4 := am (Kd.N_elder' b29_ (Kd.R_base ho0) hb); replace HO_5 := am (Kd.S_below b19_ hb); replace HO_436001 := am (Kd.R_below (rq HO_436001.out) hb); replace HL436_0 := am (Kd.V_elder' (vq HL436_0.out) (Kd.R_base ho0) hb); have HO439 := am (Kd.R_lower ho0 (below_size (bel1 GE435.out))); replace BK435 := am (blk_below (g := gb435) (o := .cells #[.bool false, u436001] 94 (0, 0)) (bq BK435.out) hb); replace HR436_0 := am (Kd.C_below b16_ hb); replace HB := am (below_step (bel1 GE435.out) hb); (try clear hb); (try clear hb2); (try clear hk); (try clear hi); (try clear ho0); obtain ⟨Ao61, co61, eo61⟩ := Kd.R_slice HO439.out; subst eo61))
              go_roundg k2
              case measure => have := HK1.out; have := HK2.out; omega
              case rel => exact ⟨((x8_2 + 1) % 256), (x436001_2), (u436001), sq, H', ⟨b27_⟩, ⟨b65_⟩, ⟨b19_⟩, ⟨rq HO_436001.out⟩, ⟨bq BK435.out⟩, ⟨bel1 GE435.out⟩⟩
            ·rw [if_neg c49] at H
             exact absurd H (by simp)
           ·rw [if_neg c48] at H
            exact absurd H (by simp)
          ·rw [if_neg c47] at H; have c47b0 := decide_eq_false c47; clear c47
           by_cases c62 : x5_1.length < 4398046511104
           ·rw [if_pos c62] at H; have LMc62 := Aside0.mk c62; clear c62; obtain ⟨y444, hy444⟩ : ∃ y_ : List (S94), y_ = (x5_1 ++ [(⟨false, x436001_2⟩ : S94)]) := ⟨_, rfl⟩
            replace H : (spec_MachineOf.l0 k2 t420 y444 (wrap64 (x6_1 + 1))) = some (r1, r2) := b48_
            have Ny444 := am hy444; clear hy444
            have H' := am H
            clear H; have hcz63_0 := bc BK435.out 0; have hcz63_1 := bc BK435.out 1; have hfz63_0 := bf BK435.out 0; have hfz63_1 := bf BK435.out 1; obtain ⟨Ao65, co65, eo65⟩ := Kd.R_slice HO_436001.out; subst eo65
            go_wp2_with (first | ((with_reducible refine gate_builtin (b := .append) (xs := #[.tmp 68, .tmp 70]) rfl ?_); at_builtin; refine Kd.S_append k94 (w0 := w) w.heap.size rfl (.tmp 68) (.tmp 70) 43 94 (.agg #[(.bool false), (.slice none 0 0)]) 32 rfl Try.underlying43 info94 rfl (by decide) (by omega) u5 x5_1 (⟨false, x436001_2⟩ : S94) [.bool false, .slice Ao65 x436001_2.length co65] (fun k_ => k_ ≠ gb435) (fun k_ => some k_ = (.slice Ao65 x436001_2.length co65 : Value).ownBlock) rfl rfl ?aP (fun k_ hk_ => ((Kd.R_mono (ok' := fun k_ => ((fun k_ => k_ ≠ gb435)) k_ ∧ some k_ ≠ (u5 : Value).ownBlock) (Kd.R_types (Kd.R_apart' (HO_436001.out) (Kd.S_typed HO_5.out) (by decide)) BK435.out (by decide)) (fun k_ hk => ⟨hk.2, hk.1.2⟩))).1 k_ hk_.symm) ?aF ?aO ?aB ?aS ?aL ?_; (case aP => exact k94_mkM _ _ _ (⟨false, x436001_2⟩ : S94) (Kd.R_mono (Kd.R_tight rfl (Kd.R_mono (ok' := fun k_ => ((fun k_ => k_ ≠ gb435)) k_ ∧ some k_ ≠ (u5 : Value).ownBlock) (Kd.R_types (Kd.R_apart' (HO_436001.out) (Kd.S_typed HO_5.out) (by decide)) BK435.out (by decide)) (fun k_ hk => ⟨hk.2, hk.1.2⟩))) (fun _ h_ => h_))); (case aB => exact (bel1 GE435.out)); (case aF => exact (fun k_ hk => Kd.freshB (g := gb435) (o := .cells #[.bool false, .slice Ao65 x436001_2.length co65] 94 (0, 0)) (bq BK435.out) k_ hk)); (case aO => exact b67_); (case aS => exact (below_size (bel1 GE435.out))); (case aL => have := LMc62.out; omega); intro v445 w64 ho hb hg hat; rw [← Ny444.out] at ho; replace HO_4 := am (Kd.N_afterv (ok := (fun k_ => some k_ ≠ (.slice Ao65 x436001_2.length co65 : Value).ownBlock ∧ k_ ≠ gb435)) b72_ hg hat); replace BK435 := am (blk_grown (g := gb435) (o := .cells #[.bool false, .slice Ao65 x436001_2.length co65] 94 (0, 0)) (bq BK435.out) hg (Kd.S_away HO_5.out (fun _ hk => hk.2))); replace HB := am (hb); have HO446 := am (ho); clear HO_5 HO_436001; clear ho hb hg hat))
            go_roundg k2
            case measure => have := HK1.out; have := HK2.out; omega
            case rel => exact ⟨(y444), (wrap64 (x6_1 + 1)), sq, H', ⟨b27_⟩, ⟨b79_⟩, ⟨b77_⟩, ⟨bel1 GE435.out⟩⟩
           ·rw [if_neg c62] at H
            exact absurd H (by simp)
      ·rw [if_neg c15] at H
       exact absurd H (by simp)
     ·rw [if_neg c14] at H; have c14b0 := decide_eq_false c14; clear c14
      simp only [Option.some.injEq, Prod.mk.injEq] at H
      obtain ⟨rfl, rfl⟩ := H; go_wp2
      go_ret2
      exact ⟨_, eq_, b19_, bel⟩
 ·replace c3 := Bool.eq_false_iff.mpr c3; subst c3
  have H1 : (some ((([] : List (S94))), false)) = some (r1, r2) := b6_
  replace H := H1; clear H1
  obtain ⟨y451, hy451⟩ : ∃ y_ : List (S94), y_ = (([] : List (S94))) := ⟨_, rfl⟩
  replace H : (some (y451, false)) = some (r1, r2) := by first | (rw [hy451]; with_reducible exact H) | (have H2_ := (Option.bind_some _ _).symm.trans H; rw [hy451]; with_reducible exact H2_) | (have H2_ := (Option.bind_some _ _).symm.trans H; with_reducible exact H2_) | with_reducible exact H | (rw [hy451]; exact H) | exact H
  have Ny451 := am hy451; clear hy451
  simp only [Option.some.injEq, Prod.mk.injEq] at H
  obtain ⟨rfl, rfl⟩ := H; go_enter Try.func145, Try.ntmps145
  go_wp2_with (first | ((with_reducible refine gate_callee (f := 56) rfl ?_); refine goesL_ (some 11) rfl rfl Try.func56 (by kernel_rfl) rfl #[.slice A0 l0.length c0] rfl mq ?_; (with_reducible refine (spec_l3Words.calls k _ _ l0 false _ ?side1 ?side2 A2.out).mono ?_); (case side1 => repeat (first | exact HR0.out | (with_reducible refine Kd.C_alloc ?_ _) | (with_reducible refine Kd.C_drewN ?_ _) | (with_reducible refine Kd.C_drew ?_))); (case side2 => exact HC0.out); rintro e w' ⟨rfl, ⟨nd, rfl⟩⟩; refine ⟨_, rfl, ?_⟩) | ((with_reducible refine gate_dst (N := 13) rfl ?_); refine Kd.S_lit k94 _ 94 ?hg (N := 13) ?hd (xs := ([] : List (S94))) (inner := []) (ok := fun _ => True) (okp := fun _ => True) ?hr ?hp (fun _ hk => hk) trivial (Below.refl _ _) (Nat.le_refl _) (by simp) ?_; (case hd => rfl); (case hg => rfl); (case hr => first | (go_simp; done) | (go_simp; rfl)); (case hp => exact (Reps.none _ _)); intro v452 w66 ho67 hb hg_ hnew_; clear hg_ hnew_; (first | rw [← Ny451.out] at ho67 | (simp only [Int.reduceToNat] at ho67; rw [← Ny451.out] at ho67) | (simp only [Int.toNat_natCast] at ho67; rw [← Ny451.out] at ho67)); have HO453 := am (Kd.S_lower ho67 (below_size bel)); replace HB := am (below_step bel hb); clear hb ho67))
  go_ret2
  exact ⟨_, eq_, by (with_reducible repeat (first | apply Kd.S_alloc | apply Kd.S_drewN | apply Kd.S_drew)); exact HO453.out, bel⟩

end Go.Proofs.Ytfpmfaelodfecaa.QFnMachineWord
