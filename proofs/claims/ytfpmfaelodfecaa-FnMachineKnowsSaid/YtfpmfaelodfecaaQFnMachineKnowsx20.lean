import Derived.Test.YtfpmfaelodfecaaQFnMachineKnowsx0
import Derived.Test.YtfpmfaelodfecaaQFnMachineKnowsx17
import Derived.Test.YtfpmfaelodfecaaQFnMachineKnowsx19
import Derived.Test.YtfpmfaelodfecaaVMSh2
namespace Go.Proofs.Ytfpmfaelodfecaa.QFnMachineKnows
open Go.RowKit Go.Proofs.YtfpmfaelodfecaaW.PrintWords Go.Proofs.YtfpmfaelodfecaaW.PrintLast Go.Proofs.YtfpmfaelodfecaaW.PrintMore Go.Proofs.Ytfpmfaelodfecaa.Sh
attribute [local go_sem] max2_int min2_int max_two min_two max_three min_three max_four min_four   -- for this text's walks alone
set_option linter.unusedVariables false
set_option linter.unusedSimpArgs false
-- shrunk

/-! ### spec_l3All: function 167 -/
mutual
def spec_l3All.l0 : Nat → List (List ByteArray) → Int → Option ((List (List ByteArray)))
 | 0, _, _ => none
 | k + 1, x3, x4 => if x4 < (x3.length : Int) then (spec_l3All.l1 k x3 x4 97) else ((spec_l3Sort.f k x3).bind fun t473 => (some t473))
def spec_l3All.l1 : Nat → List (List ByteArray) → Int → Int → Option ((List (List ByteArray)))
 | 0, _, _, _ => none
 | k + 1, x3, x4, x5 => if x5 ≤ 122 then (if 0 ≤ x4 then (if x4 < (x3.length : Int) then ((spec_l3Ends.f k (rd_L9 x3 x4) x5).bind fun t477 => (spec_l3All.l2 k x3 x4 x5 t477 ((t477.length : Int) == 0) 0)) else (none)) else (none)) else (spec_l3All.l0 k x3 (wrap64 (x4 + 1)))
def spec_l3All.l2 : Nat → List (List ByteArray) → Int → Int → List ByteArray → Bool → Int → Option ((List (List ByteArray)))
 | 0, _, _, _, _, _, _ => none
 | k + 1, x3, x4, x5, x6, x7, x8 => if x8 < (x3.length : Int) then (if x7 = true then (spec_l3All.l1 k x3 x4 ((x5 + 1) % 256)) else (if 0 ≤ x8 then ((spec_l3Same.f k (rd_L9 x3 x8) x6).bind fun t481 => (spec_l3All.l2 k x3 x4 x5 x6 t481 (wrap64 (x8 + 1)))) else (none))) else (if x7 = true then (spec_l3All.l1 k x3 x4 ((x5 + 1) % 256)) else (if x3.length < 5864062014805 then (spec_l3All.l1 k (x3 ++ [x6]) x4 ((x5 + 1) % 256)) else (none)))
end
def spec_l3All.f (k : Nat) (l0 : List ByteArray) : Option ((List (List ByteArray))) := spec_l3All.l0 k (([l0] : List (List ByteArray))) 0
set_option maxHeartbeats 8000000 in
set_option maxRecDepth 100000 in
theorem spec_l3All.calls (k : Nat) (P0_ : Nat → Prop) (A0 : Option Addr) (c0 : Nat) (l0 : List ByteArray) (r : List (List ByteArray)) (w : World) (hs0 : Kd.V Kd.string 9 w w.heap.size (fun k_ => P0_ k_) (.slice A0 l0.length c0) l0) (h : spec_l3All.f k l0 = some r) :
  Calls Try.prog 167 #[.slice A0 l0.length c0] w fun e w' => ∃ v0_ : Value, e = .returned (v0_) ∧ Kd.N (Kd.slice 9 Kd.string) 22 w' w.heap.size (fun k_ => (P0_ k_ ∨ w.heap.size ≤ k_)) v0_ r ∧ Below w.heap.size w w' := by
 have HO0 := am (show Kd.V Kd.string 9 w w.heap.size (fun k_ => (P0_ k_ ∨ w.heap.size ≤ k_)) (.slice A0 l0.length c0) l0 from Kd.V_mono hs0 (fun k_ hk => .inl hk)); have HB := am (Below.refl w.heap.size w)
 have H : (spec_l3All.l0 k (([l0] : List (List ByteArray))) 0) = some r := h
 clear h; obtain ⟨y470, hy470⟩ : ∃ y_ : List (List ByteArray), y_ = (([l0] : List (List ByteArray))) := ⟨_, rfl⟩
 replace H : (spec_l3All.l0 k y470 0) = some r := by first | (rw [hy470]; with_reducible exact H) | (have H2_ := (Option.bind_some _ _).symm.trans H; rw [hy470]; with_reducible exact H2_) | (have H2_ := (Option.bind_some _ _).symm.trans H; with_reducible exact H2_) | with_reducible exact H | (rw [hy470]; exact H) | exact H
 have Ny470 := am hy470; clear hy470
 have H' := am H
 clear H; go_enter Try.func167, Try.ntmps167
 go_wp2_with (first | ((with_reducible refine gate_dst (N := 10) rfl ?_); refine Kd.N_lit (Kd.slice 9 Kd.string) _ 22 ?hg (N' := 10) ?hd (xs := ([l0] : List (List ByteArray))) (inner := [.slice A0 l0.length c0]) (ok := (fun k_ => (P0_ k_ ∨ w.heap.size ≤ k_))) (okp := (fun k_ => (P0_ k_ ∨ w.heap.size ≤ k_))) ?hr ?hp (fun _ hk => hk) ((show ∀ k_, w.heap.size ≤ k_ → (fun k_ => (P0_ k_ ∨ w.heap.size ≤ k_)) k_ from fun k_ hk => (.inr (Nat.le_trans (below_size bel) hk))) _ (Nat.le_refl _)) (Below.refl _ _) (Nat.le_refl _) (by simp) ?_; (case hd => rfl); (case hg => rfl); (case hr => first | (go_simp; done) | (go_simp; rfl)); (case hp => exact (Reps.one (show Kd.FK (Kd.slice 9 Kd.string) _ _ l0 [.slice A0 l0.length c0] from (Kd.FK_slice_mk (Kd.V_reads' (Kd.V_mono (ok' := (fun k_ => (P0_ k_ ∨ w.heap.size ≤ k_))) (HO0.out) (fun k_ hk => hk))).2.1 (Kd.V_F (Kd.V_mono (ok' := (fun k_ => (P0_ k_ ∨ w.heap.size ≤ k_))) (HO0.out) (fun k_ hk => hk))))) (Reps.none _ _))); intro v471 w2 ho3 hb hg_ hnew_; clear hg_ hnew_; (first | rw [← Ny470.out] at ho3 | (simp only [Int.reduceToNat] at ho3; rw [← Ny470.out] at ho3) | (simp only [Int.toNat_natCast] at ho3; rw [← Ny470.out] at ho3)); replace HO0 := am (Kd.V_elder' (vq HO0.out) (Kd.N_base ho3) hb); have HO472 := am (Kd.N_lower ho3 (below_size bel)); replace HB := am (below_step bel hb); clear hb ho3))
 go_loopg [3, 4] k (fun kq v3 v4 w' => ∃ (x3_1 : List (List ByteArray)) (x4_1 : Int), v4 = .int .i64 x4_1 ∧ Aside0 (spec_l3All.l0 kq x3_1 x4_1 = some r) ∧ Aside0 (kq ≤ k) ∧ Aside0 (Kd.N (Kd.slice 9 Kd.string) 22 w' w.heap.size (fun k_ => (P0_ k_ ∨ w.heap.size ≤ k_)) v3 x3_1) ∧ Aside0 (Below w.heap.size w w'))
 case atStart => exact ⟨(y470), (0), sq, H', ⟨Nat.le_refl _⟩, ⟨by (with_reducible repeat (first | apply Kd.N_alloc | apply Kd.N_drewN | apply Kd.N_drew)); exact HO472.out⟩, ⟨bel⟩⟩
 case round =>
  clear H'; (try clear c1); (try clear p2); obtain ⟨x3_1, x4_1, rfl, HA, HK1, HO_3, HB⟩ := hrel
  cases gk with
  | zero => exact absurd HA.out (by simp [spec_l3All.l0])
  | succ k1 =>
   have H := HA.out; clear HA
   simp only [spec_l3All.l0] at H
   by_cases c4 : x4_1 < (x3_1.length : Int)
   ·rw [if_pos c4] at H; have c4b0 := decide_eq_true c4; clear c4
    have H' := am H
    clear H; obtain ⟨Ao5, co5, eo5⟩ := Kd.N_slice HO_3.out; subst eo5; go_wp2
    go_loopg [3, 5] k1 (fun kq v3 v5 w' => ∃ (x3_2 : List (List ByteArray)) (x5_2 : Int), v5 = .int .u8 x5_2 ∧ Aside0 (spec_l3All.l1 kq x3_2 x4_1 x5_2 = some r) ∧ Aside0 (kq ≤ k1) ∧ Aside0 (Kd.N (Kd.slice 9 Kd.string) 22 w' w.heap.size (fun k_ => (P0_ k_ ∨ w.heap.size ≤ k_)) v3 x3_2) ∧ Aside0 (Below w.heap.size w w'))
    case atStart => exact ⟨(x3_1), (97), sq, H', ⟨Nat.le_refl _⟩, ⟨b7_⟩, ⟨bel⟩⟩
    case round =>
     clear H'; (try clear c1); (try clear p2); (try clear c4); (try clear c4b0); (try clear p2); obtain ⟨x3_2, x5_2, rfl, HA, HK2, HO_3, HB⟩ := hrel
     cases gk with
     | zero => exact absurd HA.out (by simp [spec_l3All.l1])
     | succ k2 =>
      have H := HA.out; clear HA
      simp only [spec_l3All.l1] at H
      by_cases c6 : x5_2 ≤ 122
      ·rw [if_pos c6] at H; have c6b0 := decide_eq_true c6; clear c6
       by_cases c7 : 0 ≤ x4_1
       ·rw [if_pos c7] at H; have c7b0 := decide_eq_true c7; clear c7
        by_cases c8 : x4_1 < (x3_2.length : Int)
        ·rw [if_pos c8] at H; have c8b0 := decide_eq_true c8; clear c8; replace H := Option.bind_eq_some_iff.mp H; obtain ⟨t477, A90, H⟩ := H; replace H : (spec_l3All.l2 k2 x3_2 x4_1 x5_2 t477 ((t477.length : Int) == 0) 0) = some r := H; have A9 := Aside0.mk A90; clear A90
         have H' := am H
         clear H; obtain ⟨Ao10, co10, eo10⟩ := Kd.N_slice HO_3.out; subst eo10
         have p476 : 0 ≤ (x4_1 : Int) := of_decide_eq_true ad
         have q476 : x4_1 < (x3_2.length : Int) := of_decide_eq_true ad
         obtain ⟨ad476, A476_0, c476_0, e476, hx476_0, hl476_0, hi476_0⟩ := at_L9 (Kd.N_reads' HO_3.out).2.2 x4_1 p476 q476
         cases e476
         obtain ⟨ce476, hce476, hMe476, hcc476⟩ := Kd.N_get HO_3.out [] x4_1 p476 (by first | exact q476 | exact of_decide_eq_true ad | (have e_ := (Kd.N_reads' HO_3.out).1; omega))
         obtain ⟨ua476_0, uc476_0, rfl, ul476_0, ge476_0⟩ := Kd.FK_slice_open hMe476; have hv476_0 := hcc476 0 _ rfl; rw [Nat.add_zero, show ((Kd.slice 9 Kd.string)).sz = 1 from rfl, Nat.mul_one] at hv476_0; replace hv476_0 := Option.some.inj (hv476_0.symm.trans hx476_0)
         injection hv476_0 with hva_ hvn_ hvc_
         rw [hva_] at ge476_0; rw [hvc_] at ul476_0; have HL476_0 := am (show Kd.V Kd.string 9 _ w.heap.size _ _ (rd_L9 x3_2 x4_1) from Kd.V_mk ul476_0 ge476_0); clear hva_ hvn_ hvc_ ge476_0 ul476_0; clear hcc476 hce476; have HR476_0 := am hi476_0; have HC476_0 := am hl476_0; clear hi476_0 hl476_0; replace p476 := eq_true p476; replace q476 := eq_true q476
         go_wp2_with (first | ((with_reducible refine gate_callee (f := 168) rfl ?_); refine goesL_ (some 26) rfl rfl Try.func168 (by kernel_rfl) rfl #[.slice A476_0 (rd_L9 x3_2 x4_1).length c476_0, .int .u8 x5_2] rfl mq ?_; (with_reducible refine (spec_l3Ends.calls k2 _ _ (rd_L9 x3_2 x4_1) x5_2 t477 _ ?side1 ?side2 A9.out).mono ?_); (case side1 => repeat (first | exact b33_ | (with_reducible refine Kd.C_alloc ?_ _) | (with_reducible refine Kd.C_drewN ?_ _) | (with_reducible refine Kd.C_drew ?_))); (case side2 => exact HC476_0.out); rintro e w11 ⟨v478, rfl, ho0, hb⟩; refine ⟨_, rfl, ?_⟩; replace HO_3 := am (Kd.N_elder' b7_ (Kd.R_base ho0) hb); replace HL476_0 := am (Kd.V_elder' (vq HL476_0.out) (Kd.R_base ho0) hb); have HO479 := am (Kd.R_lower (Kd.R_newM (M := fun k_ => (w.heap.size ≤ k_)) ho0 (below_size bel) (fun k_ h_ => h_)) (below_size bel)); replace HR476_0 := am (Kd.C_below b33_ hb); replace HB := am (below_step bel hb); (try clear hb); (try clear hb2); (try clear hk); (try clear hi); (try clear ho0); obtain ⟨Ao12, co12, eo12⟩ := Kd.R_slice HO479.out; subst eo12))
         go_loopg [7, 8] k2 (fun kq v7 v8 w' => ∃ (x7_3 : Bool) (x8_3 : Int), v7 = .bool x7_3 ∧ v8 = .int .i64 x8_3 ∧ Aside0 (spec_l3All.l2 kq x3_2 x4_1 x5_2 t477 x7_3 x8_3 = some r) ∧ Aside0 (kq ≤ k2) ∧ Aside0 (Kd.N (Kd.slice 9 Kd.string) 22 w' w.heap.size (fun k_ => (P0_ k_ ∨ w.heap.size ≤ k_) ∧ some k_ ≠ ((.slice Ao12 t477.length co12) : Value).ownBlock) (.slice (some ad476) x3_2.length co10) x3_2) ∧ Aside0 (Kd.R Kd.string 9 w' w.heap.size (fun k_ => (w.heap.size ≤ k_)) (.slice Ao12 t477.length co12) t477) ∧ Aside0 (Kd.C Kd.string w' A476_0 (rd_L9 x3_2 x4_1).length (rd_L9 x3_2 x4_1)) ∧ Aside0 (Below w.heap.size w w'))
         case atStart => exact ⟨(((t477.length : Int) == 0)), (0), sq, sq, H', ⟨Nat.le_refl _⟩, ⟨b7_⟩, ⟨rq (Kd.R_mono HO479.out (fun _ hk => hk.1))⟩, ⟨b33_⟩, ⟨bel⟩⟩
         case round =>
          clear H'; (try clear c1); (try clear p2); (try clear c4); (try clear c4b0); (try clear p4); (try clear q4); (try clear hx4); (try clear c6); (try clear c6b0); (try clear c7); (try clear c7b0); (try clear c8); (try clear c8b0); (try clear hx476_0); (try clear p2); (try clear p476); (try clear q476); obtain ⟨x7_3, x8_3, rfl, rfl, HA, HK3, HO_3, HO_6, HR476_0, HB⟩ := hrel
          cases gk with
          | zero => exact absurd HA.out (by simp [spec_l3All.l2])
          | succ k3 =>
           have H := HA.out; clear HA
           simp only [spec_l3All.l2] at H
           by_cases c13 : x8_3 < (x3_2.length : Int)
           ·rw [if_pos c13] at H; have c13b0 := decide_eq_true c13; clear c13
            by_cases c14 : x7_3 = true
            ·subst c14
             have H1 : (spec_l3All.l1 k3 x3_2 x4_1 ((x5_2 + 1) % 256)) = some r := b21_
             replace H := H1; clear H1
             have H' := am H
             clear H; go_wp2
             go_roundg k3
             case measure => have := HK1.out; have := HK2.out; have := HK3.out; omega
             case rel => exact ⟨(x3_2), ((x5_2 + 1) % 256), sq, H', ⟨b82_⟩, ⟨b60_⟩, ⟨bel⟩⟩
            ·replace c14 := Bool.eq_false_iff.mpr c14; subst c14
             have H1 : (if 0 ≤ x8_3 then ((spec_l3Same.f k3 (rd_L9 x3_2 x8_3) t477).bind fun t481 => (spec_l3All.l2 k3 x3_2 x4_1 x5_2 t477 t481 (wrap64 (x8_3 + 1)))) else (none)) = some r := b9_
             replace H := H1; clear H1
             by_cases c15 : 0 ≤ x8_3
             ·rw [if_pos c15] at H; have c15b0 := decide_eq_true c15; clear c15; replace H := Option.bind_eq_some_iff.mp H; obtain ⟨t481, A160, H⟩ := H; replace H : (spec_l3All.l2 k3 x3_2 x4_1 x5_2 t477 t481 (wrap64 (x8_3 + 1))) = some r := H; have A16 := Aside0.mk A160; clear A160
              have H' := am H
              clear H
              have p480 : 0 ≤ (x8_3 : Int) := of_decide_eq_true ad
              have q480 : x8_3 < (x3_2.length : Int) := of_decide_eq_true ad
              obtain ⟨ad480, A480_0, c480_0, e480, hx480_0, hl480_0, hi480_0⟩ := at_L9 (Kd.N_reads' HO_3.out).2.2 x8_3 p480 q480
              obtain rfl : ad476 = ad480 := (by injection e480)
              obtain ⟨ce480, hce480, hMe480, hcc480⟩ := Kd.N_get HO_3.out [] x8_3 p480 (by first | exact q480 | exact of_decide_eq_true ad | (have e_ := (Kd.N_reads' HO_3.out).1; omega))
              obtain ⟨ua480_0, uc480_0, rfl, ul480_0, ge480_0⟩ := Kd.FK_slice_open hMe480; have hv480_0 := hcc480 0 _ rfl; rw [Nat.add_zero, show ((Kd.slice 9 Kd.string)).sz = 1 from rfl, Nat.mul_one] at hv480_0; replace hv480_0 := Option.some.inj (hv480_0.symm.trans hx480_0)
              injection hv480_0 with hva_ hvn_ hvc_
              rw [hva_] at ge480_0; rw [hvc_] at ul480_0; have HL480_0 := am (show Kd.V Kd.string 9 _ w.heap.size _ _ (rd_L9 x3_2 x8_3) from Kd.V_mk ul480_0 ge480_0); clear hva_ hvn_ hvc_ ge480_0 ul480_0; clear hcc480 hce480; have HR480_0 := am hi480_0; have HC480_0 := am hl480_0; clear hi480_0 hl480_0; replace p480 := eq_true p480; replace q480 := eq_true q480
              go_wp2_with (first | ((with_reducible refine gate_callee (f := 192) rfl ?_); refine goesL_ (some 45) rfl rfl Try.func192 (by kernel_rfl) rfl #[.slice A480_0 (rd_L9 x3_2 x8_3).length c480_0, .slice Ao12 t477.length co12] rfl mq ?_; (with_reducible refine (spec_l3Same.calls k3 _ _ (rd_L9 x3_2 x8_3) _ _ t477 t481 _ ?side1 ?side2 ?side3 ?side4 A16.out).mono ?_); (case side1 => repeat (first | exact (by repeat (first | (with_reducible exact HR480_0.out) | (with_reducible refine Kd.C_alloc ?_ _) | (with_reducible refine Kd.C_drewN ?_ _) | (with_reducible refine Kd.C_drew ?_) | exact HR480_0.out)) | (with_reducible refine Kd.C_alloc ?_ _) | (with_reducible refine Kd.C_drewN ?_ _) | (with_reducible refine Kd.C_drew ?_))); (case side2 => exact HC480_0.out); (case side3 => exact cq (Kd.R_reads' HO_6.out).2.2); (case side4 => exact (Kd.R_reads' HO_6.out).2.1); rintro e w' ⟨rfl, ⟨nd, rfl⟩⟩; refine ⟨_, rfl, ?_⟩))
              go_roundg k3
              case measure => have := HK1.out; have := HK2.out; have := HK3.out; omega
              case rel => exact ⟨(t481), (wrap64 (x8_3 + 1)), sq, sq, H', ⟨b82_⟩, ⟨b7_⟩, ⟨rq HO_6.out⟩, ⟨b33_⟩, ⟨bel⟩⟩
             ·rw [if_neg c15] at H
              exact absurd H (by simp)
           ·rw [if_neg c13] at H; have c13b0 := decide_eq_false c13; clear c13
            by_cases c17 : x7_3 = true
            ·subst c17
             have H1 : (spec_l3All.l1 k3 x3_2 x4_1 ((x5_2 + 1) % 256)) = some r := b21_
             replace H := H1; clear H1
             have H' := am H
             clear H; go_wp2
             go_roundg k3
             case measure => have := HK1.out; have := HK2.out; have := HK3.out; omega
             case rel => exact ⟨(x3_2), ((x5_2 + 1) % 256), sq, H', ⟨b82_⟩, ⟨b60_⟩, ⟨bel⟩⟩
            ·replace c17 := Bool.eq_false_iff.mpr c17; subst c17
             have H1 : (if x3_2.length < 5864062014805 then (spec_l3All.l1 k3 (x3_2 ++ [t477]) x4_1 ((x5_2 + 1) % 256)) else (none)) = some r := b9_
             replace H := H1; clear H1
             by_cases c18 : x3_2.length < 5864062014805
             ·rw [if_pos c18] at H; have LMc18 := Aside0.mk c18; clear c18; obtain ⟨y482, hy482⟩ : ∃ y_ : List (List ByteArray), y_ = (x3_2 ++ [t477]) := ⟨_, rfl⟩
              replace H : (spec_l3All.l1 k3 y482 x4_1 ((x5_2 + 1) % 256)) = some r := by first | (rw [hy482]; with_reducible exact H) | (have H2_ := (Option.bind_some _ _).symm.trans H; rw [hy482]; with_reducible exact H2_) | (have H2_ := (Option.bind_some _ _).symm.trans H; with_reducible exact H2_) | with_reducible exact H | (rw [hy482]; exact H) | exact H
              have Ny482 := am hy482; clear hy482
              have H' := am H
              clear H
              go_wp2_with (first | ((with_reducible refine gate_builtin (b := .append) (xs := #[.tmp 48, .tmp 50]) rfl ?_); at_builtin; refine Kd.N_append (Kd.slice 9 Kd.string) (w0 := w) w.heap.size rfl (.tmp 48) (.tmp 50) 179 22 (.slice none 0 0) 24 rfl Try.underlying179 info22 rfl (by decide) (by omega) (.slice (some ad476) x3_2.length co10) x3_2 t477 [.slice Ao12 t477.length co12] (fun k_ => (P0_ k_ ∨ w.heap.size ≤ k_)) (fun k_ => ((fun k_ => (P0_ k_ ∨ w.heap.size ≤ k_))) k_ ∧ some k_ ≠ (.slice (some ad476) x3_2.length co10 : Value).ownBlock) rfl rfl ?aP (fun _ hk => hk) ?aF ?aO ?aB ?aS ?aL ?_; (case aP => exact (Kd.FK_slice_mk (Kd.R_reads' (Kd.R_mono (ok' := (fun k_ => ((fun k_ => (P0_ k_ ∨ w.heap.size ≤ k_))) k_ ∧ some k_ ≠ (.slice (some ad476) x3_2.length co10 : Value).ownBlock)) (Kd.R_apart' (HO_6.out) (Kd.N_typed HO_3.out) (by decide)) (fun k_ hk => ⟨(.inr (hk.1)), hk.2⟩))).2.1 (Kd.R_F (Kd.R_mono (ok' := (fun k_ => ((fun k_ => (P0_ k_ ∨ w.heap.size ≤ k_))) k_ ∧ some k_ ≠ (.slice (some ad476) x3_2.length co10 : Value).ownBlock)) (Kd.R_apart' (HO_6.out) (Kd.N_typed HO_3.out) (by decide)) (fun k_ hk => ⟨(.inr (hk.1)), hk.2⟩))))); (case aB => exact bel); (case aF => exact (fun k_ hk => (.inr (Nat.le_trans (below_size bel) hk)))); (case aO => exact b60_); (case aS => exact (below_size bel)); (case aL => have := LMc18.out; omega); intro v483 w19 ho hb hg hat; rw [← Ny482.out] at ho; replace HB := am (hb); have HO484 := am (ho); clear HO_3 HO_6; clear ho hb hg hat))
              go_roundg k3
              case measure => have := HK1.out; have := HK2.out; have := HK3.out; omega
              case rel => exact ⟨(y482), ((x5_2 + 1) % 256), sq, H', ⟨b82_⟩, ⟨by (with_reducible repeat (first | apply Kd.N_alloc | apply Kd.N_drewN | apply Kd.N_drew)); exact HO484.out⟩, ⟨bel⟩⟩
             ·rw [if_neg c18] at H
              exact absurd H (by simp)
        ·rw [if_neg c8] at H
         exact absurd H (by simp)
       ·rw [if_neg c7] at H
        exact absurd H (by simp)
      ·rw [if_neg c6] at H; have c6b0 := decide_eq_false c6; clear c6
       have H' := am H
       clear H; go_wp2
       go_roundg k2
       case measure => have := HK1.out; have := HK2.out; omega
       case rel => exact ⟨(x3_2), (wrap64 (x4_1 + 1)), sq, H', ⟨b25_⟩, ⟨b7_⟩, ⟨bel⟩⟩
   ·rw [if_neg c4] at H; have c4b0 := decide_eq_false c4; clear c4; replace H := Option.bind_eq_some_iff.mp H; obtain ⟨t473, A200, H⟩ := H; replace H : (some t473) = some r := H; have A20 := Aside0.mk A200; clear A200; obtain rfl := Option.some.inj H; obtain ⟨Ao21, co21, eo21⟩ := Kd.N_slice HO_3.out; subst eo21
    go_wp2_with (first | ((with_reducible refine gate_callee (f := 193) rfl ?_); refine goesL_ (some 53) rfl rfl Try.func193 (by kernel_rfl) rfl #[.slice Ao21 x3_1.length co21] rfl mq ?_; (with_reducible refine (spec_l3Sort.calls k1 (fun k_ => (P0_ k_ ∨ w.heap.size ≤ k_)) _ _ x3_1 t473 _ ?side1 A20.out).mono ?_); (case side1 => exact Kd.N_V (HO_3.out)); rintro e w22 ⟨v474, rfl, ho0, hb⟩; refine ⟨_, rfl, ?_⟩; replace HO_3 := am (Kd.N_elder' b7_ (Kd.N_base ho0) hb); have HO475 := am (Kd.N_lower (Kd.N_mono (ok' := fun k_ => (P0_ k_ ∨ w.heap.size ≤ k_)) ho0 (fun k_ hk_ => Or.elim hk_ (fun hs_ => hs_) (fun hn_ => (.inr (Nat.le_trans (below_size bel) hn_))))) (below_size bel)); replace HB := am (below_step bel hb); (try clear hb); (try clear hb2); (try clear hk); (try clear hi); (try clear ho0)))
    go_ret
    exact ⟨_, eq_, by (with_reducible repeat (first | apply Kd.N_alloc | apply Kd.N_drewN | apply Kd.N_drew)); exact HO475.out, bel⟩

/-! ### spec_l3At: function 169 -/
def spec_l3At.l0 : Nat → List (List ByteArray) → List ByteArray → Int → Option (Int)
 | 0, _, _, _ => none
 | k + 1, x0, x1, x5 => if x5 < (x0.length : Int) then (if 0 ≤ x5 then ((spec_l3Same.f k (rd_L9 x0 x5) x1).bind fun t486 => (if t486 = true then (some x5) else (spec_l3At.l0 k x0 x1 (wrap64 (x5 + 1))))) else (none)) else (some (-1))
def spec_l3At.f (k : Nat) (l0 : List (List ByteArray)) (l1 : List ByteArray) : Option (Int) := spec_l3At.l0 k l0 l1 0
set_option maxHeartbeats 8000000 in
set_option maxRecDepth 100000 in
theorem spec_l3At.calls (k : Nat) (A0 : Option Addr) (c0 : Nat) (l0 : List (List ByteArray)) (A1 : Option Addr) (c1 : Nat) (l1 : List ByteArray) (r : Int) (w : World) (hr0 : Kd.C (Kd.slice 9 Kd.string) w A0 l0.length l0) (hc0 : l0.length ≤ c0) (hr1 : Kd.C Kd.string w A1 l1.length l1) (hc1 : l1.length ≤ c1) (h : spec_l3At.f k l0 l1 = some r) :
  Calls Try.prog 169 #[.slice A0 l0.length c0, .slice A1 l1.length c1] w fun e w' => e = .returned (.int .i64 r) ∧ Drawn0 w w' := by
 have HR0 := am hr0; have HC0 := am hc0; clear hr0 hc0; have HR1 := am hr1; have HC1 := am hc1; clear hr1 hc1
 have H : (spec_l3At.l0 k l0 l1 0) = some r := h
 clear h
 have H' := am H
 clear H; go_enter Try.func169, Try.ntmps169; go_wp2
 go_loopg [5] k (fun kq v5 w' => ∃ (x5_1 : Int), v5 = .int .i64 x5_1 ∧ Aside0 (spec_l3At.l0 kq l0 l1 x5_1 = some r) ∧ Aside0 (kq ≤ k) ∧ Drawn0 w w')
 case atStart => exact ⟨(0), sq, H', ⟨Nat.le_refl _⟩, dr⟩
 case round =>
  clear H'; (try clear c1); (try clear p2); obtain ⟨x5_1, rfl, HA, HK1, ⟨m1, rfl⟩⟩ := hrel
  cases gk with
  | zero => exact absurd HA.out (by simp [spec_l3At.l0])
  | succ k1 =>
   have H := HA.out; clear HA
   simp only [spec_l3At.l0] at H
   by_cases c3 : x5_1 < (l0.length : Int)
   ·rw [if_pos c3] at H; have c3b0 := decide_eq_true c3; clear c3
    by_cases c4 : 0 ≤ x5_1
    ·rw [if_pos c4] at H; have c4b0 := decide_eq_true c4; clear c4; replace H := Option.bind_eq_some_iff.mp H; obtain ⟨t486, A50, H⟩ := H; replace H : (if t486 = true then (some x5_1) else (spec_l3At.l0 k1 l0 l1 (wrap64 (x5_1 + 1)))) = some r := H; have A5 := Aside0.mk A50; clear A50
     by_cases c6 : t486 = true
     ·subst c6
      have H1 : (some x5_1) = some r := b21_
      replace H := H1; clear H1
      obtain rfl := Option.some.inj H
      have p485 : 0 ≤ (x5_1 : Int) := of_decide_eq_true ad
      have q485 : x5_1 < (l0.length : Int) := of_decide_eq_true ad
      obtain ⟨ad485, A485_0, c485_0, e485, hx485_0, hl485_0, hi485_0⟩ := at_L9 HR0.out x5_1 p485 q485
      cases e485
      have HR485_0 := am hi485_0; have HC485_0 := am hl485_0; clear hi485_0 hl485_0; replace p485 := eq_true p485; replace q485 := eq_true q485
      go_wp2_with (first | ((with_reducible refine gate_callee (f := 192) rfl ?_); refine goesL_ (some 17) rfl rfl Try.func192 (by kernel_rfl) rfl #[.slice A485_0 (rd_L9 l0 x5_1).length c485_0, .slice A1 l1.length c1] rfl mq ?_; (with_reducible refine (spec_l3Same.calls k1 _ _ (rd_L9 l0 x5_1) _ _ l1 true _ ?side1 ?side2 ?side3 ?side4 A5.out).mono ?_); (case side1 => repeat (first | exact HR485_0.out | (with_reducible refine Kd.C_alloc ?_ _) | (with_reducible refine Kd.C_drewN ?_ _) | (with_reducible refine Kd.C_drew ?_))); (case side2 => exact HC485_0.out); (case side3 => repeat (first | exact HR1.out | (with_reducible refine Kd.C_alloc ?_ _) | (with_reducible refine Kd.C_drewN ?_ _) | (with_reducible refine Kd.C_drew ?_))); (case side4 => exact HC1.out); rintro e w' ⟨rfl, ⟨nd, rfl⟩⟩; refine ⟨_, rfl, ?_⟩))
      go_ret
      exact ⟨sq, dr⟩
     ·replace c6 := Bool.eq_false_iff.mpr c6; subst c6
      have H1 : (spec_l3At.l0 k1 l0 l1 (wrap64 (x5_1 + 1))) = some r := b9_
      replace H := H1; clear H1
      have H' := am H
      clear H
      have p485 : 0 ≤ (x5_1 : Int) := of_decide_eq_true ad
      have q485 : x5_1 < (l0.length : Int) := of_decide_eq_true ad
      obtain ⟨ad485, A485_0, c485_0, e485, hx485_0, hl485_0, hi485_0⟩ := at_L9 HR0.out x5_1 p485 q485
      cases e485
      have HR485_0 := am hi485_0; have HC485_0 := am hl485_0; clear hi485_0 hl485_0; replace p485 := eq_true p485; replace q485 := eq_true q485
      go_wp2_with (first | ((with_reducible refine gate_callee (f := 192) rfl ?_); refine goesL_ (some 17) rfl rfl Try.func192 (by kernel_rfl) rfl #[.slice A485_0 (rd_L9 l0 x5_1).length c485_0, .slice A1 l1.length c1] rfl mq ?_; (with_reducible refine (spec_l3Same.calls k1 _ _ (rd_L9 l0 x5_1) _ _ l1 false _ ?side1 ?side2 ?side3 ?side4 A5.out).mono ?_); (case side1 => repeat (first | exact HR485_0.out | (with_reducible refine Kd.C_alloc ?_ _) | (with_reducible refine Kd.C_drewN ?_ _) | (with_reducible refine Kd.C_drew ?_))); (case side2 => exact HC485_0.out); (case side3 => repeat (first | exact HR1.out | (with_reducible refine Kd.C_alloc ?_ _) | (with_reducible refine Kd.C_drewN ?_ _) | (with_reducible refine Kd.C_drew ?_))); (case side4 => exact HC1.out); rintro e w' ⟨rfl, ⟨nd, rfl⟩⟩; refine ⟨_, rfl, ?_⟩))
      go_roundg k1
      case measure => have := HK1.out; omega
      case rel => exact ⟨(wrap64 (x5_1 + 1)), sq, H', ⟨b64_⟩, dr⟩
    ·rw [if_neg c4] at H
     exact absurd H (by simp)
   ·rw [if_neg c3] at H; have c3b0 := decide_eq_false c3; clear c3; obtain rfl := Option.some.inj H; go_wp2; go_ret
    exact ⟨sq, dr⟩

end Go.Proofs.Ytfpmfaelodfecaa.QFnMachineKnows
