import Derived.Test.YtfpmfaelodfecaaQFnMachineWordx0
import Derived.Test.YtfpmfaelodfecaaQFnMachineWordx13
import Derived.Test.YtfpmfaelodfecaaQFnMachineWordx15
import Derived.Test.YtfpmfaelodfecaaVMSh2
namespace Go.Proofs.Ytfpmfaelodfecaa.QFnMachineWord
open Go.RowKit Go.Proofs.YtfpmfaelodfecaaW.PrintWords Go.Proofs.YtfpmfaelodfecaaW.PrintLast Go.Proofs.YtfpmfaelodfecaaW.PrintMore Go.Proofs.Ytfpmfaelodfecaa.Sh
attribute [local go_sem] max2_int min2_int max_two min_two max_three min_three max_four min_four   -- for this text's walks alone
set_option linter.unusedVariables false
set_option linter.unusedSimpArgs false
-- shrunk

/-! ### spec_l3All: function 167 -/
mutual
def spec_l3All.l0 : Nat → List (List ByteArray) → Int → Option ((List (List ByteArray)))
 | 0, _, _ => none
 | k + 1, x3, x4 => if x4 < (x3.length : Int) then (spec_l3All.l1 k x3 x4 97) else ((spec_l3Sort.f k x3).bind fun t405 => (some t405))
def spec_l3All.l1 : Nat → List (List ByteArray) → Int → Int → Option ((List (List ByteArray)))
 | 0, _, _, _ => none
 | k + 1, x3, x4, x5 => if x5 ≤ 122 then (if 0 ≤ x4 then (if x4 < (x3.length : Int) then ((spec_l3Ends.f k (rd_L9 x3 x4) x5).bind fun t409 => (spec_l3All.l2 k x3 x4 x5 t409 ((t409.length : Int) == 0) 0)) else (none)) else (none)) else (spec_l3All.l0 k x3 (wrap64 (x4 + 1)))
def spec_l3All.l2 : Nat → List (List ByteArray) → Int → Int → List ByteArray → Bool → Int → Option ((List (List ByteArray)))
 | 0, _, _, _, _, _, _ => none
 | k + 1, x3, x4, x5, x6, x7, x8 => if x8 < (x3.length : Int) then (if x7 = true then (spec_l3All.l1 k x3 x4 ((x5 + 1) % 256)) else (if 0 ≤ x8 then ((spec_l3Same.f k (rd_L9 x3 x8) x6).bind fun t413 => (spec_l3All.l2 k x3 x4 x5 x6 t413 (wrap64 (x8 + 1)))) else (none))) else (if x7 = true then (spec_l3All.l1 k x3 x4 ((x5 + 1) % 256)) else (if x3.length < 5864062014805 then (spec_l3All.l1 k (x3 ++ [x6]) x4 ((x5 + 1) % 256)) else (none)))
end
def spec_l3All.f (k : Nat) (l0 : List ByteArray) : Option ((List (List ByteArray))) := spec_l3All.l0 k (([l0] : List (List ByteArray))) 0
set_option maxHeartbeats 8000000 in
set_option maxRecDepth 100000 in
theorem spec_l3All.calls (k : Nat) (P0_ : Nat → Prop) (A0 : Option Addr) (c0 : Nat) (l0 : List ByteArray) (r : List (List ByteArray)) (w : World) (hs0 : Kd.V Kd.string 9 w w.heap.size (fun k_ => P0_ k_) (.slice A0 l0.length c0) l0) (h : spec_l3All.f k l0 = some r) :
  Calls Try.prog 167 #[.slice A0 l0.length c0] w fun e w' => ∃ v0_ : Value, e = .returned (v0_) ∧ Kd.N (Kd.slice 9 Kd.string) 22 w' w.heap.size (fun k_ => (P0_ k_ ∨ w.heap.size ≤ k_)) v0_ r ∧ Below w.heap.size w w' := by
 have HO0 := am (show Kd.V Kd.string 9 w w.heap.size (fun k_ => (P0_ k_ ∨ w.heap.size ≤ k_)) (.slice A0 l0.length c0) l0 from Kd.V_mono hs0 (fun k_ hk => .inl hk)); have HB := am (Below.refl w.heap.size w)
 have H : (spec_l3All.l0 k (([l0] : List (List ByteArray))) 0) = some r := h
 clear h; obtain ⟨y402, hy402⟩ : ∃ y_ : List (List ByteArray), y_ = (([l0] : List (List ByteArray))) := ⟨_, rfl⟩
 replace H : (spec_l3All.l0 k y402 0) = some r := by first | (rw [hy402]; with_reducible exact H) | (have H2_ := (Option.bind_some _ _).symm.trans H; rw [hy402]; with_reducible exact H2_) | (have H2_ := (Option.bind_some _ _).symm.trans H; with_reducible exact H2_) | with_reducible exact H | (rw [hy402]; exact H) | exact H
 have Ny402 := am hy402; clear hy402
 have H' := am H
 clear H; go_enter Try.func167, Try.ntmps167
 go_wp2_with (first | ((with_reducible refine gate_dst (N := 10) rfl ?_); refine Kd.N_lit (Kd.slice 9 Kd.string) _ 22 ?hg (N' := 10) ?hd (xs := ([l0] : List (List ByteArray))) (inner := [.slice A0 l0.length c0]) (ok := (fun k_ => (P0_ k_ ∨ w.heap.size ≤ k_))) (okp := (fun k_ => (P0_ k_ ∨ w.heap.size ≤ k_))) ?hr ?hp (fun _ hk => hk) ((show ∀ k_, w.heap.size ≤ k_ → (fun k_ => (P0_ k_ ∨ w.heap.size ≤ k_)) k_ from fun k_ hk => (.inr (Nat.le_trans (below_size bel) hk))) _ (Nat.le_refl _)) (Below.refl _ _) (Nat.le_refl _) (by simp) ?_; (case hd => rfl); (case hg => rfl); (case hr => first | (go_simp; done) | (go_simp; rfl)); (case hp => exact (Reps.one (show Kd.FK (Kd.slice 9 Kd.string) _ _ l0 [.slice A0 l0.length c0] from (Kd.FK_slice_mk (Kd.V_reads' (Kd.V_mono (ok' := (fun k_ => (P0_ k_ ∨ w.heap.size ≤ k_))) (HO0.out) (fun k_ hk => hk))).2.1 (Kd.V_F (Kd.V_mono (ok' := (fun k_ => (P0_ k_ ∨ w.heap.size ≤ k_))) (HO0.out) (fun k_ hk => hk))))) (Reps.none _ _))); intro v403 w2 ho3 hb hg_ hnew_; clear hg_ hnew_; (first | rw [← Ny402.out] at ho3 | (simp only [Int.reduceToNat] at ho3; rw [← Ny402.out] at ho3) | (simp only [Int.toNat_natCast] at ho3; rw [← Ny402.out] at ho3)); replace HO0 := am (Kd.V_elder' (vq HO0.out) (Kd.N_base ho3) hb); have HO404 := am (Kd.N_lower ho3 (below_size bel)); replace HB := am (below_step bel hb); clear hb ho3))
 go_loopg [3, 4] k (fun kq v3 v4 w' => ∃ (x3_1 : List (List ByteArray)) (x4_1 : Int), v4 = .int .i64 x4_1 ∧ Aside0 (spec_l3All.l0 kq x3_1 x4_1 = some r) ∧ Aside0 (kq ≤ k) ∧ Aside0 (Kd.N (Kd.slice 9 Kd.string) 22 w' w.heap.size (fun k_ => (P0_ k_ ∨ w.heap.size ≤ k_)) v3 x3_1) ∧ Aside0 (Below w.heap.size w w'))
 case atStart => exact ⟨(y402), (0), sq, H', ⟨Nat.le_refl _⟩, ⟨by (with_reducible repeat (first | apply Kd.N_alloc | apply Kd.N_drewN | apply Kd.N_drew)); exact HO404.out⟩, ⟨bel⟩⟩
 case round =>
  clear H'; (try clear c1); (try clear p2); obtain ⟨x3_1, x4_1, rfl, HA, HK1, HO_3, HB⟩ := hrel
  cases gk with
  | zero => exact absurd HA.out (by simp [spec_l3All.l0])
  | succ k1 =>
   have H := HA.out; clear HA
   simp only [spec_l3All.l0] at H
   by_cases c4 : x4_1 < (x3_1.length : Int)
   ·rw [if_pos c4] at H; have c4b0 := decide_eq_true c4; clear c4
    have H' := am H
    clear H; obtain ⟨Ao5, co5, eo5⟩ := Kd.N_slice HO_3.out; subst eo5; go_wp2
    go_loopg [3, 5] k1 (fun kq v3 v5 w' => ∃ (x3_2 : List (List ByteArray)) (x5_2 : Int), v5 = .int .u8 x5_2 ∧ Aside0 (spec_l3All.l1 kq x3_2 x4_1 x5_2 = some r) ∧ Aside0 (kq ≤ k1) ∧ Aside0 (Kd.N (Kd.slice 9 Kd.string) 22 w' w.heap.size (fun k_ => (P0_ k_ ∨ w.heap.size ≤ k_)) v3 x3_2) ∧ Aside0 (Below w.heap.size w w'))
    case atStart => exact ⟨(x3_1), (97), sq, H', ⟨Nat.le_refl _⟩, ⟨b8_⟩, ⟨bel⟩⟩
    case round =>
     clear H'; (try clear c1); (try clear p2); (try clear c4); (try clear c4b0); (try clear p2); obtain ⟨x3_2, x5_2, rfl, HA, HK2, HO_3, HB⟩ := hrel
     cases gk with
     | zero => exact absurd HA.out (by simp [spec_l3All.l1])
     | succ k2 =>
      have H := HA.out; clear HA
      simp only [spec_l3All.l1] at H
      by_cases c6 : x5_2 ≤ 122
      ·rw [if_pos c6] at H; have c6b0 := decide_eq_true c6; clear c6
       by_cases c7 : 0 ≤ x4_1
       ·rw [if_pos c7] at H; have c7b0 := decide_eq_true c7; clear c7
        by_cases c8 : x4_1 < (x3_2.length : Int)
        ·rw [if_pos c8] at H; have c8b0 := decide_eq_true c8; clear c8; replace H := Option.bind_eq_some_iff.mp H; obtain ⟨t409, A90, H⟩ := H; replace H : (spec_l3All.l2 k2 x3_2 x4_1 x5_2 t409 ((t409.length : Int) == 0) 0) = some r := H; have A9 := Aside0.mk A90; clear A90
         have H' := am H
         clear H; obtain ⟨Ao10, co10, eo10⟩ := Kd.N_slice HO_3.out; subst eo10
         have p408 : 0 ≤ (x4_1 : Int) := of_decide_eq_true ad
         have q408 : x4_1 < (x3_2.length : Int) := of_decide_eq_true ad
         obtain ⟨ad408, A408_0, c408_0, e408, hx408_0, hl408_0, hi408_0⟩ := at_L9 (Kd.N_reads' HO_3.out).2.2 x4_1 p408 q408
         cases e408
         obtain ⟨ce408, hce408, hMe408, hcc408⟩ := Kd.N_get HO_3.out [] x4_1 p408 (by first | exact q408 | exact of_decide_eq_true ad | (have e_ := (Kd.N_reads' HO_3.out).1; omega))
         obtain ⟨ua408_0, uc408_0, rfl, ul408_0, ge408_0⟩ := Kd.FK_slice_open hMe408; have hv408_0 := hcc408 0 _ rfl; rw [Nat.add_zero, show ((Kd.slice 9 Kd.string)).sz = 1 from rfl, Nat.mul_one] at hv408_0; replace hv408_0 := Option.some.inj (hv408_0.symm.trans hx408_0)
         injection hv408_0 with hva_ hvn_ hvc_
         rw [hva_] at ge408_0; rw [hvc_] at ul408_0; have HL408_0 := am (show Kd.V Kd.string 9 _ w.heap.size _ _ (rd_L9 x3_2 x4_1) from Kd.V_mk ul408_0 ge408_0); clear hva_ hvn_ hvc_ ge408_0 ul408_0; clear hcc408 hce408; have HR408_0 := am hi408_0; have HC408_0 := am hl408_0; clear hi408_0 hl408_0; replace p408 := eq_true p408; replace q408 := eq_true q408
         go_wp2_with (first | ((with_reducible refine gate_callee (f := 168) rfl ?_); refine goesL_ (some 26) rfl rfl Try.func168 (by kernel_rfl) rfl #[.slice A408_0 (rd_L9 x3_2 x4_1).length c408_0, .int .u8 x5_2] rfl mq ?_; (with_reducible refine (spec_l3Ends.calls k2 _ _ (rd_L9 x3_2 x4_1) x5_2 t409 _ ?side1 ?side2 A9.out).mono ?_); (case side1 => repeat (first | exact b31_ | (with_reducible refine Kd.C_alloc ?_ _) | (with_reducible refine Kd.C_drewN ?_ _) | (with_reducible refine Kd.C_drew ?_))); (case side2 => exact HC408_0.out); rintro e w11 ⟨v410, rfl, ho0, hb⟩; refine ⟨_, rfl, ?_⟩; replace HO_3 := am (Kd.N_elder' b8_ (Kd.R_base ho0) hb); replace HL408_0 := am (Kd.V_elder' (vq HL408_0.out) (Kd.R_base ho0) hb); have HO411 := am (Kd.R_lower (Kd.R_newM (M := fun k_ => (w.heap.size ≤ k_)) ho0 (below_size bel) (fun k_ h_ => h_)) (below_size bel)); replace HR408_0 := am (Kd.C_below b31_ hb); replace HB := am (below_step bel hb); (try clear hb); (try clear hb2); (try clear hk); (try clear hi); (try clear ho0); obtain ⟨Ao12, co12, eo12⟩ := Kd.R_slice HO411.out; subst eo12))
         go_loopg [7, 8] k2 (fun kq v7 v8 w' => ∃ (x7_3 : Bool) (x8_3 : Int), v7 = .bool x7_3 ∧ v8 = .int .i64 x8_3 ∧ Aside0 (spec_l3All.l2 kq x3_2 x4_1 x5_2 t409 x7_3 x8_3 = some r) ∧ Aside0 (kq ≤ k2) ∧ Aside0 (Kd.N (Kd.slice 9 Kd.string) 22 w' w.heap.size (fun k_ => (P0_ k_ ∨ w.heap.size ≤ k_) ∧ some k_ ≠ ((.slice Ao12 t409.length co12) : Value).ownBlock) (.slice (some ad408) x3_2.length co10) x3_2) ∧ Aside0 (Kd.R Kd.string 9 w' w.heap.size (fun k_ => (w.heap.size ≤ k_)) (.slice Ao12 t409.length co12) t409) ∧ Aside0 (Kd.C Kd.string w' A408_0 (rd_L9 x3_2 x4_1).length (rd_L9 x3_2 x4_1)) ∧ Aside0 (Below w.heap.size w w'))
         case atStart => exact ⟨(((t409.length : Int) == 0)), (0), sq, sq, H', ⟨Nat.le_refl _⟩, ⟨b8_⟩, ⟨rq (Kd.R_mono HO411.out (fun _ hk => hk.1))⟩, ⟨b31_⟩, ⟨bel⟩⟩
         case round =>
          clear H'; (try clear c1); (try clear p2); (try clear c4); (try clear c4b0); (try clear p4); (try clear q4); (try clear hx4); (try clear c6); (try clear c6b0); (try clear c7); (try clear c7b0); (try clear c8); (try clear c8b0); (try clear hx408_0); (try clear p2); (try clear p408); (try clear q408); obtain ⟨x7_3, x8_3, rfl, rfl, HA, HK3, HO_3, HO_6, HR408_0, HB⟩ := hrel
          cases gk with
          | zero => exact absurd HA.out (by simp [spec_l3All.l2])
          | succ k3 =>
           have H := HA.out; clear HA
           simp only [spec_l3All.l2] at H
           by_cases c13 : x8_3 < (x3_2.length : Int)
           ·rw [if_pos c13] at H; have c13b0 := decide_eq_true c13; clear c13
            by_cases c14 : x7_3 = true
            ·subst c14
             have H1 : (spec_l3All.l1 k3 x3_2 x4_1 ((x5_2 + 1) % 256)) = some r := b20_
             replace H := H1; clear H1
             have H' := am H
             clear H; go_wp2
             go_roundg k3
             case measure => have := HK1.out; have := HK2.out; have := HK3.out; omega
             case rel => exact ⟨(x3_2), ((x5_2 + 1) % 256), sq, H', ⟨b80_⟩, ⟨b57_⟩, ⟨bel⟩⟩
            ·replace c14 := Bool.eq_false_iff.mpr c14; subst c14
             have H1 : (if 0 ≤ x8_3 then ((spec_l3Same.f k3 (rd_L9 x3_2 x8_3) t409).bind fun t413 => (spec_l3All.l2 k3 x3_2 x4_1 x5_2 t409 t413 (wrap64 (x8_3 + 1)))) else (none)) = some r := b6_
             replace H := H1; clear H1
             by_cases c15 : 0 ≤ x8_3
             ·rw [if_pos c15] at H; have c15b0 := decide_eq_true c15; clear c15; replace H := Option.bind_eq_some_iff.mp H; obtain ⟨t413, A160, H⟩ := H; replace H : (spec_l3All.l2 k3 x3_2 x4_1 x5_2 t409 t413 (wrap64 (x8_3 + 1))) = some r := H; have A16 := Aside0.mk A160; clear A160
              have H' := am H
              clear H
              have p412 : 0 ≤ (x8_3 : Int) := of_decide_eq_true ad
              have q412 : x8_3 < (x3_2.length : Int) := of_decide_eq_true ad
              obtain ⟨ad412, A412_0, c412_0, e412, hx412_0, hl412_0, hi412_0⟩ := at_L9 (Kd.N_reads' HO_3.out).2.2 x8_3 p412 q412
              obtain rfl : ad408 = ad412 := (by injection e412)
              obtain ⟨ce412, hce412, hMe412, hcc412⟩ := Kd.N_get HO_3.out [] x8_3 p412 (by first | exact q412 | exact of_decide_eq_true ad | (have e_ := (Kd.N_reads' HO_3.out).1; omega))
              obtain ⟨ua412_0, uc412_0, rfl, ul412_0, ge412_0⟩ := Kd.FK_slice_open hMe412; have hv412_0 := hcc412 0 _ rfl; rw [Nat.add_zero, show ((Kd.slice 9 Kd.string)).sz = 1 from rfl, Nat.mul_one] at hv412_0; replace hv412_0 := Option.some.inj (hv412_0.symm.trans hx412_0)
              injection hv412_0 with hva_ hvn_ hvc_
              rw [hva_] at ge412_0; rw [hvc_] at ul412_0; have HL412_0 := am (show Kd.V Kd.string 9 _ w.heap.size _ _ (rd_L9 x3_2 x8_3) from Kd.V_mk ul412_0 ge412_0); clear hva_ hvn_ hvc_ ge412_0 ul412_0; clear hcc412 hce412; have HR412_0 := am hi412_0; have HC412_0 := am hl412_0; clear hi412_0 hl412_0; replace p412 := eq_true p412; replace q412 := eq_true q412
              go_wp2_with (first | ((with_reducible refine gate_callee (f := 192) rfl ?_); refine goesL_ (some 45) rfl rfl Try.func192 (by kernel_rfl) rfl #[.slice A412_0 (rd_L9 x3_2 x8_3).length c412_0, .slice Ao12 t409.length co12] rfl mq ?_; (with_reducible refine (spec_l3Same.calls k3 _ _ (rd_L9 x3_2 x8_3) _ _ t409 t413 _ ?side1 ?side2 ?side3 ?side4 A16.out).mono ?_); (case side1 => repeat (first | exact (by repeat (first | (with_reducible exact HR412_0.out) | (with_reducible refine Kd.C_alloc ?_ _) | (with_reducible refine Kd.C_drewN ?_ _) | (with_reducible refine Kd.C_drew ?_) | exact HR412_0.out)) | (with_reducible refine Kd.C_alloc ?_ _) | (with_reducible refine Kd.C_drewN ?_ _) | (with_reducible refine Kd.C_drew ?_))); (case side2 => exact HC412_0.out); (case side3 => exact cq (Kd.R_reads' HO_6.out).2.2); (case side4 => exact (Kd.R_reads' HO_6.out).2.1); rintro e w' ⟨rfl, ⟨nd, rfl⟩⟩; refine ⟨_, rfl, ?_⟩))
              go_roundg k3
              case measure => have := HK1.out; have := HK2.out; have := HK3.out; omega
              case rel => exact ⟨(t413), (wrap64 (x8_3 + 1)), sq, sq, H', ⟨b80_⟩, ⟨b8_⟩, ⟨rq HO_6.out⟩, ⟨b31_⟩, ⟨bel⟩⟩
             ·rw [if_neg c15] at H
              exact absurd H (by simp)
           ·rw [if_neg c13] at H; have c13b0 := decide_eq_false c13; clear c13
            by_cases c17 : x7_3 = true
            ·subst c17
             have H1 : (spec_l3All.l1 k3 x3_2 x4_1 ((x5_2 + 1) % 256)) = some r := b20_
             replace H := H1; clear H1
             have H' := am H
             clear H; go_wp2
             go_roundg k3
             case measure => have := HK1.out; have := HK2.out; have := HK3.out; omega
             case rel => exact ⟨(x3_2), ((x5_2 + 1) % 256), sq, H', ⟨b80_⟩, ⟨b57_⟩, ⟨bel⟩⟩
            ·replace c17 := Bool.eq_false_iff.mpr c17; subst c17
             have H1 : (if x3_2.length < 5864062014805 then (spec_l3All.l1 k3 (x3_2 ++ [t409]) x4_1 ((x5_2 + 1) % 256)) else (none)) = some r := b6_
             replace H := H1; clear H1
             by_cases c18 : x3_2.length < 5864062014805
             ·rw [if_pos c18] at H; have LMc18 := Aside0.mk c18; clear c18; obtain ⟨y414, hy414⟩ : ∃ y_ : List (List ByteArray), y_ = (x3_2 ++ [t409]) := ⟨_, rfl⟩
              replace H : (spec_l3All.l1 k3 y414 x4_1 ((x5_2 + 1) % 256)) = some r := by first | (rw [hy414]; with_reducible exact H) | (have H2_ := (Option.bind_some _ _).symm.trans H; rw [hy414]; with_reducible exact H2_) | (have H2_ := (Option.bind_some _ _).symm.trans H; with_reducible exact H2_) | with_reducible exact H | (rw [hy414]; exact H) | exact H
              have Ny414 := am hy414; clear hy414
              have H' := am H
              clear H
              go_wp2_with (first | ((with_reducible refine gate_builtin (b := .append) (xs := #[.tmp 48, .tmp 50]) rfl ?_); at_builtin; refine Kd.N_append (Kd.slice 9 Kd.string) (w0 := w) w.heap.size rfl (.tmp 48) (.tmp 50) 179 22 (.slice none 0 0) 24 rfl Try.underlying179 info22 rfl (by decide) (by omega) (.slice (some ad408) x3_2.length co10) x3_2 t409 [.slice Ao12 t409.length co12] (fun k_ => (P0_ k_ ∨ w.heap.size ≤ k_)) (fun k_ => ((fun k_ => (P0_ k_ ∨ w.heap.size ≤ k_))) k_ ∧ some k_ ≠ (.slice (some ad408) x3_2.length co10 : Value).ownBlock) rfl rfl ?aP (fun _ hk => hk) ?aF ?aO ?aB ?aS ?aL ?_; (case aP => exact (Kd.FK_slice_mk (Kd.R_reads' (Kd.R_mono (ok' := (fun k_ => ((fun k_ => (P0_ k_ ∨ w.heap.size ≤ k_))) k_ ∧ some k_ ≠ (.slice (some ad408) x3_2.length co10 : Value).ownBlock)) (Kd.R_apart' (HO_6.out) (Kd.N_typed HO_3.out) (by decide)) (fun k_ hk => ⟨(.inr (hk.1)), hk.2⟩))).2.1 (Kd.R_F (Kd.R_mono (ok' := (fun k_ => ((fun k_ => (P0_ k_ ∨ w.heap.size ≤ k_))) k_ ∧ some k_ ≠ (.slice (some ad408) x3_2.length co10 : Value).ownBlock)) (Kd.R_apart' (HO_6.out) (Kd.N_typed HO_3.out) (by decide)) (fun k_ hk => ⟨(.inr (hk.1)), hk.2⟩))))); (case aB => exact bel); (case aF => exact (fun k_ hk => (.inr (Nat.le_trans (below_size bel) hk)))); (case aO => exact b57_); (case aS => exact (below_size bel)); (case aL => have := LMc18.out; omega); intro v415 w19 ho hb hg hat; rw [← Ny414.out] at ho; replace HB := am (hb); have HO416 := am (ho); clear HO_3 HO_6; clear ho hb hg hat))
              go_roundg k3
              case measure => have := HK1.out; have := HK2.out; have := HK3.out; omega
              case rel => exact ⟨(y414), ((x5_2 + 1) % 256), sq, H', ⟨b80_⟩, ⟨by (with_reducible repeat (first | apply Kd.N_alloc | apply Kd.N_drewN | apply Kd.N_drew)); exact HO416.out⟩, ⟨bel⟩⟩
             ·rw [if_neg c18] at H
              exact absurd H (by simp)
        ·rw [if_neg c8] at H
         exact absurd H (by simp)
       ·rw [if_neg c7] at H
        exact absurd H (by simp)
      ·rw [if_neg c6] at H; have c6b0 := decide_eq_false c6; clear c6
       have H' := am H
       clear H; go_wp2
       go_roundg k2
       case measure => have := HK1.out; have := HK2.out; omega
       case rel => exact ⟨(x3_2), (wrap64 (x4_1 + 1)), sq, H', ⟨b27_⟩, ⟨b8_⟩, ⟨bel⟩⟩
   ·rw [if_neg c4] at H; have c4b0 := decide_eq_false c4; clear c4; replace H := Option.bind_eq_some_iff.mp H; obtain ⟨t405, A200, H⟩ := H; replace H : (some t405) = some r := H; have A20 := Aside0.mk A200; clear A200; obtain rfl := Option.some.inj H; obtain ⟨Ao21, co21, eo21⟩ := Kd.N_slice HO_3.out; subst eo21
    go_wp2_with (first | ((with_reducible refine gate_callee (f := 193) rfl ?_); refine goesL_ (some 53) rfl rfl Try.func193 (by kernel_rfl) rfl #[.slice Ao21 x3_1.length co21] rfl mq ?_; (with_reducible refine (spec_l3Sort.calls k1 (fun k_ => (P0_ k_ ∨ w.heap.size ≤ k_)) _ _ x3_1 t405 _ ?side1 A20.out).mono ?_); (case side1 => exact Kd.N_V (HO_3.out)); rintro e w22 ⟨v406, rfl, ho0, hb⟩; refine ⟨_, rfl, ?_⟩; replace HO_3 := am (Kd.N_elder' b8_ (Kd.N_base ho0) hb); have HO407 := am (Kd.N_lower (Kd.N_mono (ok' := fun k_ => (P0_ k_ ∨ w.heap.size ≤ k_)) ho0 (fun k_ hk_ => Or.elim hk_ (fun hs_ => hs_) (fun hn_ => (.inr (Nat.le_trans (below_size bel) hn_))))) (below_size bel)); replace HB := am (below_step bel hb); (try clear hb); (try clear hb2); (try clear hk); (try clear hi); (try clear ho0)))
    go_ret
    exact ⟨_, eq_, by (with_reducible repeat (first | apply Kd.N_alloc | apply Kd.N_drewN | apply Kd.N_drew)); exact HO407.out, bel⟩

/-! ### spec_l3At: function 169 -/
def spec_l3At.l0 : Nat → List (List ByteArray) → List ByteArray → Int → Option (Int)
 | 0, _, _, _ => none
 | k + 1, x0, x1, x5 => if x5 < (x0.length : Int) then (if 0 ≤ x5 then ((spec_l3Same.f k (rd_L9 x0 x5) x1).bind fun t418 => (if t418 = true then (some x5) else (spec_l3At.l0 k x0 x1 (wrap64 (x5 + 1))))) else (none)) else (some (-1))
def spec_l3At.f (k : Nat) (l0 : List (List ByteArray)) (l1 : List ByteArray) : Option (Int) := spec_l3At.l0 k l0 l1 0
set_option maxHeartbeats 8000000 in
set_option maxRecDepth 100000 in
theorem spec_l3At.calls (k : Nat) (A0 : Option Addr) (c0 : Nat) (l0 : List (List ByteArray)) (A1 : Option Addr) (c1 : Nat) (l1 : List ByteArray) (r : Int) (w : World) (hr0 : Kd.C (Kd.slice 9 Kd.string) w A0 l0.length l0) (hc0 : l0.length ≤ c0) (hr1 : Kd.C Kd.string w A1 l1.length l1) (hc1 : l1.length ≤ c1) (h : spec_l3At.f k l0 l1 = some r) :
  Calls Try.prog 169 #[.slice A0 l0.length c0, .slice A1 l1.length c1] w fun e w' => e = .returned (.int .i64 r) ∧ Drawn0 w w' := by
 have HR0 := am hr0; have HC0 := am hc0; clear hr0 hc0; have HR1 := am hr1; have HC1 := am hc1; clear hr1 hc1
 have H : (spec_l3At.l0 k l0 l1 0) = some r := h
 clear h
 have H' := am H
 clear H; go_enter Try.func169, Try.ntmps169; go_wp2
 go_loopg [5] k (fun kq v5 w' => ∃ (x5_1 : Int), v5 = .int .i64 x5_1 ∧ Aside0 (spec_l3At.l0 kq l0 l1 x5_1 = some r) ∧ Aside0 (kq ≤ k) ∧ Drawn0 w w')
 case atStart => exact ⟨(0), sq, H', ⟨Nat.le_refl _⟩, dr⟩
 case round =>
  clear H'; (try clear c1); (try clear p2); obtain ⟨x5_1, rfl, HA, HK1, ⟨m1, rfl⟩⟩ := hrel
  cases gk with
  | zero => exact absurd HA.out (by simp [spec_l3At.l0])
  | succ k1 =>
   have H := HA.out; clear HA
   simp only [spec_l3At.l0] at H
   by_cases c3 : x5_1 < (l0.length : Int)
   ·rw [if_pos c3] at H; have c3b0 := decide_eq_true c3; clear c3
    by_cases c4 : 0 ≤ x5_1
    ·rw [if_pos c4] at H; have c4b0 := decide_eq_true c4; clear c4; replace H := Option.bind_eq_some_iff.mp H; obtain ⟨t418, A50, H⟩ := H; replace H : (if t418 = true then (some x5_1) else (spec_l3At.l0 k1 l0 l1 (wrap64 (x5_1 + 1)))) = some r := H; have A5 := Aside0.mk A50; clear A50
     by_cases c6 : t418 = true
     ·subst c6
      have H1 : (some x5_1) = some r := b20_
      replace H := H1; clear H1
      obtain rfl := Option.some.inj H
      have p417 : 0 ≤ (x5_1 : Int) := of_decide_eq_true ad
      have q417 : x5_1 < (l0.length : Int) := of_decide_eq_true ad
      obtain ⟨ad417, A417_0, c417_0, e417, hx417_0, hl417_0, hi417_0⟩ := at_L9 HR0.out x5_1 p417 q417
      cases e417
      have HR417_0 := am hi417_0; have HC417_0 := am hl417_0; clear hi417_0 hl417_0; replace p417 := eq_true p417; replace q417 := eq_true q417
      go_wp2_with (first | ((with_reducible refine gate_callee (f := 192) rfl ?_); refine goesL_ (some 17) rfl rfl Try.func192 (by kernel_rfl) rfl #[.slice A417_0 (rd_L9 l0 x5_1).length c417_0, .slice A1 l1.length c1] rfl mq ?_; (with_reducible refine (spec_l3Same.calls k1 _ _ (rd_L9 l0 x5_1) _ _ l1 true _ ?side1 ?side2 ?side3 ?side4 A5.out).mono ?_); (case side1 => repeat (first | exact HR417_0.out | (with_reducible refine Kd.C_alloc ?_ _) | (with_reducible refine Kd.C_drewN ?_ _) | (with_reducible refine Kd.C_drew ?_))); (case side2 => exact HC417_0.out); (case side3 => repeat (first | exact HR1.out | (with_reducible refine Kd.C_alloc ?_ _) | (with_reducible refine Kd.C_drewN ?_ _) | (with_reducible refine Kd.C_drew ?_))); (case side4 => exact HC1.out); rintro e w' ⟨rfl, ⟨nd, rfl⟩⟩; refine ⟨_, rfl, ?_⟩))
      go_ret
      exact ⟨sq, dr⟩
     ·replace c6 := Bool.eq_false_iff.mpr c6; subst c6
      have H1 : (spec_l3At.l0 k1 l0 l1 (wrap64 (x5_1 + 1))) = some r := b6_
      replace H := H1; clear H1
      have H' := am H
      clear H
      have p417 : 0 ≤ (x5_1 : Int) := of_decide_eq_true ad
      have q417 : x5_1 < (l0.length : Int) := of_decide_eq_true ad
      obtain ⟨ad417, A417_0, c417_0, e417, hx417_0, hl417_0, hi417_0⟩ := at_L9 HR0.out x5_1 p417 q417
      cases e417
      have HR417_0 := am hi417_0; have HC417_0 := am hl417_0; clear hi417_0 hl417_0; replace p417 := eq_true p417; replace q417 := eq_true q417
      go_wp2_with (first | ((with_reducible refine gate_callee (f := 192) rfl ?_); refine goesL_ (some 17) rfl rfl Try.func192 (by kernel_rfl) rfl #[.slice A417_0 (rd_L9 l0 x5_1).length c417_0, .slice A1 l1.length c1] rfl mq ?_; (with_reducible refine (spec_l3Same.calls k1 _ _ (rd_L9 l0 x5_1) _ _ l1 false _ ?side1 ?side2 ?side3 ?side4 A5.out).mono ?_); (case side1 => repeat (first | exact HR417_0.out | (with_reducible refine Kd.C_alloc ?_ _) | (with_reducible refine Kd.C_drewN ?_ _) | (with_reducible refine Kd.C_drew ?_))); (case side2 => exact HC417_0.out); (case side3 => repeat (first | exact HR1.out | (with_reducible refine Kd.C_alloc ?_ _) | (with_reducible refine Kd.C_drewN ?_ _) | (with_reducible refine Kd.C_drew ?_))); (case side4 => exact HC1.out); rintro e w' ⟨rfl, ⟨nd, rfl⟩⟩; refine ⟨_, rfl, ?_⟩))
      go_roundg k1
      case measure => have := HK1.out; omega
      case rel => exact ⟨(wrap64 (x5_1 + 1)), sq, H', ⟨b61_⟩, dr⟩
    ·rw [if_neg c4] at H
     exact absurd H (by simp)
   ·rw [if_neg c3] at H; have c3b0 := decide_eq_false c3; clear c3; obtain rfl := Option.some.inj H; go_wp2; go_ret
    exact ⟨sq, dr⟩

end Go.Proofs.Ytfpmfaelodfecaa.QFnMachineWord
