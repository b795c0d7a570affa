import Derived.Test.YtfpmfaelodfecaaQFnMachineRankx0
import Derived.Test.YtfpmfaelodfecaaQFnMachineRankx18
import Derived.Test.YtfpmfaelodfecaaVMSh2
import Derived.Test.YtfpmfaelodfecaaQFnMachineRankx10
namespace Go.Proofs.Ytfpmfaelodfecaa.QFnMachineRank
open Go.RowKit Go.Proofs.YtfpmfaelodfecaaW.PrintWords Go.Proofs.YtfpmfaelodfecaaW.PrintLast Go.Proofs.YtfpmfaelodfecaaW.PrintMore Go.Proofs.Ytfpmfaelodfecaa.Sh
attribute [local go_sem] max2_int min2_int max_two min_two max_three min_three max_four min_four
set_option linter.unusedVariables false
set_option linter.unusedSimpArgs false
set_option maxHeartbeats 8000000
set_option maxRecDepth 100000
-- shrunk

/-! ### spec_l3All: function 167 -/
mutual
def spec_l3All.l0 : Nat → List (List ByteArray) → Int → Option ((List (List ByteArray)))
 | 0, _, _ => none
 | k + 1, x3, x4 => if x4 < (x3.length : Int) then (spec_l3All.l1 k x3 x4 97) else ((spec_l3Sort.f k x3).bind fun t492 => (some t492))
def spec_l3All.l1 : Nat → List (List ByteArray) → Int → Int → Option ((List (List ByteArray)))
 | 0, _, _, _ => none
 | k + 1, x3, x4, x5 => if x5 ≤ 122 then (if 0 ≤ x4 then (if x4 < (x3.length : Int) then ((spec_l3Ends.f k (rd_L9 x3 x4) x5).bind fun t496 => (spec_l3All.l2 k x3 x4 x5 t496 ((t496.length : Int) == 0) 0)) else (none)) else (none)) else (spec_l3All.l0 k x3 (wrap64 (x4 + 1)))
def spec_l3All.l2 : Nat → List (List ByteArray) → Int → Int → List ByteArray → Bool → Int → Option ((List (List ByteArray)))
 | 0, _, _, _, _, _, _ => none
 | k + 1, x3, x4, x5, x6, x7, x8 => if x8 < (x3.length : Int) then (if x7 = true then (spec_l3All.l1 k x3 x4 ((x5 + 1) % 256)) else (if 0 ≤ x8 then ((spec_l3Same.f k (rd_L9 x3 x8) x6).bind fun t500 => (spec_l3All.l2 k x3 x4 x5 x6 t500 (wrap64 (x8 + 1)))) else (none))) else (if x7 = true then (spec_l3All.l1 k x3 x4 ((x5 + 1) % 256)) else (if x3.length < 5864062014805 then (spec_l3All.l1 k (x3 ++ [x6]) x4 ((x5 + 1) % 256)) else (none)))
end
def spec_l3All.f (k : Nat) (l0 : List ByteArray) : Option ((List (List ByteArray))) := spec_l3All.l0 k (([l0] : List (List ByteArray))) 0
theorem spec_l3All.calls (k : Nat) (P0_ : Nat → Prop) (A0 : Option Addr) (c0 : Nat) (l0 : List ByteArray) (r : List (List ByteArray)) (w : World) (hs0 : Kd.V Kd.string 9 w w.heap.size (fun k_ => P0_ k_) (.slice A0 l0.length c0) l0) (h : spec_l3All.f k l0 = some r) :
  Calls Try.prog 167 #[.slice A0 l0.length c0] w fun e w' => ∃ v0_ : Value, e = .returned (v0_) ∧ Kd.N (Kd.slice 9 Kd.string) 22 w' w.heap.size (fun k_ => (P0_ k_ ∨ w.heap.size ≤ k_)) v0_ r ∧ Below w.heap.size w w' := by
 have HO0 := am (show Kd.V Kd.string 9 w w.heap.size (fun k_ => (P0_ k_ ∨ w.heap.size ≤ k_)) (.slice A0 l0.length c0) l0 from Kd.V_mono hs0 (fun k_ hk => .inl hk)); have HB := am (Below.refl w.heap.size w)
 have H : (spec_l3All.l0 k (([l0] : List (List ByteArray))) 0) = some r := h
 clear h; obtain ⟨y489, hy489⟩ : ∃ y_ : List (List ByteArray), y_ = (([l0] : List (List ByteArray))) := ⟨_, rfl⟩
 replace H : (spec_l3All.l0 k y489 0) = some r := by first | (rw [hy489]; with_reducible exact H) | (have H2_ := bm H; rw [hy489]; with_reducible exact H2_) | (with_reducible exact bm H) | with_reducible exact H | (rw [hy489]; exact H) | exact H
 have Ny489 := am hy489; clear hy489
 have H' := am H
 clear H; go_enter Try.func167, Try.ntmps167
 go_wp2_with (first | ((with_reducible refine gate_dst (N := 10) rfl ?_); refine Kd.N_lit (Kd.slice 9 Kd.string) _ 22 ?hg (N' := 10) ?hd (xs := ([l0] : List (List ByteArray))) (inner := [.slice A0 l0.length c0]) (ok := (fun k_ => (P0_ k_ ∨ w.heap.size ≤ k_))) (okp := (fun k_ => (P0_ k_ ∨ w.heap.size ≤ k_))) ?hr ?hp (fun _ hk => hk) ((show ∀ k_, w.heap.size ≤ k_ → (fun k_ => (P0_ k_ ∨ w.heap.size ≤ k_)) k_ from fun k_ hk => (.inr (Nat.le_trans (below_size bel) hk))) _ (Nat.le_refl _)) (Below.refl _ _) (Nat.le_refl _) (by simp) ?_; (case hd => rfl); (case hg => rfl); (case hr => first | (go_simp; done) | (go_simp; rfl)); (case hp => exact (Reps.one (show Kd.FK (Kd.slice 9 Kd.string) _ _ l0 [.slice A0 l0.length c0] from (Kd.FK_slice_mk (Kd.V_reads' (Kd.V_mono (ok' := (fun k_ => (P0_ k_ ∨ w.heap.size ≤ k_))) (HO0.out) (fun k_ hk => hk))).2.1 (Kd.V_F (Kd.V_mono (ok' := (fun k_ => (P0_ k_ ∨ w.heap.size ≤ k_))) (HO0.out) (fun k_ hk => hk))))) (Reps.none _ _))); intro v490 w2 ho3 hb hg_ hnew_; clear hg_ hnew_; (first | rw [← Ny489.out] at ho3 | (simp only [Int.reduceToNat] at ho3; rw [← Ny489.out] at ho3) | (simp only [Int.toNat_natCast] at ho3; rw [← Ny489.out] at ho3)); replace HO0 := am (Kd.V_elder' (vq HO0.out) (Kd.N_base ho3) hb); have HO491 := am (Kd.N_lower ho3 (below_size bel)); replace HB := am (below_step bel hb); clear hb ho3))
 go_loopg [3, 4] k (fun kq v3 v4 w' => ∃ (x3_1 : List (List ByteArray)) (x4_1 : Int), v4 = .int .i64 x4_1 ∧ Aside0 (spec_l3All.l0 kq x3_1 x4_1 = some r) ∧ Aside0 (kq ≤ k) ∧ Aside0 (Kd.N (Kd.slice 9 Kd.string) 22 w' w.heap.size (fun k_ => (P0_ k_ ∨ w.heap.size ≤ k_)) v3 x3_1) ∧ Aside0 (Below w.heap.size w w'))
 case atStart => exact ⟨(y489), (0), sq, H', ⟨Nat.le_refl _⟩, ⟨by (with_reducible repeat (first | apply Kd.N_alloc | apply Kd.N_drewN | apply Kd.N_drew)); exact HO491.out⟩, ⟨bel⟩⟩
 case round =>
  clear H'; (try clear c1); (try clear p2); obtain ⟨x3_1, x4_1, rfl, HA, HK1, HO_3, HB⟩ := hrel
  cases gk with
  | zero => exact absurd HA.out (by simp [spec_l3All.l0])
  | succ k1 =>
   have H := HA.out; clear HA
   simp only [spec_l3All.l0] at H
   by_cases c4 : x4_1 < (x3_1.length : Int)
   ·rw [if_pos c4] at H; have c4b0 := decide_eq_true c4; clear c4
    have H' := am H
    clear H; obtain ⟨Ao5, co5, eo5⟩ := Kd.N_slice HO_3.out; subst eo5; go_wp2
    go_loopg [3, 5] k1 (fun kq v3 v5 w' => ∃ (x3_2 : List (List ByteArray)) (x5_2 : Int), v5 = .int .u8 x5_2 ∧ Aside0 (spec_l3All.l1 kq x3_2 x4_1 x5_2 = some r) ∧ Aside0 (kq ≤ k1) ∧ Aside0 (Kd.N (Kd.slice 9 Kd.string) 22 w' w.heap.size (fun k_ => (P0_ k_ ∨ w.heap.size ≤ k_)) v3 x3_2) ∧ Aside0 (Below w.heap.size w w'))
    case atStart => exact ⟨(x3_1), (97), sq, H', ⟨Nat.le_refl _⟩, ⟨b9_⟩, ⟨bel⟩⟩
    case round =>
     clear H'; (try clear c1); (try clear p2); (try clear c4); (try clear c4b0); (try clear p2); obtain ⟨x3_2, x5_2, rfl, HA, HK2, HO_3, HB⟩ := hrel
     cases gk with
     | zero => exact absurd HA.out (by simp [spec_l3All.l1])
     | succ k2 =>
      have H := HA.out; clear HA
      simp only [spec_l3All.l1] at H
      by_cases c6 : x5_2 ≤ 122
      ·rw [if_pos c6] at H; have c6b0 := decide_eq_true c6; clear c6
       replace H := it H; obtain ⟨c7b0, H⟩ := H
       replace H := it H; obtain ⟨c8b0, H⟩ := H; replace H := bs H; obtain ⟨t496, A90, H⟩ := H; replace H : (spec_l3All.l2 k2 x3_2 x4_1 x5_2 t496 ((t496.length : Int) == 0) 0) = some r := H; have A9 := Aside0.mk A90; clear A90
       have H' := am H
       clear H; obtain ⟨Ao10, co10, eo10⟩ := Kd.N_slice HO_3.out; subst eo10
       have p495 : 0 ≤ (x4_1 : Int) := of_decide_eq_true ad
       have q495 : x4_1 < (x3_2.length : Int) := of_decide_eq_true ad
       obtain ⟨ad495, A495_0, c495_0, e495, hx495_0, hl495_0, hi495_0⟩ := at_L9 (Kd.N_reads' HO_3.out).2.2 x4_1 p495 q495
       cases e495
       obtain ⟨ce495, hce495, hMe495, hcc495⟩ := Kd.N_get HO_3.out [] x4_1 p495 (by first | exact q495 | exact of_decide_eq_true ad | (have e_ := (Kd.N_reads' HO_3.out).1; omega))
       obtain ⟨ua495_0, uc495_0, rfl, ul495_0, ge495_0⟩ := Kd.FK_slice_open hMe495; have hv495_0 := hcc495 0 _ rfl; rw [Nat.add_zero, show ((Kd.slice 9 Kd.string)).sz = 1 from rfl, Nat.mul_one] at hv495_0; replace hv495_0 := Option.some.inj (hv495_0.symm.trans hx495_0)
       injection hv495_0 with hva_ hvn_ hvc_
       rw [hva_] at ge495_0; rw [hvc_] at ul495_0; have HL495_0 := am (show Kd.V Kd.string 9 _ w.heap.size _ _ (rd_L9 x3_2 x4_1) from Kd.V_mk ul495_0 ge495_0); clear hva_ hvn_ hvc_ ge495_0 ul495_0; clear hcc495 hce495; have HR495_0 := am hi495_0; have HC495_0 := am hl495_0; clear hi495_0 hl495_0; replace p495 := eq_true p495; replace q495 := eq_true q495
       go_wp2_with (first | ((with_reducible refine gate_callee (f := 168) rfl ?_); refine goesL_ (some 26) rfl rfl Try.func168 (by kernel_rfl) rfl #[.slice A495_0 (rd_L9 x3_2 x4_1).length c495_0, .int .u8 x5_2] rfl mq ?_; (with_reducible refine (spec_l3Ends.calls k2 _ _ (rd_L9 x3_2 x4_1) x5_2 t496 _ ?side1 ?side2 A9.out).mono ?_); (case side1 => repeat (first | exact b34_ | (with_reducible refine Kd.C_alloc ?_ _) | (with_reducible refine Kd.C_drewN ?_ _) | (with_reducible refine Kd.C_drew ?_))); (case side2 => exact HC495_0.out); rintro e w11 ⟨v497, rfl, ho0, hb⟩; refine ⟨_, rfl, ?_⟩; replace HO_3 := am (Kd.N_elder' b9_ (Kd.R_base ho0) hb); replace HL495_0 := am (Kd.V_elder' (vq HL495_0.out) (Kd.R_base ho0) hb); have HO498 := am (Kd.R_lower (Kd.R_newM (M := fun k_ => (w.heap.size ≤ k_)) ho0 (below_size bel) (fun k_ h_ => h_)) (below_size bel)); replace HR495_0 := am (Kd.C_below b34_ hb); replace HB := am (below_step bel hb); (try clear hb); (try clear hb2); (try clear hk); (try clear hi); (try clear ho0); obtain ⟨Ao12, co12, eo12⟩ := Kd.R_slice HO498.out; subst eo12))
       go_loopg [7, 8] k2 (fun kq v7 v8 w' => ∃ (x7_3 : Bool) (x8_3 : Int), v7 = .bool x7_3 ∧ v8 = .int .i64 x8_3 ∧ Aside0 (spec_l3All.l2 kq x3_2 x4_1 x5_2 t496 x7_3 x8_3 = some r) ∧ Aside0 (kq ≤ k2) ∧ Aside0 (Kd.N (Kd.slice 9 Kd.string) 22 w' w.heap.size (fun k_ => (P0_ k_ ∨ w.heap.size ≤ k_) ∧ some k_ ≠ ((.slice Ao12 t496.length co12) : Value).ownBlock) (.slice (some ad495) x3_2.length co10) x3_2) ∧ Aside0 (Kd.R Kd.string 9 w' w.heap.size (fun k_ => (w.heap.size ≤ k_)) (.slice Ao12 t496.length co12) t496) ∧ Aside0 (Kd.C Kd.string w' A495_0 (rd_L9 x3_2 x4_1).length (rd_L9 x3_2 x4_1)) ∧ Aside0 (Below w.heap.size w w'))
       case atStart => exact ⟨(((t496.length : Int) == 0)), (0), sq, sq, H', ⟨Nat.le_refl _⟩, ⟨b9_⟩, ⟨rq (Kd.R_mono HO498.out (fun _ hk => hk.1))⟩, ⟨b34_⟩, ⟨bel⟩⟩
       case round =>
        clear H'; (try clear c1); (try clear p2); (try clear c4); (try clear c4b0); (try clear p4); (try clear q4); (try clear hx4); (try clear c6); (try clear c6b0); (try clear c7); (try clear c7b0); (try clear c8); (try clear c8b0); (try clear hx495_0); (try clear p2); (try clear p495); (try clear q495); obtain ⟨x7_3, x8_3, rfl, rfl, HA, HK3, HO_3, HO_6, HR495_0, HB⟩ := hrel
        cases gk with
        | zero => exact absurd HA.out (by simp [spec_l3All.l2])
        | succ k3 =>
         have H := HA.out; clear HA
         simp only [spec_l3All.l2] at H
         by_cases c13 : x8_3 < (x3_2.length : Int)
         ·rw [if_pos c13] at H; have c13b0 := decide_eq_true c13; clear c13
          by_cases c14 : x7_3 = true
          ·subst c14
           have H1 : (spec_l3All.l1 k3 x3_2 x4_1 ((x5_2 + 1) % 256)) = some r := b21_
           replace H := H1; clear H1
           have H' := am H
           clear H; go_wp2
           go_roundg k3
           case measure => have := HK1.out; have := HK2.out; have := HK3.out; omega
           case rel => exact ⟨(x3_2), ((x5_2 + 1) % 256), sq, H', ⟨b87_⟩, ⟨b63_⟩, ⟨bel⟩⟩
          replace c14 := Bool.eq_false_iff.mpr c14; subst c14
          have H1 : (if 0 ≤ x8_3 then ((spec_l3Same.f k3 (rd_L9 x3_2 x8_3) t496).bind fun t500 => (spec_l3All.l2 k3 x3_2 x4_1 x5_2 t496 t500 (wrap64 (x8_3 + 1)))) else (none)) = some r := b6_
          replace H := H1; clear H1
          replace H := it H; obtain ⟨c15b0, H⟩ := H; replace H := bs H; obtain ⟨t500, A160, H⟩ := H; replace H : (spec_l3All.l2 k3 x3_2 x4_1 x5_2 t496 t500 (wrap64 (x8_3 + 1))) = some r := H; have A16 := Aside0.mk A160; clear A160
          have H' := am H
          clear H
          have p499 : 0 ≤ (x8_3 : Int) := of_decide_eq_true ad
          have q499 : x8_3 < (x3_2.length : Int) := of_decide_eq_true ad
          obtain ⟨ad499, A499_0, c499_0, e499, hx499_0, hl499_0, hi499_0⟩ := at_L9 (Kd.N_reads' HO_3.out).2.2 x8_3 p499 q499
          obtain rfl : ad495 = ad499 := (by injection e499)
          obtain ⟨ce499, hce499, hMe499, hcc499⟩ := Kd.N_get HO_3.out [] x8_3 p499 (by first | exact q499 | exact of_decide_eq_true ad | (have e_ := (Kd.N_reads' HO_3.out).1; omega))
          obtain ⟨ua499_0, uc499_0, rfl, ul499_0, ge499_0⟩ := Kd.FK_slice_open hMe499; have hv499_0 := hcc499 0 _ rfl; rw [Nat.add_zero, show ((Kd.slice 9 Kd.string)).sz = 1 from rfl, Nat.mul_one] at hv499_0; replace hv499_0 := Option.some.inj (hv499_0.symm.trans hx499_0)
          injection hv499_0 with hva_ hvn_ hvc_
          rw [hva_] at ge499_0; rw [hvc_] at ul499_0; have HL499_0 := am (show Kd.V Kd.string 9 _ w.heap.size _ _ (rd_L9 x3_2 x8_3) from Kd.V_mk ul499_0 ge499_0); clear hva_ hvn_ hvc_ ge499_0 ul499_0; clear hcc499 hce499; have HR499_0 := am hi499_0; have HC499_0 := am hl499_0; clear hi499_0 hl499_0; replace p499 := eq_true p499; replace q499 := eq_true q499
          go_wp2_with (first | ((with_reducible refine gate_callee (f := 192) rfl ?_); refine goesL_ (some 45) rfl rfl Try.func192 (by kernel_rfl) rfl #[.slice A499_0 (rd_L9 x3_2 x8_3).length c499_0, .slice Ao12 t496.length co12] rfl mq ?_; (with_reducible refine (spec_l3Same.calls k3 _ _ (rd_L9 x3_2 x8_3) _ _ t496 t500 _ ?side1 ?side2 ?side3 ?side4 A16.out).mono ?_); (case side1 => repeat (first | exact (by repeat (first | (with_reducible exact HR499_0.out) | (with_reducible refine Kd.C_alloc ?_ _) | (with_reducible refine Kd.C_drewN ?_ _) | (with_reducible refine Kd.C_drew ?_) | exact HR499_0.out)) | (with_reducible refine Kd.C_alloc ?_ _) | (with_reducible refine Kd.C_drewN ?_ _) | (with_reducible refine Kd.C_drew ?_))); (case side2 => exact HC499_0.out); (case side3 => exact cq (Kd.R_reads' HO_6.out).2.2); (case side4 => exact (Kd.R_reads' HO_6.out).2.1); rintro e w' ⟨rfl, ⟨nd, rfl⟩⟩; refine ⟨_, rfl, ?_⟩))
          go_roundg k3
          case measure => have := HK1.out; have := HK2.out; have := HK3.out; omega
          case rel => exact ⟨(t500), (wrap64 (x8_3 + 1)), sq, sq, H', ⟨b87_⟩, ⟨b9_⟩, ⟨rq HO_6.out⟩, ⟨b34_⟩, ⟨bel⟩⟩
         rw [if_neg c13] at H; have c13b0 := decide_eq_false c13; clear c13
         by_cases c17 : x7_3 = true
         ·subst c17
          have H1 : (spec_l3All.l1 k3 x3_2 x4_1 ((x5_2 + 1) % 256)) = some r := b21_
          replace H := H1; clear H1
          have H' := am H
          clear H; go_wp2
          go_roundg k3
          case measure => have := HK1.out; have := HK2.out; have := HK3.out; omega
          case rel => exact ⟨(x3_2), ((x5_2 + 1) % 256), sq, H', ⟨b87_⟩, ⟨b63_⟩, ⟨bel⟩⟩
         replace c17 := Bool.eq_false_iff.mpr c17; subst c17
         have H1 : (if x3_2.length < 5864062014805 then (spec_l3All.l1 k3 (x3_2 ++ [t496]) x4_1 ((x5_2 + 1) % 256)) else (none)) = some r := b6_
         replace H := H1; clear H1
         replace H := ip H; obtain ⟨c18, H⟩ := H; have LMc18 := Aside0.mk c18; clear c18; obtain ⟨y501, hy501⟩ : ∃ y_ : List (List ByteArray), y_ = (x3_2 ++ [t496]) := ⟨_, rfl⟩
         replace H : (spec_l3All.l1 k3 y501 x4_1 ((x5_2 + 1) % 256)) = some r := by first | (rw [hy501]; with_reducible exact H) | (have H2_ := bm H; rw [hy501]; with_reducible exact H2_) | (with_reducible exact bm H) | with_reducible exact H | (rw [hy501]; exact H) | exact H
         have Ny501 := am hy501; clear hy501
         have H' := am H
         clear H
         go_wp2_with (first | ((with_reducible refine gate_builtin (b := .append) (xs := #[.tmp 48, .tmp 50]) rfl ?_); at_builtin; refine Kd.N_append (Kd.slice 9 Kd.string) (w0 := w) w.heap.size rfl (.tmp 48) (.tmp 50) 179 22 (.slice none 0 0) 24 rfl Try.underlying179 info22 rfl (by decide) (by omega) (.slice (some ad495) x3_2.length co10) x3_2 t496 [.slice Ao12 t496.length co12] (fun k_ => (P0_ k_ ∨ w.heap.size ≤ k_)) (fun k_ => ((fun k_ => (P0_ k_ ∨ w.heap.size ≤ k_))) k_ ∧ some k_ ≠ (.slice (some ad495) x3_2.length co10 : Value).ownBlock) rfl rfl ?aP (fun _ hk => hk) ?aF ?aO ?aB ?aS ?aL ?_; (case aP => exact (Kd.FK_slice_mk (Kd.R_reads' (Kd.R_mono (ok' := (fun k_ => ((fun k_ => (P0_ k_ ∨ w.heap.size ≤ k_))) k_ ∧ some k_ ≠ (.slice (some ad495) x3_2.length co10 : Value).ownBlock)) (Kd.R_apart' (HO_6.out) (Kd.N_typed HO_3.out) (by decide)) (fun k_ hk => ⟨(.inr (hk.1)), hk.2⟩))).2.1 (Kd.R_F (Kd.R_mono (ok' := (fun k_ => ((fun k_ => (P0_ k_ ∨ w.heap.size ≤ k_))) k_ ∧ some k_ ≠ (.slice (some ad495) x3_2.length co10 : Value).ownBlock)) (Kd.R_apart' (HO_6.out) (Kd.N_typed HO_3.out) (by decide)) (fun k_ hk => ⟨(.inr (hk.1)), hk.2⟩))))); (case aB => exact bel); (case aF => exact (fun k_ hk => (.inr (Nat.le_trans (below_size bel) hk)))); (case aO => exact b63_); (case aS => exact (below_size bel)); (case aL => have := LMc18.out; omega); intro v502 w19 ho hb hg hat; rw [← Ny501.out] at ho; replace HB := am (hb); have HO503 := am (ho); clear HO_3 HO_6; clear ho hb hg hat))
         go_roundg k3
         case measure => have := HK1.out; have := HK2.out; have := HK3.out; omega
         case rel => exact ⟨(y501), ((x5_2 + 1) % 256), sq, H', ⟨b87_⟩, ⟨by (with_reducible repeat (first | apply Kd.N_alloc | apply Kd.N_drewN | apply Kd.N_drew)); exact HO503.out⟩, ⟨bel⟩⟩
      rw [if_neg c6] at H; have c6b0 := decide_eq_false c6; clear c6
      have H' := am H
      clear H; go_wp2
      go_roundg k2
      case measure => have := HK1.out; have := HK2.out; omega
      case rel => exact ⟨(x3_2), (wrap64 (x4_1 + 1)), sq, H', ⟨b25_⟩, ⟨b9_⟩, ⟨bel⟩⟩
   rw [if_neg c4] at H; have c4b0 := decide_eq_false c4; clear c4; replace H := bs H; obtain ⟨t492, A200, H⟩ := H; replace H : (some t492) = some r := H; have A20 := Aside0.mk A200; clear A200; obtain rfl := Option.some.inj H; obtain ⟨Ao21, co21, eo21⟩ := Kd.N_slice HO_3.out; subst eo21
   go_wp2_with (first | ((with_reducible refine gate_callee (f := 193) rfl ?_); refine goesL_ (some 53) rfl rfl Try.func193 (by kernel_rfl) rfl #[.slice Ao21 x3_1.length co21] rfl mq ?_; (with_reducible refine (spec_l3Sort.calls k1 (fun k_ => (P0_ k_ ∨ w.heap.size ≤ k_)) _ _ x3_1 t492 _ ?side1 A20.out).mono ?_); (case side1 => exact Kd.N_V (HO_3.out)); rintro e w22 ⟨v493, rfl, ho0, hb⟩; refine ⟨_, rfl, ?_⟩; replace HO_3 := am (Kd.N_elder' b9_ (Kd.N_base ho0) hb); have HO494 := am (Kd.N_lower (Kd.N_mono (ok' := fun k_ => (P0_ k_ ∨ w.heap.size ≤ k_)) ho0 (fun k_ hk_ => Or.elim hk_ (fun hs_ => hs_) (fun hn_ => (.inr (Nat.le_trans (below_size bel) hn_))))) (below_size bel)); replace HB := am (below_step bel hb); (try clear hb); (try clear hb2); (try clear hk); (try clear hi); (try clear ho0)))
   go_ret
   exact ⟨_, eq_, by (with_reducible repeat (first | apply Kd.N_alloc | apply Kd.N_drewN | apply Kd.N_drew)); exact HO494.out, bel⟩

/-! ### spec_l3At: function 169 -/
def spec_l3At.l0 : Nat → List (List ByteArray) → List ByteArray → Int → Option (Int)
 | 0, _, _, _ => none
 | k + 1, x0, x1, x5 => if x5 < (x0.length : Int) then (if 0 ≤ x5 then ((spec_l3Same.f k (rd_L9 x0 x5) x1).bind fun t505 => (if t505 = true then (some x5) else (spec_l3At.l0 k x0 x1 (wrap64 (x5 + 1))))) else (none)) else (some (-1))
def spec_l3At.f (k : Nat) (l0 : List (List ByteArray)) (l1 : List ByteArray) : Option (Int) := spec_l3At.l0 k l0 l1 0
theorem spec_l3At.calls (k : Nat) (A0 : Option Addr) (c0 : Nat) (l0 : List (List ByteArray)) (A1 : Option Addr) (c1 : Nat) (l1 : List ByteArray) (r : Int) (w : World) (hr0 : Kd.C (Kd.slice 9 Kd.string) w A0 l0.length l0) (hc0 : l0.length ≤ c0) (hr1 : Kd.C Kd.string w A1 l1.length l1) (hc1 : l1.length ≤ c1) (h : spec_l3At.f k l0 l1 = some r) :
  Calls Try.prog 169 #[.slice A0 l0.length c0, .slice A1 l1.length c1] w fun e w' => e = .returned (.int .i64 r) ∧ Drawn0 w w' := by
 have HR0 := am hr0; have HC0 := am hc0; clear hr0 hc0; have HR1 := am hr1; have HC1 := am hc1; clear hr1 hc1
 have H : (spec_l3At.l0 k l0 l1 0) = some r := h
 clear h
 have H' := am H
 clear H; go_enter Try.func169, Try.ntmps169; go_wp2
 go_loopg [5] k (fun kq v5 w' => ∃ (x5_1 : Int), v5 = .int .i64 x5_1 ∧ Aside0 (spec_l3At.l0 kq l0 l1 x5_1 = some r) ∧ Aside0 (kq ≤ k) ∧ Drawn0 w w')
 case atStart => exact ⟨(0), sq, H', ⟨Nat.le_refl _⟩, dr⟩
 case round =>
  clear H'; (try clear c1); (try clear p2); obtain ⟨x5_1, rfl, HA, HK1, ⟨m1, rfl⟩⟩ := hrel
  cases gk with
  | zero => exact absurd HA.out (by simp [spec_l3At.l0])
  | succ k1 =>
   have H := HA.out; clear HA
   simp only [spec_l3At.l0] at H
   by_cases c3 : x5_1 < (l0.length : Int)
   ·rw [if_pos c3] at H; have c3b0 := decide_eq_true c3; clear c3
    replace H := it H; obtain ⟨c4b0, H⟩ := H; replace H := bs H; obtain ⟨t505, A50, H⟩ := H; replace H : (if t505 = true then (some x5_1) else (spec_l3At.l0 k1 l0 l1 (wrap64 (x5_1 + 1)))) = some r := H; have A5 := Aside0.mk A50; clear A50
    by_cases c6 : t505 = true
    ·subst c6
     have H1 : (some x5_1) = some r := b21_
     replace H := H1; clear H1
     obtain rfl := Option.some.inj H
     have p504 : 0 ≤ (x5_1 : Int) := of_decide_eq_true ad
     have q504 : x5_1 < (l0.length : Int) := of_decide_eq_true ad
     obtain ⟨ad504, A504_0, c504_0, e504, hx504_0, hl504_0, hi504_0⟩ := at_L9 HR0.out x5_1 p504 q504
     cases e504
     have HR504_0 := am hi504_0; have HC504_0 := am hl504_0; clear hi504_0 hl504_0; replace p504 := eq_true p504; replace q504 := eq_true q504
     go_wp2_with (first | ((with_reducible refine gate_callee (f := 192) rfl ?_); refine goesL_ (some 17) rfl rfl Try.func192 (by kernel_rfl) rfl #[.slice A504_0 (rd_L9 l0 x5_1).length c504_0, .slice A1 l1.length c1] rfl mq ?_; (with_reducible refine (spec_l3Same.calls k1 _ _ (rd_L9 l0 x5_1) _ _ l1 true _ ?side1 ?side2 ?side3 ?side4 A5.out).mono ?_); (case side1 => repeat (first | exact HR504_0.out | (with_reducible refine Kd.C_alloc ?_ _) | (with_reducible refine Kd.C_drewN ?_ _) | (with_reducible refine Kd.C_drew ?_))); (case side2 => exact HC504_0.out); (case side3 => repeat (first | exact HR1.out | (with_reducible refine Kd.C_alloc ?_ _) | (with_reducible refine Kd.C_drewN ?_ _) | (with_reducible refine Kd.C_drew ?_))); (case side4 => exact HC1.out); rintro e w' ⟨rfl, ⟨nd, rfl⟩⟩; refine ⟨_, rfl, ?_⟩))
     go_ret
     exact ⟨sq, dr⟩
    replace c6 := Bool.eq_false_iff.mpr c6; subst c6
    have H1 : (spec_l3At.l0 k1 l0 l1 (wrap64 (x5_1 + 1))) = some r := b6_
    replace H := H1; clear H1
    have H' := am H
    clear H
    have p504 : 0 ≤ (x5_1 : Int) := of_decide_eq_true ad
    have q504 : x5_1 < (l0.length : Int) := of_decide_eq_true ad
    obtain ⟨ad504, A504_0, c504_0, e504, hx504_0, hl504_0, hi504_0⟩ := at_L9 HR0.out x5_1 p504 q504
    cases e504
    have HR504_0 := am hi504_0; have HC504_0 := am hl504_0; clear hi504_0 hl504_0; replace p504 := eq_true p504; replace q504 := eq_true q504
    go_wp2_with (first | ((with_reducible refine gate_callee (f := 192) rfl ?_); refine goesL_ (some 17) rfl rfl Try.func192 (by kernel_rfl) rfl #[.slice A504_0 (rd_L9 l0 x5_1).length c504_0, .slice A1 l1.length c1] rfl mq ?_; (with_reducible refine (spec_l3Same.calls k1 _ _ (rd_L9 l0 x5_1) _ _ l1 false _ ?side1 ?side2 ?side3 ?side4 A5.out).mono ?_); (case side1 => repeat (first | exact HR504_0.out | (with_reducible refine Kd.C_alloc ?_ _) | (with_reducible refine Kd.C_drewN ?_ _) | (with_reducible refine Kd.C_drew ?_))); (case side2 => exact HC504_0.out); (case side3 => repeat (first | exact HR1.out | (with_reducible refine Kd.C_alloc ?_ _) | (with_reducible refine Kd.C_drewN ?_ _) | (with_reducible refine Kd.C_drew ?_))); (case side4 => exact HC1.out); rintro e w' ⟨rfl, ⟨nd, rfl⟩⟩; refine ⟨_, rfl, ?_⟩))
    go_roundg k1
    case measure => have := HK1.out; omega
    case rel => exact ⟨(wrap64 (x5_1 + 1)), sq, H', ⟨b67_⟩, dr⟩
   rw [if_neg c3] at H; have c3b0 := decide_eq_false c3; clear c3; obtain rfl := Option.some.inj H; go_wp2; go_ret
   exact ⟨sq, dr⟩
-- shrunk

/-! ### spec_MachineOf: function 145 -/
mutual
def spec_MachineOf.l0 : Nat → List (List ByteArray) → List (S94) → Int → Option ((List (S94)) × Bool)
 | 0, _, _, _ => none
 | k + 1, x4, x5, x6 => if x6 < (x4.length : Int) then (if 0 ≤ x6 then (if ((rd_L9 x4 x6).length : Int) > 0 then (if 0 < ((rd_L9 x4 x6).length : Int) then (spec_MachineOf.l1 k x4 x5 x6 97 ((rdOf ByteArray.empty (rd_L9 x4 x6) 0).toList == ([] : List UInt8)) (([] : List (S100)))) else (none)) else (spec_MachineOf.l1 k x4 x5 x6 97 false (([] : List (S100))))) else (none)) else (some (x5, true))
def spec_MachineOf.l1 : Nat → List (List ByteArray) → List (S94) → Int → Int → Bool → List (S100) → Option ((List (S94)) × Bool)
 | 0, _, _, _, _, _, _ => none
 | k + 1, x4, x5, x6, x8, x523000, x523001 => if x8 ≤ 122 then (if 0 ≤ x6 then (if x6 < (x4.length : Int) then ((spec_l3Ends.f k (rd_L9 x4 x6) x8).bind fun t524 => (if (t524.length : Int) > 0 then ((spec_l3At.f k x4 t524).bind fun t527 => (if x523001.length < 8796093022208 then (spec_MachineOf.l1 k x4 x5 x6 ((x8 + 1) % 256) x523000 (x523001 ++ [(⟨wrap64 (x8), t527⟩ : S100)])) else (none))) else (spec_MachineOf.l1 k x4 x5 x6 ((x8 + 1) % 256) x523000 x523001))) else (none)) else (none)) else (if x5.length < 4398046511104 then (spec_MachineOf.l0 k x4 (x5 ++ [(⟨x523000, x523001⟩ : S94)]) (wrap64 (x6 + 1))) else (none))
end
def spec_MachineOf.f (k : Nat) (l0 : List ByteArray) : Option ((List (S94)) × Bool) := (spec_l3Words.f k l0).bind fun t506 => (if t506 = true then ((spec_l3All.f k l0).bind fun t507 => (if (t507.length : Int) > 400 then (some ((([] : List (S94))), false)) else (spec_MachineOf.l0 k t507 (([] : List (S94))) 0))) else (some ((([] : List (S94))), false)))
def spec_MachineOf.T16 : Bool × List (List Nat × List Nat) := (true, [([], []), ([0], [0]), ([], []), ([2], [2]), ([], []), ([], []), ([4, 5], [4, 5]), ([3, 6], [3, 6]), ([7], [7]), ([1, 8, 6], [1, 8]), ([0, 1, 2, 3, 4, 5, 6, 7, 8, 9], []), ([10, 9, 9, 0, 1, 2, 3, 4, 5, 6, 7, 8, 9], [9, 10])])
def spec_MachineOf.B16 : List Nat := [0, 1, 0, 4, 0, 0, 48, 124, 252, 511, 1023, 2047]
theorem spec_MachineOf.tab16 : rtab .any (opsOf Try.f145 16) = spec_MachineOf.T16 := by kernel_rfl
theorem spec_MachineOf.bits16 : waitsOk spec_MachineOf.T16.2 spec_MachineOf.B16 = true := by kernel_rfl
theorem spec_MachineOf.calls (k : Nat) (A0 : Option Addr) (c0 : Nat) (l0 : List ByteArray) (r1 : List (S94)) (r2 : Bool) (w : World) (hr0 : Kd.C Kd.string w A0 l0.length l0) (hc0 : l0.length ≤ c0) (h : spec_MachineOf.f k l0 = some (r1, r2)) :
  Calls Try.prog 145 #[.slice A0 l0.length c0] w fun e w' => ∃ v0_ : Value, e = .returned (.tuple #[v0_, .bool r2]) ∧ Kd.S k94 94 w' w.heap.size (fun _ => True) v0_ r1 ∧ Below w.heap.size w w' := by
 have hu94 := Try.underlying94; have hu100 := Try.underlying100; have HR0 := am hr0; have HC0 := am hc0; clear hr0 hc0; have HB := am (Below.refl w.heap.size w)
 have H : ((spec_l3Words.f k l0).bind fun t506 => (if t506 = true then ((spec_l3All.f k l0).bind fun t507 => (if (t507.length : Int) > 400 then (some ((([] : List (S94))), false)) else (spec_MachineOf.l0 k t507 (([] : List (S94))) 0))) else (some ((([] : List (S94))), false)))) = some (r1, r2) := h
 clear h; replace H := bs H; obtain ⟨t506, A20, H⟩ := H; replace H : (if t506 = true then ((spec_l3All.f k l0).bind fun t507 => (if (t507.length : Int) > 400 then (some ((([] : List (S94))), false)) else (spec_MachineOf.l0 k t507 (([] : List (S94))) 0))) else (some ((([] : List (S94))), false))) = some (r1, r2) := H; have A2 := Aside0.mk A20; clear A20
 by_cases c3 : t506 = true
 ·subst c3
  have H1 : ((spec_l3All.f k l0).bind fun t507 => (if (t507.length : Int) > 400 then (some ((([] : List (S94))), false)) else (spec_MachineOf.l0 k t507 (([] : List (S94))) 0))) = some (r1, r2) := b21_
  replace H := H1; clear H1
  replace H := bs H; obtain ⟨t507, A40, H⟩ := H; replace H : (if (t507.length : Int) > 400 then (some ((([] : List (S94))), false)) else (spec_MachineOf.l0 k t507 (([] : List (S94))) 0)) = some (r1, r2) := H; have A4 := Aside0.mk A40; clear A40
  by_cases c5 : (t507.length : Int) > 400
  ·rw [if_pos c5] at H; have c5b0 := decide_eq_true c5
   have c5b1 : decide (400 < t507.length) = true := decide_eq_true (by omega)
   clear c5; obtain ⟨y510, hy510⟩ : ∃ y_ : List (S94), y_ = (([] : List (S94))) := ⟨_, rfl⟩
   replace H : (some (y510, false)) = some (r1, r2) := by first | (rw [hy510]; with_reducible exact H) | (have H2_ := bm H; rw [hy510]; with_reducible exact H2_) | (with_reducible exact bm H) | with_reducible exact H | (rw [hy510]; exact H) | exact H
   have Ny510 := am hy510; clear hy510
   simp only [Option.some.injEq, Prod.mk.injEq] at H
   obtain ⟨rfl, rfl⟩ := H; go_enter Try.func145, Try.ntmps145
   go_wp2_with (first | ((with_reducible refine gate_callee (f := 56) rfl ?_); refine goesL_ (some 11) rfl rfl Try.func56 (by kernel_rfl) rfl #[.slice A0 l0.length c0] rfl mq ?_; (with_reducible refine (spec_l3Words.calls k _ _ l0 true _ ?side1 ?side2 A2.out).mono ?_); (case side1 => repeat (first | exact HR0.out | (with_reducible refine Kd.C_alloc ?_ _) | (with_reducible refine Kd.C_drewN ?_ _) | (with_reducible refine Kd.C_drew ?_))); (case side2 => exact HC0.out); rintro e w' ⟨rfl, ⟨nd, rfl⟩⟩; refine ⟨_, rfl, ?_⟩) | ((with_reducible refine gate_callee (f := 167) rfl ?_); refine goesL_ (some 15) rfl rfl Try.func167 (by kernel_rfl) rfl #[.slice A0 l0.length c0] rfl mq ?_; (with_reducible refine (spec_l3All.calls k (fun k_ => k_ < w.heap.size) _ _ l0 t507 _ ?side1 A4.out).mono ?_); (case side1 => exact Kd.V_mk HC0.out (Kd.F_below (Kd.C_F Kd.heap_string HR0.out) bel)); rintro e w6 ⟨v508, rfl, ho0, hb⟩; refine ⟨_, rfl, ?_⟩; have HO509 := am (Kd.N_lower (Kd.N_mono (ok' := fun k_ => True) ho0 (fun k_ hk_ => trivial)) (below_size bel)); replace HB := am (below_step bel hb); (try clear hb); (try clear hb2); (try clear hk); (try clear hi); (try clear ho0); obtain ⟨Ao7, co7, eo7⟩ := Kd.N_slice HO509.out; subst eo7) | ((with_reducible refine gate_dst (N := 19) rfl ?_); refine Kd.S_lit k94 _ 94 ?hg (N := 19) ?hd (xs := ([] : List (S94))) (inner := []) (ok := fun _ => True) (okp := fun _ => True) ?hr ?hp (fun _ hk => hk) trivial (Below.refl _ _) (Nat.le_refl _) (by simp) ?_; (case hd => rfl); (case hg => rfl); (case hr => first | (go_simp; done) | (go_simp; rfl)); (case hp => exact (Reps.none _ _)); intro v511 w8 ho9 hb hg_ hnew_; clear hg_ hnew_; (first | rw [← Ny510.out] at ho9 | (simp only [Int.reduceToNat] at ho9; rw [← Ny510.out] at ho9) | (simp only [Int.toNat_natCast] at ho9; rw [← Ny510.out] at ho9)); replace HO509 := am (Kd.N_elder' (by (with_reducible repeat (first | apply Kd.N_alloc | apply Kd.N_drewN | apply Kd.N_drew)); exact HO509.out) (Kd.S_base ho9) hb); have HO512 := am (Kd.S_lower ho9 (below_size bel)); replace HB := am (below_step bel hb); clear hb ho9))
   go_ret2
   exact ⟨_, eq_, by (with_reducible repeat (first | apply Kd.S_alloc | apply Kd.S_drewN | apply Kd.S_drew)); exact HO512.out, bel⟩
  rw [if_neg c5] at H; have c5b0 := decide_eq_false c5
  have c5b1 : decide (400 < t507.length) = false := decide_eq_false (by omega)
  clear c5; obtain ⟨y513, hy513⟩ : ∃ y_ : List (S94), y_ = (([] : List (S94))) := ⟨_, rfl⟩
  replace H : (spec_MachineOf.l0 k t507 y513 0) = some (r1, r2) := by first | (rw [hy513]; with_reducible exact H) | (have H2_ := bm H; rw [hy513]; with_reducible exact H2_) | (with_reducible exact bm H) | with_reducible exact H | (rw [hy513]; exact H) | exact H
  have Ny513 := am hy513; clear hy513
  have H' := am H
  clear H; go_enter Try.func145, Try.ntmps145
  go_wp2_with (first | ((with_reducible refine gate_callee (f := 56) rfl ?_); refine goesL_ (some 11) rfl rfl Try.func56 (by kernel_rfl) rfl #[.slice A0 l0.length c0] rfl mq ?_; (with_reducible refine (spec_l3Words.calls k _ _ l0 true _ ?side1 ?side2 A2.out).mono ?_); (case side1 => repeat (first | exact HR0.out | (with_reducible refine Kd.C_alloc ?_ _) | (with_reducible refine Kd.C_drewN ?_ _) | (with_reducible refine Kd.C_drew ?_))); (case side2 => exact HC0.out); rintro e w' ⟨rfl, ⟨nd, rfl⟩⟩; refine ⟨_, rfl, ?_⟩) | ((with_reducible refine gate_callee (f := 167) rfl ?_); refine goesL_ (some 15) rfl rfl Try.func167 (by kernel_rfl) rfl #[.slice A0 l0.length c0] rfl mq ?_; (with_reducible refine (spec_l3All.calls k (fun k_ => k_ < w.heap.size) _ _ l0 t507 _ ?side1 A4.out).mono ?_); (case side1 => exact Kd.V_mk HC0.out (Kd.F_below (Kd.C_F Kd.heap_string HR0.out) bel)); rintro e w10 ⟨v508, rfl, ho0, hb⟩; refine ⟨_, rfl, ?_⟩; have HO509 := am (Kd.N_lower (Kd.N_mono (ok' := fun k_ => True) ho0 (fun k_ hk_ => trivial)) (below_size bel)); replace HB := am (below_step bel hb); (try clear hb); (try clear hb2); (try clear hk); (try clear hi); (try clear ho0); obtain ⟨Ao11, co11, eo11⟩ := Kd.N_slice HO509.out; subst eo11) | ((with_reducible refine gate_dst (N := 20) rfl ?_); refine Kd.S_lit k94 _ 94 ?hg (N := 20) ?hd (xs := ([] : List (S94))) (inner := []) (ok := fun _ => True) (okp := fun _ => True) ?hr ?hp (fun _ hk => hk) trivial (Below.refl _ _) (Nat.le_refl _) (by simp) ?_; (case hd => rfl); (case hg => rfl); (case hr => first | (go_simp; done) | (go_simp; rfl)); (case hp => exact (Reps.none _ _)); intro v514 w12 ho13 hb hg_ hnew_; clear hg_ hnew_; (first | rw [← Ny513.out] at ho13 | (simp only [Int.reduceToNat] at ho13; rw [← Ny513.out] at ho13) | (simp only [Int.toNat_natCast] at ho13; rw [← Ny513.out] at ho13)); replace HO509 := am (Kd.N_elder' (by (with_reducible repeat (first | apply Kd.N_alloc | apply Kd.N_drewN | apply Kd.N_drew)); exact HO509.out) (Kd.S_base ho13) hb); have HO515 := am (Kd.S_lower ho13 (below_size bel)); replace HB := am (below_step bel hb); clear hb ho13))
  go_loopg [5, 6] k (fun kq v5 v6 w' => ∃ (x5_1 : List (S94)) (x6_1 : Int), v6 = .int .i64 x6_1 ∧ Aside0 (spec_MachineOf.l0 kq t507 x5_1 x6_1 = some (r1, r2)) ∧ Aside0 (kq ≤ k) ∧ Aside0 (Kd.N (Kd.slice 9 Kd.string) 22 w' w.heap.size (fun k_ => some k_ ≠ (v5 : Value).ownBlock) (.slice Ao11 t507.length co11) t507) ∧ Aside0 (Kd.S k94 94 w' w.heap.size (fun _ => True) v5 x5_1) ∧ Aside0 (Below w.heap.size w w'))
  case atStart => exact ⟨(y513), (0), sq, H', ⟨Nat.le_refl _⟩, ⟨by (with_reducible repeat (first | apply Kd.N_alloc | apply Kd.N_drewN | apply Kd.N_drew)); exact Kd.N_mono HO509.out (fun _ hk => hk.2)⟩, ⟨by (with_reducible repeat (first | apply Kd.S_alloc | apply Kd.S_drewN | apply Kd.S_drew)); exact HO515.out⟩, ⟨bel⟩⟩
  case round =>
   clear H'; (try clear c1); (try clear p2); (try clear c3); (try clear c5); (try clear c5b0); (try clear c5b1); obtain ⟨x5_1, x6_1, rfl, HA, HK1, HO_4, HO_5, HB⟩ := hrel
   cases gk with
   | zero => exact absurd HA.out (by simp [spec_MachineOf.l0])
   | succ k1 =>
    have H := HA.out; clear HA
    simp only [spec_MachineOf.l0] at H
    by_cases c14 : x6_1 < (t507.length : Int)
    ·rw [if_pos c14] at H; have c14b0 := decide_eq_true c14; clear c14
     replace H := it H; obtain ⟨c15b0, H⟩ := H
     by_cases c16 : ((rd_L9 t507 x6_1).length : Int) > 0
     ·rw [if_pos c16] at H; have c16b0 := decide_eq_true c16
      have c16b1 : decide (0 < (rd_L9 t507 x6_1).length) = true := decide_eq_true (by omega)
      clear c16
      replace H := ip H; obtain ⟨c17, H⟩ := H; have c17b0 := decide_eq_true c17
      have c17b1 : decide (0 < (rd_L9 t507 x6_1).length) = true := decide_eq_true (by omega)
      clear c17; obtain ⟨y519, hy519⟩ : ∃ y_ : List (S100), y_ = (([] : List (S100))) := ⟨_, rfl⟩
      replace H : (spec_MachineOf.l1 k1 t507 x5_1 x6_1 97 ((rdOf ByteArray.empty (rd_L9 t507 x6_1) 0).toList == ([] : List UInt8)) y519) = some (r1, r2) := by first | (rw [hy519]; with_reducible exact H) | (have H2_ := bm H; rw [hy519]; with_reducible exact H2_) | (with_reducible exact bm H) | with_reducible exact H | (rw [hy519]; exact H) | exact H
      rw [show ((rdOf ByteArray.empty (rd_L9 t507 x6_1) 0).toList == ([] : List UInt8)) = (rdOf ByteArray.empty (rd_L9 t507 x6_1) 0).toList.isEmpty from by generalize (rdOf ByteArray.empty (rd_L9 t507 x6_1) 0).toList = l_; cases l_ <;> rfl] at H
      have Ny519 := am hy519; clear hy519
      have H' := am H
      clear H
      have p516 : 0 ≤ (x6_1 : Int) := of_decide_eq_true ad
      have q516 : x6_1 < (t507.length : Int) := of_decide_eq_true ad
      obtain ⟨ad516, A516_0, c516_0, e516, hx516_0, hl516_0, hi516_0⟩ := at_L9 (Kd.N_reads' HO_4.out).2.2 x6_1 p516 q516
      cases e516
      obtain ⟨ce516, hce516, hMe516, hcc516⟩ := Kd.N_get HO_4.out [] x6_1 p516 (by first | exact q516 | exact of_decide_eq_true ad | (have e_ := (Kd.N_reads' HO_4.out).1; omega))
      obtain ⟨ua516_0, uc516_0, rfl, ul516_0, ge516_0⟩ := Kd.FK_slice_open hMe516; have hv516_0 := hcc516 0 _ rfl; rw [Nat.add_zero, show ((Kd.slice 9 Kd.string)).sz = 1 from rfl, Nat.mul_one] at hv516_0; replace hv516_0 := Option.some.inj (hv516_0.symm.trans hx516_0)
      injection hv516_0 with hva_ hvn_ hvc_
      rw [hva_] at ge516_0; rw [hvc_] at ul516_0; have HL516_0 := am (show Kd.V Kd.string 9 _ w.heap.size _ _ (rd_L9 t507 x6_1) from Kd.V_mk ul516_0 ge516_0); clear hva_ hvn_ hvc_ ge516_0 ul516_0; clear hcc516 hce516; have HR516_0 := am hi516_0; have HC516_0 := am hl516_0; clear hi516_0 hl516_0; replace p516 := eq_true p516; replace q516 := eq_true q516
      have p517 : 0 ≤ (x6_1 : Int) := of_decide_eq_true ad
      have q517 : x6_1 < (t507.length : Int) := of_decide_eq_true ad
      obtain ⟨ad517, A517_0, c517_0, e517, hx517_0, hl517_0, hi517_0⟩ := at_L9 (Kd.N_reads' HO_4.out).2.2 x6_1 p517 q517
      obtain rfl : ad516 = ad517 := (by injection e517)
      obtain ⟨ce517, hce517, hMe517, hcc517⟩ := Kd.N_get HO_4.out [] x6_1 p517 (by first | exact q517 | exact of_decide_eq_true ad | (have e_ := (Kd.N_reads' HO_4.out).1; omega))
      obtain ⟨ua517_0, uc517_0, rfl, ul517_0, ge517_0⟩ := Kd.FK_slice_open hMe517; have hv517_0 := hcc517 0 _ rfl; rw [Nat.add_zero, show ((Kd.slice 9 Kd.string)).sz = 1 from rfl, Nat.mul_one] at hv517_0; replace hv517_0 := Option.some.inj (hv517_0.symm.trans hx517_0)
      injection hv517_0 with hva_ hvn_ hvc_
      rw [hva_] at ge517_0; rw [hvc_] at ul517_0; have HL517_0 := am (show Kd.V Kd.string 9 _ w.heap.size _ _ (rd_L9 t507 x6_1) from Kd.V_mk ul517_0 ge517_0); clear hva_ hvn_ hvc_ ge517_0 ul517_0; clear hcc517 hce517; have HR517_0 := am hi517_0; have HC517_0 := am hl517_0; clear hi517_0 hl517_0; replace p517 := eq_true p517; replace q517 := eq_true q517; have ea_ := Option.some.inj (hx516_0.symm.trans hx517_0)
      injection ea_ with ea_ en_ ec_
      subst ea_; subst ec_; clear en_
      have p518 : 0 ≤ (0 : Int) := (by omega)
      have q518 : 0 < ((rd_L9 t507 x6_1).length : Int) := of_decide_eq_true ad
      obtain ⟨ad518, e518, hx518_0⟩ := Kd.at_string b48_ 0 p518 q518
      cases e518
      have qi518 : (0 < (rd_L9 t507 x6_1).length) = True := eq_true (by omega)
      (try rw [show ((0 : Int)).toNat = 0 from rfl] at hx518_0)
      (try rw [Addr.add_zero'] at hx518_0)
      replace p518 := eq_true p518; replace q518 := eq_true q518
      go_wp2_with (first | ((with_reducible refine gate_dst (N := 42) rfl ?_); refine Kd.R_lit k100 _ 100 ?hg (N := 42) ?hd (xs := ([] : List (S100))) (inner := []) (ok := fun _ => True) (okp := fun _ => True) ?hr ?hp (fun _ hk => hk) trivial (Below.refl _ _) (Nat.le_refl _) (by simp) ?_; (case hd => rfl); (case hg => rfl); (case hr => first | (go_simp; done) | (go_simp; rfl)); (case hp => exact (Reps.none _ _)); intro v520 w18 ho19 hb hg_ hnew_; clear hg_ hnew_; (first | rw [← Ny519.out] at ho19 | (simp only [Int.reduceToNat] at ho19; rw [← Ny519.out] at ho19) | (simp only [Int.toNat_natCast] at ho19; rw [← Ny519.out] at ho19)); replace HO_4 := am (Kd.N_elder' b32_ (Kd.R_base ho19) hb); replace HO_5 := am (Kd.S_elder' b11_ (Kd.R_base ho19) hb); replace HL516_0 := am (Kd.V_elder' (vq HL516_0.out) (Kd.R_base ho19) hb); replace HL517_0 := am (Kd.V_elder' (vq HL517_0.out) (Kd.R_base ho19) hb); have HO521 := am (Kd.R_lower ho19 (below_size bel)); replace HR516_0 := am (Kd.C_below b35_ hb); replace HR517_0 := am (Kd.C_below b48_ hb); replace HB := am (below_step bel hb); clear hb ho19; obtain ⟨Ao20, co20, eo20⟩ := Kd.R_slice HO521.out; subst eo20) | ((with_reducible refine gate_dst (N := 7) rfl ?_); refine bx 7 (cs := #[.bool false, .slice none 0 0]) (t := 94) ?_; intro gb522 hg w21 hbox hb; replace HO_4 := am (Kd.N_below (Kd.N_elderB b32_ gb522 (Nat.le_of_eq hg.symm)) hb); replace HO_5 := am (Kd.S_below (Kd.S_elderB b11_ gb522 (Nat.le_of_eq hg.symm)) hb); replace HL516_0 := am (Kd.V_below (Kd.V_elderB (vq HL516_0.out) gb522 (Nat.le_of_eq hg.symm)) hb); replace HL517_0 := am (Kd.V_below (Kd.V_elderB (vq HL517_0.out) gb522 (Nat.le_of_eq hg.symm)) hb); replace HO521 := am (Kd.R_below (rq HO521.out) hb); replace HR516_0 := am (Kd.C_below b35_ hb); replace HR517_0 := am (Kd.C_below b48_ hb); have BK522 := am (hbox); have GW522 := am ((b7_ : w.heap.size ≤ gb522)); have GE522 := am ((b7_ : w.heap.size ≤ gb522)); replace HB := am (below_step bel hb); clear hb hbox hg; have hcz22_0 := bc BK522.out 0; have hcz22_1 := bc BK522.out 1; have hfz22_0 := bf BK522.out 0; have hfz22_1 := bf BK522.out 1))
      go_loopg [8] k1 (fun kq v8 w' => ∃ (x8_2 : Int) (x523001_2 : List (S100)) (u523001 : Value), v8 = .int .u8 x8_2 ∧ Aside0 (spec_MachineOf.l1 kq t507 x5_1 x6_1 x8_2 ((rdOf ByteArray.empty (rd_L9 t507 x6_1) 0).toList.isEmpty) x523001_2 = some (r1, r2)) ∧ Aside0 (kq ≤ k1) ∧ Aside0 (Kd.N (Kd.slice 9 Kd.string) 22 w' w.heap.size (fun k_ => some k_ ≠ (u5 : Value).ownBlock ∧ some k_ ≠ (u523001 : Value).ownBlock ∧ k_ ≠ gb522) (.slice (some ad516) t507.length co11) t507) ∧ Aside0 (Kd.S k94 94 w' w.heap.size (fun k_ => some k_ ≠ (u523001 : Value).ownBlock ∧ k_ ≠ gb522) u5 x5_1) ∧ Aside0 (Kd.R k100 100 w' w.heap.size (fun _ => True) u523001 x523001_2) ∧ Aside0 (w'.heap[gb522]? = some (.cells #[.bool ((rdOf ByteArray.empty (rd_L9 t507 x6_1) 0).toList.isEmpty), u523001] 94 (0, 0))) ∧ Aside0 (Below w.heap.size w w'))
      case atStart => exact ⟨(97), (y519), (.slice Ao20 y519.length co20), sq, H', ⟨Nat.le_refl _⟩, ⟨by (with_reducible repeat (first | apply Kd.N_alloc | apply Kd.N_drewN | apply Kd.N_drew)); exact Kd.N_mono (Kd.N_far (p := ⟨gb522, 1, none⟩) (Kd.N_far (p := ⟨gb522, 0, none⟩) (Kd.N_mono HO_4.out (fun k_ hk => (⟨hk, hk.2⟩ : _ ∧ k_ ≠ gb522))) (fun _ hk => hk.2) (.bool ((rdOf ByteArray.empty (rd_L9 t507 x6_1) 0).toList.isEmpty))) (fun _ hk => hk.2) (.slice Ao20 y519.length co20)) (fun _ hk => ⟨hk.1.1.1, ⟨hk.1.1.2, hk.1.2⟩⟩)⟩, ⟨by (with_reducible repeat (first | apply Kd.S_alloc | apply Kd.S_drewN | apply Kd.S_drew)); exact Kd.S_mono (Kd.S_far (p := ⟨gb522, 1, none⟩) (Kd.S_far (p := ⟨gb522, 0, none⟩) (Kd.S_mono HO_5.out (fun k_ hk => (⟨hk, hk.2⟩ : _ ∧ k_ ≠ gb522))) (fun _ hk => hk.2) (.bool ((rdOf ByteArray.empty (rd_L9 t507 x6_1) 0).toList.isEmpty))) (fun _ hk => hk.2) (.slice Ao20 y519.length co20)) (fun _ hk => ⟨hk.1.1.2, hk.1.2⟩)⟩, ⟨rq (Kd.R_mono (Kd.R_far (p := ⟨gb522, 1, none⟩) (Kd.R_far (p := ⟨gb522, 0, none⟩) (Kd.R_types HO521.out BK522.out (by decide)) (fun _ hk => hk.2) (.bool ((rdOf ByteArray.empty (rd_L9 t507 x6_1) 0).toList.isEmpty))) (fun _ hk => hk.2) (.slice Ao20 y519.length co20)) (fun _ hk => trivial))⟩, ⟨by (with_reducible repeat (first | refine blk_drewN ?_ _ | refine blk_drew ?_ | refine blk_alloc ?_ _)); refine blk_put (cs := #[.bool ((rdOf ByteArray.empty (rd_L9 t507 x6_1) 0).toList.isEmpty), .slice none 0 0]) ?_ 1 _ rfl; (with_reducible repeat (first | refine blk_drewN ?_ _ | refine blk_drew ?_ | refine blk_alloc ?_ _)); refine blk_put (cs := #[.bool false, .slice none 0 0]) ?_ 0 _ rfl; (with_reducible repeat (first | refine blk_drewN ?_ _ | refine blk_drew ?_ | refine blk_alloc ?_ _)); exact BK522.out⟩, ⟨bel1 GE522.out⟩⟩
      case round =>
       clear H'; (try clear c1); (try clear p2); (try clear c3); (try clear c5); (try clear c5b0); (try clear c5b1); (try clear p5); (try clear q5); (try clear hx5); (try clear qi5); (try clear c14); (try clear c14b0); (try clear c15); (try clear c15b0); (try clear c16); (try clear c16b0); (try clear c16b1); (try clear c17); (try clear c17b0); (try clear c17b1); (try clear hcz22_0); (try clear hcz22_1); (try clear hfz22_0); (try clear hfz22_1); (try clear hx516_0); (try clear hx517_0); (try clear hx518_0); (try clear p2); (try clear p516); (try clear p517); (try clear p518); (try clear q516); (try clear q517); (try clear q518); obtain ⟨x8_2, x523001_2, u523001, rfl, HA, HK2, HO_4, HO_5, HO_523001, BK522, HB⟩ := hrel
       cases gk with
       | zero => exact absurd HA.out (by simp [spec_MachineOf.l1])
       | succ k2 =>
        have H := HA.out; clear HA
        simp only [spec_MachineOf.l1] at H
        by_cases c23 : x8_2 ≤ 122
        ·rw [if_pos c23] at H; have c23b0 := decide_eq_true c23; clear c23
         replace H := it H; obtain ⟨c24b0, H⟩ := H
         replace H := it H; obtain ⟨c25b0, H⟩ := H; replace H := bs H; obtain ⟨t524, A260, H⟩ := H; replace H : (if (t524.length : Int) > 0 then ((spec_l3At.f k2 t507 t524).bind fun t527 => (if x523001_2.length < 8796093022208 then (spec_MachineOf.l1 k2 t507 x5_1 x6_1 ((x8_2 + 1) % 256) ((rdOf ByteArray.empty (rd_L9 t507 x6_1) 0).toList.isEmpty) (x523001_2 ++ [(⟨wrap64 (x8_2), t527⟩ : S100)])) else (none))) else (spec_MachineOf.l1 k2 t507 x5_1 x6_1 ((x8_2 + 1) % 256) ((rdOf ByteArray.empty (rd_L9 t507 x6_1) 0).toList.isEmpty) x523001_2)) = some (r1, r2) := H; have A26 := Aside0.mk A260; clear A260
         by_cases c27 : (t524.length : Int) > 0
         ·rw [if_pos c27] at H; have c27b0 := decide_eq_true c27
          have c27b1 : decide (0 < t524.length) = true := decide_eq_true (by omega)
          clear c27; replace H := bs H; obtain ⟨t527, A280, H⟩ := H; replace H : (if x523001_2.length < 8796093022208 then (spec_MachineOf.l1 k2 t507 x5_1 x6_1 ((x8_2 + 1) % 256) ((rdOf ByteArray.empty (rd_L9 t507 x6_1) 0).toList.isEmpty) (x523001_2 ++ [(⟨wrap64 (x8_2), t527⟩ : S100)])) else (none)) = some (r1, r2) := H; have A28 := Aside0.mk A280; clear A280
          replace H := ip H; obtain ⟨c29, H⟩ := H; have LMc29 := Aside0.mk c29; clear c29; obtain ⟨y528, hy528⟩ : ∃ y_ : List (S100), y_ = (x523001_2 ++ [(⟨wrap64 (x8_2), t527⟩ : S100)]) := ⟨_, rfl⟩
          replace H : (spec_MachineOf.l1 k2 t507 x5_1 x6_1 ((x8_2 + 1) % 256) ((rdOf ByteArray.empty (rd_L9 t507 x6_1) 0).toList.isEmpty) y528) = some (r1, r2) := b50_
          have Ny528 := am hy528; clear hy528
          have H' := am H
          clear H
          have p523 : 0 ≤ (x6_1 : Int) := of_decide_eq_true ad
          have q523 : x6_1 < (t507.length : Int) := of_decide_eq_true ad
          obtain ⟨ad523, A523_0, c523_0, e523, hx523_0, hl523_0, hi523_0⟩ := at_L9 (Kd.N_reads' HO_4.out).2.2 x6_1 p523 q523
          obtain rfl : ad516 = ad523 := (by injection e523)
          obtain ⟨ce523, hce523, hMe523, hcc523⟩ := Kd.N_get HO_4.out [] x6_1 p523 b66_
          obtain ⟨ua523_0, uc523_0, rfl, ul523_0, ge523_0⟩ := Kd.FK_slice_open hMe523; have hv523_0 := hcc523 0 _ rfl; rw [Nat.add_zero, show ((Kd.slice 9 Kd.string)).sz = 1 from rfl, Nat.mul_one] at hv523_0; replace hv523_0 := Option.some.inj (hv523_0.symm.trans hx523_0)
          injection hv523_0 with hva_ hvn_ hvc_
          rw [hva_] at ge523_0; rw [hvc_] at ul523_0; have HL523_0 := am (show Kd.V Kd.string 9 _ w.heap.size _ _ (rd_L9 t507 x6_1) from Kd.V_mk ul523_0 ge523_0); clear hva_ hvn_ hvc_ ge523_0 ul523_0; clear hcc523 hce523; have HR523_0 := am hi523_0; have HC523_0 := am hl523_0; clear hi523_0 hl523_0; replace p523 := eq_true p523; replace q523 := eq_true q523
          try go_wp2_with (first | ((with_reducible refine gate_callee (f := 168) rfl ?_); refine goesL_ (some 53) rfl rfl Try.func168 (by kernel_rfl) rfl #[.slice A523_0 (rd_L9 t507 x6_1).length c523_0, .int .u8 x8_2] rfl mq ?_; (with_reducible refine (spec_l3Ends.calls k2 _ _ (rd_L9 t507 x6_1) x8_2 t524 _ ?side1 ?side2 A26.out).mono ?_); (case side1 => repeat (first | exact b18_ | (with_reducible refine Kd.C_alloc ?_ _) | (with_reducible refine Kd.C_drewN ?_ _) | (with_reducible refine Kd.C_drew ?_))); (case side2 => exact HC523_0.out); rintro e w30 ⟨v525, rfl, ho0, hb⟩; refine ⟨_, rfl, ?_⟩; replace HO_4 := am (Kd.N_elder' b32_ (Kd.R_base ho0) hb); replace HO_5 := am (Kd.S_below b11_ hb); replace HO_523001 := am (Kd.R_below (rq HO_523001.out) hb); replace HL523_0 := am (Kd.V_elder' (vq HL523_0.out) (Kd.R_base ho0) hb); have HO526 := am (Kd.R_lower ho0 (below_size (bel1 GE522.out))); replace BK522 := am (blk_below (g := gb522) (o := .cells #[.bool ((rdOf ByteArray.empty (rd_L9 t507 x6_1) 0).toList.isEmpty), u523001] 94 (0, 0)) (bq BK522.out) hb); replace HR523_0 := am (Kd.C_below b18_ hb); replace HB := am (below_step (bel1 GE522.out) hb); (try clear hb); (try clear hb2); (try clear hk); (try clear hi); (try clear ho0); obtain ⟨Ao31, co31, eo31⟩ := Kd.R_slice HO526.out; subst eo31))
          replace HO_4 := am (Kd.N_drew HO_4.out); replace HO_5 := am (Kd.S_drew HO_5.out); replace HO_523001 := am (Kd.R_drew HO_523001.out); replace HL523_0 := am (Kd.V_drew HL523_0.out); replace HO526 := am (Kd.R_drew HO526.out); replace BK522 := am (blk_drew BK522.out); replace HR523_0 := am (Kd.C_drew HR523_0.out); replace HB := am (below_drew1 HB.out)
          refine start_ (n := 12) (S := fun w' => w'.cell? ⟨gb522, 0, none⟩ = some (.bool ((rdOf ByteArray.empty (rd_L9 t507 x6_1) 0).toList.isEmpty)) ∧ w'.cell? ⟨gb522, 1, none⟩ = some (u523001)) (ds := [11]) #[false, false, false, false, false, false, false, false, false, false, false, false] (by kernel_rfl) rfl rfl ⟨(blk_cell BK522.out 0).trans rfl, (blk_cell BK522.out 1).trans rfl⟩ (fun hHeld => ?_); refine with_tabW spec_MachineOf.tab16 spec_MachineOf.bits16 (fun HT_ HW_ => ?_)
          generalize w30.drew = w32 at HO_4 HO_5 HO_523001 HL523_0 HO526 BK522 HR523_0 HB hHeld ⊢
          refine pu 0 57 ?_
          refine pu 2 59 ?_
          refine pu 3 60 ?_
          refine pu 4 61 ?_
          refine pu 5 62 ?_
          refine tk2 1 58 hHeld ?_
          refine on1 6 63 (fun K hK => ?_)
          refine goes_ Try.func169 (by kernel_rfl) rfl #[.slice (some ad516) t507.length co11, .slice Ao31 t524.length co31] (by rfl) rfl rfl mq ?_
          with_reducible refine (spec_l3At.calls k2 _ _ t507 _ _ t524 t527 _ ?side1 ?side2 ?side3 ?side4 A28.out).mono ?_
          (case side1 => exact cq (Kd.N_reads' HO_4.out).2.2); (case side2 => exact (Kd.N_reads' HO_4.out).2.1); (case side3 => exact cq (Kd.R_reads' HO526.out).2.2); (case side4 => exact (Kd.R_reads' HO526.out).2.1)
          rintro e w' ⟨rfl, ⟨nd, rfl⟩⟩
          refine ⟨_, rfl, ?_⟩
          refine hK.out _ _ ⟨(blk_cell BK522.out 0).trans rfl, (blk_cell BK522.out 1).trans rfl⟩ (fun hHeld => ?_)
          clear hK K
          refine norm_ (a' := ?_) ?_ ?_
          rotate_left
          ·show Act.put _ (some 63) _ = _
           simp only [Act.put, List.setIfInBounds_toArray, List.set_cons_zero, List.set_cons_succ, i64_w, i32_w]
           rfl
          refine pu 7 64 ?_
          refine on1 8 65 (fun K hK => ?_)
          refine value_ (w1 := ?_) (v := ?_) (by rfl) rfl ?_ ?_
          rotate_left 2
          ·go_simp
           constructor
           ·rfl
           ·rfl
          refine hK.out _ _ ⟨(blk_cell (blk_alloc BK522.out _) 0).trans rfl, (blk_cell (blk_alloc BK522.out _) 1).trans rfl⟩ (fun hHeld => ?_)
          clear hK K
          refine norm_ (a' := ?_) ?_ ?_
          rotate_left
          ·show Act.put _ (some 65) _ = _
           simp only [Act.put, List.setIfInBounds_toArray, List.set_cons_zero, List.set_cons_succ, i64_w, i32_w]
           rfl
          refine on1 9 66 (fun K hK => ?_)
          refine Kd.R_append_step k100 (w0 := w) w.heap.size (by rfl) (.tmp 58) (.tmp 65) 92 100 (.agg #[(.int .i64 0), (.int .i64 0)]) 16 rfl Try.underlying92 info100 rfl (by decide) (by omega) u523001 x523001_2 (⟨wrap64 (x8_2), t527⟩ : S100) [.int .i64 (wrap64 (x8_2)), .int .i64 t527] (fun _ => True) (fun _ => False) rfl rfl ?aP (fun _ hk => hk.elim) ?aF ?aO ?aB ?aS ?aL ?_
          (case aP => exact k100_mkM _ _ _ (⟨wrap64 (x8_2), t527⟩ : S100)); (case aB => exact (bel1 GE522.out)); (case aF => exact (fun _ _ => trivial)); (case aO => exact (rq HO_523001.out)); (case aS => exact (below_size (bel1 GE522.out))); (case aL => have := LMc29.out; omega); intro v529 w33 ho hb hg hat; rw [← Ny528.out] at ho
          replace HO_4 := am (Kd.N_afterv (ok := (fun k_ => some k_ ≠ (u5 : Value).ownBlock ∧ some k_ ≠ (.slice Ao31 t524.length co31 : Value).ownBlock ∧ k_ ≠ gb522)) b70_ hg hat)
          replace HO_5 := am (Kd.S_after (ok := (fun k_ => k_ ≠ gb522)) b79_ hg hat)
          replace BK522 := am (blk_grown (g := gb522) (o := .cells #[.bool ((rdOf ByteArray.empty (rd_L9 t507 x6_1) 0).toList.isEmpty), u523001] 94 (0, 0)) (bq BK522.out) hg (Kd.R_ne HO_523001.out BK522.out (by decide)))
          replace HL523_0 := am (Kd.V_afterv (ok := (fun k_ => some k_ ≠ (.slice (some ad516) t507.length co11 : Value).ownBlock ∧ some k_ ≠ (u5 : Value).ownBlock ∧ some k_ ≠ (.slice Ao31 t524.length co31 : Value).ownBlock ∧ k_ ≠ gb522)) (vq (Kd.V_mono HL523_0.out (fun _ hk => ⟨⟨hk.1.2, ⟨hk.1.1.1, ⟨hk.2, hk.1.1.2.2⟩⟩⟩, hk.1.1.2.1⟩))) hg hat)
          replace HO526 := am (Kd.R_over' (rq HO526.out) (Kd.R_typed (rq HO_523001.out)) (by decide) hg)
          replace HB := am (hb); have HO530 := am (ho); clear HO_523001; clear ho hb hg hat; obtain ⟨Ao34, co34, eo34⟩ := Kd.R_slice HO530.out
          (first | subst eo34 | (injection eo34 with f1_ f2_ f3_; have f4_ := f1_.symm; have f5_ := f3_.symm; clear f1_ f2_ f3_; subst f4_; subst f5_))
          refine hK.out _ _ ⟨(blk_cell BK522.out 0).trans rfl, (blk_cell BK522.out 1).trans rfl⟩ (fun hHeld => ?_)
          clear hK K
          refine norm_ (a' := ?_) ?_ ?_
          rotate_left
          ·show Act.put _ (some 66) _ = _
           simp only [Act.put, List.setIfInBounds_toArray, List.set_cons_zero, List.set_cons_succ, i64_w, i32_w]
           rfl
          refine pu 10 67 ?_
          refine last_ (i := 11) (N := none) #[true, true, true, true, true, true, true, true, true, true, true, true] rfl rfl (one_of HT_.out (by kernel_rfl)) (by decide) (fun K hK => ?_)
          have hs35 : w33.cell? ⟨gb522, 1, none⟩ = some (u523001) := (blk_cell BK522.out 1).trans rfl
          have hfs35 := bf BK522.out 1
          refine skip_ (w1 := ?_) (by rfl) rfl ?_ ?_
          rotate_left
          ·go_simp
           rfl
          refine hK.out _ _ ?_
          clear hK K
          refine done_ (done_of HT_.out (by kernel_rfl)) ?_
          try go_wp2
          go_roundg k2
          case measure => have := HK1.out; have := HK2.out; omega
          case rel => exact ⟨((x8_2 + 1) % 256), (y528), (.slice Ao34 y528.length co34), sq, H', ⟨b25_⟩, ⟨by (with_reducible repeat (first | apply Kd.N_alloc | apply Kd.N_drewN | apply Kd.N_drew)); exact Kd.N_mono (Kd.N_far (p := ⟨gb522, 1, none⟩) (Kd.N_mono HO_4.out (fun k_ hk => (⟨hk, hk.1.2.2⟩ : _ ∧ k_ ≠ gb522))) (fun _ hk => hk.2) (.slice Ao34 y528.length co34)) (fun _ hk => ⟨hk.1.1.1, ⟨hk.1.2, hk.1.1.2.2⟩⟩)⟩, ⟨by (with_reducible repeat (first | apply Kd.S_alloc | apply Kd.S_drewN | apply Kd.S_drew)); exact Kd.S_mono (Kd.S_far (p := ⟨gb522, 1, none⟩) (Kd.S_mono HO_5.out (fun k_ hk => (⟨hk, hk.1⟩ : _ ∧ k_ ≠ gb522))) (fun _ hk => hk.2) (.slice Ao34 y528.length co34)) (fun _ hk => ⟨hk.1.2, hk.1.1⟩)⟩, ⟨rq (Kd.R_mono (Kd.R_far (p := ⟨gb522, 1, none⟩) (Kd.R_types HO530.out BK522.out (by decide)) (fun _ hk => hk.2) (.slice Ao34 y528.length co34)) (fun _ hk => trivial))⟩, ⟨by (with_reducible repeat (first | refine blk_drewN ?_ _ | refine blk_drew ?_ | refine blk_alloc ?_ _)); refine blk_put (cs := #[.bool ((rdOf ByteArray.empty (rd_L9 t507 x6_1) 0).toList.isEmpty), u523001]) ?_ 1 _ rfl; (with_reducible repeat (first | refine blk_drewN ?_ _ | refine blk_drew ?_ | refine blk_alloc ?_ _)); exact BK522.out⟩, ⟨bel1 GE522.out⟩⟩
         rw [if_neg c27] at H; have c27b0 := decide_eq_false c27
         have c27b1 : decide (0 < t524.length) = false := decide_eq_false (by omega)
         clear c27
         have H' := am H
         clear H
         have p523 : 0 ≤ (x6_1 : Int) := of_decide_eq_true ad
         have q523 : x6_1 < (t507.length : Int) := of_decide_eq_true ad
         obtain ⟨ad523, A523_0, c523_0, e523, hx523_0, hl523_0, hi523_0⟩ := at_L9 (Kd.N_reads' HO_4.out).2.2 x6_1 p523 q523
         obtain rfl : ad516 = ad523 := (by injection e523)
         obtain ⟨ce523, hce523, hMe523, hcc523⟩ := Kd.N_get HO_4.out [] x6_1 p523 b66_
         obtain ⟨ua523_0, uc523_0, rfl, ul523_0, ge523_0⟩ := Kd.FK_slice_open hMe523; have hv523_0 := hcc523 0 _ rfl; rw [Nat.add_zero, show ((Kd.slice 9 Kd.string)).sz = 1 from rfl, Nat.mul_one] at hv523_0; replace hv523_0 := Option.some.inj (hv523_0.symm.trans hx523_0)
         injection hv523_0 with hva_ hvn_ hvc_
         rw [hva_] at ge523_0; rw [hvc_] at ul523_0; have HL523_0 := am (show Kd.V Kd.string 9 _ w.heap.size _ _ (rd_L9 t507 x6_1) from Kd.V_mk ul523_0 ge523_0); clear hva_ hvn_ hvc_ ge523_0 ul523_0; clear hcc523 hce523; have HR523_0 := am hi523_0; have HC523_0 := am hl523_0; clear hi523_0 hl523_0; replace p523 := eq_true p523; replace q523 := eq_true q523
         go_wp2_with (first | ((with_reducible refine gate_callee (f := 168) rfl ?_); refine goesL_ (some 53) rfl rfl Try.func168 (by kernel_rfl) rfl #[.slice A523_0 (rd_L9 t507 x6_1).length c523_0, .int .u8 x8_2] rfl mq ?_; (with_reducible refine (spec_l3Ends.calls k2 _ _ (rd_L9 t507 x6_1) x8_2 t524 _ ?side1 ?side2 A26.out).mono ?_); (case side1 => repeat (first | exact b18_ | (with_reducible refine Kd.C_alloc ?_ _) | (with_reducible refine Kd.C_drewN ?_ _) | (with_reducible refine Kd.C_drew ?_))); (case side2 => exact HC523_0.out); rintro e w36 ⟨v525, rfl, ho0, hb⟩; refine ⟨_, rfl, ?_⟩; replace HO_4 := am (Kd.N_elder' b32_ (Kd.R_base ho0) hb); replace HO_5 := am (Kd.S_below b11_ hb); replace HO_523001 := am (Kd.R_below (rq HO_523001.out) hb); replace HL523_0 := am (Kd.V_elder' (vq HL523_0.out) (Kd.R_base ho0) hb); have HO526 := am (Kd.R_lower ho0 (below_size (bel1 GE522.out))); replace BK522 := am (blk_below (g := gb522) (o := .cells #[.bool ((rdOf ByteArray.empty (rd_L9 t507 x6_1) 0).toList.isEmpty), u523001] 94 (0, 0)) (bq BK522.out) hb); replace HR523_0 := am (Kd.C_below b18_ hb); replace HB := am (below_step (bel1 GE522.out) hb); (try clear hb); (try clear hb2); (try clear hk); (try clear hi); (try clear ho0); obtain ⟨Ao37, co37, eo37⟩ := Kd.R_slice HO526.out; subst eo37))
         go_roundg k2
         case measure => have := HK1.out; have := HK2.out; omega
         case rel => exact ⟨((x8_2 + 1) % 256), (x523001_2), (u523001), sq, H', ⟨b25_⟩, ⟨b71_⟩, ⟨b11_⟩, ⟨rq HO_523001.out⟩, ⟨bq BK522.out⟩, ⟨bel1 GE522.out⟩⟩
        rw [if_neg c23] at H; have c23b0 := decide_eq_false c23; clear c23
        replace H := ip H; obtain ⟨c38, H⟩ := H; have LMc38 := Aside0.mk c38; clear c38; obtain ⟨y531, hy531⟩ : ∃ y_ : List (S94), y_ = (x5_1 ++ [(⟨((rdOf ByteArray.empty (rd_L9 t507 x6_1) 0).toList.isEmpty), x523001_2⟩ : S94)]) := ⟨_, rfl⟩
        replace H : (spec_MachineOf.l0 k2 t507 y531 (wrap64 (x6_1 + 1))) = some (r1, r2) := b51_
        have Ny531 := am hy531; clear hy531
        have H' := am H
        clear H; have hcz39_0 := bc BK522.out 0; have hcz39_1 := bc BK522.out 1; have hfz39_0 := bf BK522.out 0; have hfz39_1 := bf BK522.out 1; obtain ⟨Ao41, co41, eo41⟩ := Kd.R_slice HO_523001.out; subst eo41
        go_wp2_with (first | ((with_reducible refine gate_builtin (b := .append) (xs := #[.tmp 68, .tmp 70]) rfl ?_); at_builtin; refine Kd.S_append k94 (w0 := w) w.heap.size rfl (.tmp 68) (.tmp 70) 43 94 (.agg #[(.bool false), (.slice none 0 0)]) 32 rfl Try.underlying43 info94 rfl (by decide) (by omega) u5 x5_1 (⟨((rdOf ByteArray.empty (rd_L9 t507 x6_1) 0).toList.isEmpty), x523001_2⟩ : S94) [.bool ((rdOf ByteArray.empty (rd_L9 t507 x6_1) 0).toList.isEmpty), .slice Ao41 x523001_2.length co41] (fun k_ => k_ ≠ gb522) (fun k_ => some k_ = (.slice Ao41 x523001_2.length co41 : Value).ownBlock) rfl rfl ?aP (fun k_ hk_ => ((Kd.R_mono (ok' := fun k_ => ((fun k_ => k_ ≠ gb522)) k_ ∧ some k_ ≠ (u5 : Value).ownBlock) (Kd.R_types (Kd.R_apart' (HO_523001.out) (Kd.S_typed HO_5.out) (by decide)) BK522.out (by decide)) (fun k_ hk => ⟨hk.2, hk.1.2⟩))).1 k_ hk_.symm) ?aF ?aO ?aB ?aS ?aL ?_; (case aP => exact k94_mkM _ _ _ (⟨((rdOf ByteArray.empty (rd_L9 t507 x6_1) 0).toList.isEmpty), x523001_2⟩ : S94) (Kd.R_mono (Kd.R_tight rfl (Kd.R_mono (ok' := fun k_ => ((fun k_ => k_ ≠ gb522)) k_ ∧ some k_ ≠ (u5 : Value).ownBlock) (Kd.R_types (Kd.R_apart' (HO_523001.out) (Kd.S_typed HO_5.out) (by decide)) BK522.out (by decide)) (fun k_ hk => ⟨hk.2, hk.1.2⟩))) (fun _ h_ => h_))); (case aB => exact (bel1 GE522.out)); (case aF => exact (fun k_ hk => Kd.freshB (g := gb522) (o := .cells #[.bool ((rdOf ByteArray.empty (rd_L9 t507 x6_1) 0).toList.isEmpty), .slice Ao41 x523001_2.length co41] 94 (0, 0)) (bq BK522.out) k_ hk)); (case aO => exact b73_); (case aS => exact (below_size (bel1 GE522.out))); (case aL => have := LMc38.out; omega); intro v532 w40 ho hb hg hat; rw [← Ny531.out] at ho; replace HO_4 := am (Kd.N_afterv (ok := (fun k_ => some k_ ≠ (.slice Ao41 x523001_2.length co41 : Value).ownBlock ∧ k_ ≠ gb522)) b78_ hg hat); replace BK522 := am (blk_grown (g := gb522) (o := .cells #[.bool ((rdOf ByteArray.empty (rd_L9 t507 x6_1) 0).toList.isEmpty), .slice Ao41 x523001_2.length co41] 94 (0, 0)) (bq BK522.out) hg (Kd.S_away HO_5.out (fun _ hk => hk.2))); replace HB := am (hb); have HO533 := am (ho); clear HO_5 HO_523001; clear ho hb hg hat))
        go_roundg k2
        case measure => have := HK1.out; have := HK2.out; omega
        case rel => exact ⟨(y531), (wrap64 (x6_1 + 1)), sq, H', ⟨b25_⟩, ⟨b85_⟩, ⟨b83_⟩, ⟨bel1 GE522.out⟩⟩
     rw [if_neg c16] at H; have c16b0 := decide_eq_false c16
     have c16b1 : decide (0 < (rd_L9 t507 x6_1).length) = false := decide_eq_false (by omega)
     clear c16; obtain ⟨y534, hy534⟩ : ∃ y_ : List (S100), y_ = (([] : List (S100))) := ⟨_, rfl⟩
     replace H : (spec_MachineOf.l1 k1 t507 x5_1 x6_1 97 false y534) = some (r1, r2) := by first | (rw [hy534]; with_reducible exact H) | (have H2_ := bm H; rw [hy534]; with_reducible exact H2_) | (with_reducible exact bm H) | with_reducible exact H | (rw [hy534]; exact H) | exact H
     have Ny534 := am hy534; clear hy534
     have H' := am H
     clear H
     have p516 : 0 ≤ (x6_1 : Int) := of_decide_eq_true ad
     have q516 : x6_1 < (t507.length : Int) := of_decide_eq_true ad
     obtain ⟨ad516, A516_0, c516_0, e516, hx516_0, hl516_0, hi516_0⟩ := at_L9 (Kd.N_reads' HO_4.out).2.2 x6_1 p516 q516
     cases e516
     obtain ⟨ce516, hce516, hMe516, hcc516⟩ := Kd.N_get HO_4.out [] x6_1 p516 (by first | exact q516 | exact of_decide_eq_true ad | (have e_ := (Kd.N_reads' HO_4.out).1; omega))
     obtain ⟨ua516_0, uc516_0, rfl, ul516_0, ge516_0⟩ := Kd.FK_slice_open hMe516; have hv516_0 := hcc516 0 _ rfl; rw [Nat.add_zero, show ((Kd.slice 9 Kd.string)).sz = 1 from rfl, Nat.mul_one] at hv516_0; replace hv516_0 := Option.some.inj (hv516_0.symm.trans hx516_0)
     injection hv516_0 with hva_ hvn_ hvc_
     rw [hva_] at ge516_0; rw [hvc_] at ul516_0; have HL516_0 := am (show Kd.V Kd.string 9 _ w.heap.size _ _ (rd_L9 t507 x6_1) from Kd.V_mk ul516_0 ge516_0); clear hva_ hvn_ hvc_ ge516_0 ul516_0; clear hcc516 hce516; have HR516_0 := am hi516_0; have HC516_0 := am hl516_0; clear hi516_0 hl516_0; replace p516 := eq_true p516; replace q516 := eq_true q516
     go_wp2_with (first | ((with_reducible refine gate_dst (N := 42) rfl ?_); refine Kd.R_lit k100 _ 100 ?hg (N := 42) ?hd (xs := ([] : List (S100))) (inner := []) (ok := fun _ => True) (okp := fun _ => True) ?hr ?hp (fun _ hk => hk) trivial (Below.refl _ _) (Nat.le_refl _) (by simp) ?_; (case hd => rfl); (case hg => rfl); (case hr => first | (go_simp; done) | (go_simp; rfl)); (case hp => exact (Reps.none _ _)); intro v535 w42 ho43 hb hg_ hnew_; clear hg_ hnew_; (first | rw [← Ny534.out] at ho43 | (simp only [Int.reduceToNat] at ho43; rw [← Ny534.out] at ho43) | (simp only [Int.toNat_natCast] at ho43; rw [← Ny534.out] at ho43)); replace HO_4 := am (Kd.N_elder' b32_ (Kd.R_base ho43) hb); replace HO_5 := am (Kd.S_elder' b11_ (Kd.R_base ho43) hb); replace HL516_0 := am (Kd.V_elder' (vq HL516_0.out) (Kd.R_base ho43) hb); have HO536 := am (Kd.R_lower ho43 (below_size bel)); replace HR516_0 := am (Kd.C_below b35_ hb); replace HB := am (below_step bel hb); clear hb ho43; obtain ⟨Ao44, co44, eo44⟩ := Kd.R_slice HO536.out; subst eo44) | ((with_reducible refine gate_dst (N := 7) rfl ?_); refine bx 7 (cs := #[.bool false, .slice none 0 0]) (t := 94) ?_; intro gb522 hg w45 hbox hb; replace HO_4 := am (Kd.N_below (Kd.N_elderB b32_ gb522 (Nat.le_of_eq hg.symm)) hb); replace HO_5 := am (Kd.S_below (Kd.S_elderB b11_ gb522 (Nat.le_of_eq hg.symm)) hb); replace HL516_0 := am (Kd.V_below (Kd.V_elderB (vq HL516_0.out) gb522 (Nat.le_of_eq hg.symm)) hb); replace HO536 := am (Kd.R_below (rq HO536.out) hb); replace HR516_0 := am (Kd.C_below b35_ hb); have BK522 := am (hbox); have GW522 := am ((b7_ : w.heap.size ≤ gb522)); have GE522 := am ((b7_ : w.heap.size ≤ gb522)); replace HB := am (below_step bel hb); clear hb hbox hg; have hcz46_0 := bc BK522.out 0; have hcz46_1 := bc BK522.out 1; have hfz46_0 := bf BK522.out 0; have hfz46_1 := bf BK522.out 1))
     go_loopg [8] k1 (fun kq v8 w' => ∃ (x8_2 : Int) (x523001_2 : List (S100)) (u523001 : Value), v8 = .int .u8 x8_2 ∧ Aside0 (spec_MachineOf.l1 kq t507 x5_1 x6_1 x8_2 false x523001_2 = some (r1, r2)) ∧ Aside0 (kq ≤ k1) ∧ Aside0 (Kd.N (Kd.slice 9 Kd.string) 22 w' w.heap.size (fun k_ => some k_ ≠ (u5 : Value).ownBlock ∧ some k_ ≠ (u523001 : Value).ownBlock ∧ k_ ≠ gb522) (.slice (some ad516) t507.length co11) t507) ∧ Aside0 (Kd.S k94 94 w' w.heap.size (fun k_ => some k_ ≠ (u523001 : Value).ownBlock ∧ k_ ≠ gb522) u5 x5_1) ∧ Aside0 (Kd.R k100 100 w' w.heap.size (fun _ => True) u523001 x523001_2) ∧ Aside0 (w'.heap[gb522]? = some (.cells #[.bool false, u523001] 94 (0, 0))) ∧ Aside0 (Below w.heap.size w w'))
     case atStart => exact ⟨(97), (y534), (.slice Ao44 y534.length co44), sq, H', ⟨Nat.le_refl _⟩, ⟨by (with_reducible repeat (first | apply Kd.N_alloc | apply Kd.N_drewN | apply Kd.N_drew)); exact Kd.N_mono (Kd.N_far (p := ⟨gb522, 1, none⟩) (Kd.N_far (p := ⟨gb522, 0, none⟩) (Kd.N_mono HO_4.out (fun k_ hk => (⟨hk, hk.2⟩ : _ ∧ k_ ≠ gb522))) (fun _ hk => hk.2) (.bool false)) (fun _ hk => hk.2) (.slice Ao44 y534.length co44)) (fun _ hk => ⟨hk.1.1.1, ⟨hk.1.1.2, hk.1.2⟩⟩)⟩, ⟨by (with_reducible repeat (first | apply Kd.S_alloc | apply Kd.S_drewN | apply Kd.S_drew)); exact Kd.S_mono (Kd.S_far (p := ⟨gb522, 1, none⟩) (Kd.S_far (p := ⟨gb522, 0, none⟩) (Kd.S_mono HO_5.out (fun k_ hk => (⟨hk, hk.2⟩ : _ ∧ k_ ≠ gb522))) (fun _ hk => hk.2) (.bool false)) (fun _ hk => hk.2) (.slice Ao44 y534.length co44)) (fun _ hk => ⟨hk.1.1.2, hk.1.2⟩)⟩, ⟨rq (Kd.R_mono (Kd.R_far (p := ⟨gb522, 1, none⟩) (Kd.R_far (p := ⟨gb522, 0, none⟩) (Kd.R_types HO536.out BK522.out (by decide)) (fun _ hk => hk.2) (.bool false)) (fun _ hk => hk.2) (.slice Ao44 y534.length co44)) (fun _ hk => trivial))⟩, ⟨by (with_reducible repeat (first | refine blk_drewN ?_ _ | refine blk_drew ?_ | refine blk_alloc ?_ _)); refine blk_put (cs := #[.bool false, .slice none 0 0]) ?_ 1 _ rfl; (with_reducible repeat (first | refine blk_drewN ?_ _ | refine blk_drew ?_ | refine blk_alloc ?_ _)); refine blk_put (cs := #[.bool false, .slice none 0 0]) ?_ 0 _ rfl; (with_reducible repeat (first | refine blk_drewN ?_ _ | refine blk_drew ?_ | refine blk_alloc ?_ _)); exact BK522.out⟩, ⟨bel1 GE522.out⟩⟩
     case round =>
      clear H'; (try clear c1); (try clear c2); (try clear p2); (try clear c3); (try clear c5); (try clear c5b0); (try clear c5b1); (try clear p5); (try clear q5); (try clear hx5); (try clear qi5); (try clear p6); (try clear c14); (try clear c14b0); (try clear c15); (try clear c15b0); (try clear c16); (try clear c16b0); (try clear c16b1); (try clear c17); (try clear c17b0); (try clear c17b1); (try clear c23); (try clear c23b0); (try clear c24); (try clear c24b0); (try clear c25); (try clear c25b0); (try clear c27); (try clear c27b0); (try clear c27b1); (try clear c29); (try clear c38); (try clear hcz22_0); (try clear hcz22_1); (try clear hcz39_0); (try clear hcz39_1); (try clear hcz46_0); (try clear hcz46_1); (try clear hfz22_0); (try clear hfz22_1); (try clear hfz39_0); (try clear hfz39_1); (try clear hfz46_0); (try clear hfz46_1); (try clear hx516_0); (try clear hx517_0); (try clear hx518_0); (try clear hx523_0); (try clear p2); (try clear p5); (try clear p516); (try clear p517); (try clear p518); (try clear p523); (try clear q5); (try clear q516); (try clear q517); (try clear q518); (try clear q523); obtain ⟨x8_2, x523001_2, u523001, rfl, HA, HK2, HO_4, HO_5, HO_523001, BK522, HB⟩ := hrel
      cases gk with
      | zero => exact absurd HA.out (by simp [spec_MachineOf.l1])
      | succ k2 =>
       have H := HA.out; clear HA
       simp only [spec_MachineOf.l1] at H
       by_cases c47 : x8_2 ≤ 122
       ·rw [if_pos c47] at H; have c47b0 := decide_eq_true c47; clear c47
        replace H := it H; obtain ⟨c48b0, H⟩ := H
        replace H := it H; obtain ⟨c49b0, H⟩ := H; replace H := bs H; obtain ⟨t524, A500, H⟩ := H; replace H : (if (t524.length : Int) > 0 then ((spec_l3At.f k2 t507 t524).bind fun t527 => (if x523001_2.length < 8796093022208 then (spec_MachineOf.l1 k2 t507 x5_1 x6_1 ((x8_2 + 1) % 256) false (x523001_2 ++ [(⟨wrap64 (x8_2), t527⟩ : S100)])) else (none))) else (spec_MachineOf.l1 k2 t507 x5_1 x6_1 ((x8_2 + 1) % 256) false x523001_2)) = some (r1, r2) := H; have A50 := Aside0.mk A500; clear A500
        by_cases c51 : (t524.length : Int) > 0
        ·rw [if_pos c51] at H; have c51b0 := decide_eq_true c51
         have c51b1 : decide (0 < t524.length) = true := decide_eq_true (by omega)
         clear c51; replace H := bs H; obtain ⟨t527, A520, H⟩ := H; replace H : (if x523001_2.length < 8796093022208 then (spec_MachineOf.l1 k2 t507 x5_1 x6_1 ((x8_2 + 1) % 256) false (x523001_2 ++ [(⟨wrap64 (x8_2), t527⟩ : S100)])) else (none)) = some (r1, r2) := H; have A52 := Aside0.mk A520; clear A520
         replace H := ip H; obtain ⟨c53, H⟩ := H; have LMc53 := Aside0.mk c53; clear c53; obtain ⟨y528, hy528⟩ : ∃ y_ : List (S100), y_ = (x523001_2 ++ [(⟨wrap64 (x8_2), t527⟩ : S100)]) := ⟨_, rfl⟩
         replace H : (spec_MachineOf.l1 k2 t507 x5_1 x6_1 ((x8_2 + 1) % 256) false y528) = some (r1, r2) := b50_
         have Ny528 := am hy528; clear hy528
         have H' := am H
         clear H
         have p523 : 0 ≤ (x6_1 : Int) := of_decide_eq_true ad
         have q523 : x6_1 < (t507.length : Int) := of_decide_eq_true ad
         obtain ⟨ad523, A523_0, c523_0, e523, hx523_0, hl523_0, hi523_0⟩ := at_L9 (Kd.N_reads' HO_4.out).2.2 x6_1 p523 q523
         obtain rfl : ad516 = ad523 := (by injection e523)
         obtain ⟨ce523, hce523, hMe523, hcc523⟩ := Kd.N_get HO_4.out [] x6_1 p523 b66_
         obtain ⟨ua523_0, uc523_0, rfl, ul523_0, ge523_0⟩ := Kd.FK_slice_open hMe523; have hv523_0 := hcc523 0 _ rfl; rw [Nat.add_zero, show ((Kd.slice 9 Kd.string)).sz = 1 from rfl, Nat.mul_one] at hv523_0; replace hv523_0 := Option.some.inj (hv523_0.symm.trans hx523_0)
         injection hv523_0 with hva_ hvn_ hvc_
         rw [hva_] at ge523_0; rw [hvc_] at ul523_0; have HL523_0 := am (show Kd.V Kd.string 9 _ w.heap.size _ _ (rd_L9 t507 x6_1) from Kd.V_mk ul523_0 ge523_0); clear hva_ hvn_ hvc_ ge523_0 ul523_0; clear hcc523 hce523; have HR523_0 := am hi523_0; have HC523_0 := am hl523_0; clear hi523_0 hl523_0; replace p523 := eq_true p523; replace q523 := eq_true q523
         try go_wp2_with (first | ((with_reducible refine gate_callee (f := 168) rfl ?_); refine goesL_ (some 53) rfl rfl Try.func168 (by kernel_rfl) rfl #[.slice A523_0 (rd_L9 t507 x6_1).length c523_0, .int .u8 x8_2] rfl mq ?_; (with_reducible refine (spec_l3Ends.calls k2 _ _ (rd_L9 t507 x6_1) x8_2 t524 _ ?side1 ?side2 A50.out).mono ?_); (case side1 => repeat (first | exact b18_ | (with_reducible refine Kd.C_alloc ?_ _) | (with_reducible refine Kd.C_drewN ?_ _) | (with_reducible refine Kd.C_drew ?_))); (case side2 => exact HC523_0.out); rintro e w54 ⟨v525, rfl, ho0, hb⟩; refine ⟨_, rfl, ?_⟩; replace HO_4 := am (Kd.N_elder' b32_ (Kd.R_base ho0) hb); replace HO_5 := am (Kd.S_below b11_ hb); replace HO_523001 := am (Kd.R_below (rq HO_523001.out) hb); replace HL523_0 := am (Kd.V_elder' (vq HL523_0.out) (Kd.R_base ho0) hb); have HO526 := am (Kd.R_lower ho0 (below_size (bel1 GE522.out))); replace BK522 := am (blk_below (g := gb522) (o := .cells #[.bool false, u523001] 94 (0, 0)) (bq BK522.out) hb); replace HR523_0 := am (Kd.C_below b18_ hb); replace HB := am (below_step (bel1 GE522.out) hb); (try clear hb); (try clear hb2); (try clear hk); (try clear hi); (try clear ho0); obtain ⟨Ao55, co55, eo55⟩ := Kd.R_slice HO526.out; subst eo55))
         replace HO_4 := am (Kd.N_drew HO_4.out); replace HO_5 := am (Kd.S_drew HO_5.out); replace HO_523001 := am (Kd.R_drew HO_523001.out); replace HL523_0 := am (Kd.V_drew HL523_0.out); replace HO526 := am (Kd.R_drew HO526.out); replace BK522 := am (blk_drew BK522.out); replace HR523_0 := am (Kd.C_drew HR523_0.out); replace HB := am (below_drew1 HB.out)
         refine start_ (n := 12) (S := fun w' => w'.cell? ⟨gb522, 0, none⟩ = some (.bool false) ∧ w'.cell? ⟨gb522, 1, none⟩ = some (u523001)) (ds := [11]) #[false, false, false, false, false, false, false, false, false, false, false, false] (by kernel_rfl) rfl rfl ⟨(blk_cell BK522.out 0).trans rfl, (blk_cell BK522.out 1).trans rfl⟩ (fun hHeld => ?_); refine with_tabW spec_MachineOf.tab16 spec_MachineOf.bits16 (fun HT_ HW_ => ?_)
         generalize w54.drew = w56 at HO_4 HO_5 HO_523001 HL523_0 HO526 BK522 HR523_0 HB hHeld ⊢
         refine pu 0 57 ?_
         refine pu 2 59 ?_
         refine pu 3 60 ?_
         refine pu 4 61 ?_
         refine pu 5 62 ?_
         refine tk2 1 58 hHeld ?_
         refine on1 6 63 (fun K hK => ?_)
         refine goes_ Try.func169 (by kernel_rfl) rfl #[.slice (some ad516) t507.length co11, .slice Ao55 t524.length co55] (by rfl) rfl rfl mq ?_
         with_reducible refine (spec_l3At.calls k2 _ _ t507 _ _ t524 t527 _ ?side1 ?side2 ?side3 ?side4 A52.out).mono ?_
         (case side1 => exact cq (Kd.N_reads' HO_4.out).2.2); (case side2 => exact (Kd.N_reads' HO_4.out).2.1); (case side3 => exact cq (Kd.R_reads' HO526.out).2.2); (case side4 => exact (Kd.R_reads' HO526.out).2.1)
         rintro e w' ⟨rfl, ⟨nd, rfl⟩⟩
         refine ⟨_, rfl, ?_⟩
         refine hK.out _ _ ⟨(blk_cell BK522.out 0).trans rfl, (blk_cell BK522.out 1).trans rfl⟩ (fun hHeld => ?_)
         clear hK K
         refine norm_ (a' := ?_) ?_ ?_
         rotate_left
         ·show Act.put _ (some 63) _ = _
          simp only [Act.put, List.setIfInBounds_toArray, List.set_cons_zero, List.set_cons_succ, i64_w, i32_w]
          rfl
         refine pu 7 64 ?_
         refine on1 8 65 (fun K hK => ?_)
         refine value_ (w1 := ?_) (v := ?_) (by rfl) rfl ?_ ?_
         rotate_left 2
         ·go_simp
          constructor
          ·rfl
          ·rfl
         refine hK.out _ _ ⟨(blk_cell (blk_alloc BK522.out _) 0).trans rfl, (blk_cell (blk_alloc BK522.out _) 1).trans rfl⟩ (fun hHeld => ?_)
         clear hK K
         refine norm_ (a' := ?_) ?_ ?_
         rotate_left
         ·show Act.put _ (some 65) _ = _
          simp only [Act.put, List.setIfInBounds_toArray, List.set_cons_zero, List.set_cons_succ, i64_w, i32_w]
          rfl
         refine on1 9 66 (fun K hK => ?_)
         refine Kd.R_append_step k100 (w0 := w) w.heap.size (by rfl) (.tmp 58) (.tmp 65) 92 100 (.agg #[(.int .i64 0), (.int .i64 0)]) 16 rfl Try.underlying92 info100 rfl (by decide) (by omega) u523001 x523001_2 (⟨wrap64 (x8_2), t527⟩ : S100) [.int .i64 (wrap64 (x8_2)), .int .i64 t527] (fun _ => True) (fun _ => False) rfl rfl ?aP (fun _ hk => hk.elim) ?aF ?aO ?aB ?aS ?aL ?_
         (case aP => exact k100_mkM _ _ _ (⟨wrap64 (x8_2), t527⟩ : S100)); (case aB => exact (bel1 GE522.out)); (case aF => exact (fun _ _ => trivial)); (case aO => exact (rq HO_523001.out)); (case aS => exact (below_size (bel1 GE522.out))); (case aL => have := LMc53.out; omega); intro v529 w57 ho hb hg hat; rw [← Ny528.out] at ho
         replace HO_4 := am (Kd.N_afterv (ok := (fun k_ => some k_ ≠ (u5 : Value).ownBlock ∧ some k_ ≠ (.slice Ao55 t524.length co55 : Value).ownBlock ∧ k_ ≠ gb522)) b70_ hg hat)
         replace HO_5 := am (Kd.S_after (ok := (fun k_ => k_ ≠ gb522)) b79_ hg hat)
         replace BK522 := am (blk_grown (g := gb522) (o := .cells #[.bool false, u523001] 94 (0, 0)) (bq BK522.out) hg (Kd.R_ne HO_523001.out BK522.out (by decide)))
         replace HL523_0 := am (Kd.V_afterv (ok := (fun k_ => some k_ ≠ (.slice (some ad516) t507.length co11 : Value).ownBlock ∧ some k_ ≠ (u5 : Value).ownBlock ∧ some k_ ≠ (.slice Ao55 t524.length co55 : Value).ownBlock ∧ k_ ≠ gb522)) (vq (Kd.V_mono HL523_0.out (fun _ hk => ⟨⟨hk.1.2, ⟨hk.1.1.1, ⟨hk.2, hk.1.1.2.2⟩⟩⟩, hk.1.1.2.1⟩))) hg hat)
         replace HO526 := am (Kd.R_over' (rq HO526.out) (Kd.R_typed (rq HO_523001.out)) (by decide) hg)
         replace HB := am (hb); have HO530 := am (ho); clear HO_523001; clear ho hb hg hat; obtain ⟨Ao58, co58, eo58⟩ := Kd.R_slice HO530.out
         (first | subst eo58 | (injection eo58 with f1_ f2_ f3_; have f4_ := f1_.symm; have f5_ := f3_.symm; clear f1_ f2_ f3_; subst f4_; subst f5_))
         refine hK.out _ _ ⟨(blk_cell BK522.out 0).trans rfl, (blk_cell BK522.out 1).trans rfl⟩ (fun hHeld => ?_)
         clear hK K
         refine norm_ (a' := ?_) ?_ ?_
         rotate_left
         ·show Act.put _ (some 66) _ = _
          simp only [Act.put, List.setIfInBounds_toArray, List.set_cons_zero, List.set_cons_succ, i64_w, i32_w]
          rfl
         refine pu 10 67 ?_
         refine last_ (i := 11) (N := none) #[true, true, true, true, true, true, true, true, true, true, true, true] rfl rfl (one_of HT_.out (by kernel_rfl)) (by decide) (fun K hK => ?_)
         have hs59 : w57.cell? ⟨gb522, 1, none⟩ = some (u523001) := (blk_cell BK522.out 1).trans rfl
         have hfs59 := bf BK522.out 1
         refine skip_ (w1 := ?_) (by rfl) rfl ?_ ?_
         rotate_left
         ·go_simp
          rfl
         refine hK.out _ _ ?_
         clear hK K
         refine done_ (done_of HT_.out (by kernel_rfl)) ?_
         try go_wp2
         go_roundg k2
         case measure => have := HK1.out; have := HK2.out; omega
         case rel => exact ⟨((x8_2 + 1) % 256), (y528), (.slice Ao58 y528.length co58), sq, H', ⟨b25_⟩, ⟨by (with_reducible repeat (first | apply Kd.N_alloc | apply Kd.N_drewN | apply Kd.N_drew)); exact Kd.N_mono (Kd.N_far (p := ⟨gb522, 1, none⟩) (Kd.N_mono HO_4.out (fun k_ hk => (⟨hk, hk.1.2.2⟩ : _ ∧ k_ ≠ gb522))) (fun _ hk => hk.2) (.slice Ao58 y528.length co58)) (fun _ hk => ⟨hk.1.1.1, ⟨hk.1.2, hk.1.1.2.2⟩⟩)⟩, ⟨by (with_reducible repeat (first | apply Kd.S_alloc | apply Kd.S_drewN | apply Kd.S_drew)); exact Kd.S_mono (Kd.S_far (p := ⟨gb522, 1, none⟩) (Kd.S_mono HO_5.out (fun k_ hk => (⟨hk, hk.1⟩ : _ ∧ k_ ≠ gb522))) (fun _ hk => hk.2) (.slice Ao58 y528.length co58)) (fun _ hk => ⟨hk.1.2, hk.1.1⟩)⟩, ⟨rq (Kd.R_mono (Kd.R_far (p := ⟨gb522, 1, none⟩) (Kd.R_types HO530.out BK522.out (by decide)) (fun _ hk => hk.2) (.slice Ao58 y528.length co58)) (fun _ hk => trivial))⟩, ⟨by (with_reducible repeat (first | refine blk_drewN ?_ _ | refine blk_drew ?_ | refine blk_alloc ?_ _)); refine blk_put (cs := #[.bool false, u523001]) ?_ 1 _ rfl; (with_reducible repeat (first | refine blk_drewN ?_ _ | refine blk_drew ?_ | refine blk_alloc ?_ _)); exact BK522.out⟩, ⟨bel1 GE522.out⟩⟩
        rw [if_neg c51] at H; have c51b0 := decide_eq_false c51
        have c51b1 : decide (0 < t524.length) = false := decide_eq_false (by omega)
        clear c51
        have H' := am H
        clear H
        have p523 : 0 ≤ (x6_1 : Int) := of_decide_eq_true ad
        have q523 : x6_1 < (t507.length : Int) := of_decide_eq_true ad
        obtain ⟨ad523, A523_0, c523_0, e523, hx523_0, hl523_0, hi523_0⟩ := at_L9 (Kd.N_reads' HO_4.out).2.2 x6_1 p523 q523
        obtain rfl : ad516 = ad523 := (by injection e523)
        obtain ⟨ce523, hce523, hMe523, hcc523⟩ := Kd.N_get HO_4.out [] x6_1 p523 b66_
        obtain ⟨ua523_0, uc523_0, rfl, ul523_0, ge523_0⟩ := Kd.FK_slice_open hMe523; have hv523_0 := hcc523 0 _ rfl; rw [Nat.add_zero, show ((Kd.slice 9 Kd.string)).sz = 1 from rfl, Nat.mul_one] at hv523_0; replace hv523_0 := Option.some.inj (hv523_0.symm.trans hx523_0)
        injection hv523_0 with hva_ hvn_ hvc_
        rw [hva_] at ge523_0; rw [hvc_] at ul523_0; have HL523_0 := am (show Kd.V Kd.string 9 _ w.heap.size _ _ (rd_L9 t507 x6_1) from Kd.V_mk ul523_0 ge523_0); clear hva_ hvn_ hvc_ ge523_0 ul523_0; clear hcc523 hce523; have HR523_0 := am hi523_0; have HC523_0 := am hl523_0; clear hi523_0 hl523_0; replace p523 := eq_true p523; replace q523 := eq_true q523
        go_wp2_with (first | ((with_reducible refine gate_callee (f := 168) rfl ?_); refine goesL_ (some 53) rfl rfl Try.func168 (by kernel_rfl) rfl #[.slice A523_0 (rd_L9 t507 x6_1).length c523_0, .int .u8 x8_2] rfl mq ?_; (with_reducible refine (spec_l3Ends.calls k2 _ _ (rd_L9 t507 x6_1) x8_2 t524 _ ?side1 ?side2 A50.out).mono ?_); (case side1 => repeat (first | exact b18_ | (with_reducible refine Kd.C_alloc ?_ _) | (with_reducible refine Kd.C_drewN ?_ _) | (with_reducible refine Kd.C_drew ?_))); (case side2 => exact HC523_0.out); rintro e w60 ⟨v525, rfl, ho0, hb⟩; refine ⟨_, rfl, ?_⟩; replace HO_4 := am (Kd.N_elder' b32_ (Kd.R_base ho0) hb); replace HO_5 := am (Kd.S_below b11_ hb); replace HO_523001 := am (Kd.R_below (rq HO_523001.out) hb); replace HL523_0 := am (Kd.V_elder' (vq HL523_0.out) (Kd.R_base ho0) hb); have HO526 := am (Kd.R_lower ho0 (below_size (bel1 GE522.out))); replace BK522 := am (blk_below (g := gb522) (o := .cells #[.bool false, u523001] 94 (0, 0)) (bq BK522.out) hb); replace HR523_0 := am (Kd.C_below b18_ hb); replace HB := am (below_step (bel1 GE522.out) hb); (try clear hb); (try clear hb2); (try clear hk); (try clear hi); (try clear ho0); obtain ⟨Ao61, co61, eo61⟩ := Kd.R_slice HO526.out; subst eo61))
        go_roundg k2
        case measure => have := HK1.out; have := HK2.out; omega
        case rel => exact ⟨((x8_2 + 1) % 256), (x523001_2), (u523001), sq, H', ⟨b25_⟩, ⟨b71_⟩, ⟨b11_⟩, ⟨rq HO_523001.out⟩, ⟨bq BK522.out⟩, ⟨bel1 GE522.out⟩⟩
       rw [if_neg c47] at H; have c47b0 := decide_eq_false c47; clear c47
       replace H := ip H; obtain ⟨c62, H⟩ := H; have LMc62 := Aside0.mk c62; clear c62; obtain ⟨y531, hy531⟩ : ∃ y_ : List (S94), y_ = (x5_1 ++ [(⟨false, x523001_2⟩ : S94)]) := ⟨_, rfl⟩
       replace H : (spec_MachineOf.l0 k2 t507 y531 (wrap64 (x6_1 + 1))) = some (r1, r2) := b51_
       have Ny531 := am hy531; clear hy531
       have H' := am H
       clear H; have hcz63_0 := bc BK522.out 0; have hcz63_1 := bc BK522.out 1; have hfz63_0 := bf BK522.out 0; have hfz63_1 := bf BK522.out 1; obtain ⟨Ao65, co65, eo65⟩ := Kd.R_slice HO_523001.out; subst eo65
       go_wp2_with (first | ((with_reducible refine gate_builtin (b := .append) (xs := #[.tmp 68, .tmp 70]) rfl ?_); at_builtin; refine Kd.S_append k94 (w0 := w) w.heap.size rfl (.tmp 68) (.tmp 70) 43 94 (.agg #[(.bool false), (.slice none 0 0)]) 32 rfl Try.underlying43 info94 rfl (by decide) (by omega) u5 x5_1 (⟨false, x523001_2⟩ : S94) [.bool false, .slice Ao65 x523001_2.length co65] (fun k_ => k_ ≠ gb522) (fun k_ => some k_ = (.slice Ao65 x523001_2.length co65 : Value).ownBlock) rfl rfl ?aP (fun k_ hk_ => ((Kd.R_mono (ok' := fun k_ => ((fun k_ => k_ ≠ gb522)) k_ ∧ some k_ ≠ (u5 : Value).ownBlock) (Kd.R_types (Kd.R_apart' (HO_523001.out) (Kd.S_typed HO_5.out) (by decide)) BK522.out (by decide)) (fun k_ hk => ⟨hk.2, hk.1.2⟩))).1 k_ hk_.symm) ?aF ?aO ?aB ?aS ?aL ?_; (case aP => exact k94_mkM _ _ _ (⟨false, x523001_2⟩ : S94) (Kd.R_mono (Kd.R_tight rfl (Kd.R_mono (ok' := fun k_ => ((fun k_ => k_ ≠ gb522)) k_ ∧ some k_ ≠ (u5 : Value).ownBlock) (Kd.R_types (Kd.R_apart' (HO_523001.out) (Kd.S_typed HO_5.out) (by decide)) BK522.out (by decide)) (fun k_ hk => ⟨hk.2, hk.1.2⟩))) (fun _ h_ => h_))); (case aB => exact (bel1 GE522.out)); (case aF => exact (fun k_ hk => Kd.freshB (g := gb522) (o := .cells #[.bool false, .slice Ao65 x523001_2.length co65] 94 (0, 0)) (bq BK522.out) k_ hk)); (case aO => exact b73_); (case aS => exact (below_size (bel1 GE522.out))); (case aL => have := LMc62.out; omega); intro v532 w64 ho hb hg hat; rw [← Ny531.out] at ho; replace HO_4 := am (Kd.N_afterv (ok := (fun k_ => some k_ ≠ (.slice Ao65 x523001_2.length co65 : Value).ownBlock ∧ k_ ≠ gb522)) b78_ hg hat); replace BK522 := am (blk_grown (g := gb522) (o := .cells #[.bool false, .slice Ao65 x523001_2.length co65] 94 (0, 0)) (bq BK522.out) hg (Kd.S_away HO_5.out (fun _ hk => hk.2))); replace HB := am (hb); have HO533 := am (ho); clear HO_5 HO_523001; clear ho hb hg hat))
       go_roundg k2
       case measure => have := HK1.out; have := HK2.out; omega
       case rel => exact ⟨(y531), (wrap64 (x6_1 + 1)), sq, H', ⟨b25_⟩, ⟨b85_⟩, ⟨b83_⟩, ⟨bel1 GE522.out⟩⟩
    rw [if_neg c14] at H; have c14b0 := decide_eq_false c14; clear c14
    simp only [Option.some.injEq, Prod.mk.injEq] at H
    obtain ⟨rfl, rfl⟩ := H; go_wp2
    go_ret2
    exact ⟨_, eq_, b11_, bel⟩
 replace c3 := Bool.eq_false_iff.mpr c3; subst c3
 have H1 : (some ((([] : List (S94))), false)) = some (r1, r2) := b6_
 replace H := H1; clear H1
 obtain ⟨y538, hy538⟩ : ∃ y_ : List (S94), y_ = (([] : List (S94))) := ⟨_, rfl⟩
 replace H : (some (y538, false)) = some (r1, r2) := by first | (rw [hy538]; with_reducible exact H) | (have H2_ := bm H; rw [hy538]; with_reducible exact H2_) | (with_reducible exact bm H) | with_reducible exact H | (rw [hy538]; exact H) | exact H
 have Ny538 := am hy538; clear hy538
 simp only [Option.some.injEq, Prod.mk.injEq] at H
 obtain ⟨rfl, rfl⟩ := H; go_enter Try.func145, Try.ntmps145
 go_wp2_with (first | ((with_reducible refine gate_callee (f := 56) rfl ?_); refine goesL_ (some 11) rfl rfl Try.func56 (by kernel_rfl) rfl #[.slice A0 l0.length c0] rfl mq ?_; (with_reducible refine (spec_l3Words.calls k _ _ l0 false _ ?side1 ?side2 A2.out).mono ?_); (case side1 => repeat (first | exact HR0.out | (with_reducible refine Kd.C_alloc ?_ _) | (with_reducible refine Kd.C_drewN ?_ _) | (with_reducible refine Kd.C_drew ?_))); (case side2 => exact HC0.out); rintro e w' ⟨rfl, ⟨nd, rfl⟩⟩; refine ⟨_, rfl, ?_⟩) | ((with_reducible refine gate_dst (N := 13) rfl ?_); refine Kd.S_lit k94 _ 94 ?hg (N := 13) ?hd (xs := ([] : List (S94))) (inner := []) (ok := fun _ => True) (okp := fun _ => True) ?hr ?hp (fun _ hk => hk) trivial (Below.refl _ _) (Nat.le_refl _) (by simp) ?_; (case hd => rfl); (case hg => rfl); (case hr => first | (go_simp; done) | (go_simp; rfl)); (case hp => exact (Reps.none _ _)); intro v539 w66 ho67 hb hg_ hnew_; clear hg_ hnew_; (first | rw [← Ny538.out] at ho67 | (simp only [Int.reduceToNat] at ho67; rw [← Ny538.out] at ho67) | (simp only [Int.toNat_natCast] at ho67; rw [← Ny538.out] at ho67)); have HO540 := am (Kd.S_lower ho67 (below_size bel)); replace HB := am (below_step bel hb); clear hb ho67))
 go_ret2
 exact ⟨_, eq_, by (with_reducible repeat (first | apply Kd.S_alloc | apply Kd.S_drewN | apply Kd.S_drew)); exact HO540.out, bel⟩
-- shrunk

/-! ### spec_l13Machine: function 118 -/
def spec_l13Machine.f (k : Nat) (s0_0 : List Int) (s0_1 : Int) : Option ((List (S94)) × Int) := (spec_l13Words.f k s0_0 s0_1).bind fun bt541 => ((spec_MachineOf.f k bt541.1).bind fun bt545 => (some (bt545.1, bt541.2)))
theorem spec_l13Machine.calls (k : Nat) (g : Nat) (s0_0 : List Int) (s0_1 : Int) (r1 : List (S94)) (r2 : Int) (w0 w : World) (hI : IsS127 w0 w g s0_0 s0_1) (hB : Below w0.heap.size w0 w) (h : spec_l13Machine.f k s0_0 s0_1 = some (r1, r2)) :
  Calls Try.prog 118 #[.pointer (some ⟨g, 0, none⟩)] w fun e w' => ∃ v0_ : Value, e = .returned (v0_) ∧ Kd.S k94 94 w' w.heap.size (fun _ => True) v0_ r1 ∧ IsS127 w0 w' g s0_0 r2 ∧ Below w0.heap.size w0 w' ∧ KeepBut w w' g none := by
 have HI0 := am hI; have HK := am (KeepBut.refl w g none); have HL := am hB.size; clear hI; have HW0 := am hB.size; have HB := am hB; clear hB
 have H : ((spec_l13Words.f k s0_0 s0_1).bind fun bt541 => ((spec_MachineOf.f k bt541.1).bind fun bt545 => (some (bt545.1, bt541.2)))) = some (r1, r2) := h
 clear h; replace H := bs H; obtain ⟨⟨t541, t544⟩, A20, H⟩ := H; replace H : ((spec_MachineOf.f k t541).bind fun bt545 => (some (bt545.1, t544))) = some (r1, r2) := H; have A2 := Aside0.mk A20; clear A20; replace H := bs H; obtain ⟨⟨t545, t546⟩, A30, H⟩ := H; replace H : (some (t545, t544)) = some (r1, r2) := H; have A3 := Aside0.mk A30; clear A30
 simp only [Option.some.injEq, Prod.mk.injEq] at H
 obtain ⟨rfl, rfl⟩ := H; go_enter Try.func118, Try.ntmps118
 go_wp2_with (first | ((with_reducible refine gate_callee (f := 109) rfl ?_); refine goesL_ (some 7) rfl rfl Try.func109 (by kernel_rfl) rfl #[.pointer (some ⟨g, 0, none⟩)] rfl mq ?_; (with_reducible refine (spec_l13Words.calls k g s0_0 s0_1 t541 t544 w0 _ ?side1 ?side2 A2.out).mono ?_); (case side1 => repeat (first | (with_reducible first | exact HI0.out | apply IsS127.alloc | apply IsS127.drewN | apply IsS127.drew | apply IsS127.set_1) | exact HI0.out)); (case side2 => repeat (first | (with_reducible first | exact HB.out | apply below_alloc | apply pw_below_drewN | apply below_drew1 | refine below_set ?_ (IsS127.ge HI0.out)) | exact HB.out)); rintro e w4 ⟨v542, rfl, ho0, hi, hb, hk⟩; refine ⟨_, rfl, ?_⟩; have HO543 := am (Kd.V_lower (Kd.V_mono (ok' := fun k_ => k_ ≠ g) ho0 (fun k_ hk_ => (IsS127.fresh b2_ k_ hk_))) (keep_size (w := w) (g := g) (row := none) b0_)); replace HK := am (KeepBut.trans b0_ hk (.inl rfl)); replace HB := am (hb); replace HI0 := am (hi); (try clear hb); (try clear hb2); (try clear hk); (try clear hi); (try clear ho0); obtain ⟨Ao5, co5, eo5⟩ := Kd.V_slice HO543.out; subst eo5) | ((with_reducible refine gate_callee (f := 145) rfl ?_); refine goesL_ (some 8) rfl rfl Try.func145 (by kernel_rfl) rfl #[.slice Ao5 t541.length co5] rfl mq ?_; (with_reducible refine (spec_MachineOf.calls k _ _ t541 t545 t546 _ ?side1 ?side2 A3.out).mono ?_); (case side1 => exact cq (Kd.V_reads' HO543.out).2.2); (case side2 => exact (Kd.V_reads' HO543.out).2.1); rintro e w6 ⟨v547, rfl, ho0, hb⟩; refine ⟨_, rfl, ?_⟩; replace HO543 := am (Kd.V_elder' (vq HO543.out) (Kd.S_base ho0) hb); have HO548 := am (Kd.S_lower ho0 (keep_size (w := w) (g := g) (row := none) b0_)); replace HK := am (KeepBut.trans b0_ (KeepBut.of_below hb g none) (.inl rfl)); replace HB := am (below_step b1_ hb); replace HI0 := am (IsS127.below b2_ hb); (try clear hb); (try clear hb2); (try clear hk); (try clear hi); (try clear ho0)))
 go_ret
 exact ⟨_, eq_, by (with_reducible repeat (first | apply Kd.S_alloc | apply Kd.S_drewN | apply Kd.S_drew)); exact HO548.out, b2_, b1_, b0_⟩

/-! ### spec_l13AnyMachine: function 76 -/
def spec_l13AnyMachine.l0 : Nat → List (S94) → Int → List Int → Int → Option ((List (S94)) × Int)
 | 0, _, _, _, _ => none
 | k + 1, x5, x6, x1000, x1001 => (spec_l1Rd_pick.f k x1000 x1001 11).bind fun bt576 => (if x6 < (wrap64 (3 + bt576.1)) then (if x5.length < 4398046511104 then (spec_l13AnyMachine.l0 k (x5 ++ [(⟨((Int.tmod x6 3) == 0), (([(⟨97, wrap64 (x6 + 1)⟩ : S100), (⟨98, wrap64 (x6 + 1)⟩ : S100)] : List (S100)))⟩ : S94)]) (wrap64 (x6 + 1)) x1000 bt576.2) else (none)) else (if x5.length < 4398046511104 then (some ((x5 ++ [(⟨true, ([] : List (S100))⟩ : S94)]), bt576.2)) else (none)))
def spec_l13AnyMachine.f (k : Nat) (s0_0 : List Int) (s0_1 : Int) : Option ((List (S94)) × Int) := (spec_l13Machine.f k s0_0 s0_1).bind fun bt549 => (if (bt549.1.length : Int) = 0 then (some (bt549.1, bt549.2)) else ((spec_l1Rd_pick.f k s0_0 bt549.2 (bt549.1.length : Int)).bind fun bt553 => ((spec_l1Rd_pick.f k s0_0 bt553.2 10).bind fun bt555 => (if bt555.1 = 0 then (if 0 ≤ bt553.1 then (if bt553.1 < (bt549.1.length : Int) then (some ((bt549.1.set (bt553.1 : Int).toNat (⟨!((rd_T94 bt549.1 bt553.1).f0), (rd_T94 bt549.1 bt553.1).f1⟩ : S94)), bt555.2)) else (none)) else (none)) else (if bt555.1 = 1 then (if 0 ≤ bt553.1 then (if bt553.1 < (bt549.1.length : Int) then ((spec_l1Rd_pick.f k s0_0 bt555.2 26).bind fun bt560 => ((spec_l1Rd_pick.f k s0_0 bt560.2 (wrap64 ((bt549.1.length : Int) + 1))).bind fun bt562 => (if ((rd_T94 bt549.1 bt553.1).f1).length < 8796093022208 then (some ((bt549.1.set (bt553.1 : Int).toNat (⟨(rd_T94 bt549.1 bt553.1).f0, (((rd_T94 bt549.1 bt553.1).f1) ++ [(⟨wrap64 (97 + bt560.1), bt562.1⟩ : S100)])⟩ : S94)), bt562.2)) else (none)))) else (none)) else (none)) else (if bt555.1 = 2 then ((spec_l1Rd_pick.f k s0_0 bt555.2 2).bind fun bt568 => (if bt549.1.length < 4398046511104 then (some ((bt549.1 ++ [(⟨(bt568.1 == 0), ([] : List (S100))⟩ : S94)]), bt568.2)) else (none))) else (if bt555.1 = 3 then (spec_l13AnyMachine.l0 k (([] : List (S94))) 0 s0_0 bt555.2) else (some (bt549.1, bt555.2)))))))))
def spec_l13AnyMachine.T9 : Bool × List (List Nat × List Nat) := (true, [([], []), ([], []), ([], []), ([], []), ([2, 3], [2, 3]), ([4], [4]), ([5], [5]), ([], []), ([7], [7]), ([8], [8]), ([], []), ([], []), ([11], [11]), ([12], [12]), ([10, 13, 8], [10, 13]), ([9, 14], [9, 14]), ([15], [15]), ([6, 16, 14], [6, 16]), ([0, 1, 0, 1, 2, 3, 4, 5, 6, 7, 8, 9, 10, 11, 12, 13, 14, 15, 16, 17], [0, 1]), ([18, 0, 1, 2, 3, 4, 5, 6, 7, 8, 9, 10, 11, 12, 13, 14, 15, 16, 17], [18]), ([19, 17, 17, 0, 1, 2, 3, 4, 5, 6, 7, 8, 9, 10, 11, 12, 13, 14, 15, 16, 17], [17, 19])])
def spec_l13AnyMachine.B9 : List Nat := [0, 0, 0, 0, 12, 28, 60, 0, 128, 384, 0, 0, 2048, 6144, 15744, 32640, 65408, 131068, 262143, 524287, 1048575]
theorem spec_l13AnyMachine.tab9 : rtab .any (opsOf Try.f76 9) = spec_l13AnyMachine.T9 := by kernel_rfl
theorem spec_l13AnyMachine.bits9 : waitsOk spec_l13AnyMachine.T9.2 spec_l13AnyMachine.B9 = true := by kernel_rfl
theorem spec_l13AnyMachine.calls (k : Nat) (g : Nat) (s0_0 : List Int) (s0_1 : Int) (r1 : List (S94)) (r2 : Int) (w0 w : World) (hI : IsS127 w0 w g s0_0 s0_1) (hB : Below w0.heap.size w0 w) (h : spec_l13AnyMachine.f k s0_0 s0_1 = some (r1, r2)) :
  Calls Try.prog 76 #[.pointer (some ⟨g, 0, none⟩)] w fun e w' => ∃ v0_ : Value, e = .returned (v0_) ∧ Kd.S k94 94 w' w.heap.size (fun _ => True) v0_ r1 ∧ IsS127 w0 w' g s0_0 r2 ∧ Below w0.heap.size w0 w' ∧ KeepBut w w' g none := by
 have hu100 := Try.underlying100; have hu94 := Try.underlying94; have HI0 := am hI; have HK := am (KeepBut.refl w g none); have HL := am hB.size; clear hI; have HW0 := am hB.size; have HB := am hB; clear hB
 have H : ((spec_l13Machine.f k s0_0 s0_1).bind fun bt549 => (if (bt549.1.length : Int) = 0 then (some (bt549.1, bt549.2)) else ((spec_l1Rd_pick.f k s0_0 bt549.2 (bt549.1.length : Int)).bind fun bt553 => ((spec_l1Rd_pick.f k s0_0 bt553.2 10).bind fun bt555 => (if bt555.1 = 0 then (if 0 ≤ bt553.1 then (if bt553.1 < (bt549.1.length : Int) then (some ((bt549.1.set (bt553.1 : Int).toNat (⟨!((rd_T94 bt549.1 bt553.1).f0), (rd_T94 bt549.1 bt553.1).f1⟩ : S94)), bt555.2)) else (none)) else (none)) else (if bt555.1 = 1 then (if 0 ≤ bt553.1 then (if bt553.1 < (bt549.1.length : Int) then ((spec_l1Rd_pick.f k s0_0 bt555.2 26).bind fun bt560 => ((spec_l1Rd_pick.f k s0_0 bt560.2 (wrap64 ((bt549.1.length : Int) + 1))).bind fun bt562 => (if ((rd_T94 bt549.1 bt553.1).f1).length < 8796093022208 then (some ((bt549.1.set (bt553.1 : Int).toNat (⟨(rd_T94 bt549.1 bt553.1).f0, (((rd_T94 bt549.1 bt553.1).f1) ++ [(⟨wrap64 (97 + bt560.1), bt562.1⟩ : S100)])⟩ : S94)), bt562.2)) else (none)))) else (none)) else (none)) else (if bt555.1 = 2 then ((spec_l1Rd_pick.f k s0_0 bt555.2 2).bind fun bt568 => (if bt549.1.length < 4398046511104 then (some ((bt549.1 ++ [(⟨(bt568.1 == 0), ([] : List (S100))⟩ : S94)]), bt568.2)) else (none))) else (if bt555.1 = 3 then (spec_l13AnyMachine.l0 k (([] : List (S94))) 0 s0_0 bt555.2) else (some (bt549.1, bt555.2)))))))))) = some (r1, r2) := h
 clear h; replace H := bs H; obtain ⟨⟨t549, t552⟩, A20, H⟩ := H; replace H : (if (t549.length : Int) = 0 then (some (t549, t552)) else ((spec_l1Rd_pick.f k s0_0 t552 (t549.length : Int)).bind fun bt553 => ((spec_l1Rd_pick.f k s0_0 bt553.2 10).bind fun bt555 => (if bt555.1 = 0 then (if 0 ≤ bt553.1 then (if bt553.1 < (t549.length : Int) then (some ((t549.set (bt553.1 : Int).toNat (⟨!((rd_T94 t549 bt553.1).f0), (rd_T94 t549 bt553.1).f1⟩ : S94)), bt555.2)) else (none)) else (none)) else (if bt555.1 = 1 then (if 0 ≤ bt553.1 then (if bt553.1 < (t549.length : Int) then ((spec_l1Rd_pick.f k s0_0 bt555.2 26).bind fun bt560 => ((spec_l1Rd_pick.f k s0_0 bt560.2 (wrap64 ((t549.length : Int) + 1))).bind fun bt562 => (if ((rd_T94 t549 bt553.1).f1).length < 8796093022208 then (some ((t549.set (bt553.1 : Int).toNat (⟨(rd_T94 t549 bt553.1).f0, (((rd_T94 t549 bt553.1).f1) ++ [(⟨wrap64 (97 + bt560.1), bt562.1⟩ : S100)])⟩ : S94)), bt562.2)) else (none)))) else (none)) else (none)) else (if bt555.1 = 2 then ((spec_l1Rd_pick.f k s0_0 bt555.2 2).bind fun bt568 => (if t549.length < 4398046511104 then (some ((t549 ++ [(⟨(bt568.1 == 0), ([] : List (S100))⟩ : S94)]), bt568.2)) else (none))) else (if bt555.1 = 3 then (spec_l13AnyMachine.l0 k (([] : List (S94))) 0 s0_0 bt555.2) else (some (t549, bt555.2))))))))) = some (r1, r2) := H; have A2 := Aside0.mk A20; clear A20
 by_cases c3 : (t549.length : Int) = 0
 ·rw [if_pos c3] at H
  have c3b0 : ((t549.length : Int) == 0) = true := beq_iff_eq.mpr c3
  have c3b1 : ((t549.length : Int) != 0) = false := bne_eq_false_iff_eq.mpr c3
  clear c3
  simp only [Option.some.injEq, Prod.mk.injEq] at H
  obtain ⟨rfl, rfl⟩ := H; go_enter Try.func76, Try.ntmps76
  go_wp2_with (first | ((with_reducible refine gate_callee (f := 118) rfl ?_); refine goesL_ (some 8) rfl rfl Try.func118 (by kernel_rfl) rfl #[.pointer (some ⟨g, 0, none⟩)] rfl mq ?_; (with_reducible refine (spec_l13Machine.calls k g s0_0 s0_1 t549 t552 w0 _ ?side1 ?side2 A2.out).mono ?_); (case side1 => repeat (first | (with_reducible first | exact HI0.out | apply IsS127.alloc | apply IsS127.drewN | apply IsS127.drew | apply IsS127.set_1) | exact HI0.out)); (case side2 => repeat (first | (with_reducible first | exact HB.out | apply below_alloc | apply pw_below_drewN | apply below_drew1 | refine below_set ?_ (IsS127.ge HI0.out)) | exact HB.out)); rintro e w4 ⟨v550, rfl, ho0, hi, hb, hk⟩; refine ⟨_, rfl, ?_⟩; have HO551 := am (Kd.S_lower ho0 (keep_size (w := w) (g := g) (row := none) b0_)); replace HK := am (KeepBut.trans b0_ hk (.inl rfl)); replace HB := am (hb); replace HI0 := am (hi); (try clear hb); (try clear hb2); (try clear hk); (try clear hi); (try clear ho0); obtain ⟨Ao5, co5, eo5⟩ := Kd.S_slice HO551.out; subst eo5))
  go_ret
  exact ⟨_, eq_, b15_, b2_, b1_, b0_⟩
 rw [if_neg c3] at H
 have c3b0 : ((t549.length : Int) == 0) = false := beq_eq_false_iff_ne.mpr c3
 have c3b1 : ((t549.length : Int) != 0) = true := bne_iff_ne.mpr c3
 have c3b2 : ¬ (t549 = []) := fun h_ => c3 (by rw [h_]; rfl)
 replace H := bs H; obtain ⟨⟨t553, t554⟩, A60, H⟩ := H; replace H : ((spec_l1Rd_pick.f k s0_0 t554 10).bind fun bt555 => (if bt555.1 = 0 then (if 0 ≤ t553 then (if t553 < (t549.length : Int) then (some ((t549.set (t553 : Int).toNat (⟨!((rd_T94 t549 t553).f0), (rd_T94 t549 t553).f1⟩ : S94)), bt555.2)) else (none)) else (none)) else (if bt555.1 = 1 then (if 0 ≤ t553 then (if t553 < (t549.length : Int) then ((spec_l1Rd_pick.f k s0_0 bt555.2 26).bind fun bt560 => ((spec_l1Rd_pick.f k s0_0 bt560.2 (wrap64 ((t549.length : Int) + 1))).bind fun bt562 => (if ((rd_T94 t549 t553).f1).length < 8796093022208 then (some ((t549.set (t553 : Int).toNat (⟨(rd_T94 t549 t553).f0, (((rd_T94 t549 t553).f1) ++ [(⟨wrap64 (97 + bt560.1), bt562.1⟩ : S100)])⟩ : S94)), bt562.2)) else (none)))) else (none)) else (none)) else (if bt555.1 = 2 then ((spec_l1Rd_pick.f k s0_0 bt555.2 2).bind fun bt568 => (if t549.length < 4398046511104 then (some ((t549 ++ [(⟨(bt568.1 == 0), ([] : List (S100))⟩ : S94)]), bt568.2)) else (none))) else (if bt555.1 = 3 then (spec_l13AnyMachine.l0 k (([] : List (S94))) 0 s0_0 bt555.2) else (some (t549, bt555.2))))))) = some (r1, r2) := H; have A6 := Aside0.mk A60; clear A60; replace H := bs H; obtain ⟨⟨t555, t556⟩, A70, H⟩ := H; replace H : (if t555 = 0 then (if 0 ≤ t553 then (if t553 < (t549.length : Int) then (some ((t549.set (t553 : Int).toNat (⟨!((rd_T94 t549 t553).f0), (rd_T94 t549 t553).f1⟩ : S94)), t556)) else (none)) else (none)) else (if t555 = 1 then (if 0 ≤ t553 then (if t553 < (t549.length : Int) then ((spec_l1Rd_pick.f k s0_0 t556 26).bind fun bt560 => ((spec_l1Rd_pick.f k s0_0 bt560.2 (wrap64 ((t549.length : Int) + 1))).bind fun bt562 => (if ((rd_T94 t549 t553).f1).length < 8796093022208 then (some ((t549.set (t553 : Int).toNat (⟨(rd_T94 t549 t553).f0, (((rd_T94 t549 t553).f1) ++ [(⟨wrap64 (97 + bt560.1), bt562.1⟩ : S100)])⟩ : S94)), bt562.2)) else (none)))) else (none)) else (none)) else (if t555 = 2 then ((spec_l1Rd_pick.f k s0_0 t556 2).bind fun bt568 => (if t549.length < 4398046511104 then (some ((t549 ++ [(⟨(bt568.1 == 0), ([] : List (S100))⟩ : S94)]), bt568.2)) else (none))) else (if t555 = 3 then (spec_l13AnyMachine.l0 k (([] : List (S94))) 0 s0_0 t556) else (some (t549, t556)))))) = some (r1, r2) := H; have A7 := Aside0.mk A70; clear A70
 by_cases c8 : t555 = 0
 ·rw [if_pos c8] at H
  have c8b0 : (t555 == 0) = true := beq_iff_eq.mpr c8
  have c8b1 : (t555 != 0) = false := bne_eq_false_iff_eq.mpr c8
  clear c8
  replace H := it H; obtain ⟨c9b0, H⟩ := H
  replace H := it H; obtain ⟨c10b0, H⟩ := H; obtain ⟨y558, hy558⟩ : ∃ y_ : List (S94), y_ = (t549.set (t553 : Int).toNat (⟨!((rd_T94 t549 t553).f0), (rd_T94 t549 t553).f1⟩ : S94)) := ⟨_, rfl⟩
  replace H : (some (y558, t556)) = some (r1, r2) := by first | (rw [hy558]; with_reducible exact H) | (have H2_ := bm H; rw [hy558]; with_reducible exact H2_) | (with_reducible exact bm H) | with_reducible exact H | (rw [hy558]; exact H) | exact H
  have Ny558 := am hy558; clear hy558
  simp only [Option.some.injEq, Prod.mk.injEq] at H
  obtain ⟨rfl, rfl⟩ := H; go_enter Try.func76, Try.ntmps76
  go_wp2_with (first | ((with_reducible refine gate_callee (f := 118) rfl ?_); refine goesL_ (some 8) rfl rfl Try.func118 (by kernel_rfl) rfl #[.pointer (some ⟨g, 0, none⟩)] rfl mq ?_; (with_reducible refine (spec_l13Machine.calls k g s0_0 s0_1 t549 t552 w0 _ ?side1 ?side2 A2.out).mono ?_); (case side1 => repeat (first | (with_reducible first | exact HI0.out | apply IsS127.alloc | apply IsS127.drewN | apply IsS127.drew | apply IsS127.set_1) | exact HI0.out)); (case side2 => repeat (first | (with_reducible first | exact HB.out | apply below_alloc | apply pw_below_drewN | apply below_drew1 | refine below_set ?_ (IsS127.ge HI0.out)) | exact HB.out)); rintro e w12 ⟨v550, rfl, ho0, hi, hb, hk⟩; refine ⟨_, rfl, ?_⟩; have HO551 := am (Kd.S_lower ho0 (keep_size (w := w) (g := g) (row := none) b0_)); replace HK := am (KeepBut.trans b0_ hk (.inl rfl)); replace HB := am (hb); replace HI0 := am (hi); (try clear hb); (try clear hb2); (try clear hk); (try clear hi); (try clear ho0); obtain ⟨Ao13, co13, eo13⟩ := Kd.S_slice HO551.out; subst eo13) | ((with_reducible refine gate_callee (f := 67) rfl ?_); refine goesL_ (some 16) rfl rfl Try.func67 (by kernel_rfl) rfl #[.pointer (some ⟨g, 0, none⟩), .int .i64 (t549.length : Int)] rfl mq ?_; (with_reducible refine (spec_l1Rd_pick.calls k g s0_0 t552 (t549.length : Int) t553 t554 w0 _ ?side1 ?side2 A6.out).mono ?_); (case side1 => repeat (first | (with_reducible first | exact HI0.out | apply IsS127.alloc | apply IsS127.drewN | apply IsS127.drew | apply IsS127.set_1) | exact HI0.out)); (case side2 => repeat (first | (with_reducible first | exact HB.out | apply below_alloc | apply pw_below_drewN | apply below_drew1 | refine below_set ?_ (IsS127.ge HI0.out)) | exact HB.out)); rintro e w14 ⟨rfl, hi, hb, hk⟩; refine ⟨_, rfl, ?_⟩; replace HO551 := am (Kd.S_mono (Kd.S_keep (IsS127.apartS (show IsS127 w0 _ g s0_0 t552 from by repeat (first | (with_reducible first | exact HI0.out | apply IsS127.alloc | apply IsS127.drewN | apply IsS127.drew | apply IsS127.set_1) | exact HI0.out)) b15_ (by decide)) hk (fun _ h => h.2)) (fun _ h => h.1)); replace HK := am (KeepBut.trans b0_ hk (.inl rfl)); replace HB := am (hb); replace HI0 := am (hi); (try clear hb); (try clear hb2); (try clear hk); (try clear hi)) | ((with_reducible refine gate_callee (f := 67) rfl ?_); refine goesL_ (some 18) rfl rfl Try.func67 (by kernel_rfl) rfl #[.pointer (some ⟨g, 0, none⟩), .int .i64 10] rfl mq ?_; (with_reducible refine (spec_l1Rd_pick.calls k g s0_0 t554 10 t555 t556 w0 _ ?side1 ?side2 A7.out).mono ?_); (case side1 => repeat (first | (with_reducible first | exact HI0.out | apply IsS127.alloc | apply IsS127.drewN | apply IsS127.drew | apply IsS127.set_1) | exact HI0.out)); (case side2 => repeat (first | (with_reducible first | exact HB.out | apply below_alloc | apply pw_below_drewN | apply below_drew1 | refine below_set ?_ (IsS127.ge HI0.out)) | exact HB.out)); rintro e w15 ⟨rfl, hi, hb, hk⟩; refine ⟨_, rfl, ?_⟩; replace HO551 := am (Kd.S_mono (Kd.S_keep (IsS127.apartS (show IsS127 w0 _ g s0_0 t554 from by repeat (first | (with_reducible first | exact HI0.out | apply IsS127.alloc | apply IsS127.drewN | apply IsS127.drew | apply IsS127.set_1) | exact HI0.out)) b15_ (by decide)) hk (fun _ h => h.2)) (fun _ h => h.1)); replace HK := am (KeepBut.trans b0_ hk (.inl rfl)); replace HB := am (hb); replace HI0 := am (hi); (try clear hb); (try clear hb2); (try clear hk); (try clear hi); have p557 : 0 ≤ (t553 : Int) := of_decide_eq_true ad; have q557 : t553 < (t549.length : Int) := of_decide_eq_true ad; obtain ⟨ad557, A557_1, c557_1, e557, hx557_0, hx557_1, hl557_1, hi557_1⟩ := at_T94 (Kd.S_reads' HO551.out).2.2 t553 p557 q557; cases e557; obtain ⟨ce557, hce557, hMe557, hcc557⟩ := Kd.S_get HO551.out z94 t553 p557 (by first | exact q557 | exact of_decide_eq_true ad | (have e_ := (Kd.S_reads' HO551.out).1; omega)); obtain ⟨ve557_1, rfl, ge557_1⟩ := k94_openM hMe557; have hv557_1 := hcc557 1 _ rfl; rw [add_field _ _ 1 (by omega)] at hv557_1; replace hv557_1 := Option.some.inj (hv557_1.symm.trans hx557_1); rw [hv557_1] at ge557_1; have HL557_1 := am (show Kd.R k100 100 _ _ _ _ ((rd_T94 t549 t553).f1) from ge557_1); clear hv557_1 ge557_1; have HX557_1 := am hx557_1; clear hcc557 hce557; have HR557_1 := am hi557_1; have HC557_1 := am hl557_1; clear hi557_1 hl557_1; replace p557 := eq_true p557; replace q557 := eq_true q557; have p11 : 0 ≤ (t553 : Int) := of_decide_eq_true ad; have q11 : (t553 : Int) < ((t549.length : Int) : Int) := of_decide_eq_true ad; obtain ⟨go11, co11, eo11, gb11, gl11, cl11, HG11⟩ := Kd.S_form HO551.out (by omega); (first | cases eo11 | (injection eo11 with ea_ en_ ec_; (first | subst ea_ | (injection ea_ with ea_; subst ea_)); subst ec_; clear en_)); have GB11 := Aside0.mk gb11; have GG11 := am HG11; clear gb11 gl11 HG11; (first | simp only [add_plain] at hx557_0 | skip); (first | simp only [add_plain] at hx557_1 | skip); obtain ⟨_, ce11, hcl11, hM11, hcc11, hfr11, _, _⟩ := Kd.S_elem HO551.out z94 (t553 : Int) p11 q11; obtain ⟨ve11_1, rfl, ge11_1⟩ := k94_openM hM11; have hx11_0 : w15.cell? ⟨go11, (t553 : Int).toNat * 2, none⟩ = some (.bool ((rd_T94 t549 t553).f0)) := hcc11 0 _ rfl; have hx11_1 : w15.cell? ⟨go11, (t553 : Int).toNat * 2 + 1, none⟩ = some (ve11_1) := hcc11 1 _ rfl; have hf11_0 : w15.frozen? ⟨go11, (t553 : Int).toNat * 2, none⟩ = false := hfr11 0; have hf11_1 : w15.frozen? ⟨go11, (t553 : Int).toNat * 2 + 1, none⟩ = false := hfr11 1; clear hcl11 hcc11 hfr11; (try clear hM11); replace p11 := eq_true p11; replace q11 := eq_true q11; have HX16 := am (show Kd.S k94 94 w15 w.heap.size (fun k_ => ((fun _ => True)) k_ ∧ ¬ ((fun _ => False)) k_) (.slice (some ⟨go11, 0, none⟩) t549.length co13) t549 from b75_); obtain ⟨oki16, ce16, hcl16, hM16, hcc16, hfr16, hoki16, hH16⟩ := Kd.S_elem HX16.out z94 (t553 : Int) (of_decide_eq_true ad) b57_; obtain ⟨ve16_1, rfl, ge16_1⟩ := k94_openM hM16; have HP16 := Kd.S_seg hH16 (of_decide_eq_true ad) b57_ (seg := [.bool (!((rd_T94 t549 t553).f0))]) (j := 0) (show 1 ≤ 2 from by decide) (x' := (⟨!((rd_T94 t549 t553).f0), (rd_T94 t549 t553).f1⟩ : S94)) (k94_mkM _ _ _ (⟨!((rd_T94 t549 t553).f0), (rd_T94 t549 t553).f1⟩ : S94) (Kd.R_mono ge16_1 (fun _ h_ => Or.inl h_))) (fun _ hk => hk) (fun k_ hk_ => hk_.elim); have hx16_0 := hcc16 0 _ rfl; (try simp only [show (k94).sz = 2 from rfl, Nat.mul_one, Nat.add_zero] at hx16_0); have hf16_0 := hfr16 0; (try simp only [show (k94).sz = 2 from rfl, Nat.mul_one, Nat.add_zero] at hf16_0); clear hcl16 hcc16 hfr16 hoki16 hH16; (try clear hM16)) | ((with_reducible refine gate_store (t := 4) (p := 30) rfl ?_); refine store_event (t := 4) (p := 30) (v := ?vo_w17) (w1 := (w15.setCell ⟨go11, (t553 : Int).toNat * 2, none⟩ (.bool (!((rd_T94 t549 t553).f0))))) ?hg ?ho ?hn ?hr ?_; (case ho => rfl); (case hg => rfl); (case hn => rfl); (case hr => first | (go_simp; done) | (go_simp; rfl)); intro w17 hw; have hg : w15.grownBy w17 (some go11) := (by rw [hw]; exact HP16.2); have hp_ : Kd.S k94 94 w17 w.heap.size (fun _ => True) (.slice (some ⟨go11, 0, none⟩) t549.length co13) y558 := (by rw [hw, Ny558.out]; exact HP16.1); clear HP16; replace HI0 := am (IsS127.grown b2_ hg (IsS127.own_neS HI0.out HO551.out (by decide))); replace HL557_1 := am (Kd.R_after (v := (.slice (some ⟨go11, 0, none⟩) t549.length co13)) (v1 := (.slice (some ⟨go11, 0, none⟩) t549.length co13)) (ok := (fun _ => True)) (rq HL557_1.out) hg (.inl rfl)); replace HB := am ((by rw [hw]; exact below_set (HB.out) (Nat.le_trans HL.out GB11.out) : Below w0.heap.size w0 w17)); replace HK := am (KeepBut.trans b0_ (KeepBut.of_grown hg g) (Kd.S_base2 HO551.out)); replace HO551 := am (hp_); clear hg hw hp_))
  go_ret
  exact ⟨_, eq_, b15_, b2_, b1_, b0_⟩
 rw [if_neg c8] at H
 have c8b0 : (t555 == 0) = false := beq_eq_false_iff_ne.mpr c8
 have c8b1 : (t555 != 0) = true := bne_iff_ne.mpr c8
 by_cases c18 : t555 = 1
 ·rw [if_pos c18] at H
  have c18b0 : (t555 == 1) = true := beq_iff_eq.mpr c18
  have c18b1 : (t555 != 1) = false := bne_eq_false_iff_eq.mpr c18
  clear c18
  replace H := it H; obtain ⟨c19b0, H⟩ := H
  replace H := it H; obtain ⟨c20b0, H⟩ := H; replace H := bs H; obtain ⟨⟨t560, t561⟩, A210, H⟩ := H; replace H : ((spec_l1Rd_pick.f k s0_0 t561 (wrap64 ((t549.length : Int) + 1))).bind fun bt562 => (if ((rd_T94 t549 t553).f1).length < 8796093022208 then (some ((t549.set (t553 : Int).toNat (⟨(rd_T94 t549 t553).f0, (((rd_T94 t549 t553).f1) ++ [(⟨wrap64 (97 + t560), bt562.1⟩ : S100)])⟩ : S94)), bt562.2)) else (none))) = some (r1, r2) := H; have A21 := Aside0.mk A210; clear A210; replace H := bs H; obtain ⟨⟨t562, t563⟩, A220, H⟩ := H; replace H : (if ((rd_T94 t549 t553).f1).length < 8796093022208 then (some ((t549.set (t553 : Int).toNat (⟨(rd_T94 t549 t553).f0, (((rd_T94 t549 t553).f1) ++ [(⟨wrap64 (97 + t560), t562⟩ : S100)])⟩ : S94)), t563)) else (none)) = some (r1, r2) := H; have A22 := Aside0.mk A220; clear A220
  replace H := ip H; obtain ⟨c23, H⟩ := H; have LMc23 := Aside0.mk c23; clear c23; obtain ⟨y564, hy564⟩ : ∃ y_ : List (S100), y_ = (((rd_T94 t549 t553).f1) ++ [(⟨wrap64 (97 + t560), t562⟩ : S100)]) := ⟨_, rfl⟩
  replace H : (some ((t549.set (t553 : Int).toNat (⟨(rd_T94 t549 t553).f0, y564⟩ : S94)), t563)) = some (r1, r2) := by first | (rw [hy564]; with_reducible exact H) | (have H2_ := bm H; rw [hy564]; with_reducible exact H2_) | (with_reducible exact bm H) | with_reducible exact H | (rw [hy564]; exact H) | exact H
  have Ny564 := am hy564; clear hy564; obtain ⟨y567, hy567⟩ : ∃ y_ : List (S94), y_ = (t549.set (t553 : Int).toNat (⟨(rd_T94 t549 t553).f0, y564⟩ : S94)) := ⟨_, rfl⟩
  replace H : (some (y567, t563)) = some (r1, r2) := by first | (rw [hy567]; with_reducible exact H) | (have H2_ := bm H; rw [hy567]; with_reducible exact H2_) | (with_reducible exact bm H) | with_reducible exact H | (rw [hy567]; exact H) | exact H
  have Ny567 := am hy567; clear hy567
  simp only [Option.some.injEq, Prod.mk.injEq] at H
  obtain ⟨rfl, rfl⟩ := H; go_enter Try.func76, Try.ntmps76
  try go_wp2_with (first | ((with_reducible refine gate_callee (f := 118) rfl ?_); refine goesL_ (some 8) rfl rfl Try.func118 (by kernel_rfl) rfl #[.pointer (some ⟨g, 0, none⟩)] rfl mq ?_; (with_reducible refine (spec_l13Machine.calls k g s0_0 s0_1 t549 t552 w0 _ ?side1 ?side2 A2.out).mono ?_); (case side1 => repeat (first | (with_reducible first | exact HI0.out | apply IsS127.alloc | apply IsS127.drewN | apply IsS127.drew | apply IsS127.set_1) | exact HI0.out)); (case side2 => repeat (first | (with_reducible first | exact HB.out | apply below_alloc | apply pw_below_drewN | apply below_drew1 | refine below_set ?_ (IsS127.ge HI0.out)) | exact HB.out)); rintro e w25 ⟨v550, rfl, ho0, hi, hb, hk⟩; refine ⟨_, rfl, ?_⟩; have HO551 := am (Kd.S_lower ho0 (keep_size (w := w) (g := g) (row := none) b0_)); replace HK := am (KeepBut.trans b0_ hk (.inl rfl)); replace HB := am (hb); replace HI0 := am (hi); (try clear hb); (try clear hb2); (try clear hk); (try clear hi); (try clear ho0); obtain ⟨Ao26, co26, eo26⟩ := Kd.S_slice HO551.out; subst eo26) | ((with_reducible refine gate_callee (f := 67) rfl ?_); refine goesL_ (some 16) rfl rfl Try.func67 (by kernel_rfl) rfl #[.pointer (some ⟨g, 0, none⟩), .int .i64 (t549.length : Int)] rfl mq ?_; (with_reducible refine (spec_l1Rd_pick.calls k g s0_0 t552 (t549.length : Int) t553 t554 w0 _ ?side1 ?side2 A6.out).mono ?_); (case side1 => repeat (first | (with_reducible first | exact HI0.out | apply IsS127.alloc | apply IsS127.drewN | apply IsS127.drew | apply IsS127.set_1) | exact HI0.out)); (case side2 => repeat (first | (with_reducible first | exact HB.out | apply below_alloc | apply pw_below_drewN | apply below_drew1 | refine below_set ?_ (IsS127.ge HI0.out)) | exact HB.out)); rintro e w27 ⟨rfl, hi, hb, hk⟩; refine ⟨_, rfl, ?_⟩; replace HO551 := am (Kd.S_mono (Kd.S_keep (IsS127.apartS (show IsS127 w0 _ g s0_0 t552 from by repeat (first | (with_reducible first | exact HI0.out | apply IsS127.alloc | apply IsS127.drewN | apply IsS127.drew | apply IsS127.set_1) | exact HI0.out)) b15_ (by decide)) hk (fun _ h => h.2)) (fun _ h => h.1)); replace HK := am (KeepBut.trans b0_ hk (.inl rfl)); replace HB := am (hb); replace HI0 := am (hi); (try clear hb); (try clear hb2); (try clear hk); (try clear hi)) | ((with_reducible refine gate_callee (f := 67) rfl ?_); refine goesL_ (some 18) rfl rfl Try.func67 (by kernel_rfl) rfl #[.pointer (some ⟨g, 0, none⟩), .int .i64 10] rfl mq ?_; (with_reducible refine (spec_l1Rd_pick.calls k g s0_0 t554 10 t555 t556 w0 _ ?side1 ?side2 A7.out).mono ?_); (case side1 => repeat (first | (with_reducible first | exact HI0.out | apply IsS127.alloc | apply IsS127.drewN | apply IsS127.drew | apply IsS127.set_1) | exact HI0.out)); (case side2 => repeat (first | (with_reducible first | exact HB.out | apply below_alloc | apply pw_below_drewN | apply below_drew1 | refine below_set ?_ (IsS127.ge HI0.out)) | exact HB.out)); rintro e w28 ⟨rfl, hi, hb, hk⟩; refine ⟨_, rfl, ?_⟩; replace HO551 := am (Kd.S_mono (Kd.S_keep (IsS127.apartS (show IsS127 w0 _ g s0_0 t554 from by repeat (first | (with_reducible first | exact HI0.out | apply IsS127.alloc | apply IsS127.drewN | apply IsS127.drew | apply IsS127.set_1) | exact HI0.out)) b15_ (by decide)) hk (fun _ h => h.2)) (fun _ h => h.1)); replace HK := am (KeepBut.trans b0_ hk (.inl rfl)); replace HB := am (hb); replace HI0 := am (hi); (try clear hb); (try clear hb2); (try clear hk); (try clear hi)))
  replace HO551 := am (Kd.S_drew HO551.out); replace HI0 := am (IsS127.drew HI0.out); replace HK := am (keep_drew HK.out); replace HB := am (below_drew1 HB.out)
  have p559 : 0 ≤ (t553 : Int) := of_decide_eq_true ad
  have q559 : t553 < (t549.length : Int) := of_decide_eq_true ad
  obtain ⟨ad559, A559_1, c559_1, e559, hx559_0, hx559_1, hl559_1, hi559_1⟩ := at_T94 (Kd.S_reads' HO551.out).2.2 t553 p559 q559
  cases e559
  obtain ⟨ce559, hce559, hMe559, hcc559⟩ := Kd.S_get HO551.out z94 t553 p559 (by first | exact q559 | exact of_decide_eq_true ad | (have e_ := (Kd.S_reads' HO551.out).1; omega))
  obtain ⟨ve559_1, rfl, ge559_1⟩ := k94_openM hMe559; have hv559_1 := hcc559 1 _ rfl
  rw [add_field _ _ 1 (by omega)] at hv559_1
  replace hv559_1 := Option.some.inj (hv559_1.symm.trans hx559_1); rw [hv559_1] at ge559_1; have HL559_1 := am (show Kd.R k100 100 _ _ _ _ ((rd_T94 t549 t553).f1) from ge559_1); clear hv559_1 ge559_1; have HX559_1 := am hx559_1; clear hcc559 hce559; have HR559_1 := am hi559_1; have HC559_1 := am hl559_1; clear hi559_1 hl559_1; replace p559 := eq_true p559; replace q559 := eq_true q559
  refine start_ (n := 21) (S := fun w' => w'.cell? (ad559.add ((t553).toNat * 2)) = some (.bool ((rd_T94 t549 t553).f0)) ∧ w'.cell? ⟨(ad559.add ((t553).toNat * 2)).block, (ad559.add ((t553).toNat * 2)).off + 1, none⟩ = some (.slice A559_1 ((rd_T94 t549 t553).f1).length c559_1)) (ds := [20]) #[false, false, false, false, false, false, false, false, false, false, false, false, false, false, false, false, false, false, false, false, false] (by kernel_rfl) rfl rfl ⟨hx559_0, hx559_1⟩ (fun hHeld => ?_); refine with_tabW spec_l13AnyMachine.tab9 spec_l13AnyMachine.bits9 (fun HT_ HW_ => ?_)
  generalize w28.drew = w29 at HO551 HI0 HK HB HL559_1 HR559_1 HX559_1 hx559_0 hx559_1 hHeld ⊢
  refine pu 0 33 ?_
  refine pu 1 34 ?_
  refine pu 2 35 ?_
  refine pu 3 36 ?_
  refine pu 4 37 ?_
  refine pu 5 38 ?_
  refine pu 7 40 ?_
  refine pu 10 43 ?_
  refine pu 11 44 ?_
  refine pu 12 45 ?_
  refine pu 13 46 ?_
  refine tk2 6 39 hHeld ?_
  refine on1 8 41 (fun K hK => ?_)
  refine goes_ Try.func67 (by kernel_rfl) rfl #[.pointer (some ⟨g, 0, none⟩), .int .i64 26] (by rfl) rfl rfl mq ?_
  with_reducible refine (spec_l1Rd_pick.calls k g s0_0 t556 26 t560 t561 w0 _ ?side1 ?side2 A21.out).mono ?_
  (case side1 => repeat (first | (with_reducible first | exact HI0.out | apply IsS127.alloc | apply IsS127.drewN | apply IsS127.drew | apply IsS127.set_1) | exact HI0.out)); (case side2 => repeat (first | (with_reducible first | exact HB.out | apply below_alloc | apply pw_below_drewN | apply below_drew1 | refine below_set ?_ (IsS127.ge HI0.out)) | exact HB.out))
  rintro e w30 ⟨rfl, hi, hb, hk⟩
  have HS0_ := keep_cell hk (hHeld.1) b23_
  have HS1_ := keep_cell hk (hHeld.2) b23_
  refine ⟨_, rfl, ?_⟩
  replace HL559_1 := am (Kd.R_mono (Kd.R_keep (IsS127.apart (show IsS127 w0 _ g s0_0 t556 from by repeat (first | (with_reducible first | exact HI0.out | apply IsS127.alloc | apply IsS127.drewN | apply IsS127.drew | apply IsS127.set_1) | exact HI0.out)) (rq HL559_1.out) (by decide)) hk (fun _ h => h.2)) (fun _ h => h.1))
  replace HX559_1 := am (keep_cell hk HX559_1.out b40_)
  replace HO551 := am (Kd.S_mono (Kd.S_keep (IsS127.apartS (show IsS127 w0 _ g s0_0 t556 from by repeat (first | (with_reducible first | exact HI0.out | apply IsS127.alloc | apply IsS127.drewN | apply IsS127.drew | apply IsS127.set_1) | exact HI0.out)) b15_ (by decide)) hk (fun _ h => h.2)) (fun _ h => h.1))
  replace HK := am (KeepBut.trans b0_ hk (.inl rfl))
  replace HB := am (hb); replace HI0 := am (hi)
  (try clear hb)
  (try clear hb2)
  (try clear hk)
  (try clear hi)
  refine hK.out _ _ ⟨HS0_, HS1_⟩ (fun hHeld => ?_)
  clear hK K
  refine norm_ (a' := ?_) ?_ ?_
  rotate_left
  ·show Act.put _ (some 41) _ = _
   simp only [Act.put, List.setIfInBounds_toArray, List.set_cons_zero, List.set_cons_succ, i64_w, i32_w]
   rfl
  refine pu 9 42 ?_
  refine on1 14 47 (fun K hK => ?_)
  refine goes_ Try.func67 (by kernel_rfl) rfl #[.pointer (some ⟨g, 0, none⟩), .int .i64 (wrap64 ((t549.length : Int) + 1))] (by rfl) rfl rfl mq ?_
  with_reducible refine (spec_l1Rd_pick.calls k g s0_0 t561 (wrap64 ((t549.length : Int) + 1)) t562 t563 w0 _ ?side1 ?side2 A22.out).mono ?_
  (case side1 => repeat (first | (with_reducible first | exact HI0.out | apply IsS127.alloc | apply IsS127.drewN | apply IsS127.drew | apply IsS127.set_1) | exact HI0.out)); (case side2 => repeat (first | (with_reducible first | exact HB.out | apply below_alloc | apply pw_below_drewN | apply below_drew1 | refine below_set ?_ (IsS127.ge HI0.out)) | exact HB.out))
  rintro e w31 ⟨rfl, hi, hb, hk⟩
  have HS0_ := keep_cell hk (hHeld.1) b23_
  have HS1_ := keep_cell hk (hHeld.2) b23_
  refine ⟨_, rfl, ?_⟩
  replace HL559_1 := am (Kd.R_mono (Kd.R_keep (IsS127.apart (show IsS127 w0 _ g s0_0 t561 from by repeat (first | (with_reducible first | exact HI0.out | apply IsS127.alloc | apply IsS127.drewN | apply IsS127.drew | apply IsS127.set_1) | exact HI0.out)) (rq HL559_1.out) (by decide)) hk (fun _ h => h.2)) (fun _ h => h.1))
  replace HX559_1 := am (keep_cell hk HX559_1.out b40_)
  replace HO551 := am (Kd.S_mono (Kd.S_keep (IsS127.apartS (show IsS127 w0 _ g s0_0 t561 from by repeat (first | (with_reducible first | exact HI0.out | apply IsS127.alloc | apply IsS127.drewN | apply IsS127.drew | apply IsS127.set_1) | exact HI0.out)) b15_ (by decide)) hk (fun _ h => h.2)) (fun _ h => h.1))
  replace HK := am (KeepBut.trans b0_ hk (.inl rfl))
  replace HB := am (hb); replace HI0 := am (hi)
  (try clear hb)
  (try clear hb2)
  (try clear hk)
  (try clear hi)
  obtain ⟨go32, co32, eo32, gb32, gl32, cl32, HG32⟩ := Kd.S_form HO551.out (by have h_ : (t553 : Int) < ((t549.length : Int) : Int) := of_decide_eq_true ad; have h2_ : 0 ≤ (t553 : Int) := (of_decide_eq_true ad); omega)
  (first | cases eo32 | (injection eo32 with ea_ en_ ec_; (first | subst ea_ | (injection ea_ with ea_; subst ea_)); subst ec_; clear en_))
  have GB32 := Aside0.mk gb32; have GG32 := am HG32; clear gb32 gl32 HG32
  (first | simp only [add_plain] at hx559_0 | skip)
  (first | simp only [add_plain] at hx559_1 | skip)
  obtain ⟨oki32, ce32, hcl32, hM32, hcc32, _, _, hH32⟩ := Kd.S_elem HO551.out z94 (t553 : Int) (of_decide_eq_true ad) b57_
  obtain ⟨ve32_1, rfl, ge32_1⟩ := k94_openM hM32; have hv32 := hcc32 1 _ rfl; have hX32 := HX559_1.out
  (try simp only [add_plain] at hX32)
  (try simp only [Nat.add_zero] at hv32)
  replace hv32 := Option.some.inj (hv32.symm.trans hX32); subst hv32; clear hX32 hcc32 hcl32; have UU32 := am (show Kd.R k100 100 _ w.heap.size oki32 (.slice A559_1 ((rd_T94 t549 t553).f1).length c559_1) ((rd_T94 t549 t553).f1) from ge32_1); have HH32 := am hH32; have HN32 := am (Kd.S_reads' HO551.out).1; clear hH32 ge32_1
  refine hK.out _ _ ⟨HS0_, HS1_⟩ (fun hHeld => ?_)
  clear hK K
  refine norm_ (a' := ?_) ?_ ?_
  rotate_left
  ·show Act.put _ (some 47) _ = _
   simp only [Act.put, List.setIfInBounds_toArray, List.set_cons_zero, List.set_cons_succ, i64_w, i32_w]
   rfl
  refine pu 15 48 ?_
  refine on1 16 49 (fun K hK => ?_)
  refine value_ (w1 := ?_) (v := ?_) (by rfl) rfl ?_ ?_
  rotate_left 2
  ·go_simp
   constructor
   ·rfl
   ·rfl
  refine hK.out _ _ ⟨(World.cell?_alloc_lt _ _ _ (World.block_lt_of_cell? _ _ (hHeld.1))).trans (hHeld.1), (World.cell?_alloc_lt _ _ _ (World.block_lt_of_cell? _ _ (hHeld.2))).trans (hHeld.2)⟩ (fun hHeld => ?_)
  clear hK K
  refine norm_ (a' := ?_) ?_ ?_
  rotate_left
  ·show Act.put _ (some 49) _ = _
   simp only [Act.put, List.setIfInBounds_toArray, List.set_cons_zero, List.set_cons_succ, i64_w, i32_w]
   rfl
  refine on1 17 50 (fun K hK => ?_)
  refine Kd.R_append_step k100 w.heap.size (by rfl) (.tmp 39) (.tmp 49) 92 100 (.agg #[(.int .i64 0), (.int .i64 0)]) 16 rfl Try.underlying92 info100 rfl (by decide) (by omega) (.slice A559_1 ((rd_T94 t549 t553).f1).length c559_1) ((rd_T94 t549 t553).f1) (⟨wrap64 (97 + t560), t562⟩ : S100) [.int .i64 (wrap64 (97 + t560)), .int .i64 t562] (fun k_ => oki32 k_ ∨ ((fun _ => True)) k_ ∧ w31.heap.size ≤ k_) (fun _ => False) rfl rfl ?aP (fun _ hk => hk.elim) ?aF ?aO (Below.refl _ _) ?aS ?aL ?_
  (case aP => exact k100_mkM _ _ _ (⟨wrap64 (97 + t560), t562⟩ : S100)); (case aF => exact (fun k_ hk => .inr ⟨trivial, hk⟩)); (case aO => exact (rq (Kd.R_mono UU32.out (fun _ hk => .inl hk)))); (case aS => exact (keep_size (w := w) (g := g) (row := none) b0_)); (case aL => have := LMc23.out; omega); intro v565 w33 ho hb hg hat
  (first | have HS0_ := cell_grown hg (hHeld.1) b26_ | have HS0_ := cell_grown hg (cell_unalloc (hHeld.1) b69_) b26_)
  (first | have HS1_ := cell_grown hg (hHeld.2) b26_ | have HS1_ := cell_grown hg (cell_unalloc (hHeld.2) b69_) b26_)
  rw [← Ny564.out] at ho
  replace HB := am (below_weaken b1_ HL.out hb)
  replace HI0 := am (IsS127.grown b2_ hg (IsS127.own_ne HI0.out HL559_1.out (by decide)))
  replace HK := am (KeepBut.trans b0_ (KeepBut.of_grown hg g) (Kd.R_base2 HL559_1.out))
  replace HH32 := am (Kd.H_grown (Kd.H_widen (by repeat (first | exact HH32.out | refine Kd.H_alloc ?_ _ | refine Kd.H_drewN ?_ _ | refine Kd.H_drew ?_))) hg (fun k_ e_ => .inl (UU32.out.1 k_ e_)))
  have HO566 := am (ho); clear HO551 UU32 HL559_1; clear ho hb hg hat
  have p24 : 0 ≤ (t553 : Int) := of_decide_eq_true ad
  have q24 : (t553 : Int) < ((t549.length : Int) : Int) := of_decide_eq_true ad
  replace p24 := eq_true p24; replace q24 := eq_true q24; obtain ⟨Ao36, co36, eo36⟩ := Kd.R_slice HO566.out
  (first | subst eo36 | (injection eo36 with f1_ f2_ f3_; have f4_ := f1_.symm; have f5_ := f3_.symm; clear f1_ f2_ f3_; subst f4_; subst f5_))
  obtain ⟨_, _, hraw34, _, _, hcc34, _⟩ := Kd.H_raw HH32.out (of_decide_eq_true ad) b58_
  obtain ⟨_, hfr34⟩ := Kd.H_at HH32.out (of_decide_eq_true ad) b58_
  have hx34_0 := hcc34 1 _ rfl; have hf34_0 := hfr34 1
  (try rw [show (k94).sz = 2 from rfl] at hx34_0)
  (try rw [show (k94).sz = 2 from rfl] at hf34_0)
  have HP34 := Kd.S_seg0 HH32.out (of_decide_eq_true ad) b58_ (seg := [.slice Ao36 y564.length co36]) (j := 1) (show 2 ≤ 2 from by decide) (x' := (⟨(rd_T94 t549 t553).f0, y564⟩ : S94)) (k94_mkM _ _ _ (⟨(rd_T94 t549 t553).f0, y564⟩ : S94) HO566.out) (fun _ hk => hk)
  clear hcc34 hfr34
  have HN0_go32 := am (show g ≠ go32 from by have h_ := IsS127.own_ne HI0.out hraw34 (by decide); intro e_; exact h_ (by rw [e_]; rfl))
  have HS34 := HP34.1; rw [← Ny567.out] at HS34; have HQ34 := am HS34; obtain ⟨_, hgg34⟩ := Kd.R_typed hraw34 go32 rfl; have GG34_ := am hgg34; clear HP34 HS34 hgg34
  refine hK.out _ _ ⟨HS0_, HS1_⟩ (fun hHeld => ?_)
  clear hK K
  refine norm_ (a' := ?_) ?_ ?_
  rotate_left
  ·show Act.put _ (some 50) _ = _
   simp only [Act.put, List.setIfInBounds_toArray, List.set_cons_zero, List.set_cons_succ, i64_w, i32_w]
   rfl
  refine pu 18 51 ?_
  refine pu 19 52 ?_
  refine last_ (i := 20) (N := none) #[true, true, true, true, true, true, true, true, true, true, true, true, true, true, true, true, true, true, true, true, true] rfl rfl (one_of HT_.out (by kernel_rfl)) (by decide) (fun K hK => ?_)
  refine skip_ (w1 := ?_) (by rfl) rfl ?_ ?_
  rotate_left
  ·go_simp
   rfl
  refine hK.out _ _ ?_
  clear hK K
  refine done_ (done_of HT_.out (by kernel_rfl)) ?_
  try go_wp2
  go_ret
  exact ⟨_, eq_, by (with_reducible repeat (first | apply Kd.S_alloc | apply Kd.S_drewN | apply Kd.S_drew)); exact HQ34.out, by repeat (first | (with_reducible first | exact HI0.out | apply IsS127.alloc | apply IsS127.drewN | apply IsS127.drew | apply IsS127.set_1 | refine IsS127.far ?_ HN0_go32.out _) | exact HI0.out), by repeat (first | (with_reducible first | exact HB.out | apply below_alloc | apply pw_below_drewN | apply below_drew1 | refine below_set ?_ (Nat.le_trans HL.out GB32.out) | refine below_set ?_ (IsS127.ge HI0.out)) | exact HB.out), by repeat (first | (with_reducible first | exact HK.out | apply KeepBut.set_ | apply keep_drewN | apply keep_drew | apply keep_alloc | refine keep_far ?_ GB32.out _) | exact HK.out)⟩
 rw [if_neg c18] at H
 have c18b0 : (t555 == 1) = false := beq_eq_false_iff_ne.mpr c18
 have c18b1 : (t555 != 1) = true := bne_iff_ne.mpr c18
 by_cases c37 : t555 = 2
 ·rw [if_pos c37] at H
  have c37b0 : (t555 == 2) = true := beq_iff_eq.mpr c37
  have c37b1 : (t555 != 2) = false := bne_eq_false_iff_eq.mpr c37
  clear c37; replace H := bs H; obtain ⟨⟨t568, t569⟩, A380, H⟩ := H; replace H : (if t549.length < 4398046511104 then (some ((t549 ++ [(⟨(t568 == 0), ([] : List (S100))⟩ : S94)]), t569)) else (none)) = some (r1, r2) := H; have A38 := Aside0.mk A380; clear A380
  replace H := ip H; obtain ⟨c39, H⟩ := H; have LMc39 := Aside0.mk c39; clear c39; obtain ⟨y570, hy570⟩ : ∃ y_ : List (S94), y_ = (t549 ++ [(⟨(t568 == 0), ([] : List (S100))⟩ : S94)]) := ⟨_, rfl⟩
  replace H : (some (y570, t569)) = some (r1, r2) := by first | (rw [hy570]; with_reducible exact H) | (have H2_ := bm H; rw [hy570]; with_reducible exact H2_) | (with_reducible exact bm H) | with_reducible exact H | (rw [hy570]; exact H) | exact H
  have Ny570 := am hy570; clear hy570
  simp only [Option.some.injEq, Prod.mk.injEq] at H
  obtain ⟨rfl, rfl⟩ := H; go_enter Try.func76, Try.ntmps76
  go_wp2_with (first | ((with_reducible refine gate_callee (f := 118) rfl ?_); refine goesL_ (some 8) rfl rfl Try.func118 (by kernel_rfl) rfl #[.pointer (some ⟨g, 0, none⟩)] rfl mq ?_; (with_reducible refine (spec_l13Machine.calls k g s0_0 s0_1 t549 t552 w0 _ ?side1 ?side2 A2.out).mono ?_); (case side1 => repeat (first | (with_reducible first | exact HI0.out | apply IsS127.alloc | apply IsS127.drewN | apply IsS127.drew | apply IsS127.set_1) | exact HI0.out)); (case side2 => repeat (first | (with_reducible first | exact HB.out | apply below_alloc | apply pw_below_drewN | apply below_drew1 | refine below_set ?_ (IsS127.ge HI0.out)) | exact HB.out)); rintro e w40 ⟨v550, rfl, ho0, hi, hb, hk⟩; refine ⟨_, rfl, ?_⟩; have HO551 := am (Kd.S_lower ho0 (keep_size (w := w) (g := g) (row := none) b0_)); replace HK := am (KeepBut.trans b0_ hk (.inl rfl)); replace HB := am (hb); replace HI0 := am (hi); (try clear hb); (try clear hb2); (try clear hk); (try clear hi); (try clear ho0); obtain ⟨Ao41, co41, eo41⟩ := Kd.S_slice HO551.out; subst eo41) | ((with_reducible refine gate_callee (f := 67) rfl ?_); refine goesL_ (some 16) rfl rfl Try.func67 (by kernel_rfl) rfl #[.pointer (some ⟨g, 0, none⟩), .int .i64 (t549.length : Int)] rfl mq ?_; (with_reducible refine (spec_l1Rd_pick.calls k g s0_0 t552 (t549.length : Int) t553 t554 w0 _ ?side1 ?side2 A6.out).mono ?_); (case side1 => repeat (first | (with_reducible first | exact HI0.out | apply IsS127.alloc | apply IsS127.drewN | apply IsS127.drew | apply IsS127.set_1) | exact HI0.out)); (case side2 => repeat (first | (with_reducible first | exact HB.out | apply below_alloc | apply pw_below_drewN | apply below_drew1 | refine below_set ?_ (IsS127.ge HI0.out)) | exact HB.out)); rintro e w42 ⟨rfl, hi, hb, hk⟩; refine ⟨_, rfl, ?_⟩; replace HO551 := am (Kd.S_mono (Kd.S_keep (IsS127.apartS (show IsS127 w0 _ g s0_0 t552 from by repeat (first | (with_reducible first | exact HI0.out | apply IsS127.alloc | apply IsS127.drewN | apply IsS127.drew | apply IsS127.set_1) | exact HI0.out)) b15_ (by decide)) hk (fun _ h => h.2)) (fun _ h => h.1)); replace HK := am (KeepBut.trans b0_ hk (.inl rfl)); replace HB := am (hb); replace HI0 := am (hi); (try clear hb); (try clear hb2); (try clear hk); (try clear hi)) | ((with_reducible refine gate_callee (f := 67) rfl ?_); refine goesL_ (some 18) rfl rfl Try.func67 (by kernel_rfl) rfl #[.pointer (some ⟨g, 0, none⟩), .int .i64 10] rfl mq ?_; (with_reducible refine (spec_l1Rd_pick.calls k g s0_0 t554 10 t555 t556 w0 _ ?side1 ?side2 A7.out).mono ?_); (case side1 => repeat (first | (with_reducible first | exact HI0.out | apply IsS127.alloc | apply IsS127.drewN | apply IsS127.drew | apply IsS127.set_1) | exact HI0.out)); (case side2 => repeat (first | (with_reducible first | exact HB.out | apply below_alloc | apply pw_below_drewN | apply below_drew1 | refine below_set ?_ (IsS127.ge HI0.out)) | exact HB.out)); rintro e w43 ⟨rfl, hi, hb, hk⟩; refine ⟨_, rfl, ?_⟩; replace HO551 := am (Kd.S_mono (Kd.S_keep (IsS127.apartS (show IsS127 w0 _ g s0_0 t554 from by repeat (first | (with_reducible first | exact HI0.out | apply IsS127.alloc | apply IsS127.drewN | apply IsS127.drew | apply IsS127.set_1) | exact HI0.out)) b15_ (by decide)) hk (fun _ h => h.2)) (fun _ h => h.1)); replace HK := am (KeepBut.trans b0_ hk (.inl rfl)); replace HB := am (hb); replace HI0 := am (hi); (try clear hb); (try clear hb2); (try clear hk); (try clear hi)) | ((with_reducible refine gate_callee (f := 67) rfl ?_); refine goesL_ (some 57) rfl rfl Try.func67 (by kernel_rfl) rfl #[.pointer (some ⟨g, 0, none⟩), .int .i64 2] rfl mq ?_; (with_reducible refine (spec_l1Rd_pick.calls k g s0_0 t556 2 t568 t569 w0 _ ?side1 ?side2 A38.out).mono ?_); (case side1 => repeat (first | (with_reducible first | exact HI0.out | apply IsS127.alloc | apply IsS127.drewN | apply IsS127.drew | apply IsS127.set_1) | exact HI0.out)); (case side2 => repeat (first | (with_reducible first | exact HB.out | apply below_alloc | apply pw_below_drewN | apply below_drew1 | refine below_set ?_ (IsS127.ge HI0.out)) | exact HB.out)); rintro e w44 ⟨rfl, hi, hb, hk⟩; refine ⟨_, rfl, ?_⟩; replace HO551 := am (Kd.S_mono (Kd.S_keep (IsS127.apartS (show IsS127 w0 _ g s0_0 t556 from by repeat (first | (with_reducible first | exact HI0.out | apply IsS127.alloc | apply IsS127.drewN | apply IsS127.drew | apply IsS127.set_1) | exact HI0.out)) b15_ (by decide)) hk (fun _ h => h.2)) (fun _ h => h.1)); replace HK := am (KeepBut.trans b0_ hk (.inl rfl)); replace HB := am (hb); replace HI0 := am (hi); (try clear hb); (try clear hb2); (try clear hk); (try clear hi)) | ((with_reducible refine gate_builtin (b := .append) (xs := #[.tmp 55, .tmp 60]) rfl ?_); at_builtin; refine Kd.S_append k94 w.heap.size rfl (.tmp 55) (.tmp 60) 43 94 (.agg #[(.bool false), (.slice none 0 0)]) 32 rfl Try.underlying43 info94 rfl (by decide) (by omega) (.slice Ao41 t549.length co41) t549 (⟨(t568 == 0), ([] : List (S100))⟩ : S94) [.bool (t568 == 0), .slice none 0 0] (fun _ => True) (fun _ => False) rfl rfl ?aP (fun k_ hk_ => hk_.elim) ?aF ?aO (Below.refl _ _) ?aS ?aL ?_; (case aP => exact k94_mkM _ _ _ (⟨(t568 == 0), ([] : List (S100))⟩ : S94) (Kd.R_nil _ _ _ _ _)); (case aF => exact (fun _ _ => trivial)); (case aO => exact b75_); (case aS => exact (keep_size (w := w) (g := g) (row := none) b0_)); (case aL => have := LMc39.out; omega); intro v571 w45 ho hb hg hat; rw [← Ny570.out] at ho; replace HB := am (below_weaken b1_ HL.out hb); replace HI0 := am (IsS127.grown b2_ hg (IsS127.own_neS HI0.out HO551.out (by decide))); replace HK := am (KeepBut.trans b0_ (KeepBut.of_grown hg g) (Kd.S_base2 HO551.out)); have HO572 := am (ho); clear HO551; clear ho hb hg hat))
  go_ret
  exact ⟨_, eq_, by (with_reducible repeat (first | apply Kd.S_alloc | apply Kd.S_drewN | apply Kd.S_drew)); exact HO572.out, b2_, b1_, b0_⟩
 rw [if_neg c37] at H
 have c37b0 : (t555 == 2) = false := beq_eq_false_iff_ne.mpr c37
 have c37b1 : (t555 != 2) = true := bne_iff_ne.mpr c37
 by_cases c46 : t555 = 3
 ·rw [if_pos c46] at H
  have c46b0 : (t555 == 3) = true := beq_iff_eq.mpr c46
  have c46b1 : (t555 != 3) = false := bne_eq_false_iff_eq.mpr c46
  clear c46; obtain ⟨y573, hy573⟩ : ∃ y_ : List (S94), y_ = (([] : List (S94))) := ⟨_, rfl⟩
  replace H : (spec_l13AnyMachine.l0 k y573 0 s0_0 t556) = some (r1, r2) := by first | (rw [hy573]; with_reducible exact H) | (have H2_ := bm H; rw [hy573]; with_reducible exact H2_) | (with_reducible exact bm H) | with_reducible exact H | (rw [hy573]; exact H) | exact H
  have Ny573 := am hy573; clear hy573
  have H' := am H
  clear H; go_enter Try.func76, Try.ntmps76
  go_wp2_with (first | ((with_reducible refine gate_callee (f := 118) rfl ?_); refine goesL_ (some 8) rfl rfl Try.func118 (by kernel_rfl) rfl #[.pointer (some ⟨g, 0, none⟩)] rfl mq ?_; (with_reducible refine (spec_l13Machine.calls k g s0_0 s0_1 t549 t552 w0 _ ?side1 ?side2 A2.out).mono ?_); (case side1 => repeat (first | (with_reducible first | exact HI0.out | apply IsS127.alloc | apply IsS127.drewN | apply IsS127.drew | apply IsS127.set_1) | exact HI0.out)); (case side2 => repeat (first | (with_reducible first | exact HB.out | apply below_alloc | apply pw_below_drewN | apply below_drew1 | refine below_set ?_ (IsS127.ge HI0.out)) | exact HB.out)); rintro e w47 ⟨v550, rfl, ho0, hi, hb, hk⟩; refine ⟨_, rfl, ?_⟩; have HO551 := am (Kd.S_lower ho0 (keep_size (w := w) (g := g) (row := none) b0_)); replace HK := am (KeepBut.trans b0_ hk (.inl rfl)); replace HB := am (hb); replace HI0 := am (hi); (try clear hb); (try clear hb2); (try clear hk); (try clear hi); (try clear ho0); obtain ⟨Ao48, co48, eo48⟩ := Kd.S_slice HO551.out; subst eo48) | ((with_reducible refine gate_callee (f := 67) rfl ?_); refine goesL_ (some 16) rfl rfl Try.func67 (by kernel_rfl) rfl #[.pointer (some ⟨g, 0, none⟩), .int .i64 (t549.length : Int)] rfl mq ?_; (with_reducible refine (spec_l1Rd_pick.calls k g s0_0 t552 (t549.length : Int) t553 t554 w0 _ ?side1 ?side2 A6.out).mono ?_); (case side1 => repeat (first | (with_reducible first | exact HI0.out | apply IsS127.alloc | apply IsS127.drewN | apply IsS127.drew | apply IsS127.set_1) | exact HI0.out)); (case side2 => repeat (first | (with_reducible first | exact HB.out | apply below_alloc | apply pw_below_drewN | apply below_drew1 | refine below_set ?_ (IsS127.ge HI0.out)) | exact HB.out)); rintro e w49 ⟨rfl, hi, hb, hk⟩; refine ⟨_, rfl, ?_⟩; replace HO551 := am (Kd.S_mono (Kd.S_keep (IsS127.apartS (show IsS127 w0 _ g s0_0 t552 from by repeat (first | (with_reducible first | exact HI0.out | apply IsS127.alloc | apply IsS127.drewN | apply IsS127.drew | apply IsS127.set_1) | exact HI0.out)) b15_ (by decide)) hk (fun _ h => h.2)) (fun _ h => h.1)); replace HK := am (KeepBut.trans b0_ hk (.inl rfl)); replace HB := am (hb); replace HI0 := am (hi); (try clear hb); (try clear hb2); (try clear hk); (try clear hi)) | ((with_reducible refine gate_callee (f := 67) rfl ?_); refine goesL_ (some 18) rfl rfl Try.func67 (by kernel_rfl) rfl #[.pointer (some ⟨g, 0, none⟩), .int .i64 10] rfl mq ?_; (with_reducible refine (spec_l1Rd_pick.calls k g s0_0 t554 10 t555 t556 w0 _ ?side1 ?side2 A7.out).mono ?_); (case side1 => repeat (first | (with_reducible first | exact HI0.out | apply IsS127.alloc | apply IsS127.drewN | apply IsS127.drew | apply IsS127.set_1) | exact HI0.out)); (case side2 => repeat (first | (with_reducible first | exact HB.out | apply below_alloc | apply pw_below_drewN | apply below_drew1 | refine below_set ?_ (IsS127.ge HI0.out)) | exact HB.out)); rintro e w50 ⟨rfl, hi, hb, hk⟩; refine ⟨_, rfl, ?_⟩; replace HO551 := am (Kd.S_mono (Kd.S_keep (IsS127.apartS (show IsS127 w0 _ g s0_0 t554 from by repeat (first | (with_reducible first | exact HI0.out | apply IsS127.alloc | apply IsS127.drewN | apply IsS127.drew | apply IsS127.set_1) | exact HI0.out)) b15_ (by decide)) hk (fun _ h => h.2)) (fun _ h => h.1)); replace HK := am (KeepBut.trans b0_ hk (.inl rfl)); replace HB := am (hb); replace HI0 := am (hi); (try clear hb); (try clear hb2); (try clear hk); (try clear hi)) | ((with_reducible refine gate_dst (N := 64) rfl ?_); refine Kd.S_lit k94 _ 94 ?hg (N := 64) ?hd (xs := ([] : List (S94))) (inner := []) (ok := fun _ => True) (okp := fun _ => True) ?hr ?hp (fun _ hk => hk) trivial (Below.refl _ _) (Nat.le_refl _) (by simp) ?_; (case hd => rfl); (case hg => rfl); (case hr => first | (go_simp; done) | (go_simp; rfl)); (case hp => exact (Reps.none _ _)); intro v574 w51 ho52 hb hg_ hnew_; clear hg_ hnew_; (first | rw [← Ny573.out] at ho52 | (simp only [Int.reduceToNat] at ho52; rw [← Ny573.out] at ho52) | (simp only [Int.toNat_natCast] at ho52; rw [← Ny573.out] at ho52)); have HO575 := am (Kd.S_lower (Kd.S_new' ho52 (Kd.S_lt b15_)) (keep_size (w := w) (g := g) (row := none) b0_)); replace HO551 := am (Kd.S_elder' b15_ (Kd.S_base ho52) hb); replace HK := am (KeepBut.trans b0_ (KeepBut.of_below hb g none) (.inl rfl)); replace HB := am (below_step b1_ hb); replace HI0 := am (IsS127.below b2_ hb); clear hb ho52))
  go_loopg [5, 6] k (fun kq v5 v6 w' => ∃ (x5_1 : List (S94)) (x6_1 : Int) (x1001_1 : Int), v6 = .int .i64 x6_1 ∧ Aside0 (spec_l13AnyMachine.l0 kq x5_1 x6_1 s0_0 x1001_1 = some (r1, r2)) ∧ Aside0 (kq ≤ k) ∧ Aside0 (Kd.S k94 94 w' w.heap.size (fun _ => True) v5 x5_1) ∧ Aside0 (IsS127 w0 w' g s0_0 x1001_1) ∧ Aside0 (KeepBut w w' g none) ∧ Aside0 (Below w0.heap.size w0 w'))
  case atStart => exact ⟨(y573), (0), (t556), sq, H', ⟨Nat.le_refl _⟩, ⟨by (with_reducible repeat (first | apply Kd.S_alloc | apply Kd.S_drewN | apply Kd.S_drew)); exact Kd.S_mono HO575.out (fun _ hk => trivial)⟩, ⟨b2_⟩, ⟨b0_⟩, ⟨b1_⟩⟩
  case round =>
   clear H'; (try clear c1); (try clear p1); (try clear q1); (try clear hx1); (try clear hf1); (try clear c2); (try clear p2); (try clear q2); (try clear c3); (try clear c3b0); (try clear c3b1); (try clear c3b2); (try clear hx3); (try clear hf3); (try clear c4); (try clear c5); (try clear p5); (try clear q5); (try clear hx5); (try clear c6); (try clear p6); (try clear c7); (try clear c8); (try clear c8b0); (try clear c8b1); (try clear c9); (try clear c9b0); (try clear c10); (try clear c10b0); (try clear c11); (try clear p11); (try clear q11); (try clear hx11); (try clear hf11); (try clear c16); (try clear hx16); (try clear hf16); (try clear c18); (try clear c18b0); (try clear c18b1); (try clear c19); (try clear c19b0); (try clear c20); (try clear c20b0); (try clear c23); (try clear p24); (try clear q24); (try clear c32); (try clear c34); (try clear hx34); (try clear hf34); (try clear c37); (try clear c37b0); (try clear c37b1); (try clear c39); (try clear c46); (try clear c46b0); (try clear c46b1); (try clear hx11_0); (try clear hx11_1); (try clear hx16_0); (try clear hx34_0); (try clear hx557_0); (try clear hx557_1); (try clear hx559_0); (try clear hx559_1); (try clear p11); (try clear p24); (try clear p557); (try clear p559); (try clear q11); (try clear q24); (try clear q557); (try clear q559); obtain ⟨x5_1, x6_1, x1001_1, rfl, HA, HK1, HO_5, HI0, HK, HB⟩ := hrel
   cases gk with
   | zero => exact absurd HA.out (by simp [spec_l13AnyMachine.l0])
   | succ k1 =>
    have H := HA.out; clear HA
    simp only [spec_l13AnyMachine.l0] at H
    replace H := bs H; obtain ⟨⟨t576, t577⟩, A530, H⟩ := H; replace H : (if x6_1 < (wrap64 (3 + t576)) then (if x5_1.length < 4398046511104 then (spec_l13AnyMachine.l0 k1 (x5_1 ++ [(⟨((Int.tmod x6_1 3) == 0), (([(⟨97, wrap64 (x6_1 + 1)⟩ : S100), (⟨98, wrap64 (x6_1 + 1)⟩ : S100)] : List (S100)))⟩ : S94)]) (wrap64 (x6_1 + 1)) s0_0 t577) else (none)) else (if x5_1.length < 4398046511104 then (some ((x5_1 ++ [(⟨true, ([] : List (S100))⟩ : S94)]), t577)) else (none))) = some (r1, r2) := H; have A53 := Aside0.mk A530; clear A530
    by_cases c54 : x6_1 < (wrap64 (3 + t576))
    ·rw [if_pos c54] at H; have c54b0 := decide_eq_true c54; clear c54; obtain ⟨y578, hy578⟩ : ∃ y_ : List (S100), y_ = (([(⟨97, wrap64 (x6_1 + 1)⟩ : S100), (⟨98, wrap64 (x6_1 + 1)⟩ : S100)] : List (S100))) := ⟨_, rfl⟩
     replace H : (if x5_1.length < 4398046511104 then (spec_l13AnyMachine.l0 k1 (x5_1 ++ [(⟨((Int.tmod x6_1 3) == 0), y578⟩ : S94)]) (wrap64 (x6_1 + 1)) s0_0 t577) else (none)) = some (r1, r2) := by first | (rw [hy578]; with_reducible exact H) | (have H2_ := bm H; rw [hy578]; with_reducible exact H2_) | (with_reducible exact bm H) | with_reducible exact H | (rw [hy578]; exact H) | exact H
     have Ny578 := am hy578; clear hy578
     replace H := ip H; obtain ⟨c55, H⟩ := H; have LMc55 := Aside0.mk c55; clear c55; obtain ⟨y581, hy581⟩ : ∃ y_ : List (S94), y_ = (x5_1 ++ [(⟨((Int.tmod x6_1 3) == 0), y578⟩ : S94)]) := ⟨_, rfl⟩
     replace H : (spec_l13AnyMachine.l0 k1 y581 (wrap64 (x6_1 + 1)) s0_0 t577) = some (r1, r2) := by first | (rw [hy581]; with_reducible exact H) | (have H2_ := bm H; rw [hy581]; with_reducible exact H2_) | (with_reducible exact bm H) | with_reducible exact H | (rw [hy581]; exact H) | exact H
     have Ny581 := am hy581; clear hy581
     have H' := am H
     clear H
     go_wp2_with (first | ((with_reducible refine gate_callee (f := 67) rfl ?_); refine goesL_ (some 67) rfl rfl Try.func67 (by kernel_rfl) rfl #[.pointer (some ⟨g, 0, none⟩), .int .i64 11] rfl mq ?_; (with_reducible refine (spec_l1Rd_pick.calls k1 g s0_0 x1001_1 11 t576 t577 w0 _ ?side1 ?side2 A53.out).mono ?_); (case side1 => repeat (first | (with_reducible first | exact HI0.out | apply IsS127.alloc | apply IsS127.drewN | apply IsS127.drew | apply IsS127.set_1) | exact HI0.out)); (case side2 => repeat (first | (with_reducible first | exact HB.out | apply below_alloc | apply pw_below_drewN | apply below_drew1 | refine below_set ?_ (IsS127.ge HI0.out)) | exact HB.out)); rintro e w56 ⟨rfl, hi, hb, hk⟩; refine ⟨_, rfl, ?_⟩; replace HO_5 := am (Kd.S_mono (Kd.S_keep (IsS127.apartS (show IsS127 w0 _ g s0_0 x1001_1 from by repeat (first | (with_reducible first | exact HI0.out | apply IsS127.alloc | apply IsS127.drewN | apply IsS127.drew | apply IsS127.set_1) | exact HI0.out)) b11_ (by decide)) hk (fun _ h => h.2)) (fun _ h => h.1)); replace HK := am (KeepBut.trans b0_ hk (.inl rfl)); replace HB := am (hb); replace HI0 := am (hi); (try clear hb); (try clear hb2); (try clear hk); (try clear hi)) | ((with_reducible refine gate_dst (N := 82) rfl ?_); refine Kd.R_lit k100 _ 100 ?hg (N := 82) ?hd (xs := ([(⟨97, wrap64 (x6_1 + 1)⟩ : S100), (⟨98, wrap64 (x6_1 + 1)⟩ : S100)] : List (S100))) (inner := [.int .i64 97, .int .i64 (wrap64 (x6_1 + 1)), .int .i64 98, .int .i64 (wrap64 (x6_1 + 1))]) (ok := fun _ => True) (okp := fun _ => True) ?hr ?hp (fun _ hk => hk) trivial (Below.refl _ _) (Nat.le_refl _) (by simp) ?_; (case hd => rfl); (case hg => rfl); (case hr => first | (go_simp; done) | (go_simp; rfl)); (case hp => exact (Reps.c2 (show Kd.M k100 _ _ _ (⟨97, wrap64 (x6_1 + 1)⟩ : S100) [.int .i64 97, .int .i64 (wrap64 (x6_1 + 1))] from (k100_mkM _ _ _ (⟨97, wrap64 (x6_1 + 1)⟩ : S100) )) (Reps.c2 (show Kd.M k100 _ _ _ (⟨98, wrap64 (x6_1 + 1)⟩ : S100) [.int .i64 98, .int .i64 (wrap64 (x6_1 + 1))] from (k100_mkM _ _ _ (⟨98, wrap64 (x6_1 + 1)⟩ : S100) )) (Reps.none _ _)))); intro v579 w57 ho58 hb hg_ hnew_; clear hg_ hnew_; (first | rw [← Ny578.out] at ho58 | (simp only [Int.reduceToNat] at ho58; rw [← Ny578.out] at ho58) | (simp only [Int.toNat_natCast] at ho58; rw [← Ny578.out] at ho58)); replace HO_5 := am (Kd.S_elder' b11_ (Kd.R_base ho58) hb); have HO580 := am (Kd.R_lower ho58 (keep_size (w := w) (g := g) (row := none) b0_)); replace HK := am (KeepBut.trans b0_ (KeepBut.of_below hb g none) (.inl rfl)); replace HB := am (below_step b1_ hb); replace HI0 := am (IsS127.below b2_ hb); clear hb ho58; obtain ⟨Ao59, co59, eo59⟩ := Kd.R_slice HO580.out; subst eo59) | ((with_reducible refine gate_builtin (b := .append) (xs := #[.tmp 72, .tmp 84]) rfl ?_); at_builtin; refine Kd.S_append k94 w.heap.size rfl (.tmp 72) (.tmp 84) 43 94 (.agg #[(.bool false), (.slice none 0 0)]) 32 rfl Try.underlying43 info94 rfl (by decide) (by omega) u5 x5_1 (⟨((Int.tmod x6_1 3) == 0), y578⟩ : S94) [.bool ((Int.tmod x6_1 3) == 0), .slice Ao59 y578.length co59] (fun _ => True) (fun k_ => some k_ = (.slice Ao59 y578.length co59 : Value).ownBlock) rfl rfl ?aP (fun k_ hk_ => ((Kd.R_mono (ok' := fun k_ => ((fun _ => True)) k_ ∧ some k_ ≠ (u5 : Value).ownBlock) (Kd.R_apart' (HO580.out) (Kd.S_typed HO_5.out) (by decide)) (fun k_ hk => ⟨trivial, hk.2⟩))).1 k_ hk_.symm) ?aF ?aO (Below.refl _ _) ?aS ?aL ?_; (case aP => exact k94_mkM _ _ _ (⟨((Int.tmod x6_1 3) == 0), y578⟩ : S94) (Kd.R_mono (Kd.R_tight rfl (Kd.R_mono (ok' := fun k_ => ((fun _ => True)) k_ ∧ some k_ ≠ (u5 : Value).ownBlock) (Kd.R_apart' (HO580.out) (Kd.S_typed HO_5.out) (by decide)) (fun k_ hk => ⟨trivial, hk.2⟩))) (fun _ h_ => h_))); (case aF => exact (fun _ _ => trivial)); (case aO => exact (by (with_reducible repeat (first | apply Kd.S_alloc | apply Kd.S_drewN | apply Kd.S_drew)); exact Kd.S_mono HO_5.out (fun k_ hk => ⟨trivial, fun e_ => hk.2 e_⟩))); (case aS => exact (keep_size (w := w) (g := g) (row := none) b0_)); (case aL => have := LMc55.out; omega); intro v582 w60 ho hb hg hat; rw [← Ny581.out] at ho; replace HB := am (below_weaken b1_ HL.out hb); replace HI0 := am (IsS127.grown b2_ hg (IsS127.own_neS HI0.out HO_5.out (by decide))); replace HK := am (KeepBut.trans b0_ (KeepBut.of_grown hg g) (Kd.S_base2 HO_5.out)); have HO583 := am (ho); clear HO_5 HO580; clear ho hb hg hat))
     go_roundg k1
     case measure => have := HK1.out; omega
     case rel => exact ⟨(y581), (wrap64 (x6_1 + 1)), (t577), sq, H', ⟨b67_⟩, ⟨by (with_reducible repeat (first | apply Kd.S_alloc | apply Kd.S_drewN | apply Kd.S_drew)); exact HO583.out⟩, ⟨b2_⟩, ⟨b0_⟩, ⟨b1_⟩⟩
    rw [if_neg c54] at H; have c54b0 := decide_eq_false c54; clear c54
    replace H := ip H; obtain ⟨c61, H⟩ := H; have LMc61 := Aside0.mk c61; clear c61; obtain ⟨y584, hy584⟩ : ∃ y_ : List (S94), y_ = (x5_1 ++ [(⟨true, ([] : List (S100))⟩ : S94)]) := ⟨_, rfl⟩
    replace H : (some (y584, t577)) = some (r1, r2) := by first | (rw [hy584]; with_reducible exact H) | (have H2_ := bm H; rw [hy584]; with_reducible exact H2_) | (with_reducible exact bm H) | with_reducible exact H | (rw [hy584]; exact H) | exact H
    have Ny584 := am hy584; clear hy584
    simp only [Option.some.injEq, Prod.mk.injEq] at H
    obtain ⟨rfl, rfl⟩ := H
    go_wp2_with (first | ((with_reducible refine gate_callee (f := 67) rfl ?_); refine goesL_ (some 67) rfl rfl Try.func67 (by kernel_rfl) rfl #[.pointer (some ⟨g, 0, none⟩), .int .i64 11] rfl mq ?_; (with_reducible refine (spec_l1Rd_pick.calls k1 g s0_0 x1001_1 11 t576 t577 w0 _ ?side1 ?side2 A53.out).mono ?_); (case side1 => repeat (first | (with_reducible first | exact HI0.out | apply IsS127.alloc | apply IsS127.drewN | apply IsS127.drew | apply IsS127.set_1) | exact HI0.out)); (case side2 => repeat (first | (with_reducible first | exact HB.out | apply below_alloc | apply pw_below_drewN | apply below_drew1 | refine below_set ?_ (IsS127.ge HI0.out)) | exact HB.out)); rintro e w62 ⟨rfl, hi, hb, hk⟩; refine ⟨_, rfl, ?_⟩; replace HO_5 := am (Kd.S_mono (Kd.S_keep (IsS127.apartS (show IsS127 w0 _ g s0_0 x1001_1 from by repeat (first | (with_reducible first | exact HI0.out | apply IsS127.alloc | apply IsS127.drewN | apply IsS127.drew | apply IsS127.set_1) | exact HI0.out)) b11_ (by decide)) hk (fun _ h => h.2)) (fun _ h => h.1)); replace HK := am (KeepBut.trans b0_ hk (.inl rfl)); replace HB := am (hb); replace HI0 := am (hi); (try clear hb); (try clear hb2); (try clear hk); (try clear hi)) | ((with_reducible refine gate_builtin (b := .append) (xs := #[.tmp 86, .tmp 88]) rfl ?_); at_builtin; refine Kd.S_append k94 w.heap.size rfl (.tmp 86) (.tmp 88) 43 94 (.agg #[(.bool false), (.slice none 0 0)]) 32 rfl Try.underlying43 info94 rfl (by decide) (by omega) u5 x5_1 (⟨true, ([] : List (S100))⟩ : S94) [.bool true, .slice none 0 0] (fun _ => True) (fun _ => False) rfl rfl ?aP (fun k_ hk_ => hk_.elim) ?aF ?aO (Below.refl _ _) ?aS ?aL ?_; (case aP => exact k94_mkM _ _ _ (⟨true, ([] : List (S100))⟩ : S94) (Kd.R_nil _ _ _ _ _)); (case aF => exact (fun _ _ => trivial)); (case aO => exact (by (with_reducible repeat (first | apply Kd.S_alloc | apply Kd.S_drewN | apply Kd.S_drew)); exact Kd.S_mono HO_5.out (fun k_ hk => ⟨trivial, fun e_ => e_⟩))); (case aS => exact (keep_size (w := w) (g := g) (row := none) b0_)); (case aL => have := LMc61.out; omega); intro v585 w63 ho hb hg hat; rw [← Ny584.out] at ho; replace HB := am (below_weaken b1_ HL.out hb); replace HI0 := am (IsS127.grown b2_ hg (IsS127.own_neS HI0.out HO_5.out (by decide))); replace HK := am (KeepBut.trans b0_ (KeepBut.of_grown hg g) (Kd.S_base2 HO_5.out)); have HO586 := am (ho); clear HO_5; clear ho hb hg hat))
    go_ret
    exact ⟨_, eq_, by (with_reducible repeat (first | apply Kd.S_alloc | apply Kd.S_drewN | apply Kd.S_drew)); exact HO586.out, b2_, b1_, b0_⟩
 rw [if_neg c46] at H
 have c46b0 : (t555 == 3) = false := beq_eq_false_iff_ne.mpr c46
 have c46b1 : (t555 != 3) = true := bne_iff_ne.mpr c46
 simp only [Option.some.injEq, Prod.mk.injEq] at H
 obtain ⟨rfl, rfl⟩ := H; go_enter Try.func76, Try.ntmps76
 go_wp2_with (first | ((with_reducible refine gate_callee (f := 118) rfl ?_); refine goesL_ (some 8) rfl rfl Try.func118 (by kernel_rfl) rfl #[.pointer (some ⟨g, 0, none⟩)] rfl mq ?_; (with_reducible refine (spec_l13Machine.calls k g s0_0 s0_1 t549 t552 w0 _ ?side1 ?side2 A2.out).mono ?_); (case side1 => repeat (first | (with_reducible first | exact HI0.out | apply IsS127.alloc | apply IsS127.drewN | apply IsS127.drew | apply IsS127.set_1) | exact HI0.out)); (case side2 => repeat (first | (with_reducible first | exact HB.out | apply below_alloc | apply pw_below_drewN | apply below_drew1 | refine below_set ?_ (IsS127.ge HI0.out)) | exact HB.out)); rintro e w64 ⟨v550, rfl, ho0, hi, hb, hk⟩; refine ⟨_, rfl, ?_⟩; have HO551 := am (Kd.S_lower ho0 (keep_size (w := w) (g := g) (row := none) b0_)); replace HK := am (KeepBut.trans b0_ hk (.inl rfl)); replace HB := am (hb); replace HI0 := am (hi); (try clear hb); (try clear hb2); (try clear hk); (try clear hi); (try clear ho0); obtain ⟨Ao65, co65, eo65⟩ := Kd.S_slice HO551.out; subst eo65) | ((with_reducible refine gate_callee (f := 67) rfl ?_); refine goesL_ (some 16) rfl rfl Try.func67 (by kernel_rfl) rfl #[.pointer (some ⟨g, 0, none⟩), .int .i64 (t549.length : Int)] rfl mq ?_; (with_reducible refine (spec_l1Rd_pick.calls k g s0_0 t552 (t549.length : Int) t553 t554 w0 _ ?side1 ?side2 A6.out).mono ?_); (case side1 => repeat (first | (with_reducible first | exact HI0.out | apply IsS127.alloc | apply IsS127.drewN | apply IsS127.drew | apply IsS127.set_1) | exact HI0.out)); (case side2 => repeat (first | (with_reducible first | exact HB.out | apply below_alloc | apply pw_below_drewN | apply below_drew1 | refine below_set ?_ (IsS127.ge HI0.out)) | exact HB.out)); rintro e w66 ⟨rfl, hi, hb, hk⟩; refine ⟨_, rfl, ?_⟩; replace HO551 := am (Kd.S_mono (Kd.S_keep (IsS127.apartS (show IsS127 w0 _ g s0_0 t552 from by repeat (first | (with_reducible first | exact HI0.out | apply IsS127.alloc | apply IsS127.drewN | apply IsS127.drew | apply IsS127.set_1) | exact HI0.out)) b15_ (by decide)) hk (fun _ h => h.2)) (fun _ h => h.1)); replace HK := am (KeepBut.trans b0_ hk (.inl rfl)); replace HB := am (hb); replace HI0 := am (hi); (try clear hb); (try clear hb2); (try clear hk); (try clear hi)) | ((with_reducible refine gate_callee (f := 67) rfl ?_); refine goesL_ (some 18) rfl rfl Try.func67 (by kernel_rfl) rfl #[.pointer (some ⟨g, 0, none⟩), .int .i64 10] rfl mq ?_; (with_reducible refine (spec_l1Rd_pick.calls k g s0_0 t554 10 t555 t556 w0 _ ?side1 ?side2 A7.out).mono ?_); (case side1 => repeat (first | (with_reducible first | exact HI0.out | apply IsS127.alloc | apply IsS127.drewN | apply IsS127.drew | apply IsS127.set_1) | exact HI0.out)); (case side2 => repeat (first | (with_reducible first | exact HB.out | apply below_alloc | apply pw_below_drewN | apply below_drew1 | refine below_set ?_ (IsS127.ge HI0.out)) | exact HB.out)); rintro e w67 ⟨rfl, hi, hb, hk⟩; refine ⟨_, rfl, ?_⟩; replace HO551 := am (Kd.S_mono (Kd.S_keep (IsS127.apartS (show IsS127 w0 _ g s0_0 t554 from by repeat (first | (with_reducible first | exact HI0.out | apply IsS127.alloc | apply IsS127.drewN | apply IsS127.drew | apply IsS127.set_1) | exact HI0.out)) b15_ (by decide)) hk (fun _ h => h.2)) (fun _ h => h.1)); replace HK := am (KeepBut.trans b0_ hk (.inl rfl)); replace HB := am (hb); replace HI0 := am (hi); (try clear hb); (try clear hb2); (try clear hk); (try clear hi)))
 go_ret
 exact ⟨_, eq_, b15_, b2_, b1_, b0_⟩
end Go.Proofs.Ytfpmfaelodfecaa.QFnMachineRank
