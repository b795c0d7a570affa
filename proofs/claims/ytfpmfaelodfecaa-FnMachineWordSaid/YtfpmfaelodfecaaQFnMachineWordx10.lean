import Derived.Test.YtfpmfaelodfecaaQFnMachineWordx0
import Derived.Test.YtfpmfaelodfecaaQFnMachineWordx8
import Derived.Test.YtfpmfaelodfecaaQFnMachineWordx9
import Derived.Test.YtfpmfaelodfecaaVMSh2
namespace Go.Proofs.Ytfpmfaelodfecaa.QFnMachineWord
open Go.RowKit Go.Proofs.YtfpmfaelodfecaaW.PrintWords Go.Proofs.YtfpmfaelodfecaaW.PrintLast Go.Proofs.YtfpmfaelodfecaaW.PrintMore Go.Proofs.Ytfpmfaelodfecaa.Sh
attribute [local go_sem] max2_int min2_int max_two min_two max_three min_three max_four min_four   -- for this text's walks alone
set_option linter.unusedVariables false
set_option linter.unusedSimpArgs false
-- shrunk

/-! ### spec_l2One: function 181 -/
mutual
def spec_l2One.l0 : Nat → List (S117) → ByteArray → Bool → List ByteArray → List ByteArray → Int → Option (List ByteArray)
 | 0, _, _, _, _, _, _ => none
 | k + 1, x0, x1, x2, x3, x9, x10 => if x10 < (x0.length : Int) then (if 0 ≤ x10 then (if (((rd_T117 x0 x10).f1) != x2) = true then (spec_l2One.j1 k x0 x1 x2 x3 x9 x10 true) else ((spec_l2Has.f k x1 ((rd_T117 x0 x10).f0)).bind fun t228 => (spec_l2One.j1 k x0 x1 x2 x3 x9 x10 (!t228)))) else (none)) else (some x9)
def spec_l2One.j1 : Nat → List (S117) → ByteArray → Bool → List ByteArray → List ByteArray → Int → Bool → Option (List ByteArray)
 | 0, _, _, _, _, _, _, _ => none
 | k + 1, x0, x1, x2, x3, x9, x10, x39 => if x39 = true then (spec_l2One.l0 k x0 x1 x2 x3 x9 (wrap64 (x10 + 1))) else (spec_l2One.l1 k x0 x1 x2 x3 x9 x10 0)
def spec_l2One.l1 : Nat → List (S117) → ByteArray → Bool → List ByteArray → List ByteArray → Int → Int → Option (List ByteArray)
 | 0, _, _, _, _, _, _, _ => none
 | k + 1, x0, x1, x2, x3, x9, x10, x11 => if x11 < (x3.length : Int) then (if 0 ≤ x10 then (if x10 < (x0.length : Int) then (if 0 ≤ x11 then ((spec_l2Do.f k ((rd_T117 x0 x10).f0) ((rd_T117 x0 x10).f1) ((rd_T117 x0 x10).f2) ((rd_T117 x0 x10).f3) ((rd_T117 x0 x10).f4) (rdOf ByteArray.empty x3 x11)).bind fun bt231 => (if bt231.2 = true then ((spec_l1Put.f k x9 bt231.1).bind fun t233 => (spec_l2One.l1 k x0 x1 x2 x3 t233 x10 (wrap64 (x11 + 1)))) else (spec_l2One.l1 k x0 x1 x2 x3 x9 x10 (wrap64 (x11 + 1))))) else (none)) else (none)) else (none)) else (spec_l2One.l0 k x0 x1 x2 x3 x9 (wrap64 (x10 + 1)))
end
def spec_l2One.f (k : Nat) (l0 : List (S117)) (a1 : ByteArray) (a2 : Bool) (l3 : List ByteArray) : Option (List ByteArray) := (some (([] : List ByteArray) : List ByteArray)).bind fun y220 => (if y220.length + l3.length < 8796093022208 then (spec_l2One.l0 k l0 a1 a2 l3 (y220 ++ l3) 0) else (none))
def spec_l2One.T9 : Bool × List (List Nat × List Nat) := (true, [([], []), ([], []), ([0, 1], [0, 1]), ([2], [2]), ([], []), ([], []), ([4, 5], [4, 5]), ([6], [6]), ([3, 7], [3, 7]), ([8], [8]), ([9], [9]), ([9], [9]), ([10, 8, 0, 1, 2, 3, 4, 5, 6, 7, 8, 9, 10], [10]), ([11, 12, 0, 1, 2, 3, 4, 5, 6, 7, 8, 9, 10, 11, 12], [11])])
def spec_l2One.B9 : List Nat := [0, 0, 3, 7, 0, 0, 48, 112, 255, 511, 1023, 1023, 2047, 8191]
theorem spec_l2One.tab9 : rtab .any (opsOf Try.f181 9) = spec_l2One.T9 := by kernel_rfl
theorem spec_l2One.bits9 : waitsOk spec_l2One.T9.2 spec_l2One.B9 = true := by kernel_rfl
set_option maxHeartbeats 8000000 in
set_option maxRecDepth 100000 in
theorem spec_l2One.calls (k : Nat) (A0 : Option Addr) (c0 : Nat) (l0 : List (S117)) (a1 : ByteArray) (a2 : Bool) (A3 : Option Addr) (c3 : Nat) (l3 : List ByteArray) (r : List ByteArray) (w : World) (hr0 : Kd.C k117 w A0 l0.length l0) (hc0 : l0.length ≤ c0) (hr3 : Kd.C Kd.string w A3 l3.length l3) (hc3 : l3.length ≤ c3) (h : spec_l2One.f k l0 a1 a2 l3 = some r) :
  Calls Try.prog 181 #[.slice A0 l0.length c0, .string a1, .bool a2, .slice A3 l3.length c3] w fun e w' => ∃ v0_ : Value, e = .returned (v0_) ∧ Kd.V Kd.string 9 w' w.heap.size (fun k_ => (w.heap.size ≤ k_)) v0_ r ∧ Below w.heap.size w w' := by
 have hu117 := Try.underlying117; have HR0 := am hr0; have HC0 := am hc0; clear hr0 hc0; have HR3 := am hr3; have HC3 := am hc3; clear hr3 hc3; have HB := am (Below.refl w.heap.size w)
 have H : ((some (([] : List ByteArray) : List ByteArray)).bind fun y220 => (if y220.length + l3.length < 8796093022208 then (spec_l2One.l0 k l0 a1 a2 l3 (y220 ++ l3) 0) else (none))) = some r := h
 clear h; obtain ⟨y220, hy220⟩ : ∃ y_ : List ByteArray, y_ = (([] : List ByteArray)) := ⟨_, rfl⟩
 replace H : (if y220.length + l3.length < 8796093022208 then (spec_l2One.l0 k l0 a1 a2 l3 (y220 ++ l3) 0) else (none)) = some r := by first | (rw [hy220]; with_reducible exact H) | (have H2_ := (Option.bind_some _ _).symm.trans H; rw [hy220]; with_reducible exact H2_) | (have H2_ := (Option.bind_some _ _).symm.trans H; with_reducible exact H2_) | with_reducible exact H | (rw [hy220]; exact H) | exact H
 have Ny220 := am hy220; clear hy220
 by_cases c5 : y220.length + l3.length < 8796093022208
 ·rw [if_pos c5] at H; have LMc5 := Aside0.mk c5; clear c5; obtain ⟨y223, hy223⟩ : ∃ y_ : List ByteArray, y_ = (y220 ++ l3) := ⟨_, rfl⟩
  replace H : (spec_l2One.l0 k l0 a1 a2 l3 y223 0) = some r := by first | (rw [hy223]; with_reducible exact H) | (have H2_ := (Option.bind_some _ _).symm.trans H; rw [hy223]; with_reducible exact H2_) | (have H2_ := (Option.bind_some _ _).symm.trans H; with_reducible exact H2_) | with_reducible exact H | (rw [hy223]; exact H) | exact H
  have Ny223 := am hy223; clear hy223
  have H' := am H
  clear H; go_enter Try.func181, Try.ntmps181
  go_wp2_with (first | ((with_reducible refine gate_dst (N := 14) rfl ?_); refine Kd.R_lit Kd.string _ 9 ?hg (N := 14) ?hd (xs := ([] : List ByteArray)) (inner := []) (ok := fun _ => True) (okp := fun _ => True) ?hr ?hp (fun _ hk => hk) trivial (Below.refl _ _) (Nat.le_refl _) (by simp) ?_; (case hd => rfl); (case hg => rfl); (case hr => first | (go_simp; done) | (go_simp; rfl)); (case hp => exact (Reps.none _ _)); intro v221 w6 ho7 hb hg_ hnew_; clear hg_ hnew_; (first | rw [← Ny220.out] at ho7 | (simp only [Int.reduceToNat] at ho7; rw [← Ny220.out] at ho7) | (simp only [Int.toNat_natCast] at ho7; rw [← Ny220.out] at ho7)); have HO222 := am (Kd.R_lower (Kd.R_newM (M := fun k_ => (w.heap.size ≤ k_)) ho7 (below_size bel) (fun k_ h_ => h_)) (below_size bel)); replace HB := am (below_step bel hb); clear hb ho7) | ((with_reducible refine gate_builtin (b := .append) (xs := #[.tmp 14, .tmp 15]) rfl ?_); at_builtin; refine Kd.R_append_rows Kd.string (w0 := w) w.heap.size rfl (.tmp 14) (.tmp 15) 22 9 (.string ⟨#[]⟩) 16 rfl Try.underlying22 info9 rfl (by decide) (by omega) v221 y220 l3 _ _ _ (fun k_ => (w.heap.size ≤ k_)) (fun _ => False) rfl rfl ?aO ?aR (fun _ _ h => h) (fun _ h => h.elim) ?aF ?aB ?aS ?aL ?_; (case aR => exact cq (Kd.C_below HR3.out HB.out)); (case aB => exact bel); (case aF => exact (fun k_ hk => (Nat.le_trans (below_size bel) hk))); (case aO => exact (rq (Kd.R_mono HO222.out (fun _ hk => hk.1)))); (case aS => exact (below_size bel)); (case aL => have := LMc5.out; omega); intro v224 w8 ho hb hg hat; rw [← Ny223.out] at ho; replace HB := am (hb); have HO225 := am (ho); clear HO222; clear ho hb hg hat))
  go_loopg [9, 10] k (fun kq v9 v10 w' => ∃ (x9_1 : List ByteArray) (x10_1 : Int), v10 = .int .i64 x10_1 ∧ Aside0 (spec_l2One.l0 kq l0 a1 a2 l3 x9_1 x10_1 = some r) ∧ Aside0 (kq ≤ k) ∧ Aside0 (Kd.V Kd.string 9 w' w.heap.size (fun k_ => (w.heap.size ≤ k_)) v9 x9_1) ∧ Aside0 (Below w.heap.size w w'))
  case atStart => exact ⟨(y223), (0), sq, H', ⟨Nat.le_refl _⟩, ⟨Kd.R_V (rq HO225.out)⟩, ⟨bel⟩⟩
  case round =>
   clear H'; (try clear c1); (try clear p2); (try clear c3); (try clear c5); obtain ⟨x9_1, x10_1, rfl, HA, HK1, HO_9, HB⟩ := hrel
   cases gk with
   | zero => exact absurd HA.out (by simp [spec_l2One.l0])
   | succ k1 =>
    have H := HA.out; clear HA
    simp only [spec_l2One.l0] at H
    by_cases c9 : x10_1 < (l0.length : Int)
    ·rw [if_pos c9] at H; have c9b0 := decide_eq_true c9; clear c9; have HC10 := am H; clear H
     go_upto_region 5 with (fail)
     go_cut [39] (fun v39 wc => ∃ (kq : Nat) (x39_9 : Bool), v39 = .bool x39_9 ∧ Aside0 (spec_l2One.j1 kq l0 a1 a2 l3 x9_1 x10_1 x39_9 = some r) ∧ Aside0 (kq ≤ k1) ∧ Aside0 (Kd.V Kd.string 9 wc w.heap.size (fun k_ => (w.heap.size ≤ k_)) u9 x9_1) ∧ Aside0 (Below w.heap.size w wc))
     case first =>
      have H := HC10.out; clear HC10
      by_cases c11 : 0 ≤ x10_1
      ·rw [if_pos c11] at H; have c11b0 := decide_eq_true c11; clear c11
       (first | rw [c11b0] | (simp only [i64_w, i32_w]; rw [c11b0]) | skip)
       by_cases c12 : (((rd_T117 l0 x10_1).f1) != a2) = true
       ·rw [if_pos c12] at H
        have c12b0 : (((rd_T117 l0 x10_1).f1) != a2) = true := c12
        (try (have c12b1 : decide (((rd_T117 l0 x10_1).f1) = a2) = false := by simpa using c12))
        (try (have c12b2 : (((rd_T117 l0 x10_1).f1) == a2) = false := by simpa using c12))
        (try (have c12b3 : ¬ (((rd_T117 l0 x10_1).f1) = a2) := by simpa using c12))
        clear c12
        have H' := am H
        clear H
        have p226 : 0 ≤ (x10_1 : Int) := of_decide_eq_true ad
        have q226 : x10_1 < (l0.length : Int) := of_decide_eq_true ad
        obtain ⟨ad226, e226, hx226_0, hx226_1, hx226_2, hx226_3, hx226_4⟩ := at_T117 HR0.out x10_1 p226 q226
        cases e226
        replace hx226_0 := kp HB.out hx226_0; replace hx226_1 := kp HB.out hx226_1; replace hx226_2 := kp HB.out hx226_2; replace hx226_3 := kp HB.out hx226_3; replace hx226_4 := kp HB.out hx226_4; replace p226 := eq_true p226; replace q226 := eq_true q226; go_wp2
        go_meet
        case rel => exact ⟨_, (true), sq, H', ⟨b24_⟩, ⟨vq HO_9.out⟩, ⟨bel⟩⟩
       ·rw [if_neg c12] at H
        have c12b0 : (((rd_T117 l0 x10_1).f1) != a2) = false := by simpa using c12
        (try (have c12b1 : decide (((rd_T117 l0 x10_1).f1) = a2) = true := by simpa using c12))
        (try (have c12b2 : (((rd_T117 l0 x10_1).f1) == a2) = true := by simpa using c12))
        clear c12; replace H := Option.bind_eq_some_iff.mp H; obtain ⟨t228, A130, H⟩ := H; replace H : (spec_l2One.j1 k1 l0 a1 a2 l3 x9_1 x10_1 (!t228)) = some r := H; have A13 := Aside0.mk A130; clear A130
        have H' := am H
        clear H
        have p226 : 0 ≤ (x10_1 : Int) := of_decide_eq_true ad
        have q226 : x10_1 < (l0.length : Int) := of_decide_eq_true ad
        obtain ⟨ad226, e226, hx226_0, hx226_1, hx226_2, hx226_3, hx226_4⟩ := at_T117 HR0.out x10_1 p226 q226
        cases e226
        replace hx226_0 := kp HB.out hx226_0; replace hx226_1 := kp HB.out hx226_1; replace hx226_2 := kp HB.out hx226_2; replace hx226_3 := kp HB.out hx226_3; replace hx226_4 := kp HB.out hx226_4; replace p226 := eq_true p226; replace q226 := eq_true q226
        have p227 : 0 ≤ (x10_1 : Int) := of_decide_eq_true ad
        have q227 : x10_1 < (l0.length : Int) := of_decide_eq_true ad
        obtain ⟨ad227, e227, hx227_0, hx227_1, hx227_2, hx227_3, hx227_4⟩ := at_T117 HR0.out x10_1 p227 q227
        obtain rfl : ad226 = ad227 := (by injection e227)
        replace hx227_0 := kp HB.out hx227_0; replace hx227_1 := kp HB.out hx227_1; replace hx227_2 := kp HB.out hx227_2; replace hx227_3 := kp HB.out hx227_3; replace hx227_4 := kp HB.out hx227_4; replace p227 := eq_true p227; replace q227 := eq_true q227
        go_wp2_with (first | (go_at_call 197; (with_reducible refine (spec_l2Has.calls k1 a1 ((rd_T117 l0 x10_1).f0) t228 _ A13.out).mono ?_); rintro e w' ⟨rfl, ⟨nd, rfl⟩⟩))
        go_meet
        case rel => exact ⟨_, (!t228), sq, H', ⟨b24_⟩, ⟨vq HO_9.out⟩, ⟨bel⟩⟩
      ·rw [if_neg c11] at H
       exact absurd H (by simp)
     case rest =>
      clear HC10; (try clear c1); (try clear p2); (try clear q2); (try clear hx2); (try clear c3); (try clear c5); (try clear c9); (try clear c9b0); (try clear c11); (try clear c11b0); (try clear c12); (try clear c12b0); (try clear c12b1); (try clear c12b2); (try clear hx226_0); (try clear hx226_1); (try clear hx226_2); (try clear hx226_3); (try clear hx226_4); (try clear hx227_0); (try clear hx227_1); (try clear hx227_2); (try clear hx227_3); (try clear hx227_4); (try clear p2); (try clear p226); (try clear p227); (try clear q226); (try clear q227); obtain ⟨kq, x39_9, rfl, HA, HJ9, HO_9, HB⟩ := hcut
      cases kq with
      | zero => exact absurd HA.out (by simp [spec_l2One.j1])
      | succ kj9 =>
       have H := HA.out; clear HA
       simp only [spec_l2One.j1] at H
       by_cases c14 : x39_9 = true
       ·subst c14
        have H1 : (spec_l2One.l0 kj9 l0 a1 a2 l3 x9_1 (wrap64 (x10_1 + 1))) = some r := b20_
        replace H := H1; clear H1
        have H' := am H
        clear H; go_wp2
        go_roundg kj9
        case measure => have := HK1.out; have := HJ9.out; omega
        case rel => exact ⟨(x9_1), (wrap64 (x10_1 + 1)), sq, H', ⟨by have := HK1.out; have := HJ9.out; omega⟩, ⟨vq HO_9.out⟩, ⟨bel⟩⟩
       ·replace c14 := Bool.eq_false_iff.mpr c14; subst c14
        have H1 : (spec_l2One.l1 kj9 l0 a1 a2 l3 x9_1 x10_1 0) = some r := b6_
        replace H := H1; clear H1
        have H' := am H
        clear H; go_wp2
        go_loopg [9, 11] kj9 (fun kq v9 v11 w' => ∃ (x9_3 : List ByteArray) (x11_3 : Int), v11 = .int .i64 x11_3 ∧ Aside0 (spec_l2One.l1 kq l0 a1 a2 l3 x9_3 x10_1 x11_3 = some r) ∧ Aside0 (kq ≤ kj9) ∧ Aside0 (Kd.V Kd.string 9 w' w.heap.size (fun k_ => (w.heap.size ≤ k_)) v9 x9_3) ∧ Aside0 (Below w.heap.size w w'))
        case atStart => exact ⟨(x9_1), (0), sq, H', ⟨Nat.le_refl _⟩, ⟨vq HO_9.out⟩, ⟨bel⟩⟩
        case round =>
         clear H'; (try clear c1); (try clear p2); (try clear q2); (try clear hx2); (try clear c3); (try clear c5); (try clear p6); (try clear c9); (try clear c9b0); (try clear c11); (try clear c11b0); (try clear c12); (try clear c12b0); (try clear c12b1); (try clear c12b2); (try clear c14); (try clear hx226_0); (try clear hx226_1); (try clear hx226_2); (try clear hx226_3); (try clear hx226_4); (try clear hx227_0); (try clear hx227_1); (try clear hx227_2); (try clear hx227_3); (try clear hx227_4); (try clear p2); (try clear p226); (try clear p227); (try clear q2); (try clear q226); (try clear q227); obtain ⟨x9_3, x11_3, rfl, HA, HK3, HO_9, HB⟩ := hrel
         cases gk with
         | zero => exact absurd HA.out (by simp [spec_l2One.l1])
         | succ k3 =>
          have H := HA.out; clear HA
          simp only [spec_l2One.l1] at H
          by_cases c15 : x11_3 < (l3.length : Int)
          ·rw [if_pos c15] at H; have c15b0 := decide_eq_true c15; clear c15
           by_cases c16 : 0 ≤ x10_1
           ·rw [if_pos c16] at H; have c16b0 := decide_eq_true c16; clear c16
            by_cases c17 : x10_1 < (l0.length : Int)
            ·rw [if_pos c17] at H; have c17b0 := decide_eq_true c17; clear c17
             by_cases c18 : 0 ≤ x11_3
             ·rw [if_pos c18] at H; have c18b0 := decide_eq_true c18; clear c18; replace H := Option.bind_eq_some_iff.mp H; obtain ⟨⟨t231, t232⟩, A190, H⟩ := H; replace H : (if t232 = true then ((spec_l1Put.f k3 x9_3 t231).bind fun t233 => (spec_l2One.l1 k3 l0 a1 a2 l3 t233 x10_1 (wrap64 (x11_3 + 1)))) else (spec_l2One.l1 k3 l0 a1 a2 l3 x9_3 x10_1 (wrap64 (x11_3 + 1)))) = some r := H; have A19 := Aside0.mk A190; clear A190
              by_cases c20 : t232 = true
              ·subst c20
               have H1 : ((spec_l1Put.f k3 x9_3 t231).bind fun t233 => (spec_l2One.l1 k3 l0 a1 a2 l3 t233 x10_1 (wrap64 (x11_3 + 1)))) = some r := b20_
               replace H := H1; clear H1
               replace H := Option.bind_eq_some_iff.mp H; obtain ⟨t233, A210, H⟩ := H; replace H : (spec_l2One.l1 k3 l0 a1 a2 l3 t233 x10_1 (wrap64 (x11_3 + 1))) = some r := H; have A21 := Aside0.mk A210; clear A210
               have H' := am H
               clear H
               try go_wp2
               replace HO_9 := am (Kd.V_drew HO_9.out); replace HB := am (below_drew1 HB.out)
               have p229 : 0 ≤ (x10_1 : Int) := of_decide_eq_true ad
               have q229 : x10_1 < (l0.length : Int) := of_decide_eq_true ad
               obtain ⟨ad229, e229, hx229_0, hx229_1, hx229_2, hx229_3, hx229_4⟩ := at_T117 HR0.out x10_1 p229 q229; have hw229_4 := hx229_4; have hw229_3 := hx229_3; have hw229_2 := hx229_2; have hw229_1 := hx229_1; have hw229_0 := hx229_0
               cases e229
               replace hx229_0 := kp HB.out hx229_0; replace hx229_1 := kp HB.out hx229_1; replace hx229_2 := kp HB.out hx229_2; replace hx229_3 := kp HB.out hx229_3; replace hx229_4 := kp HB.out hx229_4; replace p229 := eq_true p229; replace q229 := eq_true q229
               have p230 : 0 ≤ (x11_3 : Int) := of_decide_eq_true ad
               have q230 : x11_3 < (l3.length : Int) := of_decide_eq_true ad
               obtain ⟨ad230, e230, hx230_0⟩ := Kd.at_string HR3.out x11_3 p230 q230; have hw230_0 := hx230_0
               cases e230
               replace hx230_0 := kp HB.out hx230_0; replace p230 := eq_true p230; replace q230 := eq_true q230
               refine st (n := 14) (S := fun w' => w'.cell? (ad229.add ((x10_1).toNat * 5)) = some (.string ((rd_T117 l0 x10_1).f0)) ∧ w'.cell? ⟨(ad229.add ((x10_1).toNat * 5)).block, (ad229.add ((x10_1).toNat * 5)).off + 1, none⟩ = some (.bool ((rd_T117 l0 x10_1).f1)) ∧ w'.cell? ⟨(ad229.add ((x10_1).toNat * 5)).block, (ad229.add ((x10_1).toNat * 5)).off + 2, none⟩ = some (.string ((rd_T117 l0 x10_1).f2)) ∧ w'.cell? ⟨(ad229.add ((x10_1).toNat * 5)).block, (ad229.add ((x10_1).toNat * 5)).off + 3, none⟩ = some (.string ((rd_T117 l0 x10_1).f3)) ∧ w'.cell? ⟨(ad229.add ((x10_1).toNat * 5)).block, (ad229.add ((x10_1).toNat * 5)).off + 4, none⟩ = some (.string ((rd_T117 l0 x10_1).f4)) ∧ w'.cell? (ad230.add (x11_3).toNat) = some (.string (rdOf ByteArray.empty l3 x11_3))) (ds := []) ⟨(kp HB.out hw229_0), (kp HB.out hw229_1), (kp HB.out hw229_2), (kp HB.out hw229_3), (kp HB.out hw229_4), (kp HB.out hw230_0)⟩ (fun hHeld => ?_); refine with_tabW spec_l2One.tab9 spec_l2One.bits9 (fun HT_ HW_ => ?_)
               generalize wr.drew = w22 at HO_9 HB hx229_0 hx229_1 hx229_2 hx229_3 hx229_4 hx230_0 hHeld ⊢
               refine pu 0 47 ?_
               refine pu 1 48 ?_
               refine pu 2 49 ?_
               refine pu 4 51 ?_
               refine pu 5 52 ?_
               refine pu 6 53 ?_
               refine tk6 3 50 hHeld ?_
               refine tk6 7 54 hHeld ?_
               refine on1 8 55 (fun K hK => ?_)
               refine goes_ Try.func198 (by kernel_rfl) rfl #[.agg #[.string ((rd_T117 l0 x10_1).f0), .bool ((rd_T117 l0 x10_1).f1), .string ((rd_T117 l0 x10_1).f2), .string ((rd_T117 l0 x10_1).f3), .string ((rd_T117 l0 x10_1).f4)], .string (rdOf ByteArray.empty l3 x11_3)] (by rfl) rfl rfl mq ?_
               with_reducible refine (spec_l2Do.calls k3 ((rd_T117 l0 x10_1).f0) ((rd_T117 l0 x10_1).f1) ((rd_T117 l0 x10_1).f2) ((rd_T117 l0 x10_1).f3) ((rd_T117 l0 x10_1).f4) (rdOf ByteArray.empty l3 x11_3) t231 true _ A19.out).mono ?_
               rintro e w23 ⟨rfl, hb⟩
               refine ⟨_, rfl, ?_⟩
               replace HO_9 := am (Kd.V_below (vq HO_9.out) hb); replace HB := am (below_step bel hb)
               (try clear hb)
               (try clear hb2)
               (try clear hk)
               (try clear hi)
               refine hK.out _ _ ⟨(kp HB.out hw229_0), (kp HB.out hw229_1), (kp HB.out hw229_2), (kp HB.out hw229_3), (kp HB.out hw229_4), (kp HB.out hw230_0)⟩ (fun hHeld => ?_)
               clear hK K
               refine norm_ (a' := ?_) ?_ ?_
               rotate_left
               ·show Act.put _ (some 55) _ = _
                simp only [Act.put, List.setIfInBounds_toArray, List.set_cons_zero, List.set_cons_succ, i64_w, i32_w]
                rfl
               refine pu 9 46 ?_
               refine pu 10 56 ?_
               refine pu 11 57 ?_
               refine pu 12 12 ?_
               refine pu 13 13 ?_
               refine done_ (done_of HT_.out (by kernel_rfl)) ?_
               obtain ⟨Ao24, co24, eo24⟩ := Kd.V_slice HO_9.out; subst eo24
               try go_wp2_with (first | ((with_reducible refine gate_callee (f := 138) rfl ?_); refine goesL_ (some 61) rfl rfl Try.func138 (by kernel_rfl) rfl #[.slice Ao24 x9_3.length co24, .string t231] rfl mq ?_; (with_reducible refine (spec_l1Put.calls k3 (fun k_ => (w.heap.size ≤ k_)) _ _ x9_3 t231 t233 _ ?side1 A21.out).mono ?_); (case side1 => exact HO_9.out); rintro e w25 ⟨v234, rfl, ho0, hb⟩; refine ⟨_, rfl, ?_⟩; replace HO_9 := am (Kd.V_below (vq HO_9.out) hb); have HO235 := am (Kd.V_lower (Kd.V_mono (ok' := fun k_ => (w.heap.size ≤ k_)) ho0 (fun k_ hk_ => Or.elim hk_ (fun hs_ => hs_) (fun hn_ => (Nat.le_trans (below_size bel) hn_)))) (below_size bel)); replace HB := am (below_step bel hb); (try clear hb); (try clear hb2); (try clear hk); (try clear hi); (try clear ho0)))
               go_roundg k3
               case measure => have := HK1.out; have := HJ9.out; have := HK3.out; omega
               case rel => exact ⟨(t233), (wrap64 (x11_3 + 1)), sq, H', ⟨by have := HK1.out; have := HJ9.out; have := HK3.out; omega⟩, ⟨vq HO235.out⟩, ⟨bel⟩⟩
              ·replace c20 := Bool.eq_false_iff.mpr c20; subst c20
               have H1 : (spec_l2One.l1 k3 l0 a1 a2 l3 x9_3 x10_1 (wrap64 (x11_3 + 1))) = some r := b6_
               replace H := H1; clear H1
               have H' := am H
               clear H
               try go_wp2
               replace HO_9 := am (Kd.V_drew HO_9.out); replace HB := am (below_drew1 HB.out)
               have p229 : 0 ≤ (x10_1 : Int) := of_decide_eq_true ad
               have q229 : x10_1 < (l0.length : Int) := of_decide_eq_true ad
               obtain ⟨ad229, e229, hx229_0, hx229_1, hx229_2, hx229_3, hx229_4⟩ := at_T117 HR0.out x10_1 p229 q229; have hw229_4 := hx229_4; have hw229_3 := hx229_3; have hw229_2 := hx229_2; have hw229_1 := hx229_1; have hw229_0 := hx229_0
               cases e229
               replace hx229_0 := kp HB.out hx229_0; replace hx229_1 := kp HB.out hx229_1; replace hx229_2 := kp HB.out hx229_2; replace hx229_3 := kp HB.out hx229_3; replace hx229_4 := kp HB.out hx229_4; replace p229 := eq_true p229; replace q229 := eq_true q229
               have p230 : 0 ≤ (x11_3 : Int) := of_decide_eq_true ad
               have q230 : x11_3 < (l3.length : Int) := of_decide_eq_true ad
               obtain ⟨ad230, e230, hx230_0⟩ := Kd.at_string HR3.out x11_3 p230 q230; have hw230_0 := hx230_0
               cases e230
               replace hx230_0 := kp HB.out hx230_0; replace p230 := eq_true p230; replace q230 := eq_true q230
               refine st (n := 14) (S := fun w' => w'.cell? (ad229.add ((x10_1).toNat * 5)) = some (.string ((rd_T117 l0 x10_1).f0)) ∧ w'.cell? ⟨(ad229.add ((x10_1).toNat * 5)).block, (ad229.add ((x10_1).toNat * 5)).off + 1, none⟩ = some (.bool ((rd_T117 l0 x10_1).f1)) ∧ w'.cell? ⟨(ad229.add ((x10_1).toNat * 5)).block, (ad229.add ((x10_1).toNat * 5)).off + 2, none⟩ = some (.string ((rd_T117 l0 x10_1).f2)) ∧ w'.cell? ⟨(ad229.add ((x10_1).toNat * 5)).block, (ad229.add ((x10_1).toNat * 5)).off + 3, none⟩ = some (.string ((rd_T117 l0 x10_1).f3)) ∧ w'.cell? ⟨(ad229.add ((x10_1).toNat * 5)).block, (ad229.add ((x10_1).toNat * 5)).off + 4, none⟩ = some (.string ((rd_T117 l0 x10_1).f4)) ∧ w'.cell? (ad230.add (x11_3).toNat) = some (.string (rdOf ByteArray.empty l3 x11_3))) (ds := []) ⟨(kp HB.out hw229_0), (kp HB.out hw229_1), (kp HB.out hw229_2), (kp HB.out hw229_3), (kp HB.out hw229_4), (kp HB.out hw230_0)⟩ (fun hHeld => ?_); refine with_tabW spec_l2One.tab9 spec_l2One.bits9 (fun HT_ HW_ => ?_)
               generalize wr.drew = w26 at HO_9 HB hx229_0 hx229_1 hx229_2 hx229_3 hx229_4 hx230_0 hHeld ⊢
               refine pu 0 47 ?_
               refine pu 1 48 ?_
               refine pu 2 49 ?_
               refine pu 4 51 ?_
               refine pu 5 52 ?_
               refine pu 6 53 ?_
               refine tk6 3 50 hHeld ?_
               refine tk6 7 54 hHeld ?_
               refine on1 8 55 (fun K hK => ?_)
               refine goes_ Try.func198 (by kernel_rfl) rfl #[.agg #[.string ((rd_T117 l0 x10_1).f0), .bool ((rd_T117 l0 x10_1).f1), .string ((rd_T117 l0 x10_1).f2), .string ((rd_T117 l0 x10_1).f3), .string ((rd_T117 l0 x10_1).f4)], .string (rdOf ByteArray.empty l3 x11_3)] (by rfl) rfl rfl mq ?_
               with_reducible refine (spec_l2Do.calls k3 ((rd_T117 l0 x10_1).f0) ((rd_T117 l0 x10_1).f1) ((rd_T117 l0 x10_1).f2) ((rd_T117 l0 x10_1).f3) ((rd_T117 l0 x10_1).f4) (rdOf ByteArray.empty l3 x11_3) t231 false _ A19.out).mono ?_
               rintro e w27 ⟨rfl, hb⟩
               refine ⟨_, rfl, ?_⟩
               replace HO_9 := am (Kd.V_below (vq HO_9.out) hb); replace HB := am (below_step bel hb)
               (try clear hb)
               (try clear hb2)
               (try clear hk)
               (try clear hi)
               refine hK.out _ _ ⟨(kp HB.out hw229_0), (kp HB.out hw229_1), (kp HB.out hw229_2), (kp HB.out hw229_3), (kp HB.out hw229_4), (kp HB.out hw230_0)⟩ (fun hHeld => ?_)
               clear hK K
               refine norm_ (a' := ?_) ?_ ?_
               rotate_left
               ·show Act.put _ (some 55) _ = _
                simp only [Act.put, List.setIfInBounds_toArray, List.set_cons_zero, List.set_cons_succ, i64_w, i32_w]
                rfl
               refine pu 9 46 ?_
               refine pu 10 56 ?_
               refine pu 11 57 ?_
               refine pu 12 12 ?_
               refine pu 13 13 ?_
               refine done_ (done_of HT_.out (by kernel_rfl)) ?_
               try go_wp2
               go_roundg k3
               case measure => have := HK1.out; have := HJ9.out; have := HK3.out; omega
               case rel => exact ⟨(x9_3), (wrap64 (x11_3 + 1)), sq, H', ⟨by have := HK1.out; have := HJ9.out; have := HK3.out; omega⟩, ⟨vq HO_9.out⟩, ⟨bel⟩⟩
             ·rw [if_neg c18] at H
              exact absurd H (by simp)
            ·rw [if_neg c17] at H
             exact absurd H (by simp)
           ·rw [if_neg c16] at H
            exact absurd H (by simp)
          ·rw [if_neg c15] at H; have c15b0 := decide_eq_false c15; clear c15
           have H' := am H
           clear H; go_wp2
           go_roundg k3
           case measure => have := HK1.out; have := HJ9.out; have := HK3.out; omega
           case rel => exact ⟨(x9_3), (wrap64 (x10_1 + 1)), sq, H', ⟨by have := HK1.out; have := HJ9.out; have := HK3.out; omega⟩, ⟨vq HO_9.out⟩, ⟨bel⟩⟩
    ·rw [if_neg c9] at H; have c9b0 := decide_eq_false c9; clear c9; obtain rfl := Option.some.inj H; go_wp2; go_ret
     exact ⟨_, eq_, by (with_reducible repeat (first | apply Kd.V_alloc | apply Kd.V_drewN | apply Kd.V_drew)); exact HO_9.out, bel⟩
 ·rw [if_neg c5] at H
  exact absurd H (by simp)

end Go.Proofs.Ytfpmfaelodfecaa.QFnMachineWord
